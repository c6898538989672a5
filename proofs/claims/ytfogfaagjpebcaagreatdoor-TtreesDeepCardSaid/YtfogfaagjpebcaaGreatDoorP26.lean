/-
 The walks and plain laws that the claim rests on, part 26.
-/
import Derived.Test.YtfogfaagjpebcaaGreatDoorP00
import Derived.Test.YtfogfaagjpebcaaGreatDoorP11
import Derived.Test.YtfogfaagjpebcaaGreatDoorP12
import Derived.Test.YtfogfaagjpebcaaGreatDoorP16
set_option maxHeartbeats 16000000
set_option linter.all false
set_option linter.unusedVariables false
set_option linter.unusedSimpArgs false
namespace Go.Proofs.YtfogfaagjpebcaaGreatDoor
open Go.RowKit Go.Joins
namespace Pl
def isFold (c:UInt8):Bool:=c.toNat==32 || c.toNat==9 || c.toNat==13 || c.toNat==10
def foldSR (l:List UInt8):SR:=match foldAt true l 1 with
 | .ok n => .go n [] false
 | .bad _ p => .bad p
def stepLongBas (T:Nat→UInt8 × UInt8) (q:UInt8) (l:List UInt8):SR :=
 match common q l with
 | some x=>x
 | none=>match l with
  | [] => .bad 0
  | c::r=>if c.toNat==92 then (match r with
      | []=>escSR T (c::r)
      | d::_=>if isFold d then foldSR (c::r) else escSR T (c::r)) else itself (c::r)
theorem foldF_code (f:Nat):∀(b:Bool) (l:List UInt8) (k p:Nat),foldF f b l = .bad k p→k=3:=by
 induction f with
 | zero=>intro b l k p h;simp[foldF]at h
 | succ f ih =>
  intro b l k p h;unfold foldF at h
  split at h
  · cases h
  rename_i c r hd
  split at h
  · rename_i k' p' hf
    have:=feed_bad _ _ _ hf;cases h;exact this.1
  · split at h
    · cases h;rfl
    cases h
  split at h
  · rename_i k' p' hf
    cases h;exact ih _ _ _ _ hf
  cases h
theorem foldF_le (f:Nat):∀(b:Bool) (l:List UInt8) (m:Nat),foldF f b l = .ok m→m≤l.length:=by
 induction f with
 | zero=>intro b l m h;simp[foldF]at h;omega
 | succ f ih =>
  intro b l m h;have hb:=blanks_le l;unfold foldF at h
  split at h
  · cases h;exact hb
  rename_i c r hd
  have hl:(c::r).length=l.length-blanks l:=by rw[←hd,List.length_drop]
  split at h
  · cases h
  · split at h
    · cases h
    cases h;exact hb
  rename_i n hn
  have:=feed_le _ _ hn
  split at h
  · cases h
  rename_i m' hm
  have:=ih _ _ _ hm;cases h;rw[List.length_drop]at this;omega
theorem foldAt_rel (l:List UInt8) (a:Nat) (h:a<l.length):foldAt true l (a+1)=match foldSR (l.drop a) with
    | .go n _ _ => .ok (a+n)
    | .bad p => .bad 3 (a+p):=by
 have hd:(l.drop a).drop 1=l.drop (a+1):=by rw[List.drop_drop]
 unfold foldSR foldAt;rw[hd];cases hf:foldF ((l.drop (a+1)).length+1) true (l.drop (a+1)) with
 | ok m=>simp only;congr 1;omega
 | bad k p =>
  have:=foldF_code _ _ _ _ _ hf;subst this;simp only;congr 1;omega
theorem foldSR_len (l:List UInt8) (n:Nat) (t:List UInt8) (o:Bool) (h0:0<l.length) (h:foldSR l = .go n t o):t.length≤n∧1≤n∧n≤l.length∧o=false∧t=[]:=by
 unfold foldSR foldAt at h
 split at h
 · rename_i m hm
   split at hm
   · cases hm
   rename_i m' hm'
   have:=foldF_le _ _ _ _ hm';rw[List.length_drop]at this;cases hm;cases h;exact⟨by simp,by omega,by omega,rfl,rfl⟩
 cases h
end Pl
theorem fold_has (c:UInt8):(bs ⟨#[32,9,13,10]⟩).contains c=Pl.isFold c:=by
 have h:∀n:Fin 256,(bs ⟨#[32,9,13,10]⟩).contains (UInt8.ofNat n.val)=Pl.isFold (UInt8.ofNat n.val):=by decide +kernel
 exact J27
theorem rest_at (s:ByteArray) (a:Nat) (h1:a+1<s.size):∃rest,s.extract (a+1) s.size=rest∧¬rest.toList=[]∧rest.toList.isEmpty=false∧(0:Int)<(rest.size:Int)∧∃h0:0<rest.size,rest[0]=s[a+1]:=by
 refine⟨_,rfl,?_⟩;have hb:=bs_extract s (a+1);have hz:(s.extract (a+1) s.size).size=s.size-(a+1):=by simp
 generalize s.extract (a+1) s.size=rest at hb hz ⊢;have h0:0<rest.size:=by omega
 have hne:¬rest.toList=[]:=fun e=>by
  rw[Lib.toList_data]at e;have h2:=bs_length rest;rw[show bs rest=[] from e]at h2;simp at h2;omega
 refine⟨hne,by simpa using hne,by omega,h0,?_⟩;have e1:=idx_bs rest 0 h0;have e2:=idx_bs s (a+1) h1;exact J28
theorem tq_longBasic_common (w:World) (R:Nat) (s:ByteArray) (a:Nat) (q:UInt8) (out:List UInt8) (ov:Value) (h:RdQ w R s a q out ov)
    (hlt:a<s.size) (hs:s.size≤20000000) (ho:out.length≤a) (X:Pl.SR) (hC:Pl.common q ((bs s).drop a)=some X) :
    Calls Tryz.prog 241 #[.agg #[.pointer (some ⟨R,0,none⟩)]] w (StepPost R s a q out ov w X):=by
 have HC:=Lib.hid hC.symm;clear hC;have hR:=h.lt;have HS:=Lib.hid h;clear h;cases X with
 | bad p =>
  go_enter Tryz.func241,Tryz.ntmps241;go_wp2_with fail;refine Z121 ?_;rw[←HC.out];refine Z88 ?_;intro w2 g1 hc2 hf2 hz2;refine Z131 ?_;intro hy1 hy2;go_wp2_with fail
  go_region
  go_wp2_with fail;exact bodyPost_ret (v := .tuple #[.bool false,fv 3 (a+p)]) (by simp[results,Tryz.results241,go_sem,hc2,hy1,hy2]) rfl ⟨rfl,FQ R ov,St.auto⟩
 | go n t over =>
  go_enter Tryz.func241,Tryz.ntmps241;go_wp2_with fail;refine Z121 ?_;rw[←HC.out];rintro e w2 ⟨rfl,ov',hr,hst⟩;refine Z219 ?_;intro hu;have hz2:=hst.size;simp at hz2;obtain⟨hc2,hf2⟩:=hu;have HR:=Lib.hid hr;have HT:=Lib.hid hst;have hn3:¬FQ R ov' (w.heap.size+1):=fun hF=>by
   rcases HT.out.own _ hF with hF|hF
   · have:=HS.out.own_lt hF;omega
   simp at hF;omega
  clear hr hst;refine Z131 ?_;intro hy1 hy2;go_wp2_with fail
  go_region
  go_wp2_with fail;refine bodyPost_ret (v := .tuple #[.bool over,f0]) (by simp[results,Tryz.results241,go_sem,hc2,hy1,hy2]) rfl ⟨rfl,ov',RdQ.auto HR.out,?_⟩;exact J15
theorem tq_longBasic_itself (w:World) (R:Nat) (s:ByteArray) (a:Nat) (q:UInt8) (out:List UInt8) (ov:Value) (h:RdQ w R s a q out ov)
    (hlt:a<s.size) (hs:s.size≤20000000) (ho:out.length≤a) (hC:Pl.common q ((bs s).drop a)=none) (he:(s[a].toNat==92)=false) :
    Calls Tryz.prog 241 #[.agg #[.pointer (some ⟨R,0,none⟩)]] w (StepPost R s a q out ov w (Pl.itself ((bs s).drop a))):=by
 have HC:=Lib.hid hC;clear hC;obtain⟨b1,b2⟩:=beqs _ 92 _ he;clear he;refine Z243 ?_;intro X hX HX;clear hX;have hR:=h.lt;have HS:=Lib.hid h;clear h;go_enter Tryz.func241,Tryz.ntmps241;go_wp2_with fail;refine Z303 ?_;intro w1 g1 hc1 hf1 hz1 hg hRd;have c0:w1.cell? ⟨R,0,none⟩=some (.string s):=hRd.out.cells.1;have c1:w1.cell? ⟨R,1,none⟩=some (.int .i64 a):=hRd.out.cells.2.1;have hRl:R<w1.heap.size:=by omega
 refine Z169 ?_;intro hy1 hy2;go_wp2_with fail
 go_quiet (fail)
 go_wp2_with fail;cases X with
 | bad p =>
  refine Z236 ?_;rw[←HX.out];rintro e w2 ⟨rfl,F',hst⟩;refine Z18 ?_;intro hc2 hf2 hz2;have HT:=Lib.hid hst;clear hst;go_wp2_with fail;refine bodyPost_ret (v := .tuple #[.bool false,fv 3 (a+p)]) (by simp[results,Tryz.results241,go_sem,hc2,hc1,hy1,hy2]) rfl ⟨rfl,F',?_⟩;exact J15
 | go n t over =>
  refine Z236 ?_;rw[←HX.out];rintro e w2 ⟨rfl,ov',hr,hst⟩;refine Z18 ?_;intro hc2 hf2 hz2;refine Z163 ?_;intro HR HT;have hn3:¬FQ R ov' (w.heap.size+1):=fun hF=>by
   rcases HT.out.own _ hF with hF|hF
   · have:=HS.out.own_lt hF;omega
   simp at hF;omega
  clear hr hst;go_wp2_with fail;refine bodyPost_ret (v := .tuple #[.bool over,f0]) (by simp[results,Tryz.results241,go_sem,hc2,hc1,hy1,hy2]) rfl ⟨rfl,ov',RdQ.auto HR.out,?_⟩;exact J15
theorem tq_longBasic_fold (w:World) (R:Nat) (s:ByteArray) (a:Nat) (q:UInt8) (out:List UInt8) (ov:Value) (h:RdQ w R s a q out ov)
    (hlt:a<s.size) (hs:s.size≤20000000) (ho:out.length≤a) (hC:Pl.common q ((bs s).drop a)=none) (he:(s[a].toNat==92)=true) (h1:a+1<s.size) (hd:Pl.isFold (s[a+1]'h1)=true) :
    Calls Tryz.prog 241 #[.agg #[.pointer (some ⟨R,0,none⟩)]] w (StepPost R s a q out ov w (Pl.foldSR ((bs s).drop a))):=by
 have HC:=Lib.hid hC;clear hC;obtain⟨b1,b2⟩:=beqs _ 92 _ he;have hX:=Pl.foldAt_rel (bs s) a (by rw[bs_length];exact hlt);have ho2:∀n t o,Pl.foldSR ((bs s).drop a) = .go n t o→o=false∧t=[]:=fun n t o hh=>by
  have:=Pl.foldSR_len _ n t o (by rw[List.length_drop,bs_length];omega) hh;exact⟨this.2.2.2.1,this.2.2.2.2⟩
 obtain⟨sr,hsr⟩:∃sr,sr=Pl.foldSR ((bs s).drop a):=⟨_,rfl⟩
 rw[←hsr]at hX ho2 ⊢;have HX:=Lib.hid hX;have HO:=Lib.hid ho2;clear hsr ho2;have HD:=Lib.hid hd;clear he hX hd;refine Z260 ?_;intro wa;refine Z130 ?_;intro ea eb ec;have hR:=h.lt;have HS:=Lib.hid h;clear h;go_enter Tryz.func241,Tryz.ntmps241;go_wp2_with fail;refine Z303 ?_;intro w1 g1 hc1 hf1 hz1 hg hRd;have c0:w1.cell? ⟨R,0,none⟩=some (.string s):=hRd.out.cells.1;have c1:w1.cell? ⟨R,1,none⟩=some (.int .i64 a):=hRd.out.cells.2.1;have hRl:R<w1.heap.size:=by omega
 refine Z169 ?_;intro hy1 hy2;go_wp2_with fail
 go_quiet (fail)
 go_wp2_with fail
 go_quiet (fail)
 obtain⟨rest,hrest,r1,r2,r3,r0,r4⟩:=rest_at s a h1;rw[hrest];have R4:=Lib.hid r4;have HC2:Hid ((bs ⟨#[32,9,13,10]⟩).contains (rest[0]'r0)=true):=Lib.hid (by rw[fold_has,R4.out];exact HD.out);clear r4 hrest;go_wp2_with (go_at_call 43;refine (indexByte_at ⟨#[32,9,13,10]⟩ _ true HC2.out _).mono ?_;rintro e w3 ⟨⟨i,rfl,hi⟩,rfl⟩;have hi2:decide (i ≥ 0)=true:=hi);refine (tq_fold _ R s a q out ov (RdQ.auto hRd.out) hlt hs).mono ?_;rw[HX.out];cases sr with
 | bad p =>
  exact J137
 | go n t over =>
  obtain⟨rfl,rfl⟩:=HO.out n t over rfl;rintro e w2 ⟨rfl,_,hr,hst⟩;refine Z18 ?_;intro hc2 hf2 hz2;refine Z163 ?_;intro HR HT;have hn3:¬FQ R ov (w.heap.size+1):=fun hF=>by have:=HS.out.own_lt hF;omega
  clear hr hst;go_wp2_with fail;refine bodyPost_ret (v := .tuple #[.bool false,f0]) (by simp[results,Tryz.results241,go_sem,hc2,hc1,hy1,hy2]) rfl ⟨rfl,ov,by rw[List.append_nil];exact RdQ.auto HR.out,?_⟩;exact J30
theorem tq_longBasic_esc (w:World) (R:Nat) (s:ByteArray) (a:Nat) (q:UInt8) (out:List UInt8) (ov:Value) (h:RdQ w R s a q out ov)
    (hlt:a<s.size) (hs:s.size≤20000000) (ho:out.length≤a) (hC:Pl.common q ((bs s).drop a)=none) (T:Nat→UInt8 × UInt8) (hQ:QW T w) (he:(s[a].toNat==92)=true) (hd:∀h1:a+1<s.size,Pl.isFold (s[a+1]'h1)=false) :
    Calls Tryz.prog 241 #[.agg #[.pointer (some ⟨R,0,none⟩)]] w (StepPost R s a q out ov w (Pl.escSR T ((bs s).drop a))):=by
 have HC:=Lib.hid hC;clear hC;refine Z218 ?_;intro b1 b2 sr hsr HO HX hX hov;have HQ:=Lib.hid hQ;have HD:=Lib.hid hd;clear he hX hd hov hsr hQ;refine Z260 ?_;intro wa;refine Z130 ?_;intro ea eb ec;have hR:=h.lt;have HS:=Lib.hid h;clear h;go_enter Tryz.func241,Tryz.ntmps241;go_wp2_with fail;refine Z303 ?_;intro w1 g1 hc1 hf1 hz1 hg hRd;have c0:w1.cell? ⟨R,0,none⟩=some (.string s):=hRd.out.cells.1;have c1:w1.cell? ⟨R,1,none⟩=some (.int .i64 a):=hRd.out.cells.2.1;have hRl:R<w1.heap.size:=by omega
 refine Z169 ?_;intro hy1 hy2;go_wp2_with fail
 go_quiet (fail)
 go_wp2_with fail
 go_quiet (fail)
 have hgq:=hg.out;by_cases h1:a+1<s.size
 · obtain⟨rest,hrest,r1,r2,r3,r0,r4⟩:=rest_at s a h1;rw[hrest];have R4:=Lib.hid r4;have HC2:Hid ((bs ⟨#[32,9,13,10]⟩).contains (rest[0]'r0)=false):=Lib.hid (by rw[fold_has,R4.out];exact HD.out h1);clear r4 hrest;go_wp2_with (go_at_call 43;refine (indexByte_at ⟨#[32,9,13,10]⟩ _ false HC2.out _).mono ?_;rintro e w3 ⟨⟨i,rfl,hi⟩,rfl⟩;have hi2:decide (i ≥ 0)=false:=hi);exact J31
 have hrest:s.extract (a+1) s.size=⟨#[]⟩:=by
  apply ByteArray.ext;apply Array.toList_inj.1;rw[show (s.extract (a+1) s.size).data.toList=bs (s.extract (a+1) s.size) from rfl,bs_extract,List.drop_eq_nil_of_le (by rw[bs_length];omega)]
 rw[hrest];go_wp2_with fail;exact J31
theorem tq_longBasic_step (w:World) (R:Nat) (s:ByteArray) (a:Nat) (q:UInt8) (out:List UInt8) (ov:Value) (h:RdQ w R s a q out ov)
    (hlt:a<s.size) (hs:s.size≤20000000) (ho:out.length≤a) (T:Nat→UInt8 × UInt8) (hQ:QW T w) :
    Calls Tryz.prog 241 #[.agg #[.pointer (some ⟨R,0,none⟩)]] w (StepPost R s a q out ov w (Pl.stepLongBas T q ((bs s).drop a))):=by
 unfold Pl.stepLongBas;cases hC:Pl.common q ((bs s).drop a) with
 | some X=>exact tq_longBasic_common w R s a q out ov h hlt hs ho X hC
 | none =>
  have hd:=idx_bs s a hlt;simp only
  split
  · rename_i e;rw[e]at hd;cases hd
  rename_i c r e
  rw[e]at hd;simp only[List.cons.injEq]at hd;obtain⟨rfl,hr⟩:=hd
  split
  · rename_i h92
    split
    · rename_i e2
      rw[←e];refine tq_longBasic_esc w R s a q out ov h hlt hs ho hC T hQ h92 (fun h1=>?_);have:=idx_bs s (a+1) h1;rw[←hr]at this;cases this
    rename_i d r2 e2
    have hlt1:a+1<s.size:=by
     have h2:=congrArg List.length hr;simp only[List.length_cons,List.length_drop,bs_length]at h2;omega
    have hd2:=idx_bs s (a+1) hlt1;rw[←hr]at hd2;simp only[List.cons.injEq]at hd2
    split
    · rename_i hf
      rw[←e];exact tq_longBasic_fold w R s a q out ov h hlt hs ho hC h92 hlt1 (by rw[←hd2.1];exact hf)
    rename_i hf
    rw[←e];refine tq_longBasic_esc w R s a q out ov h hlt hs ho hC T hQ h92 (fun h1=>?_);rw[←hd2.1];simpa using hf
  rename_i h92
  rw[←e];exact tq_longBasic_itself w R s a q out ov h hlt hs ho hC (by simpa using h92)
end Go.Proofs.YtfogfaagjpebcaaGreatDoor
