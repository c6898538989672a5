/-
 The walks and plain laws that the claim rests on, part 28.
-/
import Derived.Test.YtkplelejagpkmaaGreatDoorP18
set_option maxHeartbeats 16000000
set_option linter.all false
set_option linter.unusedVariables false
set_option linter.unusedSimpArgs false
namespace Go.Proofs.YtkplelejagpkmaaGreatDoor
open Go.RowKit Go.Joins
namespace Pl
def escSR (T:Nat→UInt8 × UInt8) (l:List UInt8):SR :=
 match escAt T l 0 with
 | .ok r => .go r.2 r.1 false
 | .bad _ p => .bad p
theorem unitAt_rel (l:List UInt8) (a p d:Nat):unitAt l (a+p) d=match unitAt (l.drop a) p d with|.ok n => .ok n|.bad c k => .bad c (a+k):=by
 unfold unitAt;rw[List.drop_drop]
 split
 · simp;omega
 split <;> simp
theorem unitAt_code (l:List UInt8) (p d:Nat) {c k:Nat} (h:unitAt l p d = .bad c k):c=3:=by
 unfold unitAt at h
 split at h
 · simp at h;exact h.1.symm
 split at h
 · simp at h
 simp at h;exact h.1.symm
theorem escAt_rel (T) (l:List UInt8) (a:Nat) (h:a≤l.length):escAt T l a=match escSR T (l.drop a) with|.go n t _ => .ok (t,a+n)|.bad p => .bad 3 (a+p):=by
 unfold escSR escAt;rw[List.drop_drop,Nat.zero_add,Nat.zero_add];cases hd:l.drop (a+1) with
 | nil=>simp;omega
 | cons c r =>
  simp only[];cases escIdx T c 0 7 with
  | some k=>simp
  | none =>
   simp only[]
   split
   · rw[unitAt_rel l a 2 4];cases hu:unitAt (l.drop a) 2 4 with
     | ok n=>simp <;> omega
     | bad c k=>simp[unitAt_code _ _ _ hu]
   split
   · rw[unitAt_rel l a 2 8];cases hu:unitAt (l.drop a) 2 8 with
     | ok n=>simp <;> omega
     | bad c k=>simp[unitAt_code _ _ _ hu]
   simp
theorem escSR_len (T) (l:List UInt8) (n:Nat) (t:List UInt8) (o:Bool) (h:escSR T l = .go n t o):t.length≤n∧1≤n∧n≤l.length:=by
 have hu:∀d k,unitAt l (0+2) d = .ok k→1≤d→2+d≤l.length∧(runeBytes k).length≤4:=by
  intro d k hk hd;unfold unitAt at hk;have h1:=hexRun_le (l.drop (0+2)) d;rw[List.length_drop]at h1
  split at hk
  · simp at hk
  refine⟨by omega,?_⟩;have h2:=Lib.runeCells_le k;rw[Lib.runeCells_length]at h2;exact h2.2
 unfold escSR escAt at h;cases hd:l.drop (0+1) with
 | nil=>rw[hd]at h;simp at h
 | cons c r =>
  have hl:2≤l.length:=by
   have:=congrArg List.length hd;rw[List.length_drop]at this;simp at this;omega
  rw[hd]at h;simp only[]at h;cases he:escIdx T c 0 7 with
  | some k=>rw[he]at h;simp at h;obtain⟨rfl,rfl,_⟩:=h;simp;omega
  | none =>
   rw[he]at h;simp only[]at h
   split at h
   · rename_i x hx
     split at hx
     · cases hq:unitAt l (0+2) 4 with
       | ok k=>rw[hq]at hx;have:=hu 4 k hq (by omega);simp at hx h;subst hx;simp at h;obtain⟨rfl,rfl,_⟩:=h;omega
       | bad c p=>rw[hq]at hx;simp at hx
     split at hx
     · cases hq:unitAt l (0+2) 8 with
       | ok k=>rw[hq]at hx;have:=hu 8 k hq (by omega);simp at hx h;subst hx;simp at h;obtain⟨rfl,rfl,_⟩:=h;omega
       | bad c p=>rw[hq]at hx;simp at hx
     simp at hx
   simp at h
theorem escSR_over (T) (l:List UInt8) (n:Nat) (t:List UInt8) (o:Bool) (h:escSR T l = .go n t o):o=false:=by
 unfold escSR at h
 split at h
 · simp at h;exact h.2.2
 simp at h
end Pl
structure QW (T:Nat→UInt8 × UInt8) (w:World):Prop where
 es:EsV w
 sh:ShW T w
theorem QW.gr {T} {w w':World} (h:QW T w) (g:Gr w w'):QW T w':=⟨h.es.gr g,h.sh.gr g⟩
set_option maxRecDepth 100000 in
theorem tq_basic_esc (w:World) (R:Nat) (s:ByteArray) (a:Nat) (q:UInt8) (out:List UInt8) (ov:Value) (h:RdQ w R s a q out ov) (hv:EsV w)
    (T:Nat→UInt8 × UInt8) (ht:ShW T w) (hlt:a<s.size) (hs:s.size≤20000000) (ho:out.length≤a) (hm:(s[a].toNat==q.toNat)=false) (he:(s[a].toNat==92)=true) :
    Calls Tryz.prog 218 #[.agg #[.pointer (some ⟨R,0,none⟩)]] w (StepPost R s a q out ov w (Pl.escSR T ((bs s).drop a))):=by
 have hR:=h.lt;obtain⟨b1,b2⟩:=beqs _ 92 _ he;have hX:=Pl.escAt_rel T (bs s) a (by rw[bs_length];omega);have hov:=Pl.escSR_over T ((bs s).drop a);obtain⟨sr,hsr⟩:∃sr,sr=Pl.escSR T ((bs s).drop a):=⟨_,rfl⟩
 rw[←hsr]at hX hov ⊢;have HO:=Lib.hid hov;have HX:=Lib.hid hX;have HS:=Lib.hid h;have HM:=Lib.hid hm;have HV:=Lib.hid hv;have HT0:=Lib.hid ht;clear hsr hX h hm he hv ht hov;go_enter Tryz.func218,Tryz.ntmps218;go_wp2_with fail;refine (tq_end_no _ R s a q out ov (RdQ.auto HS.out) hlt hs HM.out).mono ?_;rintro e w1 ⟨rfl,g1⟩;obtain⟨hc1,hf1,hz1⟩:=g1.use;simp at hz1;have hg:Hid (Gr w w1):=by
  have h1:Gr w ((w.alloc (.cells #[.pointer (some ⟨R,0,none⟩)] 176)).alloc (.cells #[.int .i64 0,.int .i64 0] 31)):=Gr.auto;exact h1.trans g1
 have hRd:Hid (RdQ w1 R s a q out ov):=HS.out.gr hg.out;have c0:w1.cell? ⟨R,0,none⟩=some (.string s):=hRd.out.cells.1;have c1:w1.cell? ⟨R,1,none⟩=some (.int .i64 a):=hRd.out.cells.2.1;go_wp2_with fail
 go_quiet (fail)
 go_wp2_with fail;refine (tq_escaped _ R s a q out ov (RdQ.auto hRd.out) (HV.out.gr (hg.out.drewN _)) T (HT0.out.gr (hg.out.drewN _)) hlt hs (by omega)).mono ?_;rw[HX.out];cases sr with
 | bad p =>
  rintro e w2 ⟨rfl,hst⟩;have hu:=hst.use (w.heap.size+1) (by simp;omega) (fun hF=>by have:=HS.out.own_lt hF;omega);have hz2:=hst.size;simp at hz2;obtain⟨hc2,hf2⟩:=hu;have HT:=Lib.hid hst;clear hst;go_wp2_with fail;refine bodyPost_ret (v := .tuple #[.bool false,fv 3 (a+p)]) (by simp[results,Tryz.results218,go_sem,hc2,hc1]) rfl ⟨rfl,FQ R ov,?_⟩;have hst:St (FQ R ov) (FQ R ov) w w2:=(hg.out.drewN _).st.trans HT.out;exact St.auto
 | go n t over =>
  obtain rfl:=HO.out n t over rfl;rintro e w2 ⟨rfl,ov',hr,hst⟩;have hu:=hst.use (w.heap.size+1) (by simp;omega) (fun hF=>by have:=HS.out.own_lt hF;omega);have hz2:=hst.size;simp at hz2;obtain⟨hc2,hf2⟩:=hu;have HR:=Lib.hid hr;have HT:=Lib.hid hst;have hn3:¬FQ R ov' (w.heap.size+1):=fun hF=>by
   rcases HT.out.own _ hF with hF|hF
   · have:=HS.out.own_lt hF;omega
   simp at hF;omega
  clear hr hst;go_wp2_with fail;refine bodyPost_ret (v := .tuple #[.bool false,f0]) (by simp[results,Tryz.results218,go_sem,hc2,hc1]) rfl ⟨rfl,ov',RdQ.auto HR.out,?_⟩;have hst:St (FQ R ov) (FQ R ov') w w2:=(hg.out.drewN _).st.trans HT.out;exact St.auto
end Go.Proofs.YtkplelejagpkmaaGreatDoor
