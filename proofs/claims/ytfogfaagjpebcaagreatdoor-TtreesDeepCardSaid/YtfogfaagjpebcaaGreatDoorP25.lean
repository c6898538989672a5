/-
 The walks and plain laws that the claim rests on, part 25.
-/
import Derived.Test.YtfogfaagjpebcaaGreatDoorP00
import Derived.Test.YtfogfaagjpebcaaGreatDoorP02
import Derived.Test.YtfogfaagjpebcaaGreatDoorP05
import Derived.Test.YtfogfaagjpebcaaGreatDoorP08
import Derived.Test.YtfogfaagjpebcaaGreatDoorP12
import Derived.Test.YtfogfaagjpebcaaGreatDoorP16
import Derived.Test.YtfogfaagjpebcaaGreatDoorP26
import Derived.Deep.RegionWith
set_option maxHeartbeats 16000000
set_option linter.all false
set_option linter.unusedVariables false
set_option linter.unusedSimpArgs false
namespace Go.Proofs.YtfogfaagjpebcaaGreatDoor
open Go.RowKit Go.Joins
theorem long_pre (l:List UInt8):Pl.long l=(Pl.pre l [34,34,34] || Pl.pre l [39,39,39]):=by
 match l with
 | []=>rfl
 | [a]=>simp[Pl.long,Pl.pre]
 | [a,b]=>simp[Pl.long,Pl.pre]
 | a::b::c::l =>
  unfold Pl.long
  split
  · exact J25
  · exact J25
  rename_i h1 h2
  simp only[Pl.pre,Bool.and_true];symm;rw[Bool.eq_false_iff];intro h;simp only[Bool.or_eq_true,Bool.and_eq_true,beq_iff_eq]at h;rcases h with⟨rfl,rfl,rfl⟩|⟨rfl,rfl,rfl⟩
  · exact h1 _ rfl
  exact h2 _ rfl
theorem tq_Long (s:ByteArray) (i:Int) (n:Nat) (hi:i=n) (hn:n≤s.size) (hs:s.size≤20000000) (w:World) :
    Calls Tryz.prog 85 #[.string s,.int .i64 i] w fun e w'=>e = .returned (.bool (Pl.longAt (bs s) n))∧w=w':=by
 subst hi;unfold Pl.longAt;rw[long_pre];have hd0:decide ((0:Int)≤(n:Int))=true:=by simp
 have hd1:decide ((n:Int)≤(s.size:Int))=true:=by simp;omega
 cases h1:Pl.pre ((bs s).drop n) [34,34,34]
 · cases h2:Pl.pre ((bs s).drop n) [39,39,39]
   all_goals
    have H1:=Lib.hid h1;have H2:=Lib.hid h2;clear h1 h2;go_enter Tryz.func85,Tryz.ntmps85;go_wp2_with (go_at_call 9;first|(with_reducible refine (prefix_at s ⟨#[34,34,34]⟩ n false H1.out _).mono ?_;rintro e w3 ⟨rfl,rfl⟩)|(with_reducible refine (prefix_at s ⟨#[39,39,39]⟩ n _ H2.out _).mono ?_;rintro e w3 ⟨rfl,rfl⟩))
    go_ret
    exact⟨rfl,rfl⟩
 have H1:=Lib.hid h1;clear h1;go_enter Tryz.func85,Tryz.ntmps85;go_wp2_with (go_at_call 9;(with_reducible refine (prefix_at s ⟨#[34,34,34]⟩ n true H1.out _).mono ?_;rintro e w3 ⟨rfl,rfl⟩))
 go_ret
 exact⟨rfl,rfl⟩
namespace Pl
def stepBas (T:Nat→UInt8 × UInt8) (q:UInt8):List UInt8→Option SR
 | []=>some (.bad 0)
 | c::r=>if c.toNat==q.toNat then some (.go 1 [] true) else if c.toNat==92 then some (escSR T (c::r)) else some (itself (c::r))
end Pl
theorem tq_basic_step (w:World) (R:Nat) (s:ByteArray) (a:Nat) (q:UInt8) (out:List UInt8) (ov:Value) (h:RdQ w R s a q out ov)
    (hlt:a<s.size) (hs:s.size≤20000000) (ho:out.length≤a) (T:Nat→UInt8 × UInt8) (hQ:QW T w) (sr:Pl.SR) (hsr:Pl.stepBas T q ((bs s).drop a)=some sr) :
    Calls Tryz.prog 232 #[.agg #[.pointer (some ⟨R,0,none⟩)]] w (StepPost R s a q out ov w sr):=by
 rw[idx_bs s a hlt]at hsr;unfold Pl.stepBas at hsr;dsimp only at hsr;have hR:=h.lt;cases hm:(s[a].toNat==q.toNat)
 · rw[hm]at hsr;cases he:(s[a].toNat==92)
   · rw[he]at hsr;simp only[Bool.false_eq_true,if_false,Option.some.injEq]at hsr;rw[←idx_bs s a hlt]at hsr;obtain⟨b1,b2⟩:=beqs _ 92 _ he;have HX:=Lib.hid hsr;have HS:=Lib.hid h;have HM:=Lib.hid hm;clear hsr h hm he;go_enter Tryz.func232,Tryz.ntmps232;go_wp2_with fail;refine Z310 ?_;intro w1 g1 hc1 hf1 hz1;have hRd:Hid (RdQ w1 R s a q out ov):=by
      have h1:RdQ ((w.alloc (.cells #[.pointer (some ⟨R,0,none⟩)] 200)).alloc (.cells #[.int .i64 0,.int .i64 0] 31)) R s a q out ov:=RdQ.auto HS.out;exact h1.gr g1
     have c0:w1.cell? ⟨R,0,none⟩=some (.string s):=hRd.out.cells.1;have c1:w1.cell? ⟨R,1,none⟩=some (.int .i64 a):=hRd.out.cells.2.1;go_wp2_with fail
     go_quiet (fail)
     go_wp2_with fail;cases sr with
     | bad p =>
      refine Z236 ?_;rw[HX.out];rintro e w2 ⟨rfl,F',hst⟩;refine Z18 ?_;intro hc2 hf2 hz2;have HT:=Lib.hid hst;clear hst;go_wp2_with fail;refine bodyPost_ret (v := .tuple #[.bool false,fv 3 (a+p)]) (by simp[results,Tryz.results232,go_sem,hc2,hc1]) rfl ⟨rfl,F',?_⟩;exact J15
     | go n t over =>
      refine Z236 ?_;rw[HX.out];rintro e w2 ⟨rfl,ov',hr,hst⟩;refine Z18 ?_;intro hc2 hf2 hz2;refine Z163 ?_;intro HR HT;have hn3:¬FQ R ov' (w.heap.size+1):=fun hF=>by
       rcases HT.out.own _ hF with hF|hF
       · have:=HS.out.own_lt hF;omega
       simp at hF;omega
      clear hr hst;go_wp2_with fail;refine bodyPost_ret (v := .tuple #[.bool over,f0]) (by simp[results,Tryz.results232,go_sem,hc2,hc1]) rfl ⟨rfl,ov',RdQ.auto HR.out,?_⟩;exact J15
   rw[he]at hsr;simp only[Bool.false_eq_true,if_false,if_true,Option.some.injEq]at hsr;rw[←idx_bs s a hlt]at hsr;rw[←hsr];exact tq_basic_esc w R s a q out ov h hQ.es T hQ.sh hlt hs ho hm he
 rw[hm]at hsr;simp only[if_true,Option.some.injEq]at hsr;subst hsr;have HS:=Lib.hid h;have HM:=Lib.hid hm;clear h hm;go_enter Tryz.func232,Tryz.ntmps232;go_wp2_with fail;refine (tq_end_yes _ R s a q out ov (RdQ.auto HS.out) hlt hs HM.out).mono ?_;rintro e w2 ⟨rfl,hr,hst⟩;refine Z219 ?_;intro hu;have hz2:=hst.size;simp at hz2;obtain⟨hc2,hf2⟩:=hu;have HR:=Lib.hid hr;have HT:=Lib.hid hst;have hn3:¬FQ R ov (w.heap.size+1):=fun hF=>by have:=HS.out.own_lt hF;omega
 clear hr hst;go_wp2_with fail;refine bodyPost_ret (v := .tuple #[.bool true,f0]) (by simp[results,Tryz.results232,go_sem,hc2]) rfl ⟨rfl,ov,by rw[List.append_nil];exact RdQ.auto HR.out,?_⟩;exact J15
end Go.Proofs.YtfogfaagjpebcaaGreatDoor
namespace Go.Proofs.YtfogfaagjpebcaaGreatDoor
open Go.RowKit Go.Joins
def kindT (long:Bool) (q:UInt8):TypeId:=if long then (if q.toNat==39 then 201 else 202) else (if q.toNat==39 then 199 else 200)
theorem tq_open (s:ByteArray) (i:Int) (n:Nat) (hi:i=n) (hn:n<s.size) (hs:s.size≤20000000) (long:Bool) (hl:Pl.longAt (bs s) n=long) (w:World) :
    Calls Tryz.prog 110 #[.string s,.int .i64 i] w fun e w'=>e = .returned (.tuple #[.pointer (some ⟨w.heap.size,0,none⟩),.iface (kindT long s[n]) (.agg #[.pointer (some ⟨w.heap.size,0,none⟩)])]) ∧
     RdQ w' w.heap.size s (n+if long then 3 else 1) s[n] [] (.slice none 0 0)∧Gr w w':=by
 subst hi;have HL:=Lib.hid hl;clear hl;refine Z229 ?_;intro hk1 hk2;unfold kindT;cases long
 · cases h39:(s[n].toNat==39)
   all_goals
    obtain⟨b1,b2⟩:=beqs _ 39 _ h39;clear h39;go_enter Tryz.func110,Tryz.ntmps110;go_wp2_with (go_at_call 85;refine (tq_Long s _ n rfl (by omega) hs _).mono ?_;rw[HL.out];rintro e w1 ⟨rfl,rfl⟩)
    go_ret2
    refine⟨rfl,⟨?_,World.ownsRow_nil _ _ _ _⟩,Gr.auto⟩
    simpa using heap_alloc_new w (.cells #[.string s,.int .i64 (n+1:Nat),byteV s[n],.slice none 0 0] 176)
 cases h39:(s[n].toNat==39)
 all_goals
  obtain⟨b1,b2⟩:=beqs _ 39 _ h39;clear h39;go_enter Tryz.func110,Tryz.ntmps110;go_wp2_with (go_at_call 85;refine (tq_Long s _ n rfl (by omega) hs _).mono ?_;rw[HL.out];rintro e w1 ⟨rfl,rfl⟩)
  go_ret2
  refine⟨rfl,⟨?_,World.ownsRow_nil _ _ _ _⟩,Gr.auto⟩
  simpa using heap_alloc_new w (.cells #[.string s,.int .i64 (n+3:Nat),byteV s[n],.slice none 0 0] 176)
namespace Pl
def kindStep (T:Nat→UInt8 × UInt8) (long:Bool) (q:UInt8) (l:List UInt8):Option SR :=
 if long then (if q.toNat==39 then some (stepLongLit q l) else some (stepLongBas T q l)) else (if q.toNat==39 then some (stepLit q l) else stepBas T q l)
def readF (step:List UInt8→Option SR) (l:Bs):Nat→Nat→Bs→Res (Bs × Nat)
 | 0,_,_ => .non
 | f+1,n,out =>
  match l.drop n with
  | [] => .bad 3 l.length
  | c::r =>
   match step (c::r) with
   | none => .non
   | some (.bad p) => .bad 3 (n+p)
   | some (.go m t over)=>if over then .ok (out++t,n+m) else readF step l f (n+m) (out++t)
def strS (T:Nat→UInt8 × UInt8) (l:Bs):Res (Bs × Nat) :=
 match l with
 | [] => .bad 3 0
 | c::r =>
  if (c.toNat==34 || c.toNat==39)=true then
   if long (c::r) then
    match feed ((c::r).drop 3) with
    | .bad k p => .bad k (3+p)
    | .ok m=>readF (kindStep T true c) (c::r) ((c::r).length+2) (3+m) []
   else readF (kindStep T false c) (c::r) ((c::r).length+2) 1 []
  else .bad 3 0
theorem itself_len (l:List UInt8) (m:Nat) (t:List UInt8) (o:Bool) (h:itself l = .go m t o):t.length≤m∧1≤m∧m≤l.length:=by
 cases l with
 | nil=>simp[itself]at h
 | cons c r =>
  unfold itself at h;by_cases hp:isPlain c=true
  · simp only[hp,if_true,SR.go.injEq]at h;obtain⟨rfl,rfl,rfl⟩:=h;simp
  simp only[hp,if_false]at h;cases h
theorem marks_len (q:UInt8) (c:UInt8) (r:List UInt8) (hc:(c.toNat==q.toNat)=true) (m:Nat) (t:List UInt8) (o:Bool) (h:marks q (c::r) = .go m t o):t.length≤m∧1≤m∧m≤(c::r).length:=by
 have h1:=run_le q (c::r);have h2:1≤run q (c::r):=by unfold run;rw[List.takeWhile_cons,if_pos hc];simp
 unfold marks at h;dsimp only at h;have h3:marksN q (c::r)≤run q (c::r)∧1≤marksN q (c::r):=by unfold marksN;omega
 split at h
 · cases h;simp at h1 ⊢;omega
 cases h;simp at h1 ⊢;omega
theorem stepLit_len (q:UInt8) (l:List UInt8) (m:Nat) (t:List UInt8) (o:Bool) (h:stepLit q l = .go m t o):t.length≤m∧1≤m∧m≤l.length:=by
 cases l with
 | nil=>simp[stepLit]at h
 | cons c r =>
  unfold stepLit at h;dsimp only at h
  split at h
  · cases h;simp
  exact itself_len _ _ _ _ h
theorem stepBas_len (T) (q:UInt8) (l:List UInt8) (m:Nat) (t:List UInt8) (o:Bool) (h:stepBas T q l=some (.go m t o)):t.length≤m∧1≤m∧m≤l.length:=by
 cases l with
 | nil=>simp[stepBas]at h
 | cons c r =>
  unfold stepBas at h;dsimp only at h
  split at h
  · cases h;simp
  split at h
  · simp only[Option.some.injEq]at h;exact escSR_len _ _ _ _ _ h
  simp only[Option.some.injEq]at h;exact itself_len _ _ _ _ h
theorem stepLongLit_len (q:UInt8) (l:List UInt8) (m:Nat) (t:List UInt8) (o:Bool) (h:stepLongLit q l = .go m t o):t.length≤m∧1≤m∧m≤l.length:=by
 unfold stepLongLit at h
 split at h
 · rename_i x hx
   subst h;cases l with
   | nil=>simp[common]at hx
   | cons c r =>
    unfold common at hx;dsimp only at hx
    split at hx
    · rename_i hc;simp only[Option.some.injEq]at hx;exact marks_len q c r hc m t o hx
    split at hx
    · cases hx
    · rename_i n hf
      have:=feed_le _ _ hf;cases hx;refine⟨by rw[List.length_take];omega,by omega,this⟩
    cases hx
 exact itself_len _ _ _ _ h
theorem stepLongBas_len (T) (q:UInt8) (l:List UInt8) (m:Nat) (t:List UInt8) (o:Bool) (h:stepLongBas T q l = .go m t o):t.length≤m∧1≤m∧m≤l.length:=by
 unfold stepLongBas at h
 split at h
 · rename_i x hx
   subst h;exact stepLongLit_len q l m t o (by unfold stepLongLit;rw[hx])
 split at h
 · cases h
 rename_i c r _
 split at h
 · split at h
   · exact escSR_len _ _ _ _ _ h
   split at h
   · obtain⟨h1,h2,h3,_⟩:=foldSR_len _ _ _ _ (by simp) h;exact⟨h1,h2,h3⟩
   exact escSR_len _ _ _ _ _ h
 exact itself_len _ _ _ _ h
theorem kindStep_len (T) (long:Bool) (q:UInt8) (l:List UInt8) (m:Nat) (t:List UInt8) (o:Bool) (h:kindStep T long q l=some (.go m t o)):t.length≤m∧1≤m∧m≤l.length:=by
 unfold kindStep at h
 split at h
 · split at h
   · simp only[Option.some.injEq]at h;exact stepLongLit_len _ _ _ _ _ h
   simp only[Option.some.injEq]at h;exact stepLongBas_len _ _ _ _ _ _ h
 split at h
 · simp only[Option.some.injEq]at h;exact stepLit_len _ _ _ _ _ h
 exact stepBas_len _ _ _ _ _ _ h
end Pl
def kindF (long:Bool) (q:UInt8):FuncId:=if long then (if q.toNat==39 then 238 else 241) else (if q.toNat==39 then 228 else 232)
theorem tq_step (long:Bool) (q:UInt8) (w:World) (R:Nat) (s:ByteArray) (a:Nat) (out:List UInt8) (ov:Value) (h:RdQ w R s a q out ov)
    (hlt:a<s.size) (hs:s.size≤20000000) (ho:out.length≤a) (T:Nat→UInt8 × UInt8) (hQ:QW T w) (sr:Pl.SR) (hsr:Pl.kindStep T long q ((bs s).drop a)=some sr) :
    Calls Tryz.prog (kindF long q) #[.agg #[.pointer (some ⟨R,0,none⟩)]] w (StepPost R s a q out ov w sr):=by
 unfold Pl.kindStep at hsr;unfold kindF
 split at hsr
 · rename_i hl
   split at hsr
   · rename_i hq
     simp only[Option.some.injEq]at hsr;rw[if_pos hl,if_pos hq,←hsr];exact tq_longLiteral_step w R s a q out ov h hlt hs ho
   rename_i hq
   simp only[Option.some.injEq]at hsr;rw[if_pos hl,if_neg hq,←hsr];exact tq_longBasic_step w R s a q out ov h hlt hs ho T hQ
 rename_i hl
 split at hsr
 · rename_i hq
   simp only[Option.some.injEq]at hsr;rw[if_neg hl,if_pos hq,←hsr];exact tq_literal_step w R s a q out ov h hlt hs ho
 rename_i hq
 rw[if_neg hl,if_neg hq];exact tq_basic_step w R s a q out ov h hlt hs ho T hQ sr hsr
def posQ (R:Nat) (w:World):Nat:=match w.cell? ⟨R,1,none⟩ with
 | some (.int _ n)=>n.toNat
 | _=>0
theorem posQ_eq {w R s a q out ov} (h:RdQ w R s a q out ov):posQ R w=a:=by
 unfold posQ;rw[h.cells.2.1];simp
def ReadPost (s:ByteArray) (n:Nat) (w:World) (x:Pl.Res (Pl.Bs × Nat)) (e:Ending) (w':World):Prop :=
 match x with
 | .non=>True
 | .ok (t,m)=>e = .returned (.tuple #[strV t,.int .i64 (n+m:Nat),f0])∧n+m≤s.size∧1≤m∧Gr w w'
 | .bad c p=>e = .returned (.tuple #[.string ⟨#[]⟩,.int .i64 0,fv c (n+p)])∧c≠0∧Gr w w'
end Go.Proofs.YtfogfaagjpebcaaGreatDoor
namespace Go.Proofs.YtfogfaagjpebcaaGreatDoor
open Go.RowKit Go.Joins
theorem method_step (long:Bool) (q:UInt8) (a:Addr) (w:World):(method 428 (kindT long q) (.agg #[.pointer (some a)]) "inarch/tquotes.step").run Tryz.prog w = .ok (kindF long q,.agg #[.pointer (some a)]) w:=by
 unfold kindT kindF;cases long <;> cases (q.toNat==39) <;> kernel_rfl
theorem enters_step (long:Bool) (q:UInt8):∀args w,(callFunc (kindF long q) args).run Tryz.prog w = .ok (.enter (kindF long q) args) w:=by
 unfold kindF;cases long <;> cases (q.toNat==39)
 · exact enters_of Tryz.func232 (by kernel_rfl) rfl
 · exact enters_of Tryz.func228 (by kernel_rfl) rfl
 · exact enters_of Tryz.func241 (by kernel_rfl) rfl
 exact enters_of Tryz.func238 (by kernel_rfl) rfl
theorem tq_Read_no (s:ByteArray) (i:Int) (n:Nat) (hi:i=n) (hn:n≤s.size) (hs:s.size≤20000000) (h:∀h:n<s.size,(s[n].toNat==34 || s[n].toNat==39)=false) (w:World) :
    Calls Tryz.prog 87 #[.string s,.int .i64 i] w fun e w'=>e = .returned (.tuple #[.string ⟨#[]⟩,.int .i64 0,fv 3 n])∧Gr w w':=by
 subst hi;have hd0:decide ((n:Int)<0)=false:=by simp
 have hd1:decide ((s.size:Int)<(n:Int))=false:=by simp;omega
 by_cases hlt:n<s.size
 · have h2:=h hlt;rw[Bool.or_eq_false_iff]at h2;have c1:((s[n].toNat:Int) != 34)=true:=(beqs _ 34 _ h2.1).2;have c2:((s[n].toNat:Int) != 39)=true:=(beqs _ 39 _ h2.2).2;have he:((n:Int)==(s.size:Int))=false:=by simp;omega
   clear h h2;refine Z229 ?_;intro hk1 hk2;exact J114
 have he:((n:Int)==(s.size:Int))=true:=by simp;omega
 clear h;exact J114
theorem conv_own {w:World} {base:Nat} {ov:Value} {out:List UInt8} (h:w.ownsRow base 5 1 ov out.length (out.map byteV)):(convert 34 9 ov).run Tryz.prog w = .ok (strV out) w:=by
 refine Z118 ?_;intro e0;rcases h.2 with⟨rfl,hn⟩|⟨g,cap,cur,rfl,hbb,hgg,h1,h2,h3,h4⟩
 · rw[run_convert_bytes_nil w 34 5 Tryz.underlying34 Tryz.underlying5 0 0 9 Tryz.underlying9];obtain rfl:out=[]:=List.eq_nil_of_length_eq_zero hn;rfl
 rw[run_convert_bytes_arg w 34 5 Tryz.underlying34 Tryz.underlying5 g 0 out.length cap (out.map fun x=>(x.toNat:Int)) (by simp) (fun i hi=>?_) 9 Tryz.underlying9,e0];have:=h.cells (g:=g) rfl i (byteV (out[i])) (by simp[hi]);rw[Addr.add_lit]at this;rw[this];simp[List.getD,hi]
namespace Pl
theorem readF_step (step:List UInt8→Option SR) (l:Bs) (f n:Nat) (out:Bs) (X:Res (Bs × Nat)) (h:readF step l (f+1) n out=X) (hne:X ≠ .non) (hn:n<l.length) :
    ∃sr,step (l.drop n)=some sr∧match sr with
     | .bad p => .bad 3 (n+p)=X
     | .go m t over=>(if over=true then .ok (out++t,n+m) else readF step l f (n+m) (out++t))=X:=by
 unfold readF at h;obtain⟨c,r,hcr⟩:∃c r,l.drop n=c::r:=⟨_,_,List.drop_eq_getElem_cons hn⟩
 rw[hcr]at h ⊢;dsimp only at h;cases hs:step (c::r) with
 | none=>rw[hs]at h;exact absurd h.symm hne
 | some sr =>
  rw[hs]at h;refine⟨sr,rfl,?_⟩;cases sr with
  | bad p=>exact h
  | go m t over=>exact h
theorem readF_end (step:List UInt8→Option SR) (l:Bs) (f n:Nat) (out:Bs) (X:Res (Bs × Nat)) (h:readF step l f n out=X) (hne:X ≠ .non) (hn:¬n<l.length) : .bad 3 l.length=X:=by
 cases f with
 | zero=>exact absurd h.symm hne
 | succ f =>
  unfold readF at h;rw[List.drop_eq_nil_of_le (by omega)]at h;exact h
end Pl
inductive ReadFrom (s:ByteArray) (n:Nat):Bool→Nat→Prop where
 | short:ReadFrom s n false (n+1)
 | feed (m:Nat):n+3<s.size→Pl.feed ((bs s).drop (n+3)) = .ok m→ReadFrom s n true (n+3+m)
 | none:n+3=s.size→ReadFrom s n true (n+3)
set_option maxRecDepth 100000 in
theorem tq_Read_go (T:Nat→UInt8 × UInt8) (s:ByteArray) (i:Int) (n:Nat) (hi:i=n) (hn:n<s.size) (hs:s.size≤20000000) (hq:(s[n].toNat==34 || s[n].toNat==39)=true) (long:Bool) (hl:Pl.longAt (bs s) n=long)
    (a0:Nat) (hf:ReadFrom s n long a0) (ha0:a0≤s.size) (f:Nat) (X:Pl.Res (Pl.Bs × Nat)) (hX:Pl.readF (Pl.kindStep T long s[n]) ((bs s).drop n) f (a0-n) []=X) (hne:X ≠ .non) (w:World) (hQ:QW T w) :
    Calls Tryz.prog 87 #[.string s,.int .i64 i] w (ReadPost s n w X):=by
 subst hi;have hd0:decide ((n:Int)<0)=false:=by simp
 have hd1:decide ((s.size:Int)<(n:Int))=false:=by simp;omega
 have he:((n:Int)==(s.size:Int))=false:=by simp;omega
 refine Z229 ?_;intro hk1 hk2;have HX:=Lib.hid hX;have HQW:=Lib.hid hQ;clear hQ;have HL:=Lib.hid hl;obtain⟨q,hqq⟩:∃q,s[n]=q:=⟨_,rfl⟩
 have HQ:=Lib.hid hqq;rw[hqq]at hq;have HQ1:=Lib.hid hq;clear hX hl hqq hq;rw[HQ.out]at HX;have hmth:=method_step long q ⟨w.heap.size+1,0,none⟩;have hent:=enters_step long q;refine Z161 ?_;intro hcc;have hdF:n+3<s.size→decide ((n:Int)+3<(s.size:Int))=true:=fun h=>by simp;omega
 rcases hcc with⟨c1,c2⟩|c1
 all_goals
  cases hf with
  | short =>
   clear hdF;go_enter Tryz.func87,Tryz.ntmps87;go_wp2_with (first|(go_at_call 85;refine (tq_Long s _ n rfl (by omega) hs _).mono ?_;rw[HL.out];rintro e w1 ⟨rfl,rfl⟩)|(go_at_call 110;refine (tq_open s _ n rfl hn hs _ HL.out _).mono ?_;rw[HQ.out];rintro e w1 ⟨rfl,hr1,g1⟩;simp only[World.size_alloc,Bool.false_eq_true,if_false,if_true]at hr1;obtain⟨d0,d1,d2,d3,dz⟩:=hr1.cells;have HR1:=Lib.hid hr1;clear hr1;obtain⟨hc1,hf1,hz1⟩:=g1.use;simp at hz1));have hz2:=HR1.out.lt
   go_loopw [12] (fun _ wr=>∃(k a:Nat) (out:List UInt8) (ov:Value),RdQ wr (w.heap.size+1) s a q out ov∧Pl.readF (Pl.kindStep T false q) ((bs s).drop n) k (a-n) out=X∧n<a∧a≤s.size∧out.length≤a∧Gr w wr∧w.heap.size+2≤wr.heap.size ∧
       wr.cell? ⟨w.heap.size,0,none⟩=some (.int .i64 0)∧wr.cell? ⟨w.heap.size,1,none⟩=some (.int .i64 0)∧wr.frozen? ⟨w.heap.size,0,none⟩=false∧wr.frozen? ⟨w.heap.size,1,none⟩=false) (fun _ wr=>s.size-posQ (w.heap.size+1) wr)
   case atStart =>
    refine⟨f,n+1,[],_,HR1.out,HX.out,by omega,by omega,by simp,Gr.auto,by omega,(hc1 _ _ (by simp)).trans (by simp),(hc1 _ _ (by simp)).trans (by simp),(hf1 _ _ (by simp)).trans (by simp[go_sem]),(hf1 _ _ (by simp)).trans (by simp[go_sem])⟩
   case round =>
    obtain⟨k,a,out,ov,hr,hx,hna,has,hol,hg,hz,m0,m1,m2,m3⟩:=hrel;obtain⟨e0,e1,e2,e3,ez⟩:=hr.cells;have hpos:=posQ_eq hr;have HP:=Lib.hid hpos;have HR:=Lib.hid hr;have HX2:=Lib.hid hx;clear hr hx d0 d1 d2 d3 dz e3 hpos;by_cases hlt:a<s.size
    · obtain⟨k,rfl⟩:∃k',k=k'+1:=by
       cases k with
       | zero=>exact absurd HX2.out.symm hne
       | succ k=>exact⟨k,rfl⟩
      refine Z233 ?_;intro sr HS1 HS2;go_wp2_with fail;cases sr with
      | bad p =>
       refine (tq_step false q _ _ s a out ov HR.out hlt hs hol T (HQW.out.gr hg) _ HS1.out).mono ?_;exact J91
      | go m t over =>
       have hl3:=Pl.kindStep_len _ _ _ _ _ _ _ HS1.out;rw[List.length_drop,bs_length]at hl3;refine (tq_step false q _ _ s a out ov HR.out hlt hs hol T (HQW.out.gr hg) _ HS1.out).mono ?_;exact J79
    exact J32
  | feed m0' h1 h2 =>
   have hd3:=hdF h1;have HFd:=Lib.hid h2;clear hdF h2;go_enter Tryz.func87,Tryz.ntmps87;go_wp2_with (first|(go_at_call 85;refine (tq_Long s _ n rfl (by omega) hs _).mono ?_;rw[HL.out];rintro e w1 ⟨rfl,rfl⟩)|(go_at_call 110;refine (tq_open s _ n rfl hn hs _ HL.out _).mono ?_;rw[HQ.out];rintro e w1 ⟨rfl,hr1,g1⟩;simp only[World.size_alloc,Bool.false_eq_true,if_false,if_true]at hr1;obtain⟨d0,d1,d2,d3,dz⟩:=hr1.cells;have HR1:=Lib.hid hr1;clear hr1;obtain⟨hc1,hf1,hz1⟩:=g1.use;simp at hz1)|(go_at_call 111;refine (tq_feed _ _ s (n+3) q [] _ HR1.out h1 hs).mono ?_;rw[HFd.out];rintro e w4 ⟨rfl,g4⟩;have hr4:=HR1.out.gr g4;clear d0 d1 d2 d3 dz;obtain⟨d0,d1,d2,d3,dz⟩:=hr4.cells;have HR4:=Lib.hid hr4;have hlt4:=hr4.lt;clear hr4;obtain⟨hc4,hf4,hz4⟩:=g4.use));have hz2:=HR4.out.lt
   go_loopw [12] (fun _ wr=>∃(k a:Nat) (out:List UInt8) (ov:Value),RdQ wr (w.heap.size+1) s a q out ov∧Pl.readF (Pl.kindStep T true q) ((bs s).drop n) k (a-n) out=X∧n<a∧a≤s.size∧out.length≤a∧Gr w wr∧w.heap.size+2≤wr.heap.size ∧
       wr.cell? ⟨w.heap.size,0,none⟩=some (.int .i64 0)∧wr.cell? ⟨w.heap.size,1,none⟩=some (.int .i64 0)∧wr.frozen? ⟨w.heap.size,0,none⟩=false∧wr.frozen? ⟨w.heap.size,1,none⟩=false) (fun _ wr=>s.size-posQ (w.heap.size+1) wr)
   case atStart =>
    rw[show ((n:Int)+3+(m0':Int))=((n+3+m0':Nat):Int) from by omega];have gw4:Gr w w4:=(((Gr.refl w).alloc _).trans g1).trans g4;have q0:w4.cell? ⟨w.heap.size,0,none⟩=some (.int .i64 0):=(hc4 _ _ (by omega)).trans ((hc1 _ _ (by simp)).trans (by simp));have q1:w4.cell? ⟨w.heap.size,1,none⟩=some (.int .i64 0):=(hc4 _ _ (by omega)).trans ((hc1 _ _ (by simp)).trans (by simp));have q2:w4.frozen? ⟨w.heap.size,0,none⟩=false:=(hf4 _ _ (by omega)).trans ((hf1 _ _ (by simp)).trans (by simp[go_sem]));have q3:w4.frozen? ⟨w.heap.size,1,none⟩=false:=(hf4 _ _ (by omega)).trans ((hf1 _ _ (by simp)).trans (by simp[go_sem]));have hl0:w.heap.size<w4.heap.size:=by omega
    refine⟨f,n+3+m0',[],.slice none 0 0,(HR4.out.setAt (n+3+m0')).alloc _,HX.out,by omega,by omega,by simp,(gw4.setCell (by simp) _).alloc _,by simp[World.setCell];omega,?_,?_,?_,?_⟩
    all_goals (simp[go_sem,hl0];try assumption)
   case round =>
    exact J33
  | none h1 =>
   have hd3:decide ((n:Int)+3<(s.size:Int))=false:=by simp;omega
   clear hdF;go_enter Tryz.func87,Tryz.ntmps87;go_wp2_with (first|(go_at_call 85;refine (tq_Long s _ n rfl (by omega) hs _).mono ?_;rw[HL.out];rintro e w1 ⟨rfl,rfl⟩)|(go_at_call 110;refine (tq_open s _ n rfl hn hs _ HL.out _).mono ?_;rw[HQ.out];rintro e w1 ⟨rfl,hr1,g1⟩;simp only[World.size_alloc,Bool.false_eq_true,if_false,if_true]at hr1;obtain⟨d0,d1,d2,d3,dz⟩:=hr1.cells;have HR1:=Lib.hid hr1;clear hr1;obtain⟨hc1,hf1,hz1⟩:=g1.use;simp at hz1));have hz2:=HR1.out.lt
   go_loopw [12] (fun _ wr=>∃(k a:Nat) (out:List UInt8) (ov:Value),RdQ wr (w.heap.size+1) s a q out ov∧Pl.readF (Pl.kindStep T true q) ((bs s).drop n) k (a-n) out=X∧n<a∧a≤s.size∧out.length≤a∧Gr w wr∧w.heap.size+2≤wr.heap.size ∧
       wr.cell? ⟨w.heap.size,0,none⟩=some (.int .i64 0)∧wr.cell? ⟨w.heap.size,1,none⟩=some (.int .i64 0)∧wr.frozen? ⟨w.heap.size,0,none⟩=false∧wr.frozen? ⟨w.heap.size,1,none⟩=false) (fun _ wr=>s.size-posQ (w.heap.size+1) wr)
   case atStart =>
    refine⟨f,n+3,[],_,HR1.out,HX.out,by omega,by omega,by simp,Gr.auto,by omega,(hc1 _ _ (by simp)).trans (by simp),(hc1 _ _ (by simp)).trans (by simp),(hf1 _ _ (by simp)).trans (by simp[go_sem]),(hf1 _ _ (by simp)).trans (by simp[go_sem])⟩
   case round =>
    exact J33
set_option maxRecDepth 100000 in
theorem tq_Read_feed (s:ByteArray) (i:Int) (n:Nat) (hi:i=n) (hn:n<s.size) (hs:s.size≤20000000) (hq:(s[n].toNat==34 || s[n].toNat==39)=true) (hl:Pl.longAt (bs s) n=true)
    (h3:n+3<s.size) (c p:Nat) (hf:Pl.feed ((bs s).drop (n+3)) = .bad c p) (w:World) :
    Calls Tryz.prog 87 #[.string s,.int .i64 i] w (ReadPost s n w (.bad c (3+p))):=by
 subst hi;obtain⟨rfl,rfl⟩:=Pl.feed_bad _ _ _ hf;have hd0:decide ((n:Int)<0)=false:=by simp
 have hd1:decide ((s.size:Int)<(n:Int))=false:=by simp;omega
 have he:((n:Int)==(s.size:Int))=false:=by simp;omega
 refine Z229 ?_;intro hk1 hk2;have HL:=Lib.hid hl;have HFd:=Lib.hid hf;obtain⟨q,hqq⟩:∃q,s[n]=q:=⟨_,rfl⟩
 have HQ:=Lib.hid hqq;rw[hqq]at hq;have HQ1:=Lib.hid hq;clear hl hqq hq hf;refine Z161 ?_;intro hcc;have hd3:decide ((n:Int)+3<(s.size:Int))=true:=by simp;omega
 rcases hcc with⟨c1,c2⟩|c1
 all_goals
  go_enter Tryz.func87,Tryz.ntmps87;go_wp2_with (first|(go_at_call 85;refine (tq_Long s _ n rfl (by omega) hs _).mono ?_;rw[HL.out];rintro e w1 ⟨rfl,rfl⟩)|(go_at_call 110;refine (tq_open s _ n rfl hn hs _ HL.out _).mono ?_;rw[HQ.out];rintro e w1 ⟨rfl,hr1,g1⟩;simp only[World.size_alloc,Bool.false_eq_true,if_false,if_true]at hr1;obtain⟨d0,d1,d2,d3,dz⟩:=hr1.cells;have HR1:=Lib.hid hr1;clear hr1;obtain⟨hc1,hf1,hz1⟩:=g1.use;simp at hz1));refine (tq_feed _ _ s (n+3) q [] _ HR1.out h3 hs).mono ?_;rw[HFd.out];rintro e w4 ⟨rfl,g4⟩;clear d0 d1 d2 d3 dz;have hz2:=HR1.out.lt;obtain⟨hc4,hf4,hz4⟩:=g4.use;have q0:w4.cell? ⟨w.heap.size,0,none⟩=some (.int .i64 0):=(hc4 _ _ (by omega)).trans ((hc1 _ _ (by simp)).trans (by simp));have q1:w4.cell? ⟨w.heap.size,1,none⟩=some (.int .i64 0):=(hc4 _ _ (by omega)).trans ((hc1 _ _ (by simp)).trans (by simp));have q2:w4.frozen? ⟨w.heap.size,0,none⟩=false:=(hf4 _ _ (by omega)).trans ((hf1 _ _ (by simp)).trans (by simp[go_sem]));have q3:w4.frozen? ⟨w.heap.size,1,none⟩=false:=(hf4 _ _ (by omega)).trans ((hf1 _ _ (by simp)).trans (by simp[go_sem]));have hl0:w.heap.size<w4.heap.size:=by omega
  have gw4:Gr w w4:=(((Gr.refl w).alloc _).trans g1).trans g4;clear hc1 hf1 hc4 hf4;go_wp2_with fail
  go_region
  all_goals go_wp2_with fail
  all_goals
   refine bodyPost_ret (v := .tuple #[.string ⟨#[]⟩,.int .i64 0,fv 3 (n+3+1)]) (by simp[results,Tryz.results87,go_sem,q0,q1,q2,q3,hl0]) rfl ⟨rfl,by omega,Gr.auto⟩
theorem tq_Read (T:Nat→UInt8 × UInt8) (s:ByteArray) (i:Int) (n:Nat) (hi:i=n) (hn:n≤s.size) (hs:s.size≤20000000) (X:Pl.Res (Pl.Bs × Nat)) (hX:Pl.strS T ((bs s).drop n)=X) (hne:X ≠ .non) (w:World) (hQ:QW T w) :
    Calls Tryz.prog 87 #[.string s,.int .i64 i] w (ReadPost s n w X):=by
 by_cases hlt:n<s.size
 · rw[idx_bs s n hlt]at hX;unfold Pl.strS at hX;dsimp only at hX;cases hq:(s[n].toNat==34 || s[n].toNat==39)
   · rw[hq]at hX;simp only[Bool.false_eq_true,if_false]at hX;subst hX;exact (tq_Read_no s i n hi hn hs (fun _=>hq) w).mono fun e w' ⟨h1,h2⟩=>⟨h1,by omega,h2⟩
   rw[hq]at hX;simp only[if_true]at hX;rw[←idx_bs s n hlt]at hX;cases hl:Pl.longAt (bs s) n
   · have hl':Pl.long ((bs s).drop n)=false:=hl;rw[hl']at hX;simp only[Bool.false_eq_true,if_false]at hX;exact tq_Read_go T s i n hi hlt hs hq false hl (n+1) .short (by omega) _ X (by rw[show n+1-n=1 from by omega];exact hX) hne w hQ
   have hl':Pl.long ((bs s).drop n)=true:=hl;rw[hl']at hX;simp only[if_true]at hX;have h3:n+3≤s.size:=by
    exact J132
   rw[List.drop_drop]at hX;by_cases h4:n+3<s.size
   · cases hf:Pl.feed ((bs s).drop (n+3)) with
     | bad c p =>
      rw[hf]at hX;simp only at hX;subst hX;exact tq_Read_feed s i n hi hlt hs hq hl h4 c p hf w
     | ok m =>
      rw[hf]at hX;simp only at hX;have hm:=Pl.feed_le _ _ hf;rw[List.length_drop,bs_length]at hm;exact tq_Read_go T s i n hi hlt hs hq true hl (n+3+m) (.feed m h4 hf) (by omega) _ X (by rw[show n+3+m-n=3+m from by omega];exact hX) hne w hQ
   have hf:Pl.feed ((bs s).drop (n+3)) = .ok 0:=by rw[List.drop_eq_nil_of_le (by rw[bs_length];omega)];rfl
   rw[hf]at hX;simp only at hX;exact tq_Read_go T s i n hi hlt hs hq true hl (n+3) (.none (by omega)) (by omega) _ X (by rw[show n+3-n=3+0 from by omega];exact hX) hne w hQ
 have e:(bs s).drop n=[]:=List.drop_eq_nil_of_le (by rw[bs_length];omega);rw[e]at hX;unfold Pl.strS at hX;subst hX;exact (tq_Read_no s i n hi hn hs (fun h=>absurd h hlt) w).mono fun e w' ⟨h1,h2⟩=>⟨h1,by omega,h2⟩
end Go.Proofs.YtfogfaagjpebcaaGreatDoor
namespace Go.Proofs.YtfogfaagjpebcaaGreatDoor
open Go.RowKit Go.Joins
theorem tk_bare (c:UInt8) (w:World) :
    Calls Tryz.prog 86 #[.int .u8 c.toNat] w fun e w'=>e = .returned (.bool (Pl.isBare c))∧w=w':=by
 go_enter Tryz.func86,Tryz.ntmps86
 go_wp2
 all_goals go_ret
 all_goals (refine⟨ret_bool ?_,rfl⟩;rw[Bool.eq_iff_iff];simp[Pl.isBare];try omega)
theorem bareRun_more (l:List UInt8) (a k:Nat) (h:a+k<l.length) (hk:k≤Pl.bareRun (l.drop a)) (hb:Pl.isBare (l[a+k]'h)=true):k+1≤Pl.bareRun (l.drop a):=by
 induction k generalizing a with
 | zero =>
  have:l.drop a=l[a]'(by omega)::l.drop (a+1):=List.drop_eq_getElem_cons (by omega);have hb':Pl.isBare l[a]=true:=hb;rw[this];unfold Pl.bareRun;rw[List.takeWhile_cons,if_pos hb'];simp
 | succ k ih =>
  have e:l.drop a=l[a]'(by omega)::l.drop (a+1):=List.drop_eq_getElem_cons (by omega);rw[e]at hk ⊢;unfold Pl.bareRun at hk ⊢;rw[List.takeWhile_cons]at hk ⊢
  split at hk
  · rename_i h1
    rw[if_pos h1];have:=ih (a+1) (by omega) (by unfold Pl.bareRun;simp at hk;omega) (by simpa [show a+1+k=a+(k+1) from by omega]using hb);unfold Pl.bareRun at this;simp;omega
  simp at hk
theorem bareRun_stop (l:List UInt8) (a k:Nat) (hk:k≤Pl.bareRun (l.drop a)) (hb:∀h:a+k<l.length,Pl.isBare (l[a+k]'h)=false):Pl.bareRun (l.drop a)=k:=by
 induction k generalizing a with
 | zero =>
  by_cases h:a<l.length
  · have:l.drop a=l[a]'h::l.drop (a+1):=List.drop_eq_getElem_cons h;have hb':Pl.isBare l[a]=false:=hb h;rw[this];unfold Pl.bareRun;rw[List.takeWhile_cons,if_neg (by rw[hb'];simp)];rfl
  rw[List.drop_eq_nil_of_le (by omega)];rfl
 | succ k ih =>
  by_cases h:a<l.length
  · have e:l.drop a=l[a]'h::l.drop (a+1):=List.drop_eq_getElem_cons h;rw[e]at hk ⊢;unfold Pl.bareRun at hk ⊢;rw[List.takeWhile_cons]at hk ⊢
    split at hk
    · rename_i h1
      rw[if_pos h1];have:=ih (a+1) (by unfold Pl.bareRun;simp at hk;omega) (fun h=>by have:=hb (by omega);simpa [show a+1+k=a+(k+1) from by omega]using this);unfold Pl.bareRun at this;simp;omega
    simp at hk
  rw[List.drop_eq_nil_of_le (by omega)]at hk;simp[Pl.bareRun]at hk
def WordPost (s:ByteArray) (w:World) (x:Pl.Res (Pl.Bs × Nat)) (e:Ending) (w':World):Prop :=
 match x with
 | .non=>True
 | .ok (t,m)=>e = .returned (.tuple #[strV t,.int .i64 m,f0])∧m≤s.size∧Gr w w'
 | .bad c p=>(∃m:Nat,e = .returned (.tuple #[.string ⟨#[]⟩,.int .i64 m,fv c p]))∧c≠0∧Gr w w'
def EnvStr (T:Nat→UInt8 × UInt8) (E:Pl.Env):Prop:=E.str=Pl.strS T
theorem extract_take (s:ByteArray) (n k:Nat):s.extract n (n+k)=⟨(((bs s).drop n).take k).toArray⟩:=by
 apply ByteArray.ext;apply Array.toList_inj.1;rw[Lib.extract_data,show n+k-n=k from by omega]
set_option maxRecDepth 100000 in
theorem tk_word (T:Nat→UInt8 × UInt8) (E:Pl.Env) (hE:EnvStr T E) (s:ByteArray) (i:Int) (n:Nat) (hi:i=n) (hn:n≤s.size) (hs:s.size≤20000000) (X:Pl.Res (Pl.Bs × Nat)) (hX:Pl.word E (bs s) n=X) (hne:X ≠ .non) (w:World) (hQ:QW T w) :
    Calls Tryz.prog 59 #[.string s,.int .i64 i] w (WordPost s w X):=by
 have HQW:=Lib.hid hQ;clear hQ;subst hi;unfold Pl.word at hX;cases hl:Pl.longAt (bs s) n
 · rw[hl]at hX;simp only[Bool.false_eq_true,if_false]at hX;have HL:=Lib.hid hl;have HX:=Lib.hid hX;have hrl:=Pl.takeWhile_length_le Pl.isBare ((bs s).drop n);rw[List.length_drop,bs_length]at hrl;clear hl hX;go_enter Tryz.func59,Tryz.ntmps59;go_wp2_with (go_at_call 85;refine (tq_Long s _ n rfl hn hs _).mono ?_;rw[HL.out];rintro e w1 ⟨rfl,rfl⟩)
   go_loopw [5] (fun v wr=>∃k:Nat,v = .int .i64 (n+k:Nat)∧k≤Pl.bareRun ((bs s).drop n)∧wr=w.alloc (.cells #[.int .i64 0,.int .i64 0] 31)) (fun v _=>s.size-(intOf v).toNat)
   case atStart=>exact⟨0,rfl,by omega,rfl⟩
   case round =>
    obtain⟨k,rfl,hk,rfl⟩:=hrel;have hk':k≤s.size-n:=Nat.le_trans hk hrl;by_cases hgo:∃hlt:n+k<s.size,Pl.isBare s[n+k]=true
    · obtain⟨hlt,hb⟩:=hgo;have hd1:decide ((n:Int)+(k:Int)<(s.size:Int))=true:=by simp;omega
      have hk1:(0:Int)≤(n:Int)+(k:Int):=by omega
      have hk2:(n:Int)+(k:Int)<(s.size:Int):=by omega
      have hk3:((n:Int)+(k:Int)).toNat=n+k:=by omega
      have hmr:=bareRun_more (bs s) n k (by rw[bs_length];exact hlt) hk hb;have HB:=Lib.hid hb;clear hb;go_wp2_with (go_at_call 86;refine (tk_bare _ _).mono ?_;rw[HB.out];rintro e w1 ⟨rfl,rfl⟩)
      go_roundw
      case rel=>exact⟨k+1,by go_num,hmr,trivial⟩
      case measure=>simp[intOf];omega
    have hst:=bareRun_stop (bs s) n k hk (fun h=>by
     cases hb:Pl.isBare ((bs s)[n+k]'h) with
     | false=>rfl
     | true=>exact absurd ⟨by rw[←bs_length];exact h,hb⟩ hgo)
    have hstop:(¬n+k<s.size)∨(∃hlt:n+k<s.size,Pl.isBare s[n+k]=false):=by
     by_cases hlt:n+k<s.size
     · refine .inr ⟨hlt,?_⟩;cases hb:Pl.isBare s[n+k] with
       | false=>rfl
       | true=>exact absurd ⟨hlt,hb⟩ hgo
     exact .inl hlt
    have HX2:=HX.out;rw[hst]at HX2;clear hgo hst hk;by_cases hk0:k=0
    · subst hk0;simp only[if_true]at HX2;rw[hE]at HX2;cases hstr:Pl.strS T ((bs s).drop n) with
      | non=>rw[hstr]at HX2;exact absurd HX2.symm hne
      | ok r =>
       obtain⟨t,m⟩:=r;rw[hstr]at HX2;simp only at HX2;have HSTR:=Lib.hid hstr;have HXX:=Lib.hid HX2;clear hstr HX2;rcases hstop with hlt|⟨hlt,hb⟩
       · exfalso;have h9:=HSTR.out;rw[List.drop_eq_nil_of_le (by rw[bs_length];omega)]at h9;cases h9
       all_goals first
        | (have hb':Pl.isBare s[n]=false:=hb;have hd1:decide ((n:Int)<(s.size:Int))=true:=by { simp;omega };have HB:=Lib.hid hb';clear hb hb';have hk1:(0:Int)≤(n:Int):=by { omega };have hk2:(n:Int)<(s.size:Int):=by { omega })
        | (have hd1:decide ((n:Int)<(s.size:Int))=false:=by { simp;omega };skip)
       all_goals
        go_wp2_with (first|(go_at_call 86;refine (tk_bare _ _).mono ?_;rw[HB.out];rintro e w1 ⟨rfl,rfl⟩)|(go_at_call 87;refine (tq_Read T s _ n rfl hn hs _ HSTR.out (by simp) _ (HQW.out.gr Gr.auto)).mono ?_;rintro e w1 ⟨rfl,hm1,hm2,g1⟩;simp only[f0];obtain⟨hc1,hf1,hz1⟩:=g1.use;simp only[World.size_alloc]at hz1;have p0:w1.cell? ⟨w.heap.size,0,none⟩=some (.int .i64 0):=(hc1 _ _ (by simp)).trans (by simp);have p1:w1.cell? ⟨w.heap.size,1,none⟩=some (.int .i64 0):=(hc1 _ _ (by simp)).trans (by simp);have p2:w1.frozen? ⟨w.heap.size,0,none⟩=false:=(hf1 _ _ (by simp)).trans (by simp[go_sem]);have p3:w1.frozen? ⟨w.heap.size,1,none⟩=false:=(hf1 _ _ (by simp)).trans (by simp[go_sem]);have hlw:w.heap.size<w1.heap.size:=hz1;clear hc1 hf1));refine bodyPost_ret (v := .tuple #[strV t,.int .i64 (n+m:Nat),f0]) (by simp[results,Tryz.results59,go_sem,p0,p1,p2,p3,hlw]) rfl ?_;rw[←HXX.out];exact⟨rfl,hm1,Gr.auto⟩
      | bad c p =>
       rw[hstr]at HX2;simp only at HX2;have HSTR:=Lib.hid hstr;have HXX:=Lib.hid HX2;clear hstr HX2;rcases hstop with hlt|⟨hlt,hb⟩
       all_goals first
        | (have hb':Pl.isBare s[n]=false:=hb;have hd1:decide ((n:Int)<(s.size:Int))=true:=by { simp;omega };have HB:=Lib.hid hb';clear hb hb';have hk1:(0:Int)≤(n:Int):=by { omega };have hk2:(n:Int)<(s.size:Int):=by { omega })
        | (have hd1:decide ((n:Int)<(s.size:Int))=false:=by { simp;omega };skip)
       all_goals
        go_wp2_with (first|(go_at_call 86;refine (tk_bare _ _).mono ?_;rw[HB.out];rintro e w1 ⟨rfl,rfl⟩)|(go_at_call 87;refine (tq_Read T s _ n rfl hn hs _ HSTR.out (by simp) _ (HQW.out.gr Gr.auto)).mono ?_;rintro e w1 ⟨rfl,hm1,g1⟩;obtain⟨hc1,hf1,hz1⟩:=g1.use;simp only[World.size_alloc]at hz1;have p0:w1.cell? ⟨w.heap.size,0,none⟩=some (.int .i64 0):=(hc1 _ _ (by simp)).trans (by simp);have p1:w1.cell? ⟨w.heap.size,1,none⟩=some (.int .i64 0):=(hc1 _ _ (by simp)).trans (by simp);have p2:w1.frozen? ⟨w.heap.size,0,none⟩=false:=(hf1 _ _ (by simp)).trans (by simp[go_sem]);have p3:w1.frozen? ⟨w.heap.size,1,none⟩=false:=(hf1 _ _ (by simp)).trans (by simp[go_sem]);have hlw:w.heap.size<w1.heap.size:=hz1;clear hc1 hf1));refine bodyPost_ret (v := .tuple #[.string ⟨#[]⟩,.int .i64 0,fv c (n+p)]) (by simp[results,Tryz.results59,go_sem,p0,p1,p2,p3,hlw]) rfl ?_;rw[←HXX.out];exact⟨⟨0,rfl⟩,hm1,Gr.auto⟩
    rw[if_neg hk0]at HX2;have HXX:=Lib.hid HX2;clear HX2;have hd4:decide ((n:Int)<(n:Int)+(k:Int))=true:=by simp;omega
    have hk4:(n:Int)+(k:Int)≤(s.size:Int):=by omega
    have hk1:(0:Int)≤(n:Int)+(k:Int):=by omega
    have hk3:((n:Int)+(k:Int)).toNat=n+k:=by omega
    have hk5:(n:Int)≤(n:Int)+(k:Int):=by omega
    have hk6:(0:Int)≤(n:Int):=by omega
    rcases hstop with hlt|⟨hlt,hb⟩
    all_goals first
     | (have HB:=Lib.hid hb;have hd1:decide ((n:Int)+(k:Int)<(s.size:Int))=true:=by { simp;omega };clear hb;have hk2:(n:Int)+(k:Int)<(s.size:Int):=by { omega })
     | (have hd1:decide ((n:Int)+(k:Int)<(s.size:Int))=false:=by { simp;omega };skip)
    all_goals
     go_wp2_with (first|(go_at_call 86;refine (tk_bare _ _).mono ?_;rw[HB.out];rintro e w1 ⟨rfl,rfl⟩))
     go_region
     all_goals go_wp2_with fail
     all_goals
      refine bodyPost_ret (v := .tuple #[.string (s.extract n (n+k)),.int .i64 (n+k:Nat),f0]) (by simp[results,Tryz.results59,go_sem]) rfl ?_;rw[←HXX.out];refine⟨by rw[extract_take],by omega,Gr.auto⟩
 rw[hl]at hX;simp only[if_true]at hX;subst hX;have HL:=Lib.hid hl;have h3:n+2≤s.size:=by
  have hl':Pl.long ((bs s).drop n)=true:=hl;exact J132
 clear hl;go_enter Tryz.func59,Tryz.ntmps59;go_wp2_with (go_at_call 85;refine (tq_Long s _ n rfl hn hs _).mono ?_;rw[HL.out];rintro e w1 ⟨rfl,rfl⟩)
 go_region
 all_goals go_wp2_with fail
 all_goals
  refine bodyPost_ret (v := .tuple #[.string ⟨#[]⟩,.int .i64 (n+2:Nat),f0]) (by simp[results,Tryz.results59,go_sem]) rfl ⟨rfl,h3,Gr.auto⟩
end Go.Proofs.YtfogfaagjpebcaaGreatDoor
