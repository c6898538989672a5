/-
 The walks and plain laws that the claim rests on, part 4.
-/
import Derived.Test.YtfogfaagjpebcaaGreatDoorP00
import Derived.Test.YtfogfaagjpebcaaGreatDoorP03
import Derived.Test.YtfogfaagjpebcaaGreatDoorP08
import Derived.OrdersHeld
import Derived.WalkKit
import Derived.Deep.RegionHeld3
import Derived.RangeFuncNested
import Derived.RangeFuncBound
import Derived.RangeFuncCalls
import Derived.RangeFuncLeaves
import Derived.RangeFuncWrites
import Derived.Shelf.Abstract
import Derived.OwnWalkIn
import Derived.TacticsInMore
import Derived.LoopNIn
import Derived.LoopIn
set_option maxHeartbeats 16000000
set_option linter.all false
set_option linter.unusedVariables false
set_option linter.unusedSimpArgs false
namespace Go.Proofs.YtfogfaagjpebcaaGreatDoor.Reg
open Go
section
variable {P:Program} {ops:Array Oper} {Q:Exit→Act→World→Prop} {md:Region.Mode} {S:World→Prop} {W:Nat→Bool}
def anyW (P:Program) (md:Region.Mode) (ops:Array Oper) (Q:Exit→Act→World→Prop) (W:Nat→Bool) (S:World→Prop):Nat→Array Bool→Act→World→Prop
 | 0,l,a,w=>Region.ready md ops l=[]∧Q .normal a w
 | n+1,l,a,w=>(Region.ready md ops l=[]→Q .normal a w) ∧
  ∀i∈Region.ready md ops l,wpOp P ops Q i (fun a' w'=>(W i=true→S w→S w')∧anyW P md ops Q W S n (l.setIfInBounds i true) a' w') a w
theorem any_of_W:∀(n:Nat) (l:Array Bool) (a:Act) (w:World),anyW P md ops Q W S n l a w→wpAny P md ops Q n l a w
 | 0,_,_,_,h=>h
 | n+1,_,_,_,h=>⟨h.1,fun i hi=>wpOp_mono (fun a' w' h'=>any_of_W n _ a' w' h'.2) (h.2 i hi)⟩
def Closed (md:Region.Mode) (ops:Array Oper) (l:Array Bool):Prop :=
 ∀j o,ops[j]?=some o→l.getD j false=true→∀e∈o.after,Region.binds md e=true→l.getD e.on false=true
def closedB (md:Region.Mode) (ops:Array Oper) (l:Array Bool):Bool :=
 (List.range ops.size).all fun j=>match ops[j]? with
  | none=>true
  | some o => !l.getD j false || o.after.all fun e => !Region.binds md e || l.getD e.on false
theorem closed_of {l:Array Bool} (h:closedB md ops l=true):Closed md ops l:=by
 intro j o ho hl e he hb;unfold closedB at h;rw[List.all_eq_true]at h;have h1:=h j (List.mem_range.2 (Array.getElem?_eq_some_iff.1 ho).1);simp only[ho,hl,Bool.not_true,Bool.false_or]at h1;have h2:=(Array.all_eq_true_iff_forall_mem.1 h1) e he
 simpa [hb]using h2
theorem Closed.more {l:Array Bool} (h:Closed md ops l) {j:Nat} (hj:j∈Region.ready md ops l):Closed md ops (l.setIfInBounds j true):=by
 intro k o ho hl e he hb;by_cases hkj:j=k
 · subst hkj;obtain⟨_,o',ho',hall⟩:=mem_ready.1 hj;rw[ho]at ho';cases ho';exact getD_set_true (hall e he hb)
 rw[getD_set_ne false hkj]at hl;exact getD_set_true (h k o ho hl e he hb)
def waitsB (md:Region.Mode) (ops:Array Oper) (i:Nat):Nat→Nat→Bool
 | 0,_=>false
 | n+1,j=>match ops[j]? with
  | none=>false
  | some o=>o.after.any fun e=>Region.binds md e && (e.on==i || waitsB md ops i n e.on)
theorem waits_spec {i:Nat}:∀(n j:Nat) (l:Array Bool) o,Closed md ops l→ops[j]?=some o→(∀e∈o.after,Region.binds md e=true→l.getD e.on false=true)→waitsB md ops i n j=true→l.getD i false=true:=by
 intro n
 induction n with
 | zero=>intro j l o _ _ _ h;cases h
 | succ n ih =>
  intro j l o hc ho hall h;unfold waitsB at h;rw[ho]at h;simp only[Array.any_eq_true']at h;obtain⟨e,he,hb⟩:=h;simp only[Bool.and_eq_true,Bool.or_eq_true,beq_iff_eq]at hb;have h1:=hall e he hb.1;rcases hb.2 with h2|h2
  · rw[h2]at h1;exact h1
  have hn:waitsB md ops i n e.on=true:=h2;cases n with
  | zero=>cases hn
  | succ n =>
   cases ho2:ops[e.on]? with
   | none=>unfold waitsB at hn;rw[ho2]at hn;cases hn
   | some o2=>exact ih e.on l o2 hc ho2 (hc e.on o2 ho2 h1) hn
def lateB (md:Region.Mode) (ops:Array Oper) (W:Nat→Bool) (i:Nat):Bool:=(List.range ops.size).all fun j=>W j || waitsB md ops i 12 j
theorem first {i:Nat} {oi:Oper} {v:Value} (hi:ops[i]?=some oi) (hsel:∀(j:Nat) (o:Oper) cs b,ops[j]?=some o→o.op ≠ .select cs b)
    (hQ:∀c a w,Q (.panic c) (a.put oi.dst v) w→Q (.panic c) a w) (hlate:lateB md ops W i=true) :
    ∀(n:Nat) (l:Array Bool) (a:Act) (w:World),Closed md ops l →
     (∀j oj,ops[j]?=some oj→j≠i→l.getD j true=false→(∀e∈oj.after,Region.binds md e=true→e.on≠i)→oi.apart ops oj=true) →
     i∈Region.ready md ops l→YieldsIf P ops S oi v a→S w →
     anyW P md ops Q W S n (l.setIfInBounds i true) (a.put oi.dst v) w→anyW P md ops Q W S (n+1) l a w:=by
 intro n
 induction n with
 | zero =>
  intro l a w _ _ hr hy hS H;refine⟨fun h=>(by rw[h]at hr;cases hr),fun j hj=>?_⟩;by_cases hji:j=i
  · subst hji;exact hy.wpOp hi hS ⟨fun _ h=>h,H⟩
  have:=ready_mono hj hji;rw[H.1]at this;cases this
 | succ n ih =>
  intro l a w hcl hfree hr hy hS H;refine⟨fun h=>(by rw[h]at hr;cases hr),fun j hj=>?_⟩;by_cases hji:j=i
  · subst hji;exact hy.wpOp hi hS ⟨fun _ h=>h,H⟩
  refine Z235 ?_;intro h1 hjun oj hoj hall hiun;have hnot:∀e∈oj.after,Region.binds md e=true→e.on≠i:=fun e he hb heq=>by
   have h2:=hall e he hb;rw[heq,hiun]at h2;cases h2
  have hWj:W j=true:=by
   cases hw:W j with
   | true=>rfl
   | false =>
    unfold lateB at hlate;rw[List.all_eq_true]at hlate;have h2:=hlate j (List.mem_range.2 (Array.getElem?_eq_some_iff.1 hoj).1);rw[hw,Bool.false_or]at h2;have h3:=waits_spec 12 j l oj hcl hoj hall h2;rw[hiun]at h3;cases h3
  have h2:=wpOp_putIf hoj (hfree j oj hoj hji hjun hnot) (fun cs b=>hsel i oi cs b hi) (fun cs b=>hsel j oj cs b hoj) hQ hy h1;have hfree':∀k ok,ops[k]?=some ok→k≠i→(l.setIfInBounds j true).getD k true=false→(∀e∈ok.after,Region.binds md e=true→e.on≠i)→oi.apart ops ok=true:=fun k ok hk hki hun hno=>by
   refine hfree k ok hk hki ?_ hno;by_cases hjk:j=k
   · subst hjk;exact hjun
   rw[getD_set_ne true hjk]at hun;exact hun
  refine wpOp_mono (fun a' w' h3=>⟨h3.2.1,ih (l.setIfInBounds j true) a' w' (hcl.more hj) hfree' (ready_mono hr (Ne.symm hji)) h3.1 (h3.2.1 hWj hS) ?_⟩) h2;rw[Array.setIfInBounds_comm _ _ hji];exact h3.2.2
theorem firstY {i:Nat} {oi:Oper} {v:Value} (hi:ops[i]?=some oi) (hsel:∀(j:Nat) (o:Oper) cs b,ops[j]?=some o→o.op ≠ .select cs b)
    (hQ:∀c a w,Q (.panic c) (a.put oi.dst v) w→Q (.panic c) a w) :
    ∀(n:Nat) (l:Array Bool) (a:Act) (w:World),
     (∀j oj,ops[j]?=some oj→j≠i→l.getD j true=false→(∀e∈oj.after,Region.binds md e=true→e.on≠i)→oi.apart ops oj=true) →
     i∈Region.ready md ops l→YieldsIf P ops (fun _=>True) oi v a →
     anyW P md ops Q W S n (l.setIfInBounds i true) (a.put oi.dst v) w→anyW P md ops Q W S (n+1) l a w:=by
 intro n
 induction n with
 | zero =>
  intro l a w _ hr hy H;refine⟨fun h=>(by rw[h]at hr;cases hr),fun j hj=>?_⟩;by_cases hji:j=i
  · subst hji;exact hy.wpOp hi trivial ⟨fun _ h=>h,H⟩
  have:=ready_mono hj hji;rw[H.1]at this;cases this
 | succ n ih =>
  intro l a w hfree hr hy H;refine⟨fun h=>(by rw[h]at hr;cases hr),fun j hj=>?_⟩;by_cases hji:j=i
  · subst hji;exact hy.wpOp hi trivial ⟨fun _ h=>h,H⟩
  refine Z235 ?_;intro h1 hjun oj hoj hall hiun;have hnot:∀e∈oj.after,Region.binds md e=true→e.on≠i:=fun e he hb heq=>by
   have h2:=hall e he hb;rw[heq,hiun]at h2;cases h2
  have h2:=wpOp_putIf hoj (hfree j oj hoj hji hjun hnot) (fun cs b=>hsel i oi cs b hi) (fun cs b=>hsel j oj cs b hoj) hQ hy h1;have hfree':∀k ok,ops[k]?=some ok→k≠i→(l.setIfInBounds j true).getD k true=false→(∀e∈ok.after,Region.binds md e=true→e.on≠i)→oi.apart ops ok=true:=fun k ok hk hki hun hno=>by
   refine hfree k ok hk hki ?_ hno;by_cases hjk:j=k
   · subst hjk;exact hjun
   rw[getD_set_ne true hjk]at hun;exact hun
  refine wpOp_mono (fun a' w' h3=>⟨h3.2.1,ih (l.setIfInBounds j true) a' w' hfree' (ready_mono hr (Ne.symm hji)) h3.1 ?_⟩) h2;rw[Array.setIfInBounds_comm _ _ hji];exact h3.2.2
theorem takeY {i:Nat} {oi:Oper} {v:Value} {n:Nat} {l:Array Bool} {a:Act} {w:World} (hi:ops[i]?=some oi)
    (hs:Region.noSelect ops=true) (hf:Region.free md ops l i=true) (hr:(Region.ready md ops l).contains i=true)
    (hQ:∀c a w,Q (.panic c) (a.put oi.dst v) w→Q (.panic c) a w) (hwant:Region.wanted oi (yielded ops a.tmps)=true) (hy:∀w,(execOp a.eval oi).run P w = .ok (.value v) w)
    (h:anyW P md ops Q W S n (l.setIfInBounds i true) (a.put oi.dst v) w):anyW P md ops Q W S (n+1) l a w :=
 firstY hi (Region.noSelect_spec hs) hQ n l a w (Region.free_spec hi hf) (by simpa using hr) (.inl ⟨hwant,fun w _=>hy w⟩) h
theorem take {i:Nat} {oi:Oper} {v:Value} {n:Nat} {l:Array Bool} {a:Act} {w:World} (hi:ops[i]?=some oi)
    (hs:Region.noSelect ops=true) (hl:lateB md ops W i=true) (hc:closedB md ops l=true) (hf:Region.free md ops l i=true) (hr:(Region.ready md ops l).contains i=true)
    (hQ:∀c a w,Q (.panic c) (a.put oi.dst v) w→Q (.panic c) a w) (hS:S w) (hwant:Region.wanted oi (yielded ops a.tmps)=true) (hy:∀w,S w→(execOp a.eval oi).run P w = .ok (.value v) w)
    (h:anyW P md ops Q W S n (l.setIfInBounds i true) (a.put oi.dst v) w):anyW P md ops Q W S (n+1) l a w :=
 first hi (Region.noSelect_spec hs) hQ hl n l a w (closed_of hc) (Region.free_spec hi hf) (by simpa using hr) (.inl ⟨hwant,hy⟩) hS h
theorem skip {i:Nat} {oi:Oper} {n:Nat} {l:Array Bool} {a:Act} {w:World} (hi:ops[i]?=some oi)
    (hs:Region.noSelect ops=true) (hf:Region.free md ops l i=true) (hr:(Region.ready md ops l).contains i=true)
    (hQ:∀c a w,Q (.panic c) (a.put oi.dst undef) w→Q (.panic c) a w) (hwant:Region.wanted oi (yielded ops a.tmps)=false)
    (h:anyW P md ops Q W S n (l.setIfInBounds i true) (a.put oi.dst undef) w):anyW P md ops Q W S (n+1) l a w :=
 firstY hi (Region.noSelect_spec hs) hQ n l a w (Region.free_spec hi hf) (by simpa using hr) (.inr ⟨hwant,rfl⟩) h
theorem all {rs:List Nat} {n:Nat} {l:Array Bool} {a:Act} {w:World} (hr:Region.ready md ops l=rs) (hne:rs≠[])
    (h:∀i∈rs,wpOp P ops Q i (fun a' w'=>(W i=true→S w→S w')∧anyW P md ops Q W S n (l.setIfInBounds i true) a' w') a w):anyW P md ops Q W S (n+1) l a w :=
 ⟨fun h0=>absurd (hr ▸ h0) hne,hr ▸ h⟩
theorem one {i:Nat} {o:Oper} {K:Act→World→Prop} {a:Act} {w:World} (ho:ops[i]?=some o) (hw:Region.wanted o (yielded ops a.tmps)=true) (h:Oper.wp P o a w K Q):wpOp P ops Q i K a w:=by
 unfold wpOp;simp only[ho,hw,if_true];exact .inl h
theorem done {l:Array Bool} {a:Act} {w:World} (hr:Region.ready md ops l=[]) (h:Q .normal a w):∀n,anyW P md ops Q W S n l a w
 | 0=>⟨hr,h⟩
 | _+1=>⟨fun _=>h,by rw[hr];simp⟩
theorem begin' {id:Nat} {a:Act} {w:World} (hm:P.follows .mixedOrders=true) (h:anyW P .any ops Q W S ops.size (Array.replicate ops.size false) a w.drew):(Code.region id ops true).wp P Q a w :=
 wp_region_any hm (any_of_W _ _ _ _ h)
end
end Go.Proofs.YtfogfaagjpebcaaGreatDoor.Reg
namespace Go.Proofs.YtfogfaagjpebcaaGreatDoor.Reg
open Go Go.RowKit
section
variable {P:Program} {ops:Array Oper} {Q:Exit→Act→World→Prop} {md:Region.Mode} {S:World→Prop} {W:Nat→Bool}
theorem ty (i:Nat) {oi:Oper} {v:Value} {n:Nat} {l:Array Bool} {a b:Act} {w:World} (h:anyW P md ops Q W S n (l.setIfInBounds i true) b w)
    (hi:ops[i]?=some oi:=by rfl) (hs:Region.noSelect ops=true:=by kernel_rfl) (hf:Region.free md ops l i=true:=by kernel_rfl) (hr:(Region.ready md ops l).contains i=true:=by kernel_rfl)
    (hQ:∀c a w,Q (.panic c) (a.put oi.dst v) w→Q (.panic c) a w:=by exact fun _ _ _ h=>h) (hwant:Region.wanted oi (yielded ops a.tmps)=true:=by rfl)
    (hy:∀w,(execOp a.eval oi).run P w = .ok (.value v) w:=by (intro w;go_simp;try with_reducible rfl)) (hb:a.put oi.dst v=b:=by ((try simp only[Act.put,List.getElem_toArray,List.getElem_cons_succ,List.getElem_cons_zero,List.setIfInBounds_toArray,List.set_cons_zero,List.set_cons_succ]);try rfl)):anyW P md ops Q W S (n+1) l a w:=by
 subst hb;exact takeY hi hs hf hr hQ hwant hy h
theorem tl (i:Nat) {oi:Oper} {v:Value} {n:Nat} {l:Array Bool} {a b:Act} {w:World} (hS:S w) (h:anyW P md ops Q W S n (l.setIfInBounds i true) b w)
    (hi:ops[i]?=some oi:=by rfl) (hs:Region.noSelect ops=true:=by kernel_rfl) (hl:lateB md ops W i=true:=by kernel_rfl) (hc:closedB md ops l=true:=by kernel_rfl) (hf:Region.free md ops l i=true:=by kernel_rfl) (hr:(Region.ready md ops l).contains i=true:=by kernel_rfl)
    (hQ:∀c a w,Q (.panic c) (a.put oi.dst v) w→Q (.panic c) a w:=by exact fun _ _ _ h=>h) (hwant:Region.wanted oi (yielded ops a.tmps)=true:=by rfl)
    (hy:∀w,S w→(execOp a.eval oi).run P w = .ok (.value v) w) (hb:a.put oi.dst v=b:=by ((try simp only[Act.put,List.getElem_toArray,List.getElem_cons_succ,List.getElem_cons_zero,List.setIfInBounds_toArray,List.set_cons_zero,List.set_cons_succ]);try rfl)):anyW P md ops Q W S (n+1) l a w:=by
 subst hb;exact take hi hs hl hc hf hr hQ hS hwant hy h
theorem sk (i:Nat) {oi:Oper} {n:Nat} {l:Array Bool} {a b:Act} {w:World} (h:anyW P md ops Q W S n (l.setIfInBounds i true) b w)
    (hi:ops[i]?=some oi:=by rfl) (hs:Region.noSelect ops=true:=by kernel_rfl) (hf:Region.free md ops l i=true:=by kernel_rfl) (hr:(Region.ready md ops l).contains i=true:=by kernel_rfl)
    (hQ:∀c a w,Q (.panic c) (a.put oi.dst undef) w→Q (.panic c) a w:=by exact fun _ _ _ h=>h) (hwant:Region.wanted oi (yielded ops a.tmps)=false:=by rfl)
    (hb:a.put oi.dst undef=b:=by ((try simp only[Act.put,List.getElem_toArray,List.getElem_cons_succ,List.getElem_cons_zero,List.setIfInBounds_toArray,List.set_cons_zero,List.set_cons_succ]);try rfl)):anyW P md ops Q W S (n+1) l a w:=by
 subst hb;exact skip hi hs hf hr hQ hwant h
end
end Go.Proofs.YtfogfaagjpebcaaGreatDoor.Reg
namespace Go.Proofs.YtfogfaagjpebcaaGreatDoor.Reg
open Go Go.RowKit
section
variable {P:Program} {ops:Array Oper} {Q:Exit→Act→World→Prop} {md:Region.Mode} {S:World→Prop} {W:Nat→Bool}
theorem on (i:Nat) {oi:Oper} {n:Nat} {l:Array Bool} {a:Act} {w:World} (h:Oper.wp P oi a w (fun a' w'=>(W i=true→S w→S w')∧anyW P md ops Q W S n (l.setIfInBounds i true) a' w') Q)
    (hi:ops[i]?=some oi:=by rfl) (hr:Region.ready md ops l=[i]:=by kernel_rfl) (hw:Region.wanted oi (yielded ops a.tmps)=true:=by rfl):anyW P md ops Q W S (n+1) l a w :=
 all hr (by simp) fun j hj=>by obtain rfl:=List.mem_singleton.1 hj;exact one hi hw h
theorem pt {n:Nat} {l:Array Bool} {a b:Act} {w:World} (h:anyW P md ops Q W S n l b w) (hb:a=b:=by ((try simp only[Act.put,List.setIfInBounds_toArray,List.set_cons_zero,List.set_cons_succ]);rfl)):anyW P md ops Q W S n l a w:=by
 subst hb;exact h
end
end Go.Proofs.YtfogfaagjpebcaaGreatDoor.Reg
namespace Go.Proofs.YtfogfaagjpebcaaGreatDoor
open Go.RowKit
def AbidesC {β : Type} (C:Nat→Prop) (J : β → World→Prop):Prop :=
 ∀s W W' row,J s W→W.grownBy W' row→(∀r,row=some r→C r)→J s W'
def KeepC (C:Nat→Prop) (A B:World):Prop:=∀r,C r→B.heap[r]?=A.heap[r]?
def TurnsC {β : Type} (C:Nat→Prop) (B:Nat) (I : β → World→Prop):Prop :=
 ∀s W W' row,I s W→W.grownBy W' row→(∀r,row=some r→C r∨(B≤r∧∃o:Obj,W.heap[r]?=some o∧o.isCells=false))→I s W'
theorem TurnsC.from {β : Type} {C:Nat→Prop} {B:Nat} {I : β → World→Prop} (h:TurnsC C B I):OwnFrom B I:=fun s W W' row hs hg hr=>h s W W' row hs hg (fun r e => .inr (hr r e))
def SeqC {α : Type} (F:Fence) (n:Nat) (P:Program) (g:Nat) (lb:Array Value) (encs : α → Array Value) (S Sp:List α → Prop) (N:Nat) (C:Nat→Prop) (w:World):Prop :=
 ∀(l:Nat) (J Jx:List α → World→Prop) (W:World),Below w.heap.size w W→AbidesC C J→AbidesC C Jx →
  (∀pre x W1,J pre W1→pre.length<N→YieldAt F (n-1) P l (encs x) W1 fun e W' =>
   (e = .returned (.bool true)∧J (pre++[x]) W'∧KeepC C W1 W')∨(e = .returned (.bool false)∧Jx (pre++[x]) W')) →
  J [] W →
  CallsIn F n P g (#[.func (.yield l) #[] #[]]++lb) W fun e W'=>(∃v,e = .returned v)∧((∃xs,S xs∧J xs W')∨(∃pre,Sp pre∧Jx pre W'))
theorem range_own {α : Type} {F:Fence} {n:Nat} {P:Program} {g:Operand} {ps:Array Tmp} {assign body:Code} {Q:Exit→Act→World→Prop} {a:Act} {w:World}
    {C:Nat→Prop} (hC:∀r,C r→r<w.heap.size)
    (hro:F.round=none) (h1:1≤n) {gf:Nat} {lb:Array Value} (hg:a.eval g = .func (.func gf) #[] lb) (hFg:F.fn gf) (eg:∀args w,(callFunc gf args).run P w = .ok (.enter gf args) w)
    {encs : α → Array Value} {S Sp:List α → Prop} {N:Nat} (hseq:SeqC F (n-1) P gf lb encs S Sp N C w) (hps:∀x,(encs x).size=ps.size)
    (I:List α → World→Prop) (Ix:Code→List α → World→Prop) (hI:TurnsC C w.heap.size I) (hIx:∀c,TurnsC C w.heap.size (Ix c)) (h0:I [] w) (a₁ : α → Act)
    (hassign:∀(l:Nat) (x : α) (W:World) (K:Act→World→Prop),K (a₁ x) W →
     assign.wpIn (F.inRound l) (n-1-1) P (Exit.then K (fun _ _ _=>False)) { tmps:=(ps.zip (encs x)).foldl (fun t (p,v)=>t.setIfInBounds p v) a.tmps,defers:=[] } W)
    (hbody:∀(l:Nat) (pre:List α) (x : α) (W:World),I pre W→pre.length<N→body.wpIn (F.inRound l) (n-1-1) P (ownPostK (KeepC C) I Ix (pre++[x]) W) (a₁ x) W)
    (hdone:∀(D:Nat) (xs:List α) (W:World),w.heap.size≤D→S xs→I xs W→W.heap[D]?=some (.deferred (some []))→Q .normal { a with defers:={ target := .collected D,args:=#[] }::a.defers } W)
    (hstop:∀(D:Nat) (c:Code) (pre:List α) (W:World),w.heap.size≤D→Sp pre→Ix c pre W→W.heap[D]?=some (.deferred (some []))→c.wpIn F n P Q { a with defers:={ target := .collected D,args:=#[] }::a.defers } W) :
    (Code.rangeFunc g ps assign body).wpIn F n P Q a w:=by
 have oI:=hI.from
 have oX:=fun c=>(hIx c).from
 refine wpIn_rangeFunc fun fn hfn=>?_
 rw[hro];obtain⟨rec,hrec⟩:∃rec:LoopState→Option Code→Loop,rec=fun st pe=>{ state:=st,pending:=pe,fn,tmps:=a.tmps,params:=ps,assign,body,defers:=w.heap.size }:=⟨_,rfl⟩
 obtain⟨W1,hW1⟩:∃W1,(w.alloc (.deferred (some []))).alloc (.loop (rec .ready none))=W1:=⟨_,rfl⟩
 have hL1:W1.heap[w.heap.size+1]?=some (.loop (rec .ready none)):=by
  have e:=World.alloc_heap_new (w.alloc (.deferred (some []))) (.loop (rec .ready none));rw[World.size_alloc,hW1]at e;exact e
 have hK1:W1.heap[w.heap.size]?=some (.deferred (some [])):=by
  rw[←hW1];exact (Below.heap_alloc _ _ _ (by simp)).trans (World.alloc_heap_new w _)
 have hI1:I [] W1:=by rw[←hW1];exact oI.alloc _ (oI.alloc _ h0)
 have hb1:Below w.heap.size w W1:=by
  rw[←hW1];exact ((Below.refl _ w).alloc (Nat.le_refl _) _).alloc (by simp) _
 have hkeep:∀ {A B:World} {row:Option Nat} {k:Nat} {o:Obj},A.grownBy B row→(∀r,row=some r→C r)→w.heap.size≤k→A.heap[k]?=some o→B.heap[k]?=some o :=
  fun hg' hr hk ho=>(hg'.block _ (Array.getElem?_eq_some_iff.1 ho).1 (fun e=>by have:=hC _ (hr _ e.symm);omega)).trans ho
 have hput:∀(W:World) (l:Nat) (o':Obj),w.heap.size≤l→KeepC C W (W.putObj l o') :=
  fun W l o' hl r hr=>World.putObj_heap_other (by have:=hC r hr;omega)
 refine⟨w.heap.size+1,[{ target := .collected w.heap.size,args:=#[] }],W1,{ target := .fn (.func gf) lb,args:=#[.func (.yield (w.heap.size+1)) #[] #[]] },W1,gf,
  #[.func (.yield (w.heap.size+1)) #[] #[]]++lb,W1,?_,?_,?_,?_,fun _=>h1,?_⟩
 · rw[←hW1,hrec];exact run_enterLoop_outer _ _ _ _ _
 · simp only[resolve,hg];simp[go_sem]
 · intro f' hf';simp[Target.leads]at hf';subst hf';exact hFg
 · simp[invoke,go_sem,eg]
 refine (hseq (w.heap.size+1)
  (fun pre W=>I pre W∧W.heap[w.heap.size+1]?=some (.loop (rec .ready none))∧W.heap[w.heap.size]?=some (.deferred (some [])))
  (fun pre W=>∃c,Ix c pre W∧W.heap[w.heap.size+1]?=some (.loop (rec .done (some c)))∧W.heap[w.heap.size]?=some (.deferred (some [])))
  W1 hb1
  (fun s A B row hs hg' hr=>⟨hI s A B row hs.1 hg' (fun r e => .inl (hr r e)),hkeep hg' hr (by omega) hs.2.1,hkeep hg' hr (Nat.le_refl _) hs.2.2⟩)
  (fun s A B row hs hg' hr=>by
   obtain⟨c,hc,hl,hk⟩:=hs;exact⟨c,hIx c s A B row hc hg' (fun r e => .inl (hr r e)),hkeep hg' hr (by omega) hl,hkeep hg' hr (Nat.le_refl _) hk⟩)
  ?_ ⟨hI1,hL1,hK1⟩).mono ?_
 · -- a round
   rintro pre x W ⟨hi,hl,hk⟩ hlen;have hlt:w.heap.size+1<W.heap.size:=(Array.getElem?_eq_some_iff.1 hl).1;have hy:=run_yield (P:=P) (args:=encs x) hl (by rw[hrec];exact hps x);rw[hrec]at hy;refine⟨fn,_,assign,body,hy,roundIn_of_wpIn hfn (hassign _ x W _ ⟨_,run_beginRound hl (by rw[hrec]),?_⟩)⟩;obtain⟨W2,hW2⟩:∃W2,W.putObj (w.heap.size+1) (.loop { rec .ready none with state := .busy })=W2:=⟨_,rfl⟩
   have hl2:W2.heap[w.heap.size+1]?=some (.loop { rec .ready none with state := .busy }):=by rw[←hW2];exact World.putObj_heap_same hlt
   have hk2:W2.heap[w.heap.size]?=some (.deferred (some [])):=by rw[←hW2];exact (World.putObj_heap_other (by omega)).trans hk
   have hi2:I pre W2:=by rw[←hW2];exact oI.putObj _ hi (by omega) hl rfl
   have hw2:KeepC C W W2:=by rw[←hW2];exact hput _ _ _ (by omega)
   show body.wpIn _ _ _ _ _ (W.putObj (w.heap.size+1) (.loop { rec .ready none with state := .busy }));rw[hW2];refine wpIn_mono (hbody _ pre x _ hi2 hlen) ?_;have fin:∀(jump:Option Code) (W3:World),KeepsOthers W2 W3 →
       W3.heap[w.heap.size+1]?=some (.loop { rec .ready none with state := .busy }) ∧
       (Instr.endRound (w.heap.size+1) jump).run P W3 = .ok (.bool jump.isNone) (W3.putObj (w.heap.size+1) (.loop (rec (if jump.isNone then .ready else .done) jump))) ∧
       (W3.putObj (w.heap.size+1) (.loop (rec (if jump.isNone then .ready else .done) jump))).heap[w.heap.size+1]?=some (.loop (rec (if jump.isNone then .ready else .done) jump)) ∧
       (W3.putObj (w.heap.size+1) (.loop (rec (if jump.isNone then .ready else .done) jump))).heap[w.heap.size]?=some (.deferred (some [])):=fun jump W3 hk3=>by
    have hl3:=hk3.same _ _ hl2 rfl;have e:=run_endRound (P:=P) jump hl3;rw[hrec]at e hl3 ⊢;exact⟨hl3,e,World.putObj_heap_same (Array.getElem?_eq_some_iff.1 hl3).1,(World.putObj_heap_other (by omega)).trans (hk3.same _ _ hk2 rfl)⟩
   have leave:∀(c:Code) (W3:World),KeepsOthers W2 W3→Ix c (pre++[x]) W3→∃b W4,(Instr.endRound (w.heap.size+1) (some c)).run P W3 = .ok b W4∧b = .bool false∧Ix c (pre++[x]) W4∧W4.heap[w.heap.size+1]?=some (.loop (rec .done (some c)))∧W4.heap[w.heap.size]?=some (.deferred (some [])):=fun c W3 hk3 hx=>by
    obtain⟨hl3,hr,hl4,hk4⟩:=fin (some c) W3 hk3;exact⟨_,_,hr,rfl,(oX c).putObj _ hx (by omega) hl3 rfl,hl4,hk4⟩
   rintro e a3 W3 hp;cases e with
   | normal =>
    obtain⟨hk3,hkp3,hi3⟩:=hp;obtain⟨hl3,hr,hl4,hk4⟩:=fin none W3 hk3;exact⟨_,_,hr,.inl ⟨rfl,⟨oI.putObj _ hi3 (by omega) hl3 rfl,hl4,hk4⟩,fun r hC'=>((hput _ _ _ (by omega)) r hC').trans ((hkp3 r hC').trans (hw2 r hC'))⟩⟩
   | ret =>
    obtain⟨b,W4,hr,rfl,h4⟩:=leave .ret W3 hp.1 hp.2;exact⟨_,_,hr,.inr ⟨rfl,.ret,h4⟩⟩
   | exit id =>
    obtain⟨b,W4,hr,rfl,h4⟩:=leave (.exit id) W3 hp.1 hp.2;exact⟨_,_,hr,.inr ⟨rfl,.exit id,h4⟩⟩
   | goto t =>
    obtain⟨b,W4,hr,rfl,h4⟩:=leave (.goto t) W3 hp.1 hp.2;exact⟨_,_,hr,.inr ⟨rfl,.goto t,h4⟩⟩
   | panic ch=>exact hp.elim
   | outgrown=>exact hp.elim
 -- behind the iterator
 rintro e W2 ⟨⟨v,rfl⟩,(⟨xs,hS,hi,hl,hk⟩|⟨pre,hSp,c,hi,hl,hk⟩)⟩
 · exact⟨none,_,by have:=run_endLoop (P:=P) hl (by rw[hrec];simp);rw[hrec]at this;exact this,hdone _ xs _ (Nat.le_refl _) hS (oI.putObj _ hi (by omega) hl rfl) ((World.putObj_heap_other (by omega)).trans hk)⟩
 exact⟨some c,_,by have:=run_endLoop (P:=P) hl (by rw[hrec];simp);rw[hrec]at this;exact this,hstop _ c pre _ (Nat.le_refl _) hSp ((oX c).putObj _ hi (by omega) hl rfl) ((World.putObj_heap_other (by omega)).trans hk)⟩
end Go.Proofs.YtfogfaagjpebcaaGreatDoor
