/-
 The walks and plain laws that the claim rests on, part 15.
-/
import Derived.Test.YtdgjgcepbkanhaaGreatDoorM05
import Derived.RangeFuncNested
import Derived.RangeFuncBound
import Derived.RangeFuncCalls
import Derived.RangeFuncLeaves
import Derived.RangeFuncWrites
import Derived.Shelf.Abstract
import Derived.WalkKit
import Derived.OwnWalkIn
import Derived.TacticsInMore
import Derived.LoopNIn
import Derived.LoopIn
set_option maxHeartbeats 16000000
set_option linter.all false
set_option linter.unusedVariables false
set_option linter.unusedSimpArgs false
namespace Go.Proofs.YtdgjgcepbkanhaaGreatDoor
open Go.RowKit
def AbidesC {β : Type} (C:Nat→Prop) (J : β → World→Prop):Prop :=
 ∀s W W' row,J s W→W.grownBy W' row→(∀r,row=some r→C r)→J s W'
def KeepC (C:Nat→Prop) (A B:World):Prop:=∀r,C r→B.heap[r]?=A.heap[r]?
def TurnsC {β : Type} (C:Nat→Prop) (B:Nat) (I : β → World→Prop):Prop :=
 ∀s W W' row,I s W→W.grownBy W' row→(∀r,row=some r→C r∨(B≤r∧∃o:Obj,W.heap[r]?=some o∧o.isCells=false))→I s W'
theorem TurnsC.from {β : Type} {C:Nat→Prop} {B:Nat} {I : β → World→Prop} (h:TurnsC C B I):OwnFrom B I:=fun s W W' row hs hg hr=>h s W W' row hs hg (fun r e => .inr (hr r e))
def SeqC {α : Type} (F:Fence) (n:Nat) (P:Program) (g:Nat) (lb:Array Value) (encs : α → Array Value) (S Sp:List α → Prop) (N:Nat) (C:Nat→Prop) (w:World):Prop :=
 ∀(l:Nat) (J Jx:List α → World→Prop) (W:World),Below w.heap.size w W→AbidesC C J→AbidesC C Jx →
  (∀pre x W1,J pre W1→pre.length<N→YieldAt F (n-1) P l (encs x) W1 fun e W' =>
   (e = .returned (.bool true)∧J (pre++[x]) W'∧KeepC C W1 W')∨(e = .returned (.bool false)∧Jx (pre++[x]) W')) →
  J [] W →
  CallsIn F n P g (#[.func (.yield l) #[] #[]]++lb) W fun e W'=>(∃v,e = .returned v)∧((∃xs,S xs∧J xs W')∨(∃pre,Sp pre∧Jx pre W'))
theorem range_own {α : Type} {F:Fence} {n:Nat} {P:Program} {g:Operand} {ps:Array Tmp} {assign body:Code} {Q:Exit→Act→World→Prop} {a:Act} {w:World}
    {C:Nat→Prop} (hC:∀r,C r→r<w.heap.size)
    (hro:F.round=none) (h1:1≤n) {gf:Nat} {lb:Array Value} (hg:a.eval g = .func (.func gf) #[] lb) (hFg:F.fn gf) (eg:∀args w,(callFunc gf args).run P w = .ok (.enter gf args) w)
    {encs : α → Array Value} {S Sp:List α → Prop} {N:Nat} (hseq:SeqC F (n-1) P gf lb encs S Sp N C w) (hps:∀x,(encs x).size=ps.size)
    (I:List α → World→Prop) (Ix:Code→List α → World→Prop) (hI:TurnsC C w.heap.size I) (hIx:∀c,TurnsC C w.heap.size (Ix c)) (h0:I [] w) (a₁ : α → Act)
    (hassign:∀(l:Nat) (x : α) (W:World) (K:Act→World→Prop),K (a₁ x) W →
     assign.wpIn (F.inRound l) (n-1-1) P (Exit.then K (fun _ _ _=>False)) { tmps:=(ps.zip (encs x)).foldl (fun t (p,v)=>t.setIfInBounds p v) a.tmps,defers:=[] } W)
    (hbody:∀(l:Nat) (pre:List α) (x : α) (W:World),I pre W→pre.length<N→body.wpIn (F.inRound l) (n-1-1) P (ownPostK (KeepC C) I Ix (pre++[x]) W) (a₁ x) W)
    (hdone:∀(D:Nat) (xs:List α) (W:World),w.heap.size≤D→S xs→I xs W→W.heap[D]?=some (.deferred (some []))→Q .normal { a with defers:={ target := .collected D,args:=#[] }::a.defers } W)
    (hstop:∀(D:Nat) (c:Code) (pre:List α) (W:World),w.heap.size≤D→Sp pre→Ix c pre W→W.heap[D]?=some (.deferred (some []))→c.wpIn F n P Q { a with defers:={ target := .collected D,args:=#[] }::a.defers } W) :
    (Code.rangeFunc g ps assign body).wpIn F n P Q a w:=by
 have oI:=hI.from
 have oX:=fun c=>(hIx c).from
 refine wpIn_rangeFunc fun fn hfn=>?_
 rw[hro];obtain⟨rec,hrec⟩:∃rec:LoopState→Option Code→Loop,rec=fun st pe=>{ state:=st,pending:=pe,fn,tmps:=a.tmps,params:=ps,assign,body,defers:=w.heap.size }:=⟨_,rfl⟩
 obtain⟨W1,hW1⟩:∃W1,(w.alloc (.deferred (some []))).alloc (.loop (rec .ready none))=W1:=⟨_,rfl⟩
 have hL1:W1.heap[w.heap.size+1]?=some (.loop (rec .ready none)):=by
  have e:=World.alloc_heap_new (w.alloc (.deferred (some []))) (.loop (rec .ready none));rw[World.size_alloc,hW1]at e;exact e
 have hK1:W1.heap[w.heap.size]?=some (.deferred (some [])):=by
  rw[←hW1];exact (Below.heap_alloc _ _ _ (by simp)).trans (World.alloc_heap_new w _)
 have hI1:I [] W1:=by rw[←hW1];exact oI.alloc _ (oI.alloc _ h0)
 have hb1:Below w.heap.size w W1:=by
  rw[←hW1];exact ((Below.refl _ w).alloc (Nat.le_refl _) _).alloc (by simp) _
 have hkeep:∀ {A B:World} {row:Option Nat} {k:Nat} {o:Obj},A.grownBy B row→(∀r,row=some r→C r)→w.heap.size≤k→A.heap[k]?=some o→B.heap[k]?=some o :=
  fun hg' hr hk ho=>(hg'.block _ (Array.getElem?_eq_some_iff.1 ho).1 (fun e=>by have:=hC _ (hr _ e.symm);omega)).trans ho
 have hput:∀(W:World) (l:Nat) (o':Obj),w.heap.size≤l→KeepC C W (W.putObj l o') :=
  fun W l o' hl r hr=>World.putObj_heap_other (by have:=hC r hr;omega)
 refine⟨w.heap.size+1,[{ target := .collected w.heap.size,args:=#[] }],W1,{ target := .fn (.func gf) lb,args:=#[.func (.yield (w.heap.size+1)) #[] #[]] },W1,gf,
  #[.func (.yield (w.heap.size+1)) #[] #[]]++lb,W1,?_,?_,?_,?_,fun _=>h1,?_⟩
 · rw[←hW1,hrec];exact run_enterLoop_outer _ _ _ _ _
 · simp only[resolve,hg];simp[go_sem]
 · intro f' hf';simp[Target.leads]at hf';subst hf';exact hFg
 · simp[invoke,go_sem,eg]
 refine (hseq (w.heap.size+1)
  (fun pre W=>I pre W∧W.heap[w.heap.size+1]?=some (.loop (rec .ready none))∧W.heap[w.heap.size]?=some (.deferred (some [])))
  (fun pre W=>∃c,Ix c pre W∧W.heap[w.heap.size+1]?=some (.loop (rec .done (some c)))∧W.heap[w.heap.size]?=some (.deferred (some [])))
  W1 hb1
  (fun s A B row hs hg' hr=>⟨hI s A B row hs.1 hg' (fun r e => .inl (hr r e)),hkeep hg' hr (by omega) hs.2.1,hkeep hg' hr (Nat.le_refl _) hs.2.2⟩)
  (fun s A B row hs hg' hr=>by
   obtain⟨c,hc,hl,hk⟩:=hs;exact⟨c,hIx c s A B row hc hg' (fun r e => .inl (hr r e)),hkeep hg' hr (by omega) hl,hkeep hg' hr (Nat.le_refl _) hk⟩)
  ?_ ⟨hI1,hL1,hK1⟩).mono ?_
 · -- a round
   rintro pre x W ⟨hi,hl,hk⟩ hlen;have hlt:w.heap.size+1<W.heap.size:=(Array.getElem?_eq_some_iff.1 hl).1;have hy:=run_yield (P:=P) (args:=encs x) hl (by rw[hrec];exact hps x);rw[hrec]at hy;refine⟨fn,_,assign,body,hy,roundIn_of_wpIn hfn (hassign _ x W _ ⟨_,run_beginRound hl (by rw[hrec]),?_⟩)⟩;obtain⟨W2,hW2⟩:∃W2,W.putObj (w.heap.size+1) (.loop { rec .ready none with state := .busy })=W2:=⟨_,rfl⟩
   have hl2:W2.heap[w.heap.size+1]?=some (.loop { rec .ready none with state := .busy }):=by rw[←hW2];exact World.putObj_heap_same hlt
   have hk2:W2.heap[w.heap.size]?=some (.deferred (some [])):=by rw[←hW2];exact (World.putObj_heap_other (by omega)).trans hk
   have hi2:I pre W2:=by rw[←hW2];exact oI.putObj _ hi (by omega) hl rfl
   have hw2:KeepC C W W2:=by rw[←hW2];exact hput _ _ _ (by omega)
   show body.wpIn _ _ _ _ _ (W.putObj (w.heap.size+1) (.loop { rec .ready none with state := .busy }));rw[hW2];refine wpIn_mono (hbody _ pre x _ hi2 hlen) ?_;have fin:∀(jump:Option Code) (W3:World),KeepsOthers W2 W3 →
       W3.heap[w.heap.size+1]?=some (.loop { rec .ready none with state := .busy }) ∧
       (Instr.endRound (w.heap.size+1) jump).run P W3 = .ok (.bool jump.isNone) (W3.putObj (w.heap.size+1) (.loop (rec (if jump.isNone then .ready else .done) jump))) ∧
       (W3.putObj (w.heap.size+1) (.loop (rec (if jump.isNone then .ready else .done) jump))).heap[w.heap.size+1]?=some (.loop (rec (if jump.isNone then .ready else .done) jump)) ∧
       (W3.putObj (w.heap.size+1) (.loop (rec (if jump.isNone then .ready else .done) jump))).heap[w.heap.size]?=some (.deferred (some [])):=fun jump W3 hk3=>by
    have hl3:=hk3.same _ _ hl2 rfl;have e:=run_endRound (P:=P) jump hl3;rw[hrec]at e hl3 ⊢;exact⟨hl3,e,World.putObj_heap_same (Array.getElem?_eq_some_iff.1 hl3).1,(World.putObj_heap_other (by omega)).trans (hk3.same _ _ hk2 rfl)⟩
   have leave:∀(c:Code) (W3:World),KeepsOthers W2 W3→Ix c (pre++[x]) W3→∃b W4,(Instr.endRound (w.heap.size+1) (some c)).run P W3 = .ok b W4∧b = .bool false∧Ix c (pre++[x]) W4∧W4.heap[w.heap.size+1]?=some (.loop (rec .done (some c)))∧W4.heap[w.heap.size]?=some (.deferred (some [])):=fun c W3 hk3 hx=>by
    obtain⟨hl3,hr,hl4,hk4⟩:=fin (some c) W3 hk3;exact⟨_,_,hr,rfl,(oX c).putObj _ hx (by omega) hl3 rfl,hl4,hk4⟩
   rintro e a3 W3 hp;cases e with
   | normal =>
    obtain⟨hk3,hkp3,hi3⟩:=hp;obtain⟨hl3,hr,hl4,hk4⟩:=fin none W3 hk3;exact⟨_,_,hr,.inl ⟨rfl,⟨oI.putObj _ hi3 (by omega) hl3 rfl,hl4,hk4⟩,fun r hC'=>((hput _ _ _ (by omega)) r hC').trans ((hkp3 r hC').trans (hw2 r hC'))⟩⟩
   | ret =>
    obtain⟨b,W4,hr,rfl,h4⟩:=leave .ret W3 hp.1 hp.2;exact⟨_,_,hr,.inr ⟨rfl,.ret,h4⟩⟩
   | exit id =>
    obtain⟨b,W4,hr,rfl,h4⟩:=leave (.exit id) W3 hp.1 hp.2;exact⟨_,_,hr,.inr ⟨rfl,.exit id,h4⟩⟩
   | goto t =>
    obtain⟨b,W4,hr,rfl,h4⟩:=leave (.goto t) W3 hp.1 hp.2;exact⟨_,_,hr,.inr ⟨rfl,.goto t,h4⟩⟩
   | panic ch=>exact hp.elim
   | outgrown=>exact hp.elim
 -- behind the iterator
 rintro e W2 ⟨⟨v,rfl⟩,(⟨xs,hS,hi,hl,hk⟩|⟨pre,hSp,c,hi,hl,hk⟩)⟩
 · exact⟨none,_,by have:=run_endLoop (P:=P) hl (by rw[hrec];simp);rw[hrec]at this;exact this,hdone _ xs _ (Nat.le_refl _) hS (oI.putObj _ hi (by omega) hl rfl) ((World.putObj_heap_other (by omega)).trans hk)⟩
 exact⟨some c,_,by have:=run_endLoop (P:=P) hl (by rw[hrec];simp);rw[hrec]at this;exact this,hstop _ c pre _ (Nat.le_refl _) hSp ((oX c).putObj _ hi (by omega) hl rfl) ((World.putObj_heap_other (by omega)).trans hk)⟩
end Go.Proofs.YtdgjgcepbkanhaaGreatDoor
