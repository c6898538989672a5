/-
 The walks and plain laws that the claim rests on, part 19.
-/
import Derived.Test.YtdgjgcepbkanhaaGreatDoorM15
set_option maxHeartbeats 16000000
set_option linter.all false
set_option linter.unusedVariables false
set_option linter.unusedSimpArgs false
namespace Go.Proofs.YtdgjgcepbkanhaaGreatDoor
open Go.RowKit
def KeepN (W0 A B:World):Prop:=∀r,W0.heap.size≤r→r<A.heap.size→B.heap[r]?=A.heap[r]?
def Brings (C:Nat→Prop) (B:Nat) (W0 W:World):Prop:=∀Z:World→Prop,TurnsC C B (fun _:Unit=>Z)→Z W0→Z W
end Go.Proofs.YtdgjgcepbkanhaaGreatDoor
namespace Go.Proofs.YtdgjgcepbkanhaaGreatDoor
open Go.RowKit
def SeqK {α : Type} (KR:World→World→Prop) (F:Fence) (n:Nat) (P:Program) (g:Nat) (lb:Array Value) (encs : α → Array Value) (G:List α → α → World→World→Prop) (S Sp:List α → Prop) (N:Nat) (C:Nat→Prop) (w:World):Prop :=
 ∀(l:Nat) (J Jx:List α → World→Prop) (W:World),Below w.heap.size w W→AbidesC C J→AbidesC C Jx →
  (∀pre x W0 W1,J pre W0→Below W0.heap.size W0 W1→pre.length<N→G pre x W0 W1→YieldAt F (n-1) P l (encs x) W1 fun e W' =>
   (e = .returned (.bool true)∧J (pre++[x]) W'∧KR W1 W'∧KeepN W0 W1 W')∨(e = .returned (.bool false)∧Jx (pre++[x]) W')) →
  J [] W →
  CallsIn F n P g (#[.func (.yield l) #[] #[]]++lb) W fun e W'=>(∃v,e = .returned v)∧((∃xs,S xs∧J xs W')∨(∃pre,Sp pre∧Jx pre W'))
theorem range_ownK {α : Type} {F:Fence} {n:Nat} {P:Program} {g:Operand} {ps:Array Tmp} {assign body:Code} {Q:Exit→Act→World→Prop} {a:Act} {w:World}
    {C:Nat→Prop} (hC:∀r,C r→r<w.heap.size) {KR:World→World→Prop} (hKt:∀a b c,KR a b→KR b c→KR a c) (hKput:∀(W:World) (l:Nat) (o o':Obj),w.heap.size≤l→W.heap[l]?=some o→o.isCells=false→KR W (W.putObj l o'))
    (hro:F.round=none) (h1:1≤n) {gf:Nat} {lb:Array Value} (hg:a.eval g = .func (.func gf) #[] lb) (hFg:F.fn gf) (eg:∀args w,(callFunc gf args).run P w = .ok (.enter gf args) w)
    {encs : α → Array Value} {G:List α → α → World→World→Prop} {S Sp:List α → Prop} {N:Nat} (hseq:SeqK KR F (n-1) P gf lb encs G S Sp N C w) (hG:∀pre x W0,TurnsC C w.heap.size (fun _:Unit=>G pre x W0)) (hps:∀x,(encs x).size=ps.size)
    (I:List α → World→Prop) (Ix:Code→List α → World→Prop) (hI:TurnsC C w.heap.size I) (hIx:∀c,TurnsC C w.heap.size (Ix c)) (h0:I [] w) (a₁ : α → World→Act) (eff : α → World→World) (heff:∀x W,Below W.heap.size W (eff x W)) (hKeff:∀x W,w.heap.size≤W.heap.size→KR W (eff x W))
    (hassign:∀(l:Nat) (x : α) (W:World) (K:Act→World→Prop),K (a₁ x W) (eff x W) →
     assign.wpIn (F.inRound l) (n-1-1) P (Exit.then K (fun _ _ _=>False)) { tmps:=(ps.zip (encs x)).foldl (fun t (p,v)=>t.setIfInBounds p v) a.tmps,defers:=[] } W)
    (hbody:∀(l:Nat) (pre:List α) (x : α) (W0 We W:World),I pre W0→W0.heap.size≤We.heap.size→Brings C w.heap.size W0 We→Brings C w.heap.size (eff x We) W→(eff x We).heap.size≤W.heap.size→pre.length<N→G pre x W0 W→body.wpIn (F.inRound l) (n-1-1) P (ownPostK (fun A B=>KR A B∧KeepN W0 A B) I Ix (pre++[x]) W) (a₁ x We) W)
    (hdone:∀(D:Nat) (xs:List α) (W:World),w.heap.size≤D→S xs→I xs W→W.heap[D]?=some (.deferred (some []))→Q .normal { a with defers:={ target := .collected D,args:=#[] }::a.defers } W)
    (hstop:∀(D:Nat) (c:Code) (pre:List α) (W:World),w.heap.size≤D→Sp pre→Ix c pre W→W.heap[D]?=some (.deferred (some []))→c.wpIn F n P Q { a with defers:={ target := .collected D,args:=#[] }::a.defers } W) :
    (Code.rangeFunc g ps assign body).wpIn F n P Q a w:=by
 have oI:=hI.from
 have oX:=fun c=>(hIx c).from
 refine wpIn_rangeFunc fun fn hfn=>?_
 rw[hro];obtain⟨rec,hrec⟩:∃rec:LoopState→Option Code→Loop,rec=fun st pe=>{ state:=st,pending:=pe,fn,tmps:=a.tmps,params:=ps,assign,body,defers:=w.heap.size }:=⟨_,rfl⟩
 obtain⟨W1,hW1⟩:∃W1,(w.alloc (.deferred (some []))).alloc (.loop (rec .ready none))=W1:=⟨_,rfl⟩
 have hL1:W1.heap[w.heap.size+1]?=some (.loop (rec .ready none)):=by
  have e:=World.alloc_heap_new (w.alloc (.deferred (some []))) (.loop (rec .ready none));rw[World.size_alloc,hW1]at e;exact e
 have hK1:W1.heap[w.heap.size]?=some (.deferred (some [])):=by
  rw[←hW1];exact (Below.heap_alloc _ _ _ (by simp)).trans (World.alloc_heap_new w _)
 have hI1:I [] W1:=by rw[←hW1];exact oI.alloc _ (oI.alloc _ h0)
 have hb1:Below w.heap.size w W1:=by
  rw[←hW1];exact ((Below.refl _ w).alloc (Nat.le_refl _) _).alloc (by simp) _
 have hkeep:∀ {A B:World} {row:Option Nat} {k:Nat} {o:Obj},A.grownBy B row→(∀r,row=some r→C r)→w.heap.size≤k→A.heap[k]?=some o→B.heap[k]?=some o :=
  fun hg' hr hk ho=>(hg'.block _ (Array.getElem?_eq_some_iff.1 ho).1 (fun e=>by have:=hC _ (hr _ e.symm);omega)).trans ho
 refine⟨w.heap.size+1,[{ target := .collected w.heap.size,args:=#[] }],W1,{ target := .fn (.func gf) lb,args:=#[.func (.yield (w.heap.size+1)) #[] #[]] },W1,gf,
  #[.func (.yield (w.heap.size+1)) #[] #[]]++lb,W1,?_,?_,?_,?_,fun _=>h1,?_⟩
 · rw[←hW1,hrec];exact run_enterLoop_outer _ _ _ _ _
 · simp only[resolve,hg];simp[go_sem]
 · intro f' hf';simp[Target.leads]at hf';subst hf';exact hFg
 · simp[invoke,go_sem,eg]
 refine (hseq (w.heap.size+1)
  (fun pre W=>I pre W∧W.heap[w.heap.size+1]?=some (.loop (rec .ready none))∧W.heap[w.heap.size]?=some (.deferred (some [])))
  (fun pre W=>∃c,Ix c pre W∧W.heap[w.heap.size+1]?=some (.loop (rec .done (some c)))∧W.heap[w.heap.size]?=some (.deferred (some [])))
  W1 hb1
  (fun s A B row hs hg' hr=>⟨hI s A B row hs.1 hg' (fun r e => .inl (hr r e)),hkeep hg' hr (by omega) hs.2.1,hkeep hg' hr (Nat.le_refl _) hs.2.2⟩)
  (fun s A B row hs hg' hr=>by
   obtain⟨c,hc,hl,hk⟩:=hs;exact⟨c,hIx c s A B row hc hg' (fun r e => .inl (hr r e)),hkeep hg' hr (by omega) hl,hkeep hg' hr (Nat.le_refl _) hk⟩)
  ?_ ⟨hI1,hL1,hK1⟩).mono ?_
 · -- a round
   rintro pre x W0 W ⟨hi0,hl0,hk0⟩ hbel hlen hgx;have hgb:W0.grownBy W none:=⟨Below.os hbel,Below.tape hbel,Below.output hbel,Below.size hbel,fun k hk _=>Below.block hbel k hk⟩
   have hl:=hkeep hgb (fun r e=>by cases e) (by omega) hl0;have hk:=hkeep hgb (fun r e=>by cases e) (Nat.le_refl _) hk0;have hi:I pre W:=hI pre W0 W none hi0 hgb (fun r e=>by cases e);have hlt0:w.heap.size+1<W0.heap.size:=(Array.getElem?_eq_some_iff.1 hl0).1;have hlt:w.heap.size+1<W.heap.size:=(Array.getElem?_eq_some_iff.1 hl).1;have hy:=run_yield (P:=P) (args:=encs x) hl (by rw[hrec];exact hps x);rw[hrec]at hy;obtain⟨We,hWe⟩:∃We,eff x W=We:=⟨_,rfl⟩
   have hbe:Below W.heap.size W We:=by rw[←hWe];exact heff x W
   have hge:W.grownBy We none:=⟨Below.os hbe,Below.tape hbe,Below.output hbe,Below.size hbe,fun k hk _=>Below.block hbe k hk⟩
   have hsz:=hgb.size;have hse:=hge.size;have hle:=hkeep hge (fun r e=>by cases e) (by omega) hl;have hke:=hkeep hge (fun r e=>by cases e) (Nat.le_refl _) hk;have hie:I pre We:=hI pre W We none hi hge (fun r e=>by cases e);have hgxe:G pre x W0 We:=hG pre x W0 () W We none hgx hge (fun r e=>by cases e);have hKe:KR W We:=by rw[←hWe];exact hKeff x W (by omega)
   refine⟨fn,_,assign,body,hy,roundIn_of_wpIn hfn (hassign _ x W _ ?_)⟩;rw[hWe];refine⟨_,run_beginRound hle (by rw[hrec]),?_⟩;obtain⟨W2,hW2⟩:∃W2,We.putObj (w.heap.size+1) (.loop { rec .ready none with state := .busy })=W2:=⟨_,rfl⟩
   have hl2:W2.heap[w.heap.size+1]?=some (.loop { rec .ready none with state := .busy }):=by rw[←hW2];exact World.putObj_heap_same (Nat.lt_of_lt_of_le hlt hse)
   have hk2:W2.heap[w.heap.size]?=some (.deferred (some [])):=by rw[←hW2];exact (World.putObj_heap_other (by omega)).trans hke
   have hi2:I pre W2:=by rw[←hW2];exact oI.putObj _ hie (by omega) hle rfl
   have hw2:KR W W2:=by rw[←hW2];exact hKt _ _ _ hKe (hKput _ _ _ _ (by omega) hle rfl)
   have hn2:KeepN W0 W W2:=by rw[←hW2];exact fun r h1 h2=>(World.putObj_heap_other (by omega)).trans (hge.block r h2 (fun e=>by cases e))
   have hg2:G pre x W0 W2:=by rw[←hW2];exact (hG pre x W0).from.putObj (s:=()) _ hgxe (by omega) hle rfl
   have hb2:Brings C w.heap.size W0 W:=fun Z hZ hz=>hZ () W0 W none hz hgb (fun r e=>by cases e)
   have hb3:Brings C w.heap.size We W2:=by
    rw[←hW2];intro Z hZ hz;exact hZ.from.putObj (s:=()) _ hz (by omega) hle rfl
   have hs2:We.heap.size≤W2.heap.size:=by rw[←hW2];simp[World.putObj]
   show body.wpIn _ _ _ _ _ (We.putObj (w.heap.size+1) (.loop { rec .ready none with state := .busy }));rw[hW2];refine wpIn_mono (hbody _ pre x W0 W _ hi0 hsz hb2 (by rw[hWe];exact hb3) (by rw[hWe];exact hs2) hlen hg2) ?_;have fin:∀(jump:Option Code) (W3:World),KeepsOthers W2 W3 →
       W3.heap[w.heap.size+1]?=some (.loop { rec .ready none with state := .busy }) ∧
       (Instr.endRound (w.heap.size+1) jump).run P W3 = .ok (.bool jump.isNone) (W3.putObj (w.heap.size+1) (.loop (rec (if jump.isNone then .ready else .done) jump))) ∧
       (W3.putObj (w.heap.size+1) (.loop (rec (if jump.isNone then .ready else .done) jump))).heap[w.heap.size+1]?=some (.loop (rec (if jump.isNone then .ready else .done) jump)) ∧
       (W3.putObj (w.heap.size+1) (.loop (rec (if jump.isNone then .ready else .done) jump))).heap[w.heap.size]?=some (.deferred (some [])):=fun jump W3 hk3=>by
    have hl3:=hk3.same _ _ hl2 rfl;have e:=run_endRound (P:=P) jump hl3;rw[hrec]at e hl3 ⊢;exact⟨hl3,e,World.putObj_heap_same (Array.getElem?_eq_some_iff.1 hl3).1,(World.putObj_heap_other (by omega)).trans (hk3.same _ _ hk2 rfl)⟩
   have leave:∀(c:Code) (W3:World),KeepsOthers W2 W3→Ix c (pre++[x]) W3→∃b W4,(Instr.endRound (w.heap.size+1) (some c)).run P W3 = .ok b W4∧b = .bool false∧Ix c (pre++[x]) W4∧W4.heap[w.heap.size+1]?=some (.loop (rec .done (some c)))∧W4.heap[w.heap.size]?=some (.deferred (some [])):=fun c W3 hk3 hx=>by
    obtain⟨hl3,hr,hl4,hk4⟩:=fin (some c) W3 hk3;exact⟨_,_,hr,rfl,(oX c).putObj _ hx (by omega) hl3 rfl,hl4,hk4⟩
   rintro e a3 W3 hp;cases e with
   | normal =>
    obtain⟨hk3,⟨hkp3,hkn3⟩,hi3⟩:=hp;obtain⟨hl3,hr,hl4,hk4⟩:=fin none W3 hk3;exact⟨_,_,hr,.inl ⟨rfl,⟨oI.putObj _ hi3 (by omega) hl3 rfl,hl4,hk4⟩,hKt _ _ _ (hKt _ _ _ hw2 hkp3) (hKput _ _ _ _ (by omega) hl3 rfl),fun r h1 h2=>(World.putObj_heap_other (by omega)).trans ((hkn3 r h1 (by rw[←hW2];simp only[World.putObj,Array.size_setIfInBounds];omega)).trans (hn2 r h1 h2))⟩⟩
   | ret =>
    obtain⟨b,W4,hr,rfl,h4⟩:=leave .ret W3 hp.1 hp.2;exact⟨_,_,hr,.inr ⟨rfl,.ret,h4⟩⟩
   | exit id =>
    obtain⟨b,W4,hr,rfl,h4⟩:=leave (.exit id) W3 hp.1 hp.2;exact⟨_,_,hr,.inr ⟨rfl,.exit id,h4⟩⟩
   | goto t =>
    obtain⟨b,W4,hr,rfl,h4⟩:=leave (.goto t) W3 hp.1 hp.2;exact⟨_,_,hr,.inr ⟨rfl,.goto t,h4⟩⟩
   | panic ch=>exact hp.elim
   | outgrown=>exact hp.elim
 -- behind the iterator
 rintro e W2 ⟨⟨v,rfl⟩,(⟨xs,hS,hi,hl,hk⟩|⟨pre,hSp,c,hi,hl,hk⟩)⟩
 · exact⟨none,_,by have:=run_endLoop (P:=P) hl (by rw[hrec];simp);rw[hrec]at this;exact this,hdone _ xs _ (Nat.le_refl _) hS (oI.putObj _ hi (by omega) hl rfl) ((World.putObj_heap_other (by omega)).trans hk)⟩
 exact⟨some c,_,by have:=run_endLoop (P:=P) hl (by rw[hrec];simp);rw[hrec]at this;exact this,hstop _ c pre _ (Nat.le_refl _) hSp ((oX c).putObj _ hi (by omega) hl rfl) ((World.putObj_heap_other (by omega)).trans hk)⟩
end Go.Proofs.YtdgjgcepbkanhaaGreatDoor
