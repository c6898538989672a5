/-
 The walks and plain laws that the claim rests on, part 44.
-/
import Derived.Test.YtfogfaagjpebcaaGreatDoorP00
import Derived.Test.YtfogfaagjpebcaaGreatDoorP38
import Derived.Test.YtfogfaagjpebcaaGreatDoorP43
set_option maxHeartbeats 16000000
set_option linter.all false
set_option linter.unusedVariables false
set_option linter.unusedSimpArgs false
namespace Go.Proofs.YtfogfaagjpebcaaGreatDoor
open Go.RowKit Go.Shelf Go.Joins
attribute [local go_sem] Oper.semAt_some
abbrev Up (base:Nat):World→World→Prop:=St (fun k=>base≤k) (fun k=>base≤k)
theorem St.up {F F':Nat→Prop} {a b:World} {base:Nat} (h:St F F' a b) (hF:∀k,F k→base≤k):Up base a b:=⟨h.os,h.tape,h.output,h.size,fun k hk hn=>h.block k hk (fun e=>hn (hF k e)),fun _ e => .inl e⟩
structure GI (w:World) (base:Nat) (own:Nat→Nat) (iv nsv:Value) (n:Nat):Prop where
 i:∃xs,w.ownsRow base 79 9 iv n xs
 n:∃xs,w.ownsRow base 3 1 nsv n xs
 oi:∀k,iv.ownBlock=some k→own k=0
 on:∀k,nsv.ownBlock=some k→own k=0
 ne:∀k,iv.ownBlock=some k→nsv.ownBlock≠some k
theorem GI.st {w w':World} {base:Nat} {own own':Nat→Nat} {iv nsv:Value} {n:Nat} (h:GI w base own iv nsv n) (g:St (FV own) (FV own') w w'):GI w' base own' iv nsv n:=by
 obtain⟨⟨xi,hi⟩,⟨xn,hn⟩,h3,h4,h5⟩:=h;have z:∀k,k<w.heap.size→own k=0→own' k=0:=fun k hk h0=>Decidable.byContradiction fun h=>(g.own k h).elim (fun e=>e h0) (fun e=>by omega)
 exact⟨⟨xi,ownsRow_of_block hi fun k e=>g.block k (hi.lt k e).2 (fun hf=>hf (h3 k e))⟩,⟨xn,ownsRow_of_block hn fun k e=>g.block k (hn.lt k e).2 (fun hf=>hf (h4 k e))⟩,fun k e=>z k (hi.lt k e).2 (h3 k e),fun k e=>z k (hn.lt k e).2 (h4 k e),h5⟩
theorem GI.gr {w w':World} {base:Nat} {own:Nat→Nat} {iv nsv:Value} {n:Nat} (h:GI w base own iv nsv n) (g:Gr w w'):GI w' base own iv nsv n:=h.st (g.st (F:=FV own))
def ItemP (w:World) (R B base:Nat) (s:ByteArray) (X:Pl.Res (Nat × Pl.Gst)) (e:Ending) (w':World):Prop:=match X with
 | .non=>True
 | .bad c p=>e = .returned (.tuple #[.int .i64 0,fv c p])∧c≠0∧Up base w w'
 | .ok (m,g')=>∃nv' L' own' x',e = .returned (.tuple #[.int .i64 m,f0])∧GM w' R B base s nv' L' own' x' g'∧GI w' base own' x'.iv x'.nsv g'.its.length∧Up base w w'
theorem WordsP.open {V w2:World} {R B base:Nat} {s:ByteArray} {own:Nat→Nat} {iv nsv:Value} {Y:Pl.Res (Nat × Nat × Pl.Nds × Pl.Gst)} {e:Ending} (h:WordsP V R B base s own iv nsv Y e w2) (hn:Y ≠ .non) :
    ∃(v1 v2:Int) (o:Option Addr) (l k:Nat) (v4 c q:Int),e = .returned (.tuple #[.agg #[.int .i64 v1,.int .i64 v2],.agg #[.slice o l k,.int .i64 v4],.agg #[.int .i64 c,.int .i64 q]]):=by
 cases Y with
 | non=>exact absurd rfl hn
 | bad c p =>
  obtain⟨⟨v1,v2,o,l,k,v4,he⟩,_⟩:=h;exact⟨v1,v2,o,l,k,v4,c,p,he⟩
 | ok r =>
  obtain⟨into,root,nds,g'⟩:=r;obtain⟨dd,tv,T,b2,nv',L',own',x',he,_,_,_,_,_,hT,_⟩:=h;rcases hT with⟨rfl,_⟩|⟨g,rfl,_⟩
  · exact⟨_,_,_,_,_,_,_,_,he⟩
  exact⟨_,_,_,_,_,_,_,_,he⟩
theorem itm_boxes {w2:World} {z:Nat} {x y:Value} (h:FX z x y w2) (c q v1 v2 v3 v4:Value) (T0 T1:TypeId) :
    FX z c q ((((w2.setCell ⟨z,0,none⟩ c).setCell ⟨z,1,none⟩ q).alloc (.cells #[v1,v2] T0)).alloc (.cells #[v3,v4] T1))∧FX w2.heap.size v1 v2 ((((w2.setCell ⟨z,0,none⟩ c).setCell ⟨z,1,none⟩ q).alloc (.cells #[v1,v2] T0)).alloc (.cells #[v3,v4] T1)) ∧
    FX (w2.heap.size+1) v3 v4 ((((w2.setCell ⟨z,0,none⟩ c).setCell ⟨z,1,none⟩ q).alloc (.cells #[v1,v2] T0)).alloc (.cells #[v3,v4] T1)) ∧
    (∀k,k<w2.heap.size→k≠z→((((w2.setCell ⟨z,0,none⟩ c).setCell ⟨z,1,none⟩ q).alloc (.cells #[v1,v2] T0)).alloc (.cells #[v3,v4] T1)).heap[k]?=w2.heap[k]?) ∧
    ((((w2.setCell ⟨z,0,none⟩ c).setCell ⟨z,1,none⟩ q).alloc (.cells #[v1,v2] T0)).alloc (.cells #[v3,v4] T1)).heap.size=w2.heap.size+1+1 ∧
    (∀(F F':Nat→Prop) (w:World),St F F' w w2→w.heap.size≤z→St F F' w ((((w2.setCell ⟨z,0,none⟩ c).setCell ⟨z,1,none⟩ q).alloc (.cells #[v1,v2] T0)).alloc (.cells #[v3,v4] T1))):=by
 refine Z128 ?_;intro hF hzz hs;have hb:∀k,k≠z→((w2.setCell ⟨z,0,none⟩ c).setCell ⟨z,1,none⟩ q).heap[k]?=w2.heap[k]?:=fun k hk=>by rw[Below.heap_setCell _ _ _ _ hk,Below.heap_setCell _ _ _ _ hk]
 obtain⟨W,hW⟩:∃W,(w2.setCell ⟨z,0,none⟩ c).setCell ⟨z,1,none⟩ q=W:=⟨_,rfl⟩
 rw[hW]at hF hzz hs hb ⊢;obtain⟨f1,g1,z1⟩:=bx2 W v1 v2 T0;obtain⟨W1,hW1⟩:∃W1,W.alloc (.cells #[v1,v2] T0)=W1:=⟨_,rfl⟩
 rw[hW1]at f1 g1 z1 ⊢;obtain⟨f2,g2,z2⟩:=bx2 W1 v3 v4 T1;rw[hzz]at f1 z1;rw[z1]at f2 z2;exact⟨(hF.gr g1).gr g2,f1.gr g2,f2,fun k hk hn=>((g1.trans g2).block (by omega)).trans (hb k hn),z2,fun F F' w g l=>((hs F F' w g l).gr g1).gr g2⟩
theorem GI.kept {w w':World} {base:Nat} {own:Nat→Nat} {iv nsv:Value} {n:Nat} (h:GI w base own iv nsv n) (hb:∀k,iv.ownBlock=some k∨nsv.ownBlock=some k→w'.heap[k]?=w.heap[k]?):GI w' base own iv nsv n:=by
 obtain⟨⟨xi,hi⟩,⟨xn,hn⟩,h3,h4,h5⟩:=h;exact⟨⟨xi,ownsRow_of_block hi fun k e=>hb k (.inl e)⟩,⟨xn,ownsRow_of_block hn fun k e=>hb k (.inr e)⟩,h3,h4,h5⟩
theorem GI.lt {w:World} {base:Nat} {own:Nat→Nat} {iv nsv:Value} {n:Nat} (h:GI w base own iv nsv n):∀k,iv.ownBlock=some k∨nsv.ownBlock=some k→base≤k∧k<w.heap.size:=fun k e=>by
 obtain⟨⟨xi,hi⟩,⟨xn,hn⟩,_⟩:=h;rcases e with e|e
 · exact hi.lt k e
 exact hn.lt k e
theorem itm_box9 {w2:World} {z:Nat} {x y:Value} (h:FX z x y w2) (c q c0 c1 c2 c3 c4 c5 c6 c7 c8:Value) (T:TypeId) :
    FX z c q (((w2.setCell ⟨z,0,none⟩ c).setCell ⟨z,1,none⟩ q).alloc (.cells #[c0,c1,c2,c3,c4,c5,c6,c7,c8] T)) ∧
    (((w2.setCell ⟨z,0,none⟩ c).setCell ⟨z,1,none⟩ q).alloc (.cells #[c0,c1,c2,c3,c4,c5,c6,c7,c8] T)).heap[w2.heap.size]?=some (.cells #[c0,c1,c2,c3,c4,c5,c6,c7,c8] T (0,0)) ∧
    (∀k,k<w2.heap.size→k≠z→(((w2.setCell ⟨z,0,none⟩ c).setCell ⟨z,1,none⟩ q).alloc (.cells #[c0,c1,c2,c3,c4,c5,c6,c7,c8] T)).heap[k]?=w2.heap[k]?) ∧
    (((w2.setCell ⟨z,0,none⟩ c).setCell ⟨z,1,none⟩ q).alloc (.cells #[c0,c1,c2,c3,c4,c5,c6,c7,c8] T)).heap.size=w2.heap.size+1 ∧
    (∀(F F':Nat→Prop) (w:World),St F F' w w2→w.heap.size≤z→St F F' w (((w2.setCell ⟨z,0,none⟩ c).setCell ⟨z,1,none⟩ q).alloc (.cells #[c0,c1,c2,c3,c4,c5,c6,c7,c8] T))):=by
 refine Z128 ?_;intro hF hzz hs;have hb:∀k,k≠z→((w2.setCell ⟨z,0,none⟩ c).setCell ⟨z,1,none⟩ q).heap[k]?=w2.heap[k]?:=fun k hk=>by rw[Below.heap_setCell _ _ _ _ hk,Below.heap_setCell _ _ _ _ hk]
 obtain⟨W,hW⟩:∃W,(w2.setCell ⟨z,0,none⟩ c).setCell ⟨z,1,none⟩ q=W:=⟨_,rfl⟩
 rw[hW]at hF hzz hs hb ⊢;have g1:Gr W (W.alloc (.cells #[c0,c1,c2,c3,c4,c5,c6,c7,c8] T)):=(Gr.refl W).alloc _;have hn:=heap_alloc_new W (.cells #[c0,c1,c2,c3,c4,c5,c6,c7,c8] T);rw[hzz]at hn;exact⟨hF.gr g1,hn,fun k hk hn=>(g1.block (by omega)).trans (hb k hn),by simp[hzz],fun F F' w g l=>(hs F F' w g l).gr g1⟩
def Its (g g2:Pl.Gst):Prop:=g2.its=g.its∧g.nds.length≤g2.nds.length
theorem Its.trans {a b c:Pl.Gst} (h:Its a b) (k:Its b c):Its a c:=⟨k.1.trans h.1,Nat.le_trans h.2 k.2⟩
theorem its_step {g g2:Pl.Gst} {an d n d2:Nat} {w:Pl.Bs} {a b:Nat} {t:Nat × Nat} {over:Nat→Pl.Ov} (h:Pl.stepG g an d w a b t over = .ok (n,d2,g2)):Its g g2:=by
 unfold Pl.stepG at h
 split at h
 · cases h
 · split at h
   · cases h
   · cases h
   cases h;exact⟨rfl,Nat.le_refl _⟩
 split at h
 · cases h
 split at h
 · cases h;exact⟨rfl,by simp[Pl.putG,Pl.growG,Pl.putAt]⟩
 cases h
theorem its_way (t:Nat × Nat) (over:Pl.Gst→Nat→Nat→Pl.Ov):∀(ks:List Pl.KW) (an d:Nat) (g:Pl.Gst) (n d2:Nat) (g2:Pl.Gst),Pl.wayG t over ks an d g = .ok (n,d2,g2)→Its g g2
 | [],an,d,g,n,d2,g2,h=>by
  unfold Pl.wayG at h;cases h;exact⟨rfl,Nat.le_refl _⟩
 | (w,a,b)::ks,an,d,g,n,d2,g2,h=>by
  unfold Pl.wayG at h
  split at h
  · cases h
  · cases h
  rename_i n1 d1 g1 hs
  exact (its_step hs).trans (its_way t over ks n1 d1 g1 n d2 g2 h)
theorem its_table {g g2:Pl.Gst} {k:List Pl.KW} (h:Pl.tableG g k = .ok g2):Its g g2:=by
 unfold Pl.tableG at h
 split at h
 · cases h
 · cases h
 rename_i h1
 split at h
 · cases h
 split at h
 · cases h
 · cases h
 rename_i h2
 cases h;have h3:=(its_way _ _ _ _ _ _ _ _ _ h1).trans (its_step h2);exact⟨h3.1,h3.2⟩
theorem its_more {g g2:Pl.Gst} {k:List Pl.KW} (h:Pl.moreG g k = .ok g2):Its g g2:=by
 unfold Pl.moreG at h
 split at h
 · cases h
 · cases h
 rename_i h1
 have h3:=its_way _ _ _ _ _ _ _ _ _ h1
 split at h
 · cases h
 split at h
 · cases h
 · split at h
   · split at h
     · cases h
     split at h
     · cases h;exact⟨h3.1,Nat.le_trans h3.2 (by simp[Pl.elemG,Pl.growG])⟩
     cases h
   cases h
 split at h
 · cases h
 split at h
 · cases h;exact⟨h3.1,Nat.le_trans h3.2 (by simp[Pl.elemG,Pl.growG,Pl.putG,Pl.putAt];omega)⟩
 cases h
theorem its_pair {g g2:Pl.Gst} {k:List Pl.KW} {n d:Nat} (h:Pl.pairG g k = .ok (n,d,g2)):Its g g2:=by
 unfold Pl.pairG at h
 split at h
 · cases h
 · cases h
 rename_i h1
 have h3:=its_way _ _ _ _ _ _ _ _ _ h1
 split at h
 · cases h
 split at h
 · cases h
 · cases h
 cases h;exact h3
theorem its_words {E:Pl.Env} {l:Pl.Bs} {n:Nat} {g g2:Pl.Gst} {i r:Nat} {nds:Pl.Nds} (h:Pl.wordsG E l n g = .ok (i,r,nds,g2)):Its g g2:=by
 unfold Pl.wordsG at h;simp only at h;generalize Pl.blanksAt l n=n1 at h;generalize (if Pl.pre (l.drop n1) [91,91]=true then 2 else if Pl.pre (l.drop n1) [91]=true then 1 else 0)=m at h;generalize Pl.keyS E l (Pl.blanksAt l (n1+m))=K at h;by_cases hb:Pl.isBlankI (l.drop n1)=true
 · rw[if_pos hb]at h;cases h;exact⟨rfl,Nat.le_refl _⟩
 rw[if_neg hb]at h;cases K with
 | non=>cases h
 | bad c p=>cases h
 | ok kk =>
  obtain⟨ws,e⟩:=kk;simp only at h;by_cases h2:m=2
  · rw[if_pos h2]at h;cases hm:Pl.moreG g ws with
    | non=>rw[hm]at h;cases h
    | bad c p=>rw[hm]at h;cases h
    | ok g1=>rw[hm]at h;cases h;exact its_more hm
  rw[if_neg h2]at h;by_cases h1:m=1
  · rw[if_pos h1]at h;cases hm:Pl.tableG g ws with
    | non=>rw[hm]at h;cases h
    | bad c p=>rw[hm]at h;cases h
    | ok g1=>rw[hm]at h;cases h;exact its_table hm
  rw[if_neg h1]at h;cases hm:Pl.pairG g ws with
  | non=>rw[hm]at h;cases h
  | bad c p=>rw[hm]at h;cases h
  | ok rr =>
   obtain⟨into,d,g1⟩:=rr;rw[hm]at h;simp only at h;have h3:=its_pair hm
   split at h
   · split at h
     · cases h
     · cases h
     cases h;exact h3
   cases h;exact h3
theorem its_item {E:Pl.Env} {l:Pl.Bs} {n m:Nat} {g g2:Pl.Gst} (h:Pl.itemG E l n g = .ok (m,g2)):g.nds.length≤g2.nds.length:=by
 unfold Pl.itemG at h
 split at h
 · cases h
 · cases h
 rename_i hw
 have h1:=(its_words hw).2
 split at h
 · cases h
 · cases h
 split at h
 · cases h;exact h1
 split at h
 · split at h
   · cases h
   simp only at h
   split at h
   · cases h;exact Nat.le_trans h1 (by simp[Pl.putG,Pl.putAt,Pl.graftG])
   cases h
 cases h;exact h1
theorem infoItm:(Tryz.prog.info? 79).map (fun i=>(i.zero,i.size,i.bytes))=some (some itZ,9,120):=by kernel_rfl
structure Rows2 (w0 W:World) (base:Nat) (F:Nat→Prop) (iv nv:Value) (ni nn:Nat) (xi xn:List Value):Prop where
 st:St F (fun _=>False) w0 W
 i:W.ownsRow base 79 9 iv ni xi
 n:W.ownsRow base 3 1 nv nn xn
 fi:∀b,iv.ownBlock=some b→F b∨w0.heap.size≤b
 fn:∀b,nv.ownBlock=some b→F b∨w0.heap.size≤b
 ne:∀b,iv.ownBlock=some b→nv.ownBlock≠some b
section
variable {w0 W w1:World} {base:Nat} {F:Nat→Prop} {iv nv:Value} {ni nn:Nat} {xi xn:List Value}
theorem Rows2.alloc (h:Rows2 w0 W base F iv nv ni nn xi xn) (o:Obj):Rows2 w0 (W.alloc o) base F iv nv ni nn xi xn:=⟨h.st.alloc o,h.i.alloc o,h.n.alloc o,h.fi,h.fn,h.ne⟩
theorem Rows2.appI (h:Rows2 w0 W base F iv nv ni nn xi xn) {g cap:Nat} {ys:List Value} (ho:w1.ownsRow base 79 9 (.slice (some ⟨g,0,none⟩) (ni+1) cap) (ni+1) ys) (hg:W.grownBy w1 iv.ownBlock)
    (hat:iv.ownBlock=some g∨g=W.heap.size):Rows2 w0 w1 base F (.slice (some ⟨g,0,none⟩) (ni+1) cap) nv (ni+1) nn ys xn:=by
 have hgf:F g∨w0.heap.size≤g:=by
  rcases hat with e|e
  · exact h.fi g e
  exact .inr (by have:=h.st.size;omega)
 have hs:nv.ownBlock≠some g:=by
  rcases hat with e|e
  · exact h.ne g e
  intro e2;have:=(h.n.lt g e2).2;omega
 exact⟨h.st.grown hg h.fi,ho,row_apart h.n hg h.ne,fun b e=>by simp[Value.ownBlock]at e;subst e;exact hgf,h.fn,fun b e=>by simp[Value.ownBlock]at e;subst e;exact hs⟩
theorem Rows2.appN (h:Rows2 w0 W base F iv nv ni nn xi xn) {g cap:Nat} {ys:List Value} (ho:w1.ownsRow base 3 1 (.slice (some ⟨g,0,none⟩) (nn+1) cap) (nn+1) ys) (hg:W.grownBy w1 nv.ownBlock)
    (hat:nv.ownBlock=some g∨g=W.heap.size):Rows2 w0 w1 base F iv (.slice (some ⟨g,0,none⟩) (nn+1) cap) ni (nn+1) xi ys:=by
 have hgf:F g∨w0.heap.size≤g:=by
  rcases hat with e|e
  · exact h.fn g e
  exact .inr (by have:=h.st.size;omega)
 have hs:iv.ownBlock≠some g:=by
  rcases hat with e|e
  · exact fun e2=>h.ne g e2 e
  intro e2;have:=(h.i.lt g e2).2;omega
 exact⟨h.st.grown hg h.fn,row_apart h.i hg (fun b e e2=>h.ne b e2 e),ho,h.fi,fun b e=>by simp[Value.ownBlock]at e;subst e;exact hgf,fun b e e2=>by simp[Value.ownBlock]at e2;subst e2;exact hs e⟩
end
structure IS (R I:Nat) (iv nsv c0 c1 c2 c3 c4 c5 c6 c7 c8:Value) (w:World):Prop where
 i:w.cell? ⟨R,7,none⟩=some iv
 n:w.cell? ⟨R,8,none⟩=some nsv
 b0:w.cell? ⟨I,0,none⟩=some c0
 b1:w.cell? ⟨I,1,none⟩=some c1
 b2:w.cell? ⟨I,2,none⟩=some c2
 b3:w.cell? ⟨I,3,none⟩=some c3
 b4:w.cell? ⟨I,4,none⟩=some c4
 b5:w.cell? ⟨I,5,none⟩=some c5
 b6:w.cell? ⟨I,6,none⟩=some c6
 b7:w.cell? ⟨I,7,none⟩=some c7
 b8:w.cell? ⟨I,8,none⟩=some c8
def ItmR (V:World) (R B base:Nat) (s:ByteArray) (nv:Value) (L:List NdR) (own:Nat→Nat) (x:GrX) (g:Pl.Gst) (n:Nat) (W':World):Prop :=
 ∃iv' nsv',GM W' R B base s nv L own { x with iv:=iv',nsv:=nsv' } g∧GI W' base own iv' nsv' n∧Up base V W'∧(∀k,k<V.heap.size→own k=0→(∀v,v=x.iv∨v=x.nsv→v.ownBlock≠some k)→W'.heap[k]?=V.heap[k]?)
theorem itmR_of {V V2:World} {R B base:Nat} {s:ByteArray} {nv:Value} {L:List NdR} {own:Nat→Nat} {x:GrX} {g:Pl.Gst} {n:Nat} (h:GM V R B base s nv L own x g) {m:Nat} (hI:GI V base own x.iv x.nsv m) {iv' nsv':Value} {xi xn:List Value}
    (H:Rows2 V V2 base (fun k=>x.iv.ownBlock=some k∨x.nsv.ownBlock=some k) iv' nsv' n n xi xn) :
    ItmR V R B base s nv L own x g n ((V2.setCell ⟨R,7,none⟩ iv').setCell ⟨R,8,none⟩ nsv'):=by
 have hF:∀k,own k≠0→¬(x.iv.ownBlock=some k∨x.nsv.ownBlock=some k):=fun k h0 e=>e.elim (fun e=>h0 (hI.oi k e)) (fun e=>h0 (hI.on k e))
 have hRl:=h.v.R_lt;have hb0:V2.heap[R]?=V.heap[R]?:=H.st.block R hRl.2 (hF R (by rw[h.v.oR];omega));have hb7:(V2.setCell ⟨R,7,none⟩ iv').heap[R]?=some (.cells #[nv,.int .i64 0,.string s,.map (some B),.int .i64 x.sec,.int .i64 x.dep,.int .i64 x.many,iv',x.nsv] 62 (0,0)):=by rw[block_setCell (hb0.trans h.v.blk)];rfl
 have hb8:((V2.setCell ⟨R,7,none⟩ iv').setCell ⟨R,8,none⟩ nsv').heap[R]?=some (.cells #[nv,.int .i64 0,.string s,.map (some B),.int .i64 x.sec,.int .i64 x.dep,.int .i64 x.many,iv',nsv'] 62 (0,0)):=by rw[block_setCell hb7];rfl
 have hbo:∀k,k≠R→((V2.setCell ⟨R,7,none⟩ iv').setCell ⟨R,8,none⟩ nsv').heap[k]?=V2.heap[k]?:=fun k hk=>by rw[Below.heap_setCell _ _ _ _ hk,Below.heap_setCell _ _ _ _ hk]
 have hzz:((V2.setCell ⟨R,7,none⟩ iv').setCell ⟨R,8,none⟩ nsv').heap.size=V2.heap.size:=by simp[World.setCell]
 have hz2:=H.st.size;have hBR:B≠R:=fun e=>by have h1:=h.v.oR;rw[←e,h.v.oB]at h1;omega
 have hnew:∀(v:Value),(∀b,v.ownBlock=some b→(x.iv.ownBlock=some b∨x.nsv.ownBlock=some b)∨V.heap.size≤b)→∀k,v.ownBlock=some k→own k=0∧k≠R:=fun v hv k e=>by
  have h0:own k=0:=by
   rcases hv k e with e|e
   · exact e.elim (hI.oi k) (hI.on k)
   exact Decidable.byContradiction fun h0=>by have:=(h.v.lt k h0).2;omega
  exact⟨h0,fun e=>by subst e;rw[h.v.oR]at h0;omega⟩
 obtain⟨D,h1,h2⟩:=h.v.map;refine⟨iv',nsv',⟨h.v.turn rfl hb8 ⟨D,ownsMapS_of_block h1 ((hbo B hBR).trans (H.st.block B h.v.B_lt.2 (hF B (by rw[h.v.oB];omega)))),h2⟩ (fun k hk hR _=>(hbo k hR).trans (H.st.block k (h.v.lt k hk).2 (hF k hk))) (by omega) (fun i r hr hg => .inl hg),h.nd,h.sec,h.dep,h.many⟩,?_,?_,fun k hk h0 hv=>?_⟩
 · exact⟨⟨xi,ownsRow_of_block H.i fun k e=>hbo k (hnew iv' H.fi k e).2⟩,⟨xn,ownsRow_of_block H.n fun k e=>hbo k (hnew nsv' H.fn k e).2⟩,fun k e=>(hnew iv' H.fi k e).1,fun k e=>(hnew nsv' H.fn k e).1,H.ne⟩
 · exact ((H.st.up fun k e=>(hI.lt k e).1).setCell (p:=⟨R,7,none⟩) (.inl hRl.1) _).setCell (p:=⟨R,8,none⟩) (.inl hRl.1) _
 have hkR:k≠R:=fun e=>by subst e;rw[h.v.oR]at h0;omega
 exact (hbo k hkR).trans (H.st.block k hk (fun e=>e.elim (hv x.iv (.inl rfl)) (hv x.nsv (.inr rfl))))
theorem graft_nds (g1:Pl.Gst) (L1 T:List NdR) (nds:Pl.Nds) (h1:L1.map (·.nd)=g1.nds) (h2:T.map (·.nd)=nds):(L1++T.map (shiftR L1.length)).map (·.nd)=(Pl.graftG g1 nds).nds:=by
 have e:L1.length=g1.nds.length:=by rw[←h1,List.length_map]
 rw[List.map_append,h1,e,←h2];unfold Pl.graftG;simp only[List.map_map];rfl
theorem graft_srt (g1:Pl.Gst) (T:List NdR) (nds:Pl.Nds) (h2:T.map (·.nd)=nds):g1.srt++List.replicate T.length (0,0)=(Pl.graftG g1 nds).srt:=by
 rw[←h2];show _=g1.srt++(T.map (·.nd)).map (fun _=>(0,0));congr 1;clear h2
 induction T with
 | nil=>rfl
 | cons r T ih=>rw[List.length_cons,List.replicate_succ,ih];rfl
def KindR (w:World) (I:Nat) (cs:Array Value) (R B base:Nat) (s:ByteArray) (x1:GrX) (m e:Nat) (X:Pl.Res (Nat × Pl.Gst)) (s9:Value) (W':World):Prop :=
 ∃(nI:Int) (nvE:Value) (LE:List NdR) (ownE:Nat→Nat) (gE gF:Pl.Gst),s9 = .int .i64 nI∧GM W' R B base s nvE LE ownE x1 gE∧GI W' base ownE x1.iv x1.nsv m∧W'.heap[I]?=some (.cells cs 79 (0,0))∧FX w.heap.size (.int .i64 0) (.int .i64 0) W'∧Up base w W'∧ownE I=0∧ownE w.heap.size=0 ∧
  X = .ok (e,gF)∧gF.nds=gE.nds∧gF.srt=gE.srt∧gF.sec=gE.sec∧gF.dep=gE.dep∧gF.many=gE.many∧gF.its.length=m+1
set_option maxRecDepth 100000 in
theorem gr_item (Tb:Nat→UInt8 × UInt8) (w0 w:World) (hg0:Gr w0 w) (hRW:RW Tb w0) (R B base:Nat) (hb0:w0.heap.size≤base) (s:ByteArray) (hs:s.size≤20000000) (nv:Value) (L:List NdR) (own:Nat→Nat) (x:GrX) (g:Pl.Gst) (h:GM w R B base s nv L own x g)
    (hok:Pl.okG g=true) (hGI:GI w base own x.iv x.nsv g.its.length) (n:Nat) (hn:n<s.size) (X:Pl.Res (Nat × Pl.Gst)) (hX:Pl.itemG ⟨Pl.strS Tb,Pl.scalS⟩ (bs s) n g=X) (hne:X ≠ .non) :
    Calls Tryz.prog 27 #[.pointer (some ⟨R,0,none⟩),.int .i64 n] w (ItemP w R B base s X):=by
 unfold Pl.okG at hok;simp only[Bool.and_eq_true,decide_eq_true_eq]at hok;obtain⟨⟨⟨ok1,ok2⟩,ok3⟩,ok4⟩:=hok;have hL:L.length≤20000001:=by rw[←h.nd,List.length_map]at ok1;exact ok1
 have hm:x.many≤30000000:=by rw[h.many];omega
 unfold Pl.itemG at hX;obtain⟨Y,hY⟩:∃Y,Pl.wordsG ⟨Pl.strS Tb,Pl.scalS⟩ (bs s) n g=Y:=⟨_,rfl⟩
 rw[hY]at hX;have hYn:Y ≠ .non:=fun e=>by rw[e]at hX;exact hne hX.symm
 have HYW:=Lib.hid hY;have HWD:=Lib.hid (fun V (q:Gr w V)=>gr_words Tb w0 V (hg0.trans q) hRW R B base hb0 s hs nv L own x g (h.gr q) hL hm ok3 n hn Y hY hYn);have HX:=Lib.hid hX;have H:=Lib.hid h;have HG0:=Lib.hid hg0;have HRW:=Lib.hid hRW;have HGI:=Lib.hid hGI;have hRw:=h.v.R_lt;clear h hX hY hg0 hRW hGI ok1 ok2 ok3;go_enter Tryz.func27,Tryz.ntmps27;go_wp2_with fail;obtain⟨hF1,gA,zA⟩:=bx2 w (.int .i64 0) (.int .i64 0) 31;obtain⟨W1,hW1⟩:∃W1,w.alloc (.cells #[.int .i64 0,.int .i64 0] 31)=W1:=⟨_,rfl⟩
 rw[hW1]at hF1 gA zA ⊢;clear hW1;refine (HWD.out W1 gA).mono ?_;rintro e w2 hpost;obtain⟨v1,v2,to',tl,tk,v4,ec,eq,rfl⟩:=hpost.open hYn;cases Y with
 | non=>exact absurd rfl hYn
 | bad c p =>
  obtain⟨⟨_,_,_,_,_,_,he⟩,hc0,own2,st2,hs2,on2⟩:=hpost;have h1:ec=(c:Int)∧eq=(p:Int):=by simp[fv,and_assoc]at he;omega
  obtain⟨rfl,rfl⟩:=h1;have hF2:=hF1.st st2 (fun e=>by have:=(H.out.v.lt _ e).2;omega);have hU2:Up base w w2:=(gA.st).trans (st2.up fun k e=>(H.out.v.lt k e).1);obtain⟨p0,p1,pf,pl⟩:=id hF2;go_wp2_with fail;obtain⟨hFb,_,_,_,hzb,hsb⟩:=itm_boxes hF2 (.int .i64 c) (.int .i64 p) (.int .i64 v1) (.int .i64 v2) (.slice to' tl tk) (.int .i64 v4) 60 29;obtain⟨W5,hW5⟩:∃W5,(((w2.setCell ⟨w.heap.size,0,none⟩ (.int .i64 c)).setCell ⟨w.heap.size,1,none⟩ (.int .i64 p)).alloc (.cells #[.int .i64 v1,.int .i64 v2] 60)).alloc (.cells #[.slice to' tl tk,.int .i64 v4] 29)=W5:=⟨_,rfl⟩
  rw[hW5]at hFb hzb hsb ⊢;clear hW5 p0 p1 pf pl;have hU5:=hsb _ _ w hU2 (Nat.le_refl _);obtain⟨p0,p1,pf,pl⟩:=id hFb;refine Z181 ?_;intro w6 g6;clear p0 p1 pf pl
  go_upto_region 3 with fail
  have hFd:=hFb.gr g6;have hFS:=hFd.gr (Gr.refl w6).drew;obtain⟨p0,p1,pf,pl⟩:=id hFd;refine Z151 ?_;refine Z12 ?_;go_wp2_with fail;obtain⟨q0,q1,qf,ql⟩:=hFS;refine bodyPost_ret (v := .tuple #[.int .i64 0,fv c p]) (by simp[results,Tryz.results27,go_sem,q0,q1,qf,ql]) rfl ?_;have hXX:=HX.out
  try simp only at hXX
  rw[←hXX];exact⟨rfl,hc0,(hU5.gr g6).drew⟩
 | ok r =>
  obtain⟨into,root,nds,g1⟩:=r;obtain⟨dd,tv,T,base2,nv1,L1,own1,x1,he,hiv,hnsv,hgm,st2,on2,hTA,hTn,hb2,ho2⟩:=hpost;have h1:v1=(into:Int)∧v2=dd∧tv = .slice to' tl tk∧v4=(root:Int)∧ec=0∧eq=0:=by
   simp[f0,and_assoc]at he;obtain⟨a1,a2,a3,a4,a5,a6⟩:=he;exact⟨a1,a2,a3.symm,a4,a5,a6⟩
  obtain⟨rfl,rfl,rfl,rfl,rfl,rfl⟩:=h1;have hF2:=hF1.st st2 (fun e=>by have:=(H.out.v.lt _ e).2;omega);have hU2:Up base w w2:=(gA.st).trans (st2.up fun k e=>(H.out.v.lt k e).1);have hGI2:=(HGI.out.gr gA).st st2;have HIVE:=Lib.hid hiv;have HNSV:=Lib.hid hnsv;clear hiv hnsv;have hzz2:=st2.size;obtain⟨p0,p1,pf,pl⟩:=id hF2;go_wp2_with fail;obtain⟨hFb,hPb,hTb,hbb,hzb,hsb⟩:=itm_boxes hF2 (.int .i64 0) (.int .i64 0) (.int .i64 into) (.int .i64 v2) (.slice to' tl tk) (.int .i64 root) 60 29;obtain⟨W5,hW5⟩:∃W5,(((w2.setCell ⟨w.heap.size,0,none⟩ (.int .i64 0)).setCell ⟨w.heap.size,1,none⟩ (.int .i64 0)).alloc (.cells #[.int .i64 into,.int .i64 v2] 60)).alloc (.cells #[.slice to' tl tk,.int .i64 root] 29)=W5:=⟨_,rfl⟩
  rw[hW5]at hFb hPb hTb hbb hzb hsb ⊢;clear hW5 p0 p1 pf pl;have hU5:=hsb _ _ w hU2 (Nat.le_refl _);have oz:own1 w.heap.size=0:=Decidable.byContradiction fun h=>(on2 _ h).elim (fun h=>by have:=(H.out.v.lt _ h).2;omega) (fun h=>by omega)
  have hgm5:GM W5 R B base s nv1 L1 own1 x1 g1:=⟨hgm.v.kept (fun k hk=>hbb k (hgm.v.lt k hk).2 (fun e=>hk (by rw[e];exact oz))) (by omega),hgm.nd,hgm.sec,hgm.dep,hgm.many⟩
  have hGI5:GI W5 base own1 x.iv x.nsv g.its.length:=hGI2.kept fun k e=>by
   have:=(HGI.out.lt k e).2;exact hbb k (by omega) (by omega)
  have HTB:Hid (∀k,TB T T.length k→base2≤k∧k<w2.heap.size):=fun k ⟨i,r,_,hr,hb⟩=>by
   rcases hTA with⟨_,rfl⟩|⟨g0,_,hT⟩
   · simp at hr
   exact hb.lt hT hr
  have hTA5:=hTA.keptB (fun k h1 h2=>hbb k h2 (by omega)) (by omega);obtain⟨Z,hZ⟩:∃Z,Pl.itemS ⟨Pl.strS Tb,Pl.scalS⟩ (bs s) n=Z:=⟨_,rfl⟩
  have hXX:=HX.out
  try simp only at hXX
  rw[hZ]at hXX;have hZn:Z ≠ .non:=fun e=>by rw[e]at hXX;exact hne hXX.symm
  have HREAD:=Lib.hid (fun V (q:Gr w0 V)=>tl_Read Tb s hs n _ rfl hn V (HRW.out.gr q) Z hZ hZn);have HXX:=Lib.hid hXX;obtain⟨p0,p1,pf,pl⟩:=id hFb;refine Z206 ?_;intro w6 g6;have HF6:=Lib.hid (hFb.gr g6);have HP6:=Lib.hid (hPb.gr g6);have HT6:=Lib.hid (hTb.gr g6);have HU6:=Lib.hid (hU5.gr g6);have HGM6:=Lib.hid (hgm5.gr g6);have HGI6:=Lib.hid (hGI5.gr g6);have HTA6:=Lib.hid (hTA5.keptB (fun k _ h2=>g6.block h2) g6.size);have HON1:=Lib.hid on2;have HO2:=Lib.hid ho2;have HL1:Hid (∀k,own1 k≠0→k<w2.heap.size):=fun k hk=>(hgm.v.lt k hk).2
  have hG06:Gr w0 w6:=HU6.out.below HG0.out (fun k e=>by omega);have hs6:=HGM6.out.v.cells.1.2.2.1;have hR6:=HGM6.out.v.R_lt.2;have hz6:w2.heap.size+1+1≤w6.heap.size:=by have:=g6.size;omega
  have hz2:w.heap.size+1≤w2.heap.size:=by omega
  clear hFb hPb hTb hbb hsb hU5 hgm5 hGI5 hTA5 hTA hGI2 hgm hF2 hU2 p0 p1 pf pl hXX hZ g6 on2 ho2 st2 he;go_wp2_with fail;refine (HREAD.out w6 hG06).mono ?_;clear HREAD;obtain⟨p0,p1,pf,pl⟩:=id HF6.out;cases Z with
  | non=>exact absurd rfl hZn
  | bad c p =>
   rintro e w7 ⟨he,hc0,g7⟩;subst he;have hF7:=HF6.out.gr g7;clear p0 p1 pf pl;obtain⟨p0,p1,pf,pl⟩:=id hF7;go_wp2_with fail;obtain⟨hFb,_,_,_,hsb⟩:=itm_box9 hF7 (.int .i64 c) (.int .i64 p) (.int .u8 0) (.int .i64 0) (.int .i64 0) (.slice none 0 0) (.slice none 0 0) (.int .i64 0) (.int .i64 0) (.slice none 0 0) (.int .i64 0) 79;obtain⟨W8,hW8⟩:∃W8,((w7.setCell ⟨w.heap.size,0,none⟩ (.int .i64 c)).setCell ⟨w.heap.size,1,none⟩ (.int .i64 p)).alloc (.cells #[.int .u8 0,.int .i64 0,.int .i64 0,.slice none 0 0,.slice none 0 0,.int .i64 0,.int .i64 0,.slice none 0 0,.int .i64 0] 79)=W8:=⟨_,rfl⟩
   rw[hW8]at hFb hsb ⊢;have hU8:=hsb _ _ w (HU6.out.gr g7) (Nat.le_refl _);clear hW8 p0 p1 pf pl;obtain⟨p0,p1,pf,pl⟩:=id hFb;refine Z181 ?_;intro w9 g9;clear p0 p1 pf pl
   go_upto_region 6 with fail
   have hFd:=hFb.gr g9;have hFS:=hFd.gr (Gr.refl w9).drew;obtain⟨p0,p1,pf,pl⟩:=id hFd;refine Z151 ?_;refine Z12 ?_;go_wp2_with fail;obtain⟨q0,q1,qf,ql⟩:=hFS;refine bodyPost_ret (v := .tuple #[.int .i64 0,fv c p]) (by simp[results,Tryz.results27,go_sem,q0,q1,qf,ql]) rfl ?_;have hXX:=HXX.out
   try simp only at hXX
   rw[←hXX];exact⟨rfl,hc0,(hU8.gr g9).drew⟩
  | ok it =>
   rintro e w7 ⟨kv,sv,tv,he,hM,g7⟩;subst he;obtain⟨⟨ka,kn,kc,rfl⟩,⟨sa,sn,sc,rfl⟩,⟨ta,tn,tc,rfl⟩⟩:=hM.forms;have hF7:=HF6.out.gr g7;clear p0 p1 pf pl;obtain⟨p0,p1,pf,pl⟩:=id hF7;go_wp2_with fail;obtain⟨hFb,hIb,hbb,hzb,hsb⟩:=itm_box9 hF7 (.int .i64 0) (.int .i64 0) (.int .u8 it.kind) (.int .i64 it.a) (.int .i64 it.b) (.slice ka kn kc) (.slice sa sn sc) (.int .i64 it.va) (.int .i64 it.vb) (.slice ta tn tc) (.int .i64 it.root) 79;obtain⟨W8,hW8⟩:∃W8,((w7.setCell ⟨w.heap.size,0,none⟩ (.int .i64 0)).setCell ⟨w.heap.size,1,none⟩ (.int .i64 0)).alloc (.cells #[.int .u8 it.kind,.int .i64 it.a,.int .i64 it.b,.slice ka kn kc,.slice sa sn sc,.int .i64 it.va,.int .i64 it.vb,.slice ta tn tc,.int .i64 it.root] 79)=W8:=⟨_,rfl⟩
   rw[hW8]at hFb hIb hbb hzb hsb ⊢;have hU8:=hsb _ _ w (HU6.out.gr g7) (Nat.le_refl _);clear hW8 p0 p1 pf pl;obtain⟨p0,p1,pf,pl⟩:=id hFb;have hz7:=g7.size;refine Z206 ?_;intro w9 g9;have hk9:∀k,k<w7.heap.size→k≠w.heap.size→w9.heap[k]?=w7.heap[k]?:=fun k h1 h2=>(g9.block (by omega)).trans (hbb k h1 h2)
   have h9z:=g9.size;have hI9:=(g9.block (by omega)).trans hIb;have hP9:=(HP6.out.gr g7).of_block (hk9 _ (by omega) (by omega)) (by omega);have hT9:=(HT6.out.gr g7).of_block (hk9 _ (by omega) (by omega)) (by omega);have oz1:∀k,w.heap.size≤k→k<W1.heap.size→own1 k=0:=fun k h1 h2=>Decidable.byContradiction fun h=>(HON1.out _ h).elim (fun h=>by have:=(H.out.v.lt _ h).2;omega) (fun h=>by omega)
   have hGM9:GM w9 R B base s nv1 L1 own1 x1 g1:=⟨(HGM6.out.v.gr g7).kept (fun k hk=>hk9 k (Nat.lt_of_lt_of_le (HGM6.out.v.lt k hk).2 g7.size) (fun e=>hk (oz1 k (by omega) (by omega)))) (by omega),HGM6.out.nd,HGM6.out.sec,HGM6.out.dep,HGM6.out.many⟩
   have hGI9:GI w9 base own1 x1.iv x1.nsv g.its.length:=by
    rw[HIVE.out,HNSV.out];exact (HGI6.out.gr g7).kept fun k e=>by
     have:=(HGI.out.lt k e).2;exact hk9 k (by omega) (by omega)
   have hTA9:=(HTA6.out.keptB (fun k _ h2=>g7.block h2) g7.size).keptB (fun k h1 h2=>hk9 k h2 (by omega)) (by omega);have hM9:ItM w9 w6.heap.size it (.slice ka kn kc) (.slice sa sn sc) (.slice ta tn tc):=⟨hM.k.of_block fun k e=>hk9 k (hM.k.lt k e).2 (by have:=(hM.k.lt k e).1;omega),hM.s.of_block fun k e=>hk9 k (hM.s.lt k e).2 (by have:=(hM.s.lt k e).1;omega),hM.n.imp id fun ⟨g0,LL,a,b,c⟩=>⟨g0,LL,a,b,c.keptB (fun k h1 h2=>hk9 k h2 (by omega)) (by omega)⟩⟩
   have HF9:=Lib.hid (hFb.gr g9);have HI9:=Lib.hid hI9;have HP9:=Lib.hid hP9;have HT9:=Lib.hid hT9;have HGM9:=Lib.hid hGM9;have HGI9:=Lib.hid hGI9;have HTA9:=Lib.hid hTA9;have HM9:=Lib.hid hM9;have HU9:=Lib.hid (hU8.gr g9);have HW7:=Lib.hid (show w.heap.size+1≤w7.heap.size by omega);obtain⟨⟨c0,c1,c2,c3,c4,c5,c6⟩,c7,c8,fz⟩:=hGM9.v.cells;obtain⟨⟨b0,b1,b2,b3,b4,b5,b6,b7,b8⟩,bf,bl⟩:=cells9 hI9;have hXX:=HXX.out
   try simp only at hXX
   have HOZ1:=Lib.hid oz1;have hR9:=hGM9.v.R_lt;have hn9:w7.heap.size<w9.heap.size:=bl;clear hFb hIb hbb hsb hU8 hI9 hP9 hT9 hGM9 hGI9 hTA9 hM9 hM hk9 p0 p1 pf pl g9 g7 hF7 oz1 c0 c1 c2 c3 c5 c6 c7 c8 fz;have hits:g1.its=g.its:=(its_words HYW.out).1
   go_upto_block 0 with fail
   go_cut [9] (fun s9 W'=>KindR w w7.heap.size #[.int .u8 it.kind,.int .i64 it.a,.int .i64 it.b,.slice ka kn kc,.slice sa sn sc,.int .i64 it.va,.int .i64 it.vb,.slice ta tn tc,.int .i64 it.root] R B base s x1 g.its.length it.b X s9 W')
   case first =>
    have ozI:own1 w7.heap.size=0:=Decidable.byContradiction fun h=>by have:=(HGM6.out.v.lt _ h).2;omega
    have ozz:own1 w.heap.size=0:=HOZ1.out _ (Nat.le_refl _) (by omega);by_cases h0:it.kind=0
    · have s0:((it.kind:Int)==0)=true:=by simp;omega
      rw[if_pos h0]at hXX;clear h0;go_wp2_with fail
      go_meet
      exact⟨-1,nv1,L1,own1,g1,_,rfl,HGM9.out,HGI9.out,HI9.out,HF9.out,HU9.out,ozI,ozz,hXX.symm,rfl,rfl,rfl,rfl,rfl,by simp[hits]⟩
    have s0:((it.kind:Int)==0)=false:=by simp;omega
    rw[if_neg h0]at hXX;clear h0;by_cases h1:it.kind=1
    · have s1:((it.kind:Int)==1)=true:=by simp;omega
      rw[if_pos h1]at hXX;clear h1;cases hgl:it.ws.getLast? with
      | none=>rw[hgl]at hXX;exact absurd hXX.symm hne
      | some kw =>
       obtain⟨wt,a,b⟩:=kw;rw[hgl]at hXX;simp only at hXX;by_cases hgr:(Pl.graftOk nds root && Pl.grown8 (Pl.graftG g1 nds) into && Pl.room (Pl.graftG g1 nds).nds)=true
       · rw[if_pos hgr]at hXX;simp only[Bool.and_eq_true]at hgr;obtain⟨⟨hgo,hg8⟩,hroom⟩:=hgr;unfold Pl.graftOk at hgo;simp only[Bool.and_eq_true,decide_eq_true_eq,List.all_eq_true]at hgo;obtain⟨hroot,hsubs⟩:=hgo;unfold Pl.room at hroom;rw[decide_eq_true_eq,←graft_nds g1 L1 T nds HGM9.out.nd hTn,List.length_map,List.length_append,List.length_map]at hroom;have HGRAFT:=Lib.hid (gr_graft w9 R B base s nv1 L1 own1 g1.srt x1 HGM9.out.v (.slice to' tl tk) root base2 T HTA9.out (by omega) HO2.out (by omega) hroot (fun i r hr=>by
          have hm:r.nd∈nds:=by rw[←hTn];exact List.mem_map_of_mem (List.mem_of_getElem? hr)
          have h1:=hsubs _ hm;exact⟨h1.1,h1.2⟩))
         obtain⟨p0,p1,pf,pl⟩:=id HT9.out;go_wp2_with fail;refine HGRAFT.out.mono ?_;rintro e w10 ⟨he,nv2,own2,GV2,ST2,ON2⟩;obtain⟨nd,hnd⟩:∃nd,root+L1.length=nd:=⟨_,rfl⟩
         rw[hnd]at he;subst he;have hw2le:w2.heap.size+1+1≤w6.heap.size:=hz6;have h9w:w7.heap.size<w9.heap.size:=hn9;have hnT:∀k,own1 k=0→(k<base2∨w2.heap.size≤k)→¬(FV own1 k∨TB T T.length k):=fun k h0 h1 e=>e.elim (fun e=>e h0) (fun e=>by have:=HTB.out k e;omega)
         have hl1:∀k,own1 k≠0→k<w2.heap.size:=fun k h=>Decidable.byContradiction fun h2=>by
          have h3:=HO2.out k;have h4:=HL1.out k h;omega
         have o1z:∀k,w2.heap.size≤k→own1 k=0:=fun k h=>Decidable.byContradiction fun h2=>by have:=hl1 k h2;omega
         have hb2w:W1.heap.size≤base2:=hb2;have hF10:=HF9.out.st ST2 (hnT _ ozz (.inl (by omega)));have hP10:=HP9.out.st ST2 (hnT _ (o1z _ (Nat.le_refl _)) (.inr (Nat.le_refl _)));have hI10:=(ST2.block w7.heap.size h9w (hnT _ ozI (.inr (by omega)))).trans HI9.out;have hU10:Up base w w10:=HU9.out.trans (ST2.up fun k e=>e.elim (fun e=>(HGM9.out.v.lt k e).1) (fun e=>by have:=HTB.out k e;omega));have hf2:∀k,k<w9.heap.size→own1 k=0→(k<base2∨w2.heap.size≤k)→own2 k=0:=fun k h1 h2 h3=>Decidable.byContradiction fun h=>by
          rcases ON2 k h with e|e|e
          · exact e h2
          · have:=HTB.out k e;omega
          omega
         have hGI10:GI w10 base own2 x1.iv x1.nsv g.its.length:=by
          obtain⟨q1,q2,q3,q4,q5⟩:=HGI9.out;have hlow:∀k,x1.iv.ownBlock=some k∨x1.nsv.ownBlock=some k→k<base2:=fun k e=>by
           rw[HIVE.out,HNSV.out]at e;have:=(HGI.out.lt k e).2;omega
          have hk:∀k,x1.iv.ownBlock=some k∨x1.nsv.ownBlock=some k→own1 k=0:=fun k e=>e.elim (q3 k) (q4 k)
          have hh:=HGI9.out.kept (w':=w10) fun k e=>ST2.block k (HGI9.out.lt k e).2 (hnT k (hk k e) (.inl (hlow k e)))
          exact⟨hh.i,hh.n,fun k e=>hf2 k (HGI9.out.lt k (.inl e)).2 (q3 k e) (.inl (hlow k (.inl e))),fun k e=>hf2 k (HGI9.out.lt k (.inr e)).2 (q4 k e) (.inl (hlow k (.inr e))),q5⟩
         have hwl:0<it.ws.length:=by
          cases hw:it.ws with
          | nil=>rw[hw]at hgl;cases hgl
          | cons=>simp
         obtain⟨gk,gs,ck,cs,hkv,hsv,lk1,ls1,lk2,ls2,hrw⟩:=keyRows HM9.out.k HM9.out.s hwl;simp only[Value.slice.injEq]at hkv hsv;obtain⟨rfl,rfl,rfl⟩:=hkv;obtain⟨rfl,rfl,rfl⟩:=hsv;obtain⟨la,hla⟩:∃la,it.ws.length=la+1:=⟨it.ws.length-1,by omega⟩
         have hwla:it.ws[la]?=some (wt,a,b):=by rw[List.getLast?_eq_getElem?,hla]at hgl;exact hgl
         obtain⟨r1,r2,r3⟩:=hrw la wt a b hwla;have tk10:∀o,w10.cell? ⟨gk,o,none⟩=w9.cell? ⟨gk,o,none⟩:=fun o=>((ST2.use gk lk2 (hnT _ (o1z _ (by omega)) (.inr (by omega)))).1 o)
         have ts10:∀o,w10.cell? ⟨gs,o,none⟩=w9.cell? ⟨gs,o,none⟩:=fun o=>((ST2.use gs ls2 (hnT _ (o1z _ (by omega)) (.inr (by omega)))).1 o)
         obtain⟨_,_,_,hcm⟩:=(show ∃g c,(Value.slice (some ⟨gk,0,none⟩) it.ws.length kc) = .slice (some ⟨g,0,none⟩) it.ws.length c∧it.ws.length≤maxLen from by
          obtain⟨g,c,e,h1,h2⟩:=HM9.out.k.form hwl;exact⟨g,c,e,by omega⟩)
         have hlam:la≤9223372036854775806:=by unfold maxLen at hcm;omega
         have hLAST:=tt_last w10 gk gs la kc sc ⟨wt.toArray⟩ a b hlam (Nat.lt_of_lt_of_le lk2 ST2.size) (Nat.lt_of_lt_of_le ls2 ST2.size) ((tk10 _).trans r1) ((ts10 _).trans r2) ((ts10 _).trans r3);rw[←hla]at hLAST;have HLAST:=Lib.hid hLAST;have HI10:=Lib.hid hI10;have HF10:=Lib.hid hF10;have HP10:=Lib.hid hP10;have HU10:=Lib.hid hU10;have HGI10:=Lib.hid hGI10;have HGV2:=Lib.hid GV2;have h10:=ST2.size;have hl10:w7.heap.size<w10.heap.size:=by omega
         have o2I:=hf2 _ h9w ozI (.inr (by omega));have o2z:=hf2 _ (by omega) ozz (.inl (by omega));have o2P:=hf2 w2.heap.size (by omega) (o1z _ (Nat.le_refl _)) (.inr (Nat.le_refl _));clear hF10 hP10 hU10 hGI10 hLAST GV2 ST2 ON2 hf2 tk10 ts10 r1 r2 r3 hrw hnT hl1 o1z p0 p1 pf pl b0 b1 b2 b3 b4 b5 b6 b7 b8 bf bl HGRAFT hwl hgl hwla c4 lk1 ls1 lk2 ls2 hla hsubs hI10;obtain⟨⟨b0,b1,b2,b3,b4,b5,b6,b7,b8⟩,bf,bl⟩:=cells9 HI10.out;go_wp2_with fail;refine HLAST.out.mono ?_;rintro e w11 ⟨rfl,g11⟩;obtain⟨hsp,g12,z12⟩:=bx2 w11 (.int .i64 a) (.int .i64 b) 73;obtain⟨W12,hW12⟩:∃W12,w11.alloc (.cells #[.int .i64 a,.int .i64 b] 73)=W12:=⟨_,rfl⟩
         rw[hW12]at hsp g12 z12;have gA12:=g11.trans g12;unfold Pl.grown8 at hg8;rw[Bool.and_eq_true]at hg8;obtain⟨hk8,hso8⟩:=hg8;unfold Pl.kind8 at hk8;rw[Bool.and_eq_true,decide_eq_true_eq,←graft_nds g1 L1 T nds HGM9.out.nd hTn]at hk8;obtain⟨_,hkk⟩:=hk8;obtain⟨L2,hL2⟩:∃L2,L1++T.map (shiftR L1.length)=L2:=⟨_,rfl⟩
         rw[hL2]at hkk HGV2;obtain⟨r,hr⟩:∃r,L2[into]?=some r:=by
          cases hr:L2[into]? with
          | some r=>exact⟨r,rfl⟩
          | none=>rw[List.getElem?_map,hr]at hkk;cases hkk
         rw[List.getElem?_map,hr]at hkk;simp only[Option.map_some,Bool.and_eq_true,decide_eq_true_eq]at hkk;obtain⟨⟨⟨_,hc1⟩,hc2⟩,hc3⟩:=hkk;have hG1:Grown (g1.srt++List.replicate T.length (0,0)) into:=by
          unfold Grown;intro h2;unfold Pl.sortOf at hso8;rw[←graft_srt g1 T nds hTn,h2]at hso8;cases hso8
         have hL2l:L2.length≤30000000:=by rw[←hL2,List.length_append,List.length_map];omega
         have HPUT:=Lib.hid (gr_put W12 R B base s 0 nv2 L2 own2 (g1.srt++List.replicate T.length (0,0)) x1 (HGV2.out.gr gA12) hL2l into r hr hG1 hc1 hc2 hc3 ⟨wt.toArray⟩ a b nd);obtain⟨p0,p1,pf,pl⟩:=HP10.out.gr gA12;obtain⟨y0,y1,yf,yl⟩:=hsp;have HGA:=Lib.hid gA12;clear hG1 hso8 hc1 hc2 hc3 g11 g12 gA12 b0 b1 b2 b3 b4 b5 b6 b7 b8 bf bl HLAST;go_wp2_with fail
         try rw[hW12]
         refine HPUT.out.mono ?_;rintro e w13 ⟨he,own3,kv',sv',uv',GV3,ST3,ON3⟩;subst he;go_wp2_with fail
         go_meet
         have hf3:∀k,k<W12.heap.size→own2 k=0→own3 k=0:=fun k h1 h2=>Decidable.byContradiction fun h=>(ON3 k h).elim (fun h=>h h2) (fun h=>by omega)
         have hgs:=HGA.out.size;have hGI12:=(HGI10.out.gr HGA.out).st ST3;refine⟨(nd:Int),nv2,L2.set into ⟨Pl.putNd r.nd (bs ⟨wt.toArray⟩) (a,b) nd,kv',sv',uv'⟩,own3,Pl.putG (Pl.graftG g1 nds) into wt (a,b) nd,_,rfl,⟨?_,?_,HGM9.out.sec,HGM9.out.dep,HGM9.out.many⟩,hGI12,(ST3.block w7.heap.size (by omega) (fun e=>e o2I)).trans ((HGA.out.block hl10).trans HI10.out),(HF10.out.gr HGA.out).st ST3 (fun e=>e o2z),(HU10.out.gr HGA.out).trans (ST3.up fun k e=>((HGV2.out.gr HGA.out).lt k e).1),hf3 _ (by omega) o2I,hf3 _ (by omega) o2z,hXX.symm,?_,rfl,rfl,rfl,rfl,by simp[Pl.graftG,hits]⟩
         · have:(Pl.putG (Pl.graftG g1 nds) into wt (a,b) nd).srt=g1.srt++List.replicate T.length (0,0):=(graft_srt g1 T nds hTn).symm;rw[this];exact GV3
         · rw[nds_put L2 into r hr,show bs (⟨wt.toArray⟩:ByteArray)=wt by simp[bs],←hL2,graft_nds g1 L1 T nds HGM9.out.nd hTn];rfl
         rw[←hnd,show L1.length=g1.nds.length from by rw[←HGM9.out.nd,List.length_map]]
       exact J57
    have s1:((it.kind:Int)==1)=false:=by simp;omega
    rw[if_neg h1]at hXX;clear h1;go_wp2_with fail
    go_meet
    exact⟨x1.sec,nv1,L1,own1,g1,_,rfl,HGM9.out,HGI9.out,HI9.out,HF9.out,HU9.out,ozI,ozz,hXX.symm,rfl,rfl,rfl,rfl,rfl,by simp[hits]⟩
   case rest =>
    obtain⟨nI,nvE,LE,ownE,gE,gF,rfl,hGMe,hGIe,hBx,hFe,hUe,hoI,hoz,hXe,q1,q2,q3,q4,q5,q6⟩:=hcut;have HGMe:=Lib.hid hGMe;have HGIe:=Lib.hid hGIe;have HBx:=Lib.hid hBx;have HFe:=Lib.hid hFe;have HUe:=Lib.hid hUe;have HXe:=Lib.hid hXe;obtain⟨V,hV⟩:∃V,V=wc:=⟨_,rfl⟩
    subst hV;clear hGMe hGIe hBx hFe hUe hXe b0 b1 b2 b3 b4 b5 b6 b7 b8 bf c4;have hRe0:=HGMe.out.v.R_lt
    go_upto_region 15 with fail
    obtain⟨⟨xi,hi⟩,⟨xn,hn'⟩,hoi,hon,hne2⟩:=HGIe.out;have hR0:Rows2 V V.drew base (fun k=>x1.iv.ownBlock=some k∨x1.nsv.ownBlock=some k) x1.iv x1.nsv g.its.length g.its.length xi xn:=⟨⟨rfl,rfl,rfl,Nat.le_refl _,fun _ _ _=>rfl,fun _ e=>e.elim⟩,hi,hn',fun k e => .inl (.inl e),fun k e => .inl (.inr e),hne2⟩
    have hnF:∀k,ownE k≠0∨w.heap.size≤k→¬(x1.iv.ownBlock=some k∨x1.nsv.ownBlock=some k):=fun k h0 e=>by
     rcases h0 with h0|h0
     · exact e.elim (fun e=>h0 (hoi k e)) (fun e=>h0 (hon k e))
     rw[HIVE.out,HNSV.out]at e;have:=(HGI.out.lt k e).2;omega
    have hRe:=HGMe.out.v.R_lt;have HRK:Hid (∀V',St (fun k=>x1.iv.ownBlock=some k∨x1.nsv.ownBlock=some k) (fun _=>False) V V'→V'.cell? ⟨R,7,none⟩=some x1.iv∧V'.cell? ⟨R,8,none⟩=some x1.nsv∧(∀o,V'.frozen? ⟨R,o,none⟩=false)):=fun V' hs'=>by
     have hu:=hs'.use R hRe.2 (hnF R (.inl (by rw[HGMe.out.v.oR];omega)));obtain⟨_,c7,c8,fz⟩:=HGMe.out.v.cells;exact⟨(hu.1 7).trans c7,(hu.1 8).trans c8,fun o=>(hu.2 o).trans (fz o)⟩
    have HIS:Hid (∀V',St (fun k=>x1.iv.ownBlock=some k∨x1.nsv.ownBlock=some k) (fun _=>False) V V'→IS R w7.heap.size x1.iv x1.nsv (.int .u8 it.kind) (.int .i64 it.a) (.int .i64 it.b) (.slice ka kn kc) (.slice sa sn sc) (.int .i64 it.va) (.int .i64 it.vb) (.slice ta tn tc) (.int .i64 it.root) V'):=fun V' hs'=>by
     obtain⟨⟨b0,b1,b2,b3,b4,b5,b6,b7,b8⟩,_,bl⟩:=cells9 HBx.out;have hu:=hs'.use w7.heap.size bl (hnF w7.heap.size (.inr (by have:=HW7.out;omega)));obtain⟨k7,k8,_⟩:=HRK.out V' hs';exact⟨k7,k8,(hu.1 0).trans b0,(hu.1 1).trans b1,(hu.1 2).trans b2,(hu.1 3).trans b3,(hu.1 4).trans b4,(hu.1 5).trans b5,(hu.1 6).trans b6,(hu.1 7).trans b7,(hu.1 8).trans b8⟩
    obtain⟨iI,i1,i2,i3,i4⟩:=info_parts infoItm;have HII:=Lib.hid (And.intro i1 (And.intro i2 (And.intro i3 i4)));obtain⟨iU,u1,u2,u3,u4⟩:=info_parts infoInt;have HIU:=Lib.hid (And.intro u1 (And.intro u2 (And.intro u3 u4)));have hbase:base≤V.heap.size:=by omega
    have HIV:Hid (∀k,x1.iv.ownBlock=some k→k<V.heap.size):=fun k e=>(HGIe.out.lt k (.inl e)).2
    clear i1 i2 i3 i4 u1 u2 u3 u4 hi hn' hoi hon hne2
    go_cut [9] (fun s9 W'=>ItmR V R B base s nvE LE ownE x1 gE (g.its.length+1) W')
    case first =>
     have hS0:=HIS.out V.drew hR0.st;refine Reg.begin' (W:=fun i=>i != 15 && i != 18 && i != 21) (S:=IS R w7.heap.size x1.iv x1.nsv (.int .u8 it.kind) (.int .i64 it.a) (.int .i64 it.b) (.slice ka kn kc) (.slice sa sn sc) (.int .i64 it.va) (.int .i64 it.vb) (.slice ta tn tc) (.int .i64 it.root)) (by kernel_rfl) ?_;obtain⟨V0,hV⟩:∃V0,V.drew=V0:=⟨_,rfl⟩
     have ZV0:=Lib.hid (show V0.heap.size=V.heap.size by rw[←hV];rfl);rw[hV]at hS0 hR0 ⊢;clear hV;have HIVV:Hid (∀k,V0.heap.size≤k→x1.iv.ownBlock=some k→False):=fun k h1 h2=>by
      have:=HIV.out k h2;have:=ZV0.out;omega
     have lV0:V0.heap.size≤V0.heap.size:=Nat.le_refl _;have HR0:=Lib.hid hR0;clear hR0;refine Z40 ?_;refine Z42 ?_;refine Reg.tl 5 hS0 ?_ (hy:=by intro w hSw;obtain⟨s0',s1',s2',s3',s4',s5',s6',s7',s8',s9',s10'⟩:=hSw;go_simp;try with_reducible rfl);refine Reg.tl 6 hS0 ?_ (hy:=by intro w hSw;obtain⟨s0',s1',s2',s3',s4',s5',s6',s7',s8',s9',s10'⟩:=hSw;go_simp;try with_reducible rfl);refine Reg.ty 9 ?_;refine Z65 ?_;refine Reg.tl 12 hS0 ?_ (hy:=by intro w hSw;obtain⟨s0',s1',s2',s3',s4',s5',s6',s7',s8',s9',s10'⟩:=hSw;go_simp;try with_reducible rfl);refine Reg.ty 13 ?_;refine Reg.all (rs:=[7,14]) (by kernel_rfl) (by simp) ?_;refine Z14 ?_;intro j hj;rcases hj with rfl|rfl
     · skip;refine Reg.one (i:=7) rfl (by rfl) ?_;go_simp;have HRn:=HR0.out.alloc (.cells #[.int .u8 it.kind,.int .i64 it.a,.int .i64 it.b,.slice ka kn kc,.slice sa sn sc,.int .i64 it.va,.int .i64 it.vb,.slice ta tn tc,.int .i64 it.root] 79);have NBn:=heap_alloc_new V0 (.cells #[.int .u8 it.kind,.int .i64 it.a,.int .i64 it.b,.slice ka kn kc,.slice sa sn sc,.int .i64 it.va,.int .i64 it.vb,.slice ta tn tc,.int .i64 it.root] 79);have zVn:(V0.alloc (.cells #[.int .u8 it.kind,.int .i64 it.a,.int .i64 it.b,.slice ka kn kc,.slice sa sn sc,.int .i64 it.va,.int .i64 it.vb,.slice ta tn tc,.int .i64 it.root] 79)).heap.size=V0.heap.size+1:=by simp
       have gVn:Gr V0 (V0.alloc (.cells #[.int .u8 it.kind,.int .i64 it.a,.int .i64 it.b,.slice ka kn kc,.slice sa sn sc,.int .i64 it.va,.int .i64 it.vb,.slice ta tn tc,.int .i64 it.root] 79)):=(Gr.refl _).alloc _;obtain⟨V1,hV⟩:∃V',V0.alloc (.cells #[.int .u8 it.kind,.int .i64 it.a,.int .i64 it.b,.slice ka kn kc,.slice sa sn sc,.int .i64 it.va,.int .i64 it.vb,.slice ta tn tc,.int .i64 it.root] 79)=V':=⟨_,rfl⟩
       rw[hV]at HRn NBn gVn zVn ⊢;clear hV;refine Z210 ?_;intro HR1 NBI gV1 zV1;clear HRn NBn gVn zVn;have lV1:=Nat.le_trans lV0 gV1.out.size;have hS1:=HIS.out V1 HR1.out.st
       first|refine (And.intro (hS1) ?_:_∧Reg.anyW _ _ _ _ _ _ _ _ _ _)|refine (And.intro (fun _=>hS1) ?_:_∧Reg.anyW _ _ _ _ _ _ _ _ _ _)|refine (And.intro (fun _ _=>hS1) ?_:_∧Reg.anyW _ _ _ _ _ _ _ _ _ _)|skip
       refine Z2 ?_;refine Reg.all (rs:=[8,14]) (by kernel_rfl) (by simp) ?_;refine Z14 ?_;intro j hj;rcases hj with rfl|rfl
       · skip;refine Reg.one (i:=8) rfl (by rfl) ?_;refine wp_append_lies _ (.tmp 68) (.tmp 70) 50 (by rfl) base 79 iI _ 9 120 Tryz.underlying50 HII.out.1 HII.out.2.1 HII.out.2.2.1 HII.out.2.2.2 (by rfl) (by decide) x1.iv g.its.length xi (by rfl) HR1.out.i _ 1 1 [.int .u8 it.kind,.int .i64 it.a,.int .i64 it.b,.slice ka kn kc,.slice sa sn sc,.int .i64 it.va,.int .i64 it.vb,.slice ta tn tc,.int .i64 it.root] (by rfl) (by rfl) (World.news_of_block NBI.out) (by simp[Value.oneCell']) (by decide) (by unfold maxLen;omega) (by omega) (Nat.le_trans hbase HR1.out.st.size) _ rfl ?_;intro gI capI V2 ho hg ha hz;have HR2:=Lib.hid (HR1.out.appI ho hg ha);have lV2:=Nat.le_trans lV1 hg.size;skip;clear ho hg ha hz;have hS2:=HIS.out V2 HR2.out.st;refine⟨fun _ _=>hS2,?_⟩;refine Reg.pt ?_;refine Reg.on 14 ?_;go_simp;have HRn:=HR2.out.alloc (.cells #[.int .i64 (nI)] 3);have NBn:=heap_alloc_new V2 (.cells #[.int .i64 (nI)] 3);have zVn:(V2.alloc (.cells #[.int .i64 (nI)] 3)).heap.size=V2.heap.size+1:=by simp
         have gVn:Gr V2 (V2.alloc (.cells #[.int .i64 (nI)] 3)):=(Gr.refl _).alloc _;obtain⟨V3,hV⟩:∃V',V2.alloc (.cells #[.int .i64 (nI)] 3)=V':=⟨_,rfl⟩
         rw[hV]at HRn NBn gVn zVn ⊢;clear hV;refine Z210 ?_;intro HR3 NBN gV3 zV3;clear HRn NBn gVn zVn;have lV3:=Nat.le_trans lV2 gV3.out.size;have hS3:=HIS.out V3 HR3.out.st
         first|refine (And.intro (hS3) ?_:_∧Reg.anyW _ _ _ _ _ _ _ _ _ _)|refine (And.intro (fun _=>hS3) ?_:_∧Reg.anyW _ _ _ _ _ _ _ _ _ _)|refine (And.intro (fun _ _=>hS3) ?_:_∧Reg.anyW _ _ _ _ _ _ _ _ _ _)|skip
         refine Z2 ?_;exact J92
       skip;refine Reg.one (i:=14) rfl (by rfl) ?_;go_simp;have HRn:=HR1.out.alloc (.cells #[.int .i64 (nI)] 3);have NBn:=heap_alloc_new V1 (.cells #[.int .i64 (nI)] 3);have zVn:(V1.alloc (.cells #[.int .i64 (nI)] 3)).heap.size=V1.heap.size+1:=by simp
       have gVn:Gr V1 (V1.alloc (.cells #[.int .i64 (nI)] 3)):=(Gr.refl _).alloc _;obtain⟨V2,hV⟩:∃V',V1.alloc (.cells #[.int .i64 (nI)] 3)=V':=⟨_,rfl⟩
       rw[hV]at HRn NBn gVn zVn ⊢;clear hV;refine Z210 ?_;intro HR2 NBN gV2 zV2;clear HRn NBn gVn zVn;have lV2:=Nat.le_trans lV1 gV2.out.size;have hS2:=HIS.out V2 HR2.out.st
       first|refine (And.intro (hS2) ?_:_∧Reg.anyW _ _ _ _ _ _ _ _ _ _)|refine (And.intro (fun _=>hS2) ?_:_∧Reg.anyW _ _ _ _ _ _ _ _ _ _)|refine (And.intro (fun _ _=>hS2) ?_:_∧Reg.anyW _ _ _ _ _ _ _ _ _ _)|skip
       refine Z2 ?_;refine Reg.all (rs:=[8]) (by kernel_rfl) (by simp) ?_;intro j hj;obtain rfl:=List.mem_singleton.1 hj;clear hj;have NBI':=Lib.hid ((gV2.out.block (Array.getElem?_eq_some_iff.1 NBI.out).1).trans NBI.out);clear NBI;have NBI:=NBI';refine Z89 ?_;intro gI capI V3 ho hg ha hz HR3 lV3;have NBN':=Lib.hid ((hg.block _ (Array.getElem?_eq_some_iff.1 NBN.out).1 (fun e=>HIVV.out _ lV1 e.symm)).trans NBN.out);exact J165
     skip;refine Reg.one (i:=14) rfl (by rfl) ?_;go_simp;have HRn:=HR0.out.alloc (.cells #[.int .i64 (nI)] 3);have NBn:=heap_alloc_new V0 (.cells #[.int .i64 (nI)] 3);have zVn:(V0.alloc (.cells #[.int .i64 (nI)] 3)).heap.size=V0.heap.size+1:=by simp
     have gVn:Gr V0 (V0.alloc (.cells #[.int .i64 (nI)] 3)):=(Gr.refl _).alloc _;obtain⟨V1,hV⟩:∃V',V0.alloc (.cells #[.int .i64 (nI)] 3)=V':=⟨_,rfl⟩
     rw[hV]at HRn NBn gVn zVn ⊢;clear hV;refine Z210 ?_;intro HR1 NBN gV1 zV1;clear HRn NBn gVn zVn;have lV1:=Nat.le_trans lV0 gV1.out.size;have hS1:=HIS.out V1 HR1.out.st
     first|refine (And.intro (hS1) ?_:_∧Reg.anyW _ _ _ _ _ _ _ _ _ _)|refine (And.intro (fun _=>hS1) ?_:_∧Reg.anyW _ _ _ _ _ _ _ _ _ _)|refine (And.intro (fun _ _=>hS1) ?_:_∧Reg.anyW _ _ _ _ _ _ _ _ _ _)|skip
     refine Z2 ?_;refine Reg.on 7 ?_;go_simp;have HRn:=HR1.out.alloc (.cells #[.int .u8 it.kind,.int .i64 it.a,.int .i64 it.b,.slice ka kn kc,.slice sa sn sc,.int .i64 it.va,.int .i64 it.vb,.slice ta tn tc,.int .i64 it.root] 79);have NBn:=heap_alloc_new V1 (.cells #[.int .u8 it.kind,.int .i64 it.a,.int .i64 it.b,.slice ka kn kc,.slice sa sn sc,.int .i64 it.va,.int .i64 it.vb,.slice ta tn tc,.int .i64 it.root] 79);have zVn:(V1.alloc (.cells #[.int .u8 it.kind,.int .i64 it.a,.int .i64 it.b,.slice ka kn kc,.slice sa sn sc,.int .i64 it.va,.int .i64 it.vb,.slice ta tn tc,.int .i64 it.root] 79)).heap.size=V1.heap.size+1:=by simp
     have gVn:Gr V1 (V1.alloc (.cells #[.int .u8 it.kind,.int .i64 it.a,.int .i64 it.b,.slice ka kn kc,.slice sa sn sc,.int .i64 it.va,.int .i64 it.vb,.slice ta tn tc,.int .i64 it.root] 79)):=(Gr.refl _).alloc _;obtain⟨V2,hV⟩:∃V',V1.alloc (.cells #[.int .u8 it.kind,.int .i64 it.a,.int .i64 it.b,.slice ka kn kc,.slice sa sn sc,.int .i64 it.va,.int .i64 it.vb,.slice ta tn tc,.int .i64 it.root] 79)=V':=⟨_,rfl⟩
     rw[hV]at HRn NBn gVn zVn ⊢;clear hV;refine Z210 ?_;intro HR2 NBI gV2 zV2;clear HRn NBn gVn zVn;have lV2:=Nat.le_trans lV1 gV2.out.size;have hS2:=HIS.out V2 HR2.out.st
     first|refine (And.intro (hS2) ?_:_∧Reg.anyW _ _ _ _ _ _ _ _ _ _)|refine (And.intro (fun _=>hS2) ?_:_∧Reg.anyW _ _ _ _ _ _ _ _ _ _)|refine (And.intro (fun _ _=>hS2) ?_:_∧Reg.anyW _ _ _ _ _ _ _ _ _ _)|skip
     refine Z2 ?_;refine Reg.all (rs:=[8]) (by kernel_rfl) (by simp) ?_;intro j hj;obtain rfl:=List.mem_singleton.1 hj;clear hj;have NBN2:=Lib.hid ((gV2.out.block (Array.getElem?_eq_some_iff.1 NBN.out).1).trans NBN.out);refine Z89 ?_;intro gI capI V3 ho hg ha hz HR3 lV3;have NBN':=Lib.hid ((hg.block _ (Array.getElem?_eq_some_iff.1 NBN2.out).1 (fun e=>HIVV.out _ lV0 e.symm)).trans NBN2.out);exact J165
    case rest =>
     obtain⟨iv',nsv',hGMf,hGIf,hUf,hbf⟩:=hcut;have hne':∀k,w.heap.size≤k→∀v,v=x1.iv∨v=x1.nsv→v.ownBlock≠some k:=fun k hk v hv e=>hnF k (.inr hk) (by
      rcases hv with rfl|rfl
      · exact .inl e
      exact .inr e)
     have hb9:=(hbf w7.heap.size (Array.getElem?_eq_some_iff.1 HBx.out).1 hoI (hne' _ (by have:=HW7.out;omega))).trans HBx.out;have hFf:=HFe.out.of_block (hbf w.heap.size HFe.out.2.2.2 hoz (hne' _ (Nat.le_refl _))) hUf.size;obtain⟨⟨b0,b1,b2,b3,b4,b5,b6,b7,b8⟩,bf,bl⟩:=cells9 hb9
     go_upto_region 16 with fail
     have hS16:FX w.heap.size (.int .i64 0) (.int .i64 0) wc.drew∧wc.drew.cell? ⟨w7.heap.size,2,none⟩=some (.int .i64 it.b):=⟨hFf.gr (Gr.refl wc).drew,b2⟩
     obtain⟨p0,p1,pf,pl⟩:=id hFf;refine Reg.begin' (W:=fun i=>i != 5) (S:=fun W=>FX w.heap.size (.int .i64 0) (.int .i64 0) W∧W.cell? ⟨w7.heap.size,2,none⟩=some (.int .i64 it.b)) (by kernel_rfl) ?_;refine Z57 ?_;refine Reg.tl 2 hS16 ?_ (hy:=by intro w hSw;obtain⟨⟨s0',s1',s2',s3'⟩,s4'⟩:=hSw;go_simp;try with_reducible rfl);refine Reg.tl 3 hS16 ?_ (hy:=by intro w hSw;obtain⟨⟨s0',s1',s2',s3'⟩,s4'⟩:=hSw;go_simp;try with_reducible rfl);refine Reg.ty 4 ?_;refine Reg.on 5 ?_;go_simp;rw[setCell_self hFf.1,setCell_self hFf.2.1];refine Z12 ?_;go_wp2_with fail;obtain⟨q0',q1',qf',ql'⟩:=hS16.1;refine bodyPost_ret (v := .tuple #[.int .i64 it.b,f0]) (by simp[results,Tryz.results27,go_sem,q0',q1',qf',ql']) rfl ?_;rw[HXe.out];exact⟨nvE,LE,ownE,{ x1 with iv:=iv',nsv:=nsv' },rfl,⟨by rw[q2];exact hGMf.v.drew,by rw[q1];exact hGMf.nd,by rw[q3];exact hGMf.sec,by rw[q4];exact hGMf.dep,by rw[q5];exact hGMf.many⟩,by rw[q6];exact hGIf.gr (Gr.refl wc).drew,(HUe.out.trans hUf).drew⟩
end Go.Proofs.YtfogfaagjpebcaaGreatDoor
