/- The proof's part 44. -/
import Derived.Test.YtnkgknbdaiakgaaGreatDoorP40
import Derived.Test.YtnkgknbdaiakgaaGreatDoorP43
set_option maxHeartbeats 16000000
set_option linter.all false
set_option maxRecDepth 100000
namespace Go.Proofs.YtnkgknbdaiakgaaGreatDoor
open Pl Go.Proofs.Tryz Go.RowKit Go.Shelf Go.Joins
attribute [local go_sem] Uy
abbrev Up(base:Nat):World->World->Prop:=St (λ k=>base<=k) (λ k=>base<=k)
theorem St.up{F F':Nat->Prop}{a b:World}{base:Nat}(h:St F F' a b)(hF:∀k,F k->base<=k):Up base a b:=⟨h.os,h.tape,h.output,h.size,λ k hk hn=>h.block k hk (λ e=>hn (hF k e)),λ _ e => .inl e⟩
def V6n:List Value->List Pl.It->Prop
 |xs,[]=>xs=[]
 |xs,it::r=>∃k s n ys,xs=Value.int .u8 it.kind :: .int .i64 it.a :: .int .i64 it.b::k::s :: .int .i64 it.va :: .int .i64 it.vb::n :: .int .i64 it.root::ys/\V6n ys r
theorem V6n.add:∀{its:List Pl.It}{xs:List Value}(_:V6n xs its)(it:Pl.It)(k s n:Value),V6n (xs++[.int .u8 it.kind,.int .i64 it.a,.int .i64 it.b,k,s,.int .i64 it.va,.int .i64 it.vb,n,.int .i64 it.root]) (its++[it])
 | [],xs,h,it,k,s,n=>by
  unfold V6n at h;subst h;exact⟨k,s,n,[],rfl,rfl⟩
 | i0::r,xs,h,it,k,s,n=>by
  obtain⟨k0,s0,n0,ys,rfl,hy⟩:=h;exact⟨k0,s0,n0,_,rfl,hy.add it k s n⟩
structure GI(w:World)(base:Nat)(own:Nat->Nat)(iv nsv:Value)(its:List Pl.It)(ns:List Int):Prop where
 i:∃xs,w.ownsRow base 53 9 iv its.length xs/\V6n xs its
 n:w.ownsRow base 3 1 nsv its.length (ns.map λ z=>Value.int .i64 z)
 oi:∀k,iv.ownBlock=some k->own k=0
 on:∀k,nsv.ownBlock=some k->own k=0
 ne:∀k,iv.ownBlock=some k->nsv.ownBlock≠some k
theorem GI.st{w w':World}{base:Nat}{own own':Nat->Nat}{iv nsv:Value}{its:List Pl.It}{ns:List Int}(h:GI w base own iv nsv its ns)(g:St (FV own) (FV own') w w'):GI w' base own' iv nsv its ns:=by
 obtain⟨⟨xi,hi,hx⟩,hn,h3,h4,h5⟩:=h;have z:∀k,k<w.heap.size->own k=0->own' k=0:=λ k hk h0=>Ue λ h=>(g.own k h).elim (λ e=>e h0) (λ e=>by omega)
 exact⟨⟨xi,O1 hi λ k e=>g.block k (hi.lt k e).2 (λ hf=>hf (h3 k e)),hx⟩,O1 hn λ k e=>g.block k (hn.lt k e).2 (λ hf=>hf (h4 k e)),λ k e=>z k (hi.lt k e).2 (h3 k e),λ k e=>z k (hn.lt k e).2 (h4 k e),h5⟩
theorem GI.gr{w w':World}{base:Nat}{own:Nat->Nat}{iv nsv:Value}{its:List Pl.It}{ns:List Int}(h:GI w base own iv nsv its ns)(g:Gr w w'):GI w' base own iv nsv its ns:=h.st (g.st (F:=FV own))
def Ooz(w:World)(R B base:Nat)(s:ByteArray)(X:Va (Nat×Vb))(e:Ending)(w':World):Prop:=match X with
 |.non=>True
 |.bad c p=>e = .returned (.tuple #[(0:Int),fv c p])/\c≠0/\Up base w w'
 |.ok (m,g')=>∃nv' L' own' x',e = .returned (.tuple #[m,f0])/\GM w' R B base s nv' L' own' x' g'/\GI w' base own' x'.iv x'.nsv g'.its g'.ns/\Up base w w'
theorem O8e.open{V w2:World}{R B base:Nat}{s:ByteArray}{own:Nat->Nat}{iv nsv:Value}{Y:Va (Nat×Nat×Vc×Vb)}{e:Ending}(h:O8e V R B base s own iv nsv Y e w2)(hn:Y ≠ .non) :
    ∃(v1 v2:Int)(o:Option Addr)(l k:Nat)(v4 c q:Int),e = .returned (.tuple #[.agg #[v1,v2],.agg #[.slice o l k,v4],.agg #[c,q]]):=by
 cases Y with
 |non=>exact absurd rfl hn
 |bad c p =>
  obtain⟨⟨v1,v2,o,l,k,v4,he⟩,_⟩:=h;exact⟨v1,v2,o,l,k,v4,c,p,he⟩
 |ok r =>
  obtain⟨into,root,nds,g'⟩:=r;obtain⟨dd,tv,T,b2,nv',L',own',x',he,_,_,_,_,_,hT,_⟩:=h;rcases hT with⟨rfl,_⟩|⟨g,rfl,_⟩
  exact⟨_,_,_,_,_,_,_,_,he⟩
  exact⟨_,_,_,_,_,_,_,_,he⟩
theorem Oa1{w2:World}{z:Nat}{x y:Value}(h:FX z x y w2)(c q v1 v2 v3 v4:Value)(T0 T1:TypeId) :
    FX z c q ((((w2.setCell ⟨z,0,none⟩ c).setCell ⟨z,1,none⟩ q).alloc (.cells #[v1,v2] T0)).alloc (.cells #[v3,v4] T1))/\FX w2.heap.size v1 v2 ((((w2.setCell ⟨z,0,none⟩ c).setCell ⟨z,1,none⟩ q).alloc (.cells #[v1,v2] T0)).alloc (.cells #[v3,v4] T1)) /\
    FX (w2.heap.size+1) v3 v4 ((((w2.setCell ⟨z,0,none⟩ c).setCell ⟨z,1,none⟩ q).alloc (.cells #[v1,v2] T0)).alloc (.cells #[v3,v4] T1)) /\
    (∀k,k<w2.heap.size->k≠z->((((w2.setCell ⟨z,0,none⟩ c).setCell ⟨z,1,none⟩ q).alloc (.cells #[v1,v2] T0)).alloc (.cells #[v3,v4] T1)).heap[k]?=w2.heap[k]?) /\
    ((((w2.setCell ⟨z,0,none⟩ c).setCell ⟨z,1,none⟩ q).alloc (.cells #[v1,v2] T0)).alloc (.cells #[v3,v4] T1)).heap.size=w2.heap.size+1+1 /\
    (∀(F F':Nat->Prop)(w:World),St F F' w w2->w.heap.size<=z->St F F' w ((((w2.setCell ⟨z,0,none⟩ c).setCell ⟨z,1,none⟩ q).alloc (.cells #[v1,v2] T0)).alloc (.cells #[v3,v4] T1))):=by
 refine Z124 ?_;intro hF iB hs;have hb:∀k,k≠z->((w2.setCell ⟨z,0,none⟩ c).setCell ⟨z,1,none⟩ q).heap[k]?=w2.heap[k]?:=λ k hk=>by rw[U5 _ _ _ _ hk,U5 _ _ _ _ hk]
 obtain⟨W,hW⟩:=ExZ ((w2.setCell ⟨z,0,none⟩ c).setCell ⟨z,1,none⟩ q)
 rw[hW]at hF iB hs hb⊢;obtain⟨f1,g1,z1⟩:=bx2 W v1 v2 T0;obtain⟨W1,aQ⟩:=ExZ (W.alloc (.cells #[v1,v2] T0))
 rw[aQ]at f1 g1 z1⊢;obtain⟨f2,g2,z2⟩:=bx2 W1 v3 v4 T1;rw[iB]at f1 z1;rw[z1]at f2 z2;exact⟨(hF.gr g1).gr g2,f1.gr g2,f2,λ k hk hn=>((g1.trans g2).block (by omega)).trans (hb k hn),z2,λ F F' w g l=>((hs F F' w g l).gr g1).gr g2⟩
theorem GI.kept{w w':World}{base:Nat}{own:Nat->Nat}{iv nsv:Value}{its:List Pl.It}{ns:List Int}(h:GI w base own iv nsv its ns)(hb:∀k,iv.ownBlock=some k\/nsv.ownBlock=some k->w'.heap[k]?=w.heap[k]?):GI w' base own iv nsv its ns:=by
 obtain⟨⟨xi,hi,hx⟩,hn,h3,h4,h5⟩:=h;exact⟨⟨xi,O1 hi λ k e=>hb k (.inl e),hx⟩,O1 hn λ k e=>hb k (.inr e),h3,h4,h5⟩
theorem GI.lt{w:World}{base:Nat}{own:Nat->Nat}{iv nsv:Value}{its:List Pl.It}{ns:List Int}(h:GI w base own iv nsv its ns):∀k,iv.ownBlock=some k\/nsv.ownBlock=some k->base<=k/\k<w.heap.size:=λ k e=>by
 obtain⟨⟨xi,hi,_⟩,hn,_⟩:=h;rcases e with e|e
 exact hi.lt k e
 exact hn.lt k e
theorem Ocg{w2:World}{z:Nat}{x y:Value}(h:FX z x y w2)(c q c0 c1 c2 c3 c4 c5 c6 c7 c8:Value)(T:TypeId) :
    FX z c q (((w2.setCell ⟨z,0,none⟩ c).setCell ⟨z,1,none⟩ q).alloc (.cells #[c0,c1,c2,c3,c4,c5,c6,c7,c8] T)) /\
    (((w2.setCell ⟨z,0,none⟩ c).setCell ⟨z,1,none⟩ q).alloc (.cells #[c0,c1,c2,c3,c4,c5,c6,c7,c8] T)).heap[w2.heap.size]?=some (.cells #[c0,c1,c2,c3,c4,c5,c6,c7,c8] T (0,0)) /\
    (∀k,k<w2.heap.size->k≠z->(((w2.setCell ⟨z,0,none⟩ c).setCell ⟨z,1,none⟩ q).alloc (.cells #[c0,c1,c2,c3,c4,c5,c6,c7,c8] T)).heap[k]?=w2.heap[k]?) /\
    (((w2.setCell ⟨z,0,none⟩ c).setCell ⟨z,1,none⟩ q).alloc (.cells #[c0,c1,c2,c3,c4,c5,c6,c7,c8] T)).heap.size=w2.heap.size+1 /\
    (∀(F F':Nat->Prop)(w:World),St F F' w w2->w.heap.size<=z->St F F' w (((w2.setCell ⟨z,0,none⟩ c).setCell ⟨z,1,none⟩ q).alloc (.cells #[c0,c1,c2,c3,c4,c5,c6,c7,c8] T))):=by
 refine Z124 ?_;intro hF iB hs;have hb:∀k,k≠z->((w2.setCell ⟨z,0,none⟩ c).setCell ⟨z,1,none⟩ q).heap[k]?=w2.heap[k]?:=λ k hk=>by rw[U5 _ _ _ _ hk,U5 _ _ _ _ hk]
 obtain⟨W,hW⟩:=ExZ ((w2.setCell ⟨z,0,none⟩ c).setCell ⟨z,1,none⟩ q)
 rw[hW]at hF iB hs hb⊢;have g1:Gr W (W.alloc (.cells #[c0,c1,c2,c3,c4,c5,c6,c7,c8] T)):=(Gr.refl W).alloc _;have hn:=U10 W (.cells #[c0,c1,c2,c3,c4,c5,c6,c7,c8] T);rw[iB]at hn;exact⟨hF.gr g1,hn,λ k hk hn=>(g1.block (by omega)).trans (hb k hn),by simp[iB],λ F F' w g l=>(hs F F' w g l).gr g1⟩
theorem Ok4{E:Vz}{l:Pl.Bs}{n m:Nat}{g g2:Vb}(h:V23 E l n g = .ok (m,g2)):g.nds.length<=g2.nds.length:=by
 unfold V23 at h
 split at h;cases h
 cases h
 rename_i hw
 have h1:=(O2z hw).2
 split at h;cases h
 cases h
 split at h;cases h;exact h1
 split at h
 split at h;cases h
 simp only at h
 split at h;cases h;exact Uj h1 (by simp[V2r,Vo,V1c])
 cases h
 cases h;exact h1
theorem Oms:(prog.info? 53).map (λ i=>(i.zero,i.size,i.bytes))=some (some itZ,9,120):=by kernel_rfl
structure V5m(w0 W:World)(base:Nat)(F:Nat->Prop)(iv nv:Value)(ni nn:Nat)(xi xn:List Value):Prop where
 st:St F (λ _=>False) w0 W
 i:W.ownsRow base 53 9 iv ni xi
 n:W.ownsRow base 3 1 nv nn xn
 fi:∀b,iv.ownBlock=some b->F b\/w0.heap.size<=b
 fn:∀b,nv.ownBlock=some b->F b\/w0.heap.size<=b
 ne:∀b,iv.ownBlock=some b->nv.ownBlock≠some b
section
variable {w0 W w1:World}{base:Nat}{F:Nat->Prop}{iv nv:Value}{ni nn:Nat}{xi xn:List Value}
theorem V5m.alloc(h:V5m w0 W base F iv nv ni nn xi xn)(o:Obj):V5m w0 (W.alloc o) base F iv nv ni nn xi xn:=⟨h.st.alloc o,h.i.alloc o,h.n.alloc o,h.fi,h.fn,h.ne⟩
theorem V5m.appI(h:V5m w0 W base F iv nv ni nn xi xn){g cap:Nat}{ys:List Value}(ho:w1.ownsRow base 53 9 (.slice (some ⟨g,0,none⟩) (ni+1) cap) (ni+1) ys)(hg:W.grownBy w1 iv.ownBlock)
    (cY:iv.ownBlock=some g\/g=W.heap.size):V5m w0 w1 base F (.slice (some ⟨g,0,none⟩) (ni+1) cap) nv (ni+1) nn ys xn:=by
 have ey:F g\/w0.heap.size<=g:=by
  rcases cY with e|e
  exact h.fi g e
  exact .inr (by have:=h.st.size;omega)
 have hs:nv.ownBlock≠some g:=by
  rcases cY with e|e
  exact h.ne g e
  intro e2;have:=(h.n.lt g e2).2;omega
 exact⟨h.st.grown hg h.fi,ho,O1j h.n hg h.ne,λ b e=>by simp[Value.ownBlock]at e;subst e;exact ey,h.fn,λ b e=>by simp[Value.ownBlock]at e;subst e;exact hs⟩
theorem V5m.appN(h:V5m w0 W base F iv nv ni nn xi xn){g cap:Nat}{ys:List Value}(ho:w1.ownsRow base 3 1 (.slice (some ⟨g,0,none⟩) (nn+1) cap) (nn+1) ys)(hg:W.grownBy w1 nv.ownBlock)
    (cY:nv.ownBlock=some g\/g=W.heap.size):V5m w0 w1 base F iv (.slice (some ⟨g,0,none⟩) (nn+1) cap) ni (nn+1) xi ys:=by
 have ey:F g\/w0.heap.size<=g:=by
  rcases cY with e|e
  exact h.fn g e
  exact .inr (by have:=h.st.size;omega)
 have hs:iv.ownBlock≠some g:=by
  rcases cY with e|e
  exact λ e2=>h.ne g e2 e
  intro e2;have:=(h.i.lt g e2).2;omega
 exact⟨h.st.grown hg h.fn,O1j h.i hg (λ b e e2=>h.ne b e2 e),ho,h.fi,λ b e=>by simp[Value.ownBlock]at e;subst e;exact ey,λ b e e2=>by simp[Value.ownBlock]at e2;subst e2;exact hs e⟩
end
structure IS(R I:Nat)(iv nsv c0 c1 c2 c3 c4 c5 c6 c7 c8:Value)(w:World):Prop where
 i:w.cell? ⟨R,7,none⟩=some iv
 n:w.cell? ⟨R,8,none⟩=some nsv
 b0:w.cell? ⟨I,0,none⟩=some c0
 b1:w.cell? ⟨I,1,none⟩=some c1
 b2:w.cell? ⟨I,2,none⟩=some c2
 b3:w.cell? ⟨I,3,none⟩=some c3
 b4:w.cell? ⟨I,4,none⟩=some c4
 b5:w.cell? ⟨I,5,none⟩=some c5
 b6:w.cell? ⟨I,6,none⟩=some c6
 b7:w.cell? ⟨I,7,none⟩=some c7
 b8:w.cell? ⟨I,8,none⟩=some c8
def Vdg(V:World)(R B base:Nat)(s:ByteArray)(nv:Value)(L:List Vw)(own:Nat->Nat)(x:GrX)(g:Vb)(its:List Pl.It)(ns:List Int)(W':World):Prop :=
 ∃kH eD,GM W' R B base s nv L own { x with iv:=kH,nsv:=eD } g/\GI W' base own kH eD its ns/\Up base V W'/\(∀k,k<V.heap.size->own k=0->(∀v,v=x.iv\/v=x.nsv->v.ownBlock≠some k)->W'.heap[k]?=V.heap[k]?)
theorem Omt{V V2:World}{R B base:Nat}{s:ByteArray}{nv:Value}{L:List Vw}{own:Nat->Nat}{x:GrX}{g:Vb}{n:Nat}(h:GM V R B base s nv L own x g){Jr its:List Pl.It}{R6 ns:List Int}(hI:GI V base own x.iv x.nsv Jr R6){kH eD:Value}{xi xn:List Value}
    (H:V5m V V2 base (λ k=>x.iv.ownBlock=some k\/x.nsv.ownBlock=some k) kH eD n n xi xn)(hn:n=its.length)(EO:V6n xi its)(CY:xn=ns.map λ z=>Value.int .i64 z) :
    Vdg V R B base s nv L own x g its ns ((V2.setCell ⟨R,7,none⟩ kH).setCell ⟨R,8,none⟩ eD):=by
 have hF:∀k,own k≠0->¬(x.iv.ownBlock=some k\/x.nsv.ownBlock=some k):=λ k h0 e=>e.elim (λ e=>h0 (hI.oi k e)) (λ e=>h0 (hI.on k e))
 have m7:=h.v.R_lt;have jo:V2.heap[R]?=V.heap[R]?:=H.st.block R m7.2 (hF R (by rw[h.v.oR];omega));have wM:(V2.setCell ⟨R,7,none⟩ kH).heap[R]?=some (.cells #[nv,(0:Int),.string s,.map (some B),x.sec,x.dep,x.many,kH,x.nsv] 69 (0,0)):=by rw[block_setCell (jo.trans h.v.blk)];rfl
 have R7:((V2.setCell ⟨R,7,none⟩ kH).setCell ⟨R,8,none⟩ eD).heap[R]?=some (.cells #[nv,(0:Int),.string s,.map (some B),x.sec,x.dep,x.many,kH,eD] 69 (0,0)):=by rw[block_setCell wM];rfl
 have tO:∀k,k≠R->((V2.setCell ⟨R,7,none⟩ kH).setCell ⟨R,8,none⟩ eD).heap[k]?=V2.heap[k]?:=λ k hk=>by rw[U5 _ _ _ _ hk,U5 _ _ _ _ hk]
 have iB:((V2.setCell ⟨R,7,none⟩ kH).setCell ⟨R,8,none⟩ eD).heap.size=V2.heap.size:=by simp[World.setCell]
 have aJ:=H.st.size;have Ag:B≠R:=λ e=>by have h1:=h.v.oR;rw[<-e,h.v.oB]at h1;omega
 have bU:∀(v:Value),(∀b,v.ownBlock=some b->(x.iv.ownBlock=some b\/x.nsv.ownBlock=some b)\/V.heap.size<=b)->∀k,v.ownBlock=some k->own k=0/\k≠R:=λ v hv k e=>by
  have h0:own k=0:=by
   rcases hv k e with e|e
   exact e.elim (hI.oi k) (hI.on k)
   exact Ue λ h0=>by have:=(h.v.lt k h0).2;omega
  exact⟨h0,λ e=>by subst e;rw[h.v.oR]at h0;omega⟩
 obtain⟨D,h1,h2⟩:=h.v.map;refine⟨kH,eD,⟨h.v.turn rfl R7 ⟨D,Oe h1 ((tO B Ag).trans (H.st.block B h.v.B_lt.2 (hF B (by rw[h.v.oB];omega)))),h2⟩ (λ k hk hR _=>(tO k hR).trans (H.st.block k (h.v.lt k hk).2 (hF k hk))) (by omega) (λ i r hr hg => .inl hg),h.nd,h.sec,h.dep,h.many⟩,?_,?_,λ k hk h0 hv=>?_⟩;subst CY hn;exact⟨⟨xi,O1 H.i λ k e=>tO k (bU kH H.fi k e).2,EO⟩,O1 H.n λ k e=>tO k (bU eD H.fn k e).2,λ k e=>(bU kH H.fi k e).1,λ k e=>(bU eD H.fn k e).1,H.ne⟩;exact ((H.st.up λ k e=>(hI.lt k e).1).setCell (p:=⟨R,7,none⟩) (.inl m7.1) _).setCell (p:=⟨R,8,none⟩) (.inl m7.1) _
 have AE:k≠R:=λ e=>by subst e;rw[h.v.oR]at h0;omega
 exact (tO k AE).trans (H.st.block k hk (λ e=>e.elim (hv x.iv (.inl rfl)) (hv x.nsv (.inr rfl))))
theorem O61(g1:Vb)(L1 T:List Vw)(nds:Vc)(h1:L1.map (·.nd)=g1.nds)(h2:T.map (·.nd)=nds):(L1++T.map (Ow L1.length)).map (·.nd)=(V1c g1 nds).nds:=by
 have e:L1.length=g1.nds.length:=by rw[<-h1,Ul]
 rw[U20,h1,e,<-h2];unfold V1c;simp only[List.map_map];rfl
theorem Oa2(g1:Vb)(T:List Vw)(nds:Vc)(h2:T.map (·.nd)=nds):g1.srt++List.replicate T.length (0,0)=(V1c g1 nds).srt:=by
 rw[<-h2];show _=g1.srt++(T.map (·.nd)).map (λ _=>(0,0));congr 1;clear h2
 induction T with
 |nil=>rfl
 |cons r T ih=>rw[Ub,List.replicate_succ,ih];rfl
def Op0(w:World)(I:Nat)(cs:Array Value)(R B base:Nat)(s:ByteArray)(x1:GrX)(its:List Pl.It)(ns:List Int)(it:Pl.It)(e:Nat)(X:Va (Nat×Vb))(s9:Value)(W':World):Prop :=
 ∃(nI:Int)(vF:Value)(LE:List Vw)(eC:Nat->Nat)(gE gF:Vb),s9 = .int .i64 nI/\GM W' R B base s vF LE eC x1 gE/\GI W' base eC x1.iv x1.nsv its ns/\W'.heap[I]?=some (.cells cs 53 (0,0))/\FX w.heap.size (0:Int) (0:Int) W'/\Up base w W'/\eC I=0/\eC w.heap.size=0 /\
  X = .ok (e,gF)/\gF.nds=gE.nds/\gF.srt=gE.srt/\gF.sec=gE.sec/\gF.dep=gE.dep/\gF.many=gE.many/\gF.its=its++[it]/\gF.ns=ns++[nI]
theorem Omu(Tb:Nat->UInt8×UInt8)(w0 w:World)(et:Gr w0 w)(bO:RW Tb w0)(R B base:Nat)(jo:w0.heap.size<=base)(s:ByteArray)(hs:s.size<=20000000)(nv:Value)(L:List Vw)(own:Nat->Nat)(x:GrX)(g:Vb)(h:GM w R B base s nv L own x g)
    (cJ:V6t g=true)(MQ:GI w base own x.iv x.nsv g.its g.ns)(n:Nat)(hn:n<s.size)(X:Va (Nat×Vb))(hX:V23 ⟨Vj Tb,Vd⟩ (bs s) n g=X)(a8:X ≠ .non) :
    Calls prog 37 #[.pointer (some ⟨R,0,none⟩),n] w (Ooz w R B base s X):=by
 unfold V6t at cJ;simp only[Uf,Ux]at cJ;obtain⟨⟨⟨Js,R8⟩,MR⟩,TG⟩:=cJ;have hL:L.length<=20000001:=by rw[<-h.nd,Ul]at Js;exact Js
 have hm:x.many<=30000000:=by rw[h.many];omega
 unfold V23 at hX;obtain⟨Y,hY⟩:=ExZ (V27 ⟨Vj Tb,Vd⟩ (bs s) n g)
 rw[hY]at hX;have bH:Y ≠ .non:=λ e=>by rw[e]at hX;exact a8 hX.symm
 have MS:=U0 hY;have R9:=U0 (λ V (q:Gr w V)=>Ok1 Tb w0 V (et.trans q) bO R B base jo s hs nv L own x g (h.gr q) hL hm MR n hn Y hY bH);have HX:=U0 hX;have H:=U0 h;have pV:=U0 et;have is:=U0 bO;have kG:=U0 MQ;have oE:=h.v.R_lt;clear h hX hY et bO MQ Js R8 MR;go_enter func37,ntmps37;go_wp2_with fail;obtain⟨dl,gA,zA⟩:=bx2 w (0:Int) (0:Int) 29;obtain⟨W1,aQ⟩:=ExZ (w.alloc (.cells #[(0:Int),(0:Int)] 29))
 rw[aQ]at dl gA zA⊢;clear aQ;refine (R9.o W1 gA).mono ?_;rintro e w2 ap;obtain⟨v1,v2,sJ,tl,tk,v4,ec,eq,rfl⟩:=ap.open bH;cases Y with
 |non=>exact absurd rfl bH
 |bad c p =>
  obtain⟨⟨_,_,_,_,_,_,he⟩,dT,ad,st2,dC,ke⟩:=ap;have h1:ec=(c:Int)/\eq=(p:Int):=by simp[fv,and_assoc]at he;omega
  obtain⟨rfl,rfl⟩:=h1;have dY:=dl.st st2 (λ e=>by have:=(H.o.v.lt _ e).2;omega);have EP:Up base w w2:=(gA.st).trans (st2.up λ k e=>(H.o.v.lt k e).1);obtain⟨p0,p1,pf,pl⟩:=id dY;go_wp2_with fail;obtain⟨gH,_,_,_,An,nC⟩:=Oa1 dY c p v1 v2 (.slice sJ tl tk) v4 67 26;obtain⟨W5,jx⟩:=ExZ ((((w2.setCell ⟨w.heap.size,0,none⟩ c).setCell ⟨w.heap.size,1,none⟩ p).alloc (.cells #[v1,v2] 67)).alloc (.cells #[.slice sJ tl tk,v4] 26))
  rw[jx]at gH An nC⊢;clear jx p0 p1 pf pl;have EQ:=nC _ _ w EP (U2 _);obtain⟨p0,p1,pf,pl⟩:=id gH;refine Z180 ?_;intro w6 g6;clear p0 p1 pf pl
  go_upto_region 3 with fail
  have ic:=gH.gr g6;have lN:=ic.gr (Gr.refl w6).drew;obtain⟨p0,p1,pf,pl⟩:=id ic;refine Z149 ?_;refine Z12 ?_;go_wp2_with fail;obtain⟨q0,q1,qf,ql⟩:=lN;refine U1 (v := .tuple #[(0:Int),fv c p]) (by simp[results,results37,go_sem,q0,q1,qf,ql]) rfl ?_;have ae:=HX.o
  try simp only at ae
  rw[<-ae];exact⟨rfl,dT,(EQ.gr g6).drew⟩
 |ok r =>
  obtain⟨into,root,nds,g1⟩:=r;obtain⟨dd,tv,T,base2,jZ,L1,aC,x1,he,xW,CZ,cE,st2,ke,Jt,lR,aA,il⟩:=ap;have h1:v1=(into:Int)/\v2=dd/\tv = .slice sJ tl tk/\v4=(root:Int)/\ec=0/\eq=0:=by
   simp[f0,and_assoc]at he;obtain⟨a1,a2,a3,a4,a5,a6⟩:=he;exact⟨a1,a2,a3.symm,a4,a5,a6⟩
  obtain⟨rfl,rfl,rfl,rfl,rfl,rfl⟩:=h1;have dY:=dl.st st2 (λ e=>by have:=(H.o.v.lt _ e).2;omega);have EP:Up base w w2:=(gA.st).trans (st2.up λ k e=>(H.o.v.lt k e).1);have tU:=(kG.o.gr gA).st st2;have yK:=U0 xW;have yL:=U0 CZ;clear xW CZ;have Ra:=st2.size;obtain⟨p0,p1,pf,pl⟩:=id dY;go_wp2_with fail;obtain⟨gH,xw,od,cR,An,nC⟩:=Oa1 dY (0:Int) (0:Int) into v2 (.slice sJ tl tk) root 67 26;obtain⟨W5,jx⟩:=ExZ ((((w2.setCell ⟨w.heap.size,0,none⟩ (0:Int)).setCell ⟨w.heap.size,1,none⟩ (0:Int)).alloc (.cells #[into,v2] 67)).alloc (.cells #[.slice sJ tl tk,root] 26))
  rw[jx]at gH xw od cR An nC⊢;clear jx p0 p1 pf pl;have EQ:=nC _ _ w EP (U2 _);have oz:aC w.heap.size=0:=Ue λ h=>(ke _ h).elim (λ h=>by have:=(H.o.v.lt _ h).2;omega) (λ h=>by omega)
  have C':GM W5 R B base s jZ L1 aC x1 g1:=⟨cE.v.kept (λ k hk=>cR k (cE.v.lt k hk).2 (λ e=>hk (by rw[e];exact oz))) (by omega),cE.nd,cE.sec,cE.dep,cE.many⟩
  have D0:GI W5 base aC x.iv x.nsv g.its g.ns:=tU.kept λ k e=>by
   have:=(kG.o.lt k e).2;exact cR k (by omega) (by omega)
  have wH:Hid (∀k,TB T T.length k->base2<=k/\k<w2.heap.size):=λ k ⟨i,r,_,hr,hb⟩=>by
   rcases Jt with⟨_,rfl⟩|⟨g0,_,hT⟩
   simp at hr
   exact hb.lt hT hr
  have D1:=Jt.keptB (λ k h1 h2=>cR k h2 (by omega)) (by omega);obtain⟨Z,hZ⟩:=ExZ (V2h ⟨Vj Tb,Vd⟩ (bs s) n)
  have ae:=HX.o
  try simp only at ae
  rw[hZ]at ae;have MT:Z ≠ .non:=λ e=>by rw[e]at ae;exact a8 ae.symm
  have ft:=U0 (λ V (q:Gr w0 V)=>Omr Tb s hs n _ rfl hn V (is.o.gr q) Z hZ MT);have bV:=U0 ae;obtain⟨p0,p1,pf,pl⟩:=id gH;refine Z187 ?_;intro w6 g6;have Ju:=U0 (gH.gr g6);have Rb:=U0 (xw.gr g6);have Rc:=U0 (od.gr g6);have Jv:=U0 (EQ.gr g6);have jj:=U0 (C'.gr g6);have Jw:=U0 (D0.gr g6);have Jy:=U0 (D1.keptB (λ k _ h2=>g6.block h2) g6.size);have yj:=U0 ke;have MU:=U0 il;have Rd:Hid (∀k,aC k≠0->k<w2.heap.size):=λ k hk=>(cE.v.lt k hk).2
  have Jz:Gr w0 w6:=Jv.o.below pV.o (λ k e=>by omega);have TH:=jj.o.v.cells.1.2.2.1;have TI:=jj.o.v.R_lt.2;have se:w2.heap.size+1+1<=w6.heap.size:=by have:=g6.size;omega
  have aJ:w.heap.size+1<=w2.heap.size:=by omega
  clear gH xw od cR nC EQ C' D0 D1 Jt tU cE dY EP p0 p1 pf pl ae hZ g6 ke il st2 he;go_wp2_with fail;refine (ft.o w6 Jz).mono ?_;clear ft;obtain⟨p0,p1,pf,pl⟩:=id Ju.o;cases Z with
  |non=>exact absurd rfl MT
  |bad c p =>
   rintro e w7 ⟨he,dT,g7⟩;subst he;have lD:=Ju.o.gr g7;clear p0 p1 pf pl;obtain⟨p0,p1,pf,pl⟩:=id lD;go_wp2_with fail;obtain⟨gH,_,_,_,nC⟩:=Ocg lD c p (.int .u8 0) (0:Int) (0:Int) (.slice none 0 0) (.slice none 0 0) (0:Int) (0:Int) (.slice none 0 0) (0:Int) 53;obtain⟨W8,mq⟩:=ExZ (((w7.setCell ⟨w.heap.size,0,none⟩ c).setCell ⟨w.heap.size,1,none⟩ p).alloc (.cells #[.int .u8 0,(0:Int),(0:Int),.slice none 0 0,.slice none 0 0,(0:Int),(0:Int),.slice none 0 0,(0:Int)] 53))
   rw[mq]at gH nC⊢;have ER:=nC _ _ w (Jv.o.gr g7) (U2 _);clear mq p0 p1 pf pl;obtain⟨p0,p1,pf,pl⟩:=id gH;refine Z180 ?_;intro w9 g9;clear p0 p1 pf pl
   go_upto_region 6 with fail
   have ic:=gH.gr g9;have lN:=ic.gr (Gr.refl w9).drew;obtain⟨p0,p1,pf,pl⟩:=id ic;refine Z149 ?_;refine Z12 ?_;go_wp2_with fail;obtain⟨q0,q1,qf,ql⟩:=lN;refine U1 (v := .tuple #[(0:Int),fv c p]) (by simp[results,results37,go_sem,q0,q1,qf,ql]) rfl ?_;have ae:=bV.o
   try simp only at ae
   rw[<-ae];exact⟨rfl,dT,(ER.gr g9).drew⟩
  |ok it =>
   rintro e w7 ⟨kv,sv,tv,he,hM,g7⟩;subst he;obtain⟨⟨ka,kn,kc,rfl⟩,⟨sa,sn,sc,rfl⟩,⟨ta,tn,tc,rfl⟩⟩:=hM.forms;have lD:=Ju.o.gr g7;clear p0 p1 pf pl;obtain⟨p0,p1,pf,pl⟩:=id lD;go_wp2_with fail;obtain⟨gH,JA,cR,An,nC⟩:=Ocg lD (0:Int) (0:Int) (.int .u8 it.kind) it.a it.b (.slice ka kn kc) (.slice sa sn sc) it.va it.vb (.slice ta tn tc) it.root 53;obtain⟨W8,mq⟩:=ExZ (((w7.setCell ⟨w.heap.size,0,none⟩ (0:Int)).setCell ⟨w.heap.size,1,none⟩ (0:Int)).alloc (.cells #[.int .u8 it.kind,it.a,it.b,.slice ka kn kc,.slice sa sn sc,it.va,it.vb,.slice ta tn tc,it.root] 53))
   rw[mq]at gH JA cR An nC⊢;have ER:=nC _ _ w (Jv.o.gr g7) (U2 _);clear mq p0 p1 pf pl;obtain⟨p0,p1,pf,pl⟩:=id gH;have kS:=g7.size;refine Z187 ?_;intro w9 g9;have om:∀k,k<w7.heap.size->k≠w.heap.size->w9.heap[k]?=w7.heap[k]?:=λ k h1 h2=>(g9.block (by omega)).trans (cR k h1 h2)
   have TJ:=g9.size;have JB:=(g9.block (by omega)).trans JA;have MV:=(Rb.o.gr g7).of_block (om _ (by omega) (by omega)) (by omega);have re:=(Rc.o.gr g7).of_block (om _ (by omega) (by omega)) (by omega);have JC:∀k,w.heap.size<=k->k<W1.heap.size->aC k=0:=λ k h1 h2=>Ue λ h=>(yj.o _ h).elim (λ h=>by have:=(H.o.v.lt _ h).2;omega) (λ h=>by omega)
   have lG:GM w9 R B base s jZ L1 aC x1 g1:=⟨(jj.o.v.gr g7).kept (λ k hk=>om k (U4 (jj.o.v.lt k hk).2 g7.size) (λ e=>hk (JC k (by omega) (by omega)))) (by omega),jj.o.nd,jj.o.sec,jj.o.dep,jj.o.many⟩
   have D2:GI w9 base aC x1.iv x1.nsv g.its g.ns:=by
    rw[yK.o,yL.o];exact (Jw.o.gr g7).kept λ k e=>by
     have:=(kG.o.lt k e).2;exact om k (by omega) (by omega)
   have D3:=(Jy.o.keptB (λ k _ h2=>g7.block h2) g7.size).keptB (λ k h1 h2=>om k h2 (by omega)) (by omega);have MW:ItM w9 w6.heap.size it (.slice ka kn kc) (.slice sa sn sc) (.slice ta tn tc):=⟨hM.k.of_block λ k e=>om k (hM.k.lt k e).2 (by have:=(hM.k.lt k e).1;omega),hM.s.of_block λ k e=>om k (hM.s.lt k e).2 (by have:=(hM.s.lt k e).1;omega),hM.n.imp id λ ⟨g0,LL,a,b,c⟩=>⟨g0,LL,a,b,c.keptB (λ k h1 h2=>om k h2 (by omega)) (by omega)⟩⟩
   have JD:=U0 (gH.gr g9);have JE:=U0 JB;have Re:=U0 MV;have Rf:=U0 re;have cr:=U0 lG;have lH:=U0 D2;have JF:=U0 D3;have JG:=U0 MW;have JH:=U0 (ER.gr g9);have MX:=U0 (show w.heap.size+1<=w7.heap.size by omega);obtain⟨⟨c0,c1,c2,c3,c4,c5,c6⟩,c7,c8,fz⟩:=lG.v.cells;obtain⟨⟨b0,b1,b2,b3,b4,b5,b6,b7,b8⟩,bf,bl⟩:=O4k JB;have ae:=bV.o
   try simp only at ae
   have JI:=U0 JC;have MO:=lG.v.R_lt;have Ev:w7.heap.size<w9.heap.size:=bl;clear gH JA cR nC ER JB MV re lG D2 D3 MW hM om p0 p1 pf pl g9 g7 lD JC c0 c1 c2 c3 c5 c6 c7 c8 fz;have nD:g1.its=g.its:=(O2z MS.o).1.1;have uU:g1.ns=g.ns:=(O2z MS.o).1.2
   go_upto_block 0 with fail
   go_cut [9] (λ s9 W'=>Op0 w w7.heap.size #[.int .u8 it.kind,it.a,it.b,.slice ka kn kc,.slice sa sn sc,it.va,it.vb,.slice ta tn tc,it.root] R B base s x1 g.its g.ns it it.b X s9 W')
   case first =>
    have ES:aC w7.heap.size=0:=Ue λ h=>by have:=(jj.o.v.lt _ h).2;omega
    have ET:aC w.heap.size=0:=JI.o _ (U2 _) (by omega);by_cases h0:it.kind=0
    ·have s0:((it.kind:Int)==0)=true:=by simp;omega
     rw[Ua h0]at ae;clear h0;go_wp2_with fail
     go_meet
     exact⟨-1,jZ,L1,aC,g1,_,rfl,cr.o,lH.o,JE.o,JD.o,JH.o,ES,ET,ae.symm,rfl,rfl,rfl,rfl,rfl,by simp[nD],by simp[uU]⟩
    have s0:((it.kind:Int)==0)=false:=by simp;omega
    rw[Ud h0]at ae;clear h0;by_cases h1:it.kind=1
    ·have s1:((it.kind:Int)==1)=true:=by simp;omega
     rw[Ua h1]at ae;clear h1;cases aY:it.ws.getLast? with
     |none=>rw[aY]at ae;exact absurd ae.symm a8
     |some kw =>
      obtain⟨wt,a,b⟩:=kw;rw[aY]at ae;simp only at ae;by_cases cH:(V4o nds root&&V32 (V1c g1 nds) into&&Pl.room (V1c g1 nds).nds)=true
      ·rw[Ua cH]at ae;simp only[Uf]at cH;obtain⟨⟨dM,kC⟩,aX⟩:=cH;unfold V4o at dM;simp only[Uf,Ux,U1g]at dM;obtain⟨pX,vL⟩:=dM;unfold Pl.room at aX;rw[Ux,<-O61 g1 L1 T nds cr.o.nd lR,Ul,Ug,Ul]at aX;have qV:=U0 (Ojw w9 R B base s jZ L1 aC g1.srt x1 cr.o.v (.slice sJ tl tk) root base2 T JF.o (by omega) MU.o (by omega) pX (λ i r hr=>by
        have hm:r.nd∈nds:=by rw[<-lR];exact List.mem_map_of_mem (U1r hr)
        have h1:=vL _ hm;exact⟨h1.1,h1.2⟩))
       obtain⟨p0,p1,pf,pl⟩:=id Rf.o;go_wp2_with fail;refine qV.o.mono ?_;rintro e cx ⟨he,ib,ad,iP,dS,rJ⟩;obtain⟨nd,bP⟩:=ExZ (root+L1.length)
       rw[bP]at he;subst he;have MY:w2.heap.size+1+1<=w6.heap.size:=se;have MZ:w7.heap.size<w9.heap.size:=Ev;have yM:∀k,aC k=0->(k<base2\/w2.heap.size<=k)->¬(FV aC k\/TB T T.length k):=λ k h0 h1 e=>e.elim (λ e=>e h0) (λ e=>by have:=wH.o k e;omega)
       have gj:∀k,aC k≠0->k<w2.heap.size:=λ k h=>Ue λ h2=>by
        have h3:=MU.o k;have h4:=Rd.o k h;omega
       have D4:∀k,w2.heap.size<=k->aC k=0:=λ k h=>Ue λ h2=>by have:=gj k h2;omega
       have Rg:W1.heap.size<=base2:=aA;have D5:=JD.o.st dS (yM _ ET (.inl (by omega)));have D6:=Re.o.st dS (yM _ (D4 _ (U2 _)) (.inr (U2 _)));have D7:=(dS.block w7.heap.size MZ (yM _ ES (.inr (by omega)))).trans JE.o;have D8:Up base w cx:=JH.o.trans (dS.up λ k e=>e.elim (λ e=>(cr.o.v.lt k e).1) (λ e=>by have:=wH.o k e;omega));have dt:∀k,k<w9.heap.size->aC k=0->(k<base2\/w2.heap.size<=k)->ad k=0:=λ k h1 h2 h3=>Ue λ h=>by
        rcases rJ k h with e|e|e
        exact e h2;have:=wH.o k e;omega
        omega
       have vM:GI cx base ad x1.iv x1.nsv g.its g.ns:=by
        obtain⟨q1,q2,q3,q4,q5⟩:=lH.o;have aB:∀k,x1.iv.ownBlock=some k\/x1.nsv.ownBlock=some k->k<base2:=λ k e=>by
         rw[yK.o,yL.o]at e;have:=(kG.o.lt k e).2;omega
        have hk:∀k,x1.iv.ownBlock=some k\/x1.nsv.ownBlock=some k->aC k=0:=λ k e=>e.elim (q3 k) (q4 k)
        have hh:=lH.o.kept (w':=cx) λ k e=>dS.block k (lH.o.lt k e).2 (yM k (hk k e) (.inl (aB k e)))
        exact⟨hh.i,hh.n,λ k e=>dt k (lH.o.lt k (.inl e)).2 (q3 k e) (.inl (aB k (.inl e))),λ k e=>dt k (lH.o.lt k (.inr e)).2 (q4 k e) (.inl (aB k (.inr e))),q5⟩
       have eP:0<it.ws.length:=by
        cases hw:it.ws with
        |nil=>rw[hw]at aY;cases aY
        |cons=>simp
       obtain⟨gk,gs,ck,cs,rZ,kQ,Rh,Ri,JJ,JK,Ek⟩:=O93 JG.o.k JG.o.s eP;simp only[U33]at rZ kQ;obtain⟨rfl,rfl,rfl⟩:=rZ;obtain⟨rfl,rfl,rfl⟩:=kQ;obtain⟨la,eU⟩:∃la,it.ws.length=la+1:=⟨it.ws.length-1,by omega⟩
       have D9:it.ws[la]?=some (wt,a,b):=by rw[U2j,eU]at aY;exact aY
       obtain⟨r1,r2,r3⟩:=Ek la wt a b D9;have Da:∀o,cx.cell? ⟨gk,o,none⟩=w9.cell? ⟨gk,o,none⟩:=λ o=>((dS.use gk JJ (yM _ (D4 _ (by omega)) (.inr (by omega)))).1 o)
       have yN:∀o,cx.cell? ⟨gs,o,none⟩=w9.cell? ⟨gs,o,none⟩:=λ o=>((dS.use gs JK (yM _ (D4 _ (by omega)) (.inr (by omega)))).1 o)
       obtain⟨_,_,_,eL⟩:=(show ∃g c,(Value.slice (some ⟨gk,0,none⟩) it.ws.length kc) = .slice (some ⟨g,0,none⟩) it.ws.length c/\it.ws.length<=maxLen from by
        obtain⟨g,c,e,h1,h2⟩:=JG.o.k.form eP;exact⟨g,c,e,by omega⟩)
       have JL:la<=9223372036854775806:=by unfold maxLen at eL;omega
       have cN:=Oej cx gk gs la kc sc ⟨wt.toArray⟩ a b JL (U4 JJ dS.size) (U4 JK dS.size) ((Da _).trans r1) ((yN _).trans r2) ((yN _).trans r3);rw[<-eU]at cN;have vN:=U0 cN;have Db:=U0 D7;have JM:=U0 D5;have JN:=U0 D6;have JO:=U0 D8;have Dc:=U0 vM;have jh:=U0 iP;have bD:=dS.size;have JP:w7.heap.size<cx.heap.size:=by omega
       have M':=dt _ MZ ES (.inr (by omega));have N0:=dt _ (by omega) ET (.inl (by omega));have TK:=dt w2.heap.size (by omega) (D4 _ (U2 _)) (.inr (U2 _));clear D5 D6 D8 vM cN iP dS rJ dt Da yN r1 r2 r3 Ek yM gj D4 p0 p1 pf pl b0 b1 b2 b3 b4 b5 b6 b7 b8 bf bl qV eP aY D9 c4 Rh Ri JJ JK eU vL D7;obtain⟨⟨b0,b1,b2,b3,b4,b5,b6,b7,b8⟩,bf,bl⟩:=O4k Db.o;go_wp2_with fail;refine vN.o.mono ?_;rintro e vq ⟨rfl,CT⟩;obtain⟨dv,j8,Rj⟩:=bx2 vq (.int .i64 a) b 38;obtain⟨vI,qT⟩:=ExZ (vq.alloc (.cells #[a,b] 38))
       rw[qT]at dv j8 Rj;have ud:=CT.trans j8;unfold V32 at kC;rw[Uf]at kC;obtain⟨be,eW⟩:=kC;unfold Pl.kind8 at be;rw[Uf,Ux,<-O61 g1 L1 T nds cr.o.nd lR]at be;obtain⟨_,cZ⟩:=be;obtain⟨L2,uD⟩:=ExZ (L1++T.map (Ow L1.length))
       rw[uD]at cZ jh;obtain⟨r,hr⟩:∃r,L2[into]?=some r:=by
        cases hr:L2[into]? with
        |some r=>exact⟨r,rfl⟩
        |none=>rw[Uq,hr]at cZ;cases cZ
       rw[Uq,hr]at cZ;simp only[U18,Uf,Ux]at cZ;obtain⟨⟨⟨_,ah⟩,aE⟩,l0⟩:=cZ;have cy:Og (g1.srt++List.replicate T.length (0,0)) into:=by
        unfold Og;intro h2;unfold Vl at eW;rw[<-Oa2 g1 T nds lR,h2]at eW;cases eW
       have JQ:L2.length<=30000000:=by rw[<-uD,Ug,Ul];omega
       have nz:=U0 (Oc8 vI R B base s 0 ib L2 ad (g1.srt++List.replicate T.length (0,0)) x1 (jh.o.gr ud) JQ into r hr cy ah aE l0 ⟨wt.toArray⟩ a b nd);obtain⟨p0,p1,pf,pl⟩:=JN.o.gr ud;obtain⟨y0,y1,yf,yl⟩:=dv;have lI:=U0 ud;clear cy eW ah aE l0 CT j8 ud b0 b1 b2 b3 b4 b5 b6 b7 b8 bf bl vN;go_wp2_with fail
       try rw[qT]
       refine nz.o.mono ?_;rintro e TL ⟨he,yo,pS,pT,IB,EU,EV,Rl⟩;subst he;go_wp2_with fail
       go_meet
       have zw:∀k,k<vI.heap.size->ad k=0->yo k=0:=λ k h1 h2=>Ue λ h=>(Rl k h).elim (λ h=>h h2) (λ h=>by omega)
       have bZ:=lI.o.size;have Dd:=(Dc.o.gr lI.o).st EV;refine⟨(nd:Int),ib,L2.set into ⟨Vy r.nd (bs ⟨wt.toArray⟩) (a,b) nd,pS,pT,IB⟩,yo,V2r (V1c g1 nds) into wt (a,b) nd,_,rfl,⟨?_,?_,cr.o.sec,cr.o.dep,cr.o.many⟩,Dd,(EV.block w7.heap.size (by omega) (λ e=>e M')).trans ((lI.o.block JP).trans Db.o),(JM.o.gr lI.o).st EV (λ e=>e N0),(JO.o.gr lI.o).trans (EV.up λ k e=>((jh.o.gr lI.o).lt k e).1),zw _ (by omega) M',zw _ (by omega) N0,ae.symm,?_,rfl,rfl,rfl,rfl,by simp[V1c,nD],by simp[V1c,uU,<-bP,show L1.length=g1.nds.length from by rw[<-cr.o.nd,Ul]]⟩;have:(V2r (V1c g1 nds) into wt (a,b) nd).srt=g1.srt++List.replicate T.length (0,0):=(Oa2 g1 T nds lR).symm;rw[this];exact EU;rw[O9b L2 into r hr,show bs (⟨wt.toArray⟩:ByteArray)=wt by simp[bs],<-uD,O61 g1 L1 T nds cr.o.nd lR];rfl
       rw[<-bP,show L1.length=g1.nds.length from by rw[<-cr.o.nd,Ul]]
      exact J61
    have s1:((it.kind:Int)==1)=false:=by simp;omega
    rw[Ud h1]at ae;clear h1;go_wp2_with fail
    go_meet
    exact⟨x1.sec,jZ,L1,aC,g1,_,rfl,cr.o,lH.o,JE.o,JD.o,JH.o,ES,ET,ae.symm,rfl,rfl,rfl,rfl,rfl,by simp[nD],by simp[uU,cr.o.sec]⟩
   case rest =>
    obtain⟨nI,vF,LE,eC,gE,gF,rfl,De,Df,N1,N2,N3,Rm,Rn,zH,q1,q2,q3,q4,q5,q6,q7⟩:=hcut;have pc:=U0 De;have wZ:=U0 Df;have JR:=U0 N1;have N5:=U0 N2;have Ro:=U0 N3;have Rp:=U0 zH;obtain⟨V,hV⟩:∃V,V=wc:=⟨_,rfl⟩
    subst hV;clear De Df N1 N2 N3 zH b0 b1 b2 b3 b4 b5 b6 b7 b8 bf c4;have Rq:=pc.o.v.R_lt
    go_upto_region 15 with fail
    obtain⟨⟨xi,hi,EO⟩,zy,N6,lP,yO⟩:=wZ.o;obtain⟨xn,CY⟩:=ExZ ((g.ns.map λ z=>Value.int .i64 z))
    rw[CY]at zy;have FF:=U0 EO;have NJ:=U0 CY;clear EO CY;have ek:V5m V V.drew base (λ k=>x1.iv.ownBlock=some k\/x1.nsv.ownBlock=some k) x1.iv x1.nsv g.its.length g.its.length xi xn:=⟨⟨rfl,rfl,rfl,U2 _,λ _ _ _=>rfl,λ _ e=>e.elim⟩,hi,zy,λ k e => .inl (.inl e),λ k e => .inl (.inr e),yO⟩
    have bN:∀k,eC k≠0\/w.heap.size<=k->¬(x1.iv.ownBlock=some k\/x1.nsv.ownBlock=some k):=λ k h0 e=>by
     rcases h0 with h0|h0
     exact e.elim (λ e=>h0 (N6 k e)) (λ e=>h0 (lP k e))
     rw[yK.o,yL.o]at e;have:=(kG.o.lt k e).2;omega
    have zD:=pc.o.v.R_lt;have rt:Hid (∀V',St (λ k=>x1.iv.ownBlock=some k\/x1.nsv.ownBlock=some k) (λ _=>False) V V'->V'.cell? ⟨R,7,none⟩=some x1.iv/\V'.cell? ⟨R,8,none⟩=some x1.nsv/\(∀o,V'.frozen? ⟨R,o,none⟩=false)):=λ V' kB=>by
     have hu:=kB.use R zD.2 (bN R (.inl (by rw[pc.o.v.oR];omega)));obtain⟨_,c7,c8,fz⟩:=pc.o.v.cells;exact⟨(hu.1 7).trans c7,(hu.1 8).trans c8,λ o=>(hu.2 o).trans (fz o)⟩
    have eh:Hid (∀V',St (λ k=>x1.iv.ownBlock=some k\/x1.nsv.ownBlock=some k) (λ _=>False) V V'->IS R w7.heap.size x1.iv x1.nsv (.int .u8 it.kind) it.a it.b (.slice ka kn kc) (.slice sa sn sc) it.va it.vb (.slice ta tn tc) it.root V'):=λ V' kB=>by
     obtain⟨⟨b0,b1,b2,b3,b4,b5,b6,b7,b8⟩,_,bl⟩:=O4k JR.o;have hu:=kB.use w7.heap.size bl (bN w7.heap.size (.inr (by have:=MX.o;omega)));obtain⟨k7,k8,_⟩:=rt.o V' kB;exact⟨k7,k8,(hu.1 0).trans b0,(hu.1 1).trans b1,(hu.1 2).trans b2,(hu.1 3).trans b3,(hu.1 4).trans b4,(hu.1 5).trans b5,(hu.1 6).trans b6,(hu.1 7).trans b7,(hu.1 8).trans b8⟩
    obtain⟨iI,i1,i2,i3,i4⟩:=U2u Oms;have ur:=U0 (And.intro i1 (And.intro i2 (And.intro i3 i4)));obtain⟨iU,u1,u2,u3,u4⟩:=U2u O6c;have fS:=U0 (And.intro u1 (And.intro u2 (And.intro u3 u4)));have bM:base<=V.heap.size:=by omega
    have Rr:Hid (∀k,x1.iv.ownBlock=some k->k<V.heap.size):=λ k e=>(wZ.o.lt k (.inl e)).2
    clear i1 i2 i3 i4 u1 u2 u3 u4 hi zy N6 lP yO
    go_cut [9] (λ s9 W'=>Vdg V R B base s vF LE eC x1 gE (g.its++[it]) (g.ns++[nI]) W')
    case first =>
     have bi:=eh.o V.drew ek.st;refine Reg.begin' (W:=λ i=>i != 15&&i != 18&&i != 21) (S:=IS R w7.heap.size x1.iv x1.nsv (.int .u8 it.kind) it.a it.b (.slice ka kn kc) (.slice sa sn sc) it.va it.vb (.slice ta tn tc) it.root) (by kernel_rfl) ?_;obtain⟨V0,hV⟩:=ExZ (V.drew)
     have Rs:=U0 (show V0.heap.size=V.heap.size by rw[<-hV];rfl);rw[hV]at bi ek⊢;clear hV;have Dg:Hid (∀k,V0.heap.size<=k->x1.iv.ownBlock=some k->False):=λ k h1 h2=>by
      have:=Rr.o k h2;have:=Rs.o;omega
     have JS:V0.heap.size<=V0.heap.size:=U2 _;have iy:=U0 ek;clear ek;refine Z32 ?_;refine Z42 ?_;refine Reg.tl 5 bi ?_ (hy:=by intro w ab;obtain⟨AQ,AR,EW,EX,EY,N7,N8,N9,Na,Nb,Dh⟩:=ab;go_simp;try with_reducible rfl);refine Reg.tl 6 bi ?_ (hy:=by intro w ab;obtain⟨AQ,AR,EW,EX,EY,N7,N8,N9,Na,Nb,Dh⟩:=ab;go_simp;try with_reducible rfl);refine Reg.ty 9 ?_;refine Z61 ?_;refine Reg.tl 12 bi ?_ (hy:=by intro w ab;obtain⟨AQ,AR,EW,EX,EY,N7,N8,N9,Na,Nb,Dh⟩:=ab;go_simp;try with_reducible rfl);refine Reg.ty 13 ?_;refine Reg.all (rs:=[7,14]) (by kernel_rfl) (by simp) ?_;refine Z14 ?_;intro j hj;rcases hj with rfl|rfl
     ·skip;refine Reg.one (i:=7) rfl (by rfl) ?_;go_simp;have kT:=iy.o.alloc (.cells #[.int .u8 it.kind,it.a,it.b,.slice ka kn kc,.slice sa sn sc,it.va,it.vb,.slice ta tn tc,it.root] 53);have kU:=U10 V0 (.cells #[.int .u8 it.kind,it.a,it.b,.slice ka kn kc,.slice sa sn sc,it.va,it.vb,.slice ta tn tc,it.root] 53);have kW:(V0.alloc (.cells #[.int .u8 it.kind,it.a,it.b,.slice ka kn kc,.slice sa sn sc,it.va,it.vb,.slice ta tn tc,it.root] 53)).heap.size=V0.heap.size+1:=by simp
      have kV:Gr V0 (V0.alloc (.cells #[.int .u8 it.kind,it.a,it.b,.slice ka kn kc,.slice sa sn sc,it.va,it.vb,.slice ta tn tc,it.root] 53)):=(Gr.refl _).alloc _;obtain⟨V1,hV⟩:=ExZ (V0.alloc (.cells #[.int .u8 it.kind,it.a,it.b,.slice ka kn kc,.slice sa sn sc,it.va,it.vb,.slice ta tn tc,it.root] 53))
      rw[hV]at kT kU kV kW⊢;clear hV;refine Z209 ?_;intro aL wB AH Fj;clear kT kU kV kW;have Di:=Uj JS AH.o.size;have cm:=eh.o V1 aL.o.st
      first|refine (And.intro (cm) ?_:_/\Reg.anyW _ _ _ _ _ _ _ _ _ _)|refine (And.intro (λ _=>cm) ?_:_/\Reg.anyW _ _ _ _ _ _ _ _ _ _)|refine (And.intro (λ _ _=>cm) ?_:_/\Reg.anyW _ _ _ _ _ _ _ _ _ _)|skip
      refine Z2 ?_;refine Reg.all (rs:=[8,14]) (by kernel_rfl) (by simp) ?_;refine Z14 ?_;intro j hj;rcases hj with rfl|rfl
      ·skip;refine Reg.one (i:=8) rfl (by rfl) ?_;refine U23 _ (.tmp 68) (.tmp 70) 48 (by rfl) base 53 iI _ 9 120 underlying48 ur.o.1 ur.o.2.1 ur.o.2.2.1 ur.o.2.2.2 (by rfl) (by decide) x1.iv g.its.length xi (by rfl) aL.o.i _ 1 1 [.int .u8 it.kind,.int .i64 it.a,.int .i64 it.b,.slice ka kn kc,.slice sa sn sc,.int .i64 it.va,.int .i64 it.vb,.slice ta tn tc,.int .i64 it.root] (by rfl) (by rfl) (U1e wB.o) (by simp[Value.oneCell']) (by decide) (by unfold maxLen;omega) (by omega) (Uj bM aL.o.st.size) _ rfl ?_;intro gI rV V2 ho hg ha hz;have aP:=U0 (aL.o.appI ho hg ha);have DD:=Uj Di hg.size;skip;clear ho hg ha hz;have bj:=eh.o V2 aP.o.st;refine⟨λ _ _=>bj,?_⟩;refine Reg.pt ?_;refine Reg.on 14 ?_;go_simp;have kT:=aP.o.alloc (.cells #[.int .i64 (nI)] 3);have kU:=U10 V2 (.cells #[.int .i64 (nI)] 3);have kW:(V2.alloc (.cells #[.int .i64 (nI)] 3)).heap.size=V2.heap.size+1:=by simp
       have kV:Gr V2 (V2.alloc (.cells #[.int .i64 (nI)] 3)):=(Gr.refl _).alloc _;obtain⟨V3,hV⟩:=ExZ (V2.alloc (.cells #[.int .i64 (nI)] 3))
       rw[hV]at kT kU kV kW⊢;clear hV;refine Z209 ?_;intro aW oy Rt TM;clear kT kU kV kW;have DC:=Uj DD Rt.o.size;have aD:=eh.o V3 aW.o.st
       first|refine (And.intro (aD) ?_:_/\Reg.anyW _ _ _ _ _ _ _ _ _ _)|refine (And.intro (λ _=>aD) ?_:_/\Reg.anyW _ _ _ _ _ _ _ _ _ _)|refine (And.intro (λ _ _=>aD) ?_:_/\Reg.anyW _ _ _ _ _ _ _ _ _ _)|skip
       refine Z2 ?_;exact J115
      skip;refine Reg.one (i:=14) rfl (by rfl) ?_;go_simp;have kT:=aL.o.alloc (.cells #[.int .i64 (nI)] 3);have kU:=U10 V1 (.cells #[.int .i64 (nI)] 3);have kW:(V1.alloc (.cells #[.int .i64 (nI)] 3)).heap.size=V1.heap.size+1:=by simp
      have kV:Gr V1 (V1.alloc (.cells #[.int .i64 (nI)] 3)):=(Gr.refl _).alloc _;obtain⟨V2,hV⟩:=ExZ (V1.alloc (.cells #[.int .i64 (nI)] 3))
      rw[hV]at kT kU kV kW⊢;clear hV;refine Z209 ?_;intro aP oy Dj Ru;clear kT kU kV kW;have DD:=Uj Di Dj.o.size;have bj:=eh.o V2 aP.o.st
      first|refine (And.intro (bj) ?_:_/\Reg.anyW _ _ _ _ _ _ _ _ _ _)|refine (And.intro (λ _=>bj) ?_:_/\Reg.anyW _ _ _ _ _ _ _ _ _ _)|refine (And.intro (λ _ _=>bj) ?_:_/\Reg.anyW _ _ _ _ _ _ _ _ _ _)|skip
      refine Z2 ?_;refine Reg.all (rs:=[8]) (by kernel_rfl) (by simp) ?_;intro j hj;obtain rfl:=U13.1 hj;clear hj;have JT:=U0 ((Dj.o.block (U8.1 wB.o).1).trans wB.o);clear wB;have wB:=JT;refine Z86 ?_;intro gI rV V3 ho hg ha hz aW DC;have B4:=U0 ((hg.block _ (U8.1 oy.o).1 (λ e=>Dg.o _ Di e.symm)).trans oy.o);exact J207
     skip;refine Reg.one (i:=14) rfl (by rfl) ?_;go_simp;have kT:=iy.o.alloc (.cells #[.int .i64 (nI)] 3);have kU:=U10 V0 (.cells #[.int .i64 (nI)] 3);have kW:(V0.alloc (.cells #[.int .i64 (nI)] 3)).heap.size=V0.heap.size+1:=by simp
     have kV:Gr V0 (V0.alloc (.cells #[.int .i64 (nI)] 3)):=(Gr.refl _).alloc _;obtain⟨V1,hV⟩:=ExZ (V0.alloc (.cells #[.int .i64 (nI)] 3))
     rw[hV]at kT kU kV kW⊢;clear hV;refine Z209 ?_;intro aL oy AH Fj;clear kT kU kV kW;have Di:=Uj JS AH.o.size;have cm:=eh.o V1 aL.o.st
     first|refine (And.intro (cm) ?_:_/\Reg.anyW _ _ _ _ _ _ _ _ _ _)|refine (And.intro (λ _=>cm) ?_:_/\Reg.anyW _ _ _ _ _ _ _ _ _ _)|refine (And.intro (λ _ _=>cm) ?_:_/\Reg.anyW _ _ _ _ _ _ _ _ _ _)|skip
     refine Z2 ?_;refine Reg.on 7 ?_;go_simp;have kT:=aL.o.alloc (.cells #[.int .u8 it.kind,it.a,it.b,.slice ka kn kc,.slice sa sn sc,it.va,it.vb,.slice ta tn tc,it.root] 53);have kU:=U10 V1 (.cells #[.int .u8 it.kind,it.a,it.b,.slice ka kn kc,.slice sa sn sc,it.va,it.vb,.slice ta tn tc,it.root] 53);have kW:(V1.alloc (.cells #[.int .u8 it.kind,it.a,it.b,.slice ka kn kc,.slice sa sn sc,it.va,it.vb,.slice ta tn tc,it.root] 53)).heap.size=V1.heap.size+1:=by simp
     have kV:Gr V1 (V1.alloc (.cells #[.int .u8 it.kind,it.a,it.b,.slice ka kn kc,.slice sa sn sc,it.va,it.vb,.slice ta tn tc,it.root] 53)):=(Gr.refl _).alloc _;obtain⟨V2,hV⟩:=ExZ (V1.alloc (.cells #[.int .u8 it.kind,it.a,it.b,.slice ka kn kc,.slice sa sn sc,it.va,it.vb,.slice ta tn tc,it.root] 53))
     rw[hV]at kT kU kV kW⊢;clear hV;refine Z209 ?_;intro aP wB Dj Ru;clear kT kU kV kW;have DD:=Uj Di Dj.o.size;have bj:=eh.o V2 aP.o.st
     first|refine (And.intro (bj) ?_:_/\Reg.anyW _ _ _ _ _ _ _ _ _ _)|refine (And.intro (λ _=>bj) ?_:_/\Reg.anyW _ _ _ _ _ _ _ _ _ _)|refine (And.intro (λ _ _=>bj) ?_:_/\Reg.anyW _ _ _ _ _ _ _ _ _ _)|skip
     refine Z2 ?_;refine Reg.all (rs:=[8]) (by kernel_rfl) (by simp) ?_;intro j hj;obtain rfl:=U13.1 hj;clear hj;have Dk:=U0 ((Dj.o.block (U8.1 oy.o).1).trans oy.o);refine Z86 ?_;intro gI rV V3 ho hg ha hz aW DC;have B4:=U0 ((hg.block _ (U8.1 Dk.o).1 (λ e=>Dg.o _ JS e.symm)).trans Dk.o);exact J207
    case rest =>
     obtain⟨kH,eD,qW,JU,Nc,Nf⟩:=hcut;have Dl:∀k,w.heap.size<=k->∀v,v=x1.iv\/v=x1.nsv->v.ownBlock≠some k:=λ k hk v hv e=>bN k (.inr hk) (by
      rcases hv with rfl|rfl
      exact .inl e
      exact .inr e)
     have Rv:=(Nf w7.heap.size (U8.1 JR.o).1 Rm (Dl _ (by have:=MX.o;omega))).trans JR.o;have ww:=N5.o.of_block (Nf w.heap.size N5.o.2.2.2 Rn (Dl _ (U2 _))) Nc.size;obtain⟨⟨b0,b1,b2,b3,b4,b5,b6,b7,b8⟩,bf,bl⟩:=O4k Rv
     go_upto_region 16 with fail
     have yP:FX w.heap.size (0:Int) (0:Int) wc.drew/\wc.drew.cell? ⟨w7.heap.size,2,none⟩=some (.int .i64 it.b):=⟨ww.gr (Gr.refl wc).drew,b2⟩
     obtain⟨p0,p1,pf,pl⟩:=id ww;refine Reg.begin' (W:=λ i=>i != 5) (S:=λ W=>FX w.heap.size (0:Int) (0:Int) W/\W.cell? ⟨w7.heap.size,2,none⟩=some (.int .i64 it.b)) (by kernel_rfl) ?_;refine Z56 ?_;refine Reg.tl 2 yP ?_ (hy:=by intro w ab;obtain⟨⟨AQ,AR,EW,EX⟩,EY⟩:=ab;go_simp;try with_reducible rfl);refine Reg.tl 3 yP ?_ (hy:=by intro w ab;obtain⟨⟨AQ,AR,EW,EX⟩,EY⟩:=ab;go_simp;try with_reducible rfl);refine Reg.ty 4 ?_;refine Reg.on 5 ?_;go_simp;rw[O5 ww.1,O5 ww.2.1];refine Z12 ?_;go_wp2_with fail;obtain⟨JV,JW,JX,JY⟩:=yP.1;refine U1 (v := .tuple #[it.b,f0]) (by simp[results,results37,go_sem,JV,JW,JX,JY]) rfl ?_;rw[Rp.o];exact⟨vF,LE,eC,{ x1 with iv:=kH,nsv:=eD },rfl,⟨by rw[q2];exact qW.v.drew,by rw[q1];exact qW.nd,by rw[q3];exact qW.sec,by rw[q4];exact qW.dep,by rw[q5];exact qW.many⟩,by rw[q6,q7];exact JU.gr (Gr.refl wc).drew,(Ro.o.trans Nc).drew⟩
