/- The proof's part 41. -/
import Derived.Test.YtnkgknbdaiakgaaGreatDoorQ14
import Derived.Test.YtnkgknbdaiakgaaGreatDoorQ40
set_option maxHeartbeats 16000000
set_option linter.all false
set_option maxRecDepth 100000
namespace Go.Proofs.YtnkgknbdaiakgaaGreatDoor
open Pl Go.Proofs.Tryz Go.RowKit Go.Shelf Go.Joins
attribute [local go_sem] U22
abbrev Up(base:Nat):World->World->Prop:=St (λ k=>base<=k) (λ k=>base<=k)
theorem St.up{F F':Nat->Prop}{a b:World}{base:Nat}(h:St F F' a b)(hF:∀k,F k->base<=k):Up base a b:=⟨h.os,h.tape,h.output,h.size,λ k hk hn=>h.block k hk (λ e=>hn (hF k e)),λ _ e => .inl e⟩
def V6m:List Value->List Pl.It->Prop
 |xs,[]=>xs=[]
 |xs,it::r=>∃k s n ys,xs=Value.int .u8 it.kind :: .int .i64 it.a :: .int .i64 it.b::k::s :: .int .i64 it.va :: .int .i64 it.vb::n :: .int .i64 it.root::ys/\V6m ys r
theorem V6m.add:∀{its:List Pl.It}{xs:List Value}(_:V6m xs its)(it:Pl.It)(k s n:Value),V6m (xs++[.int .u8 it.kind,.int .i64 it.a,.int .i64 it.b,k,s,.int .i64 it.va,.int .i64 it.vb,n,.int .i64 it.root]) (its++[it])
 | [],xs,h,it,k,s,n=>by
  unfold V6m at h;subst h;exact⟨k,s,n,[],rfl,rfl⟩
 | i0::r,xs,h,it,k,s,n=>by
  obtain⟨k0,s0,n0,ys,rfl,hy⟩:=h;exact⟨k0,s0,n0,_,rfl,hy.add it k s n⟩
structure GI(w:World)(base:Nat)(own:Nat->Nat)(iv nsv:Value)(its:List Pl.It)(ns:List Int):Prop where
 i:∃xs,w.ownsRow base 53 9 iv its.length xs/\V6m xs its
 n:w.ownsRow base 3 1 nsv its.length (ns.map λ z=>Value.int .i64 z)
 oi:∀k,iv.ownBlock=some k->own k=0
 on:∀k,nsv.ownBlock=some k->own k=0
 ne:∀k,iv.ownBlock=some k->nsv.ownBlock≠some k
theorem GI.st{w w':World}{base:Nat}{own own':Nat->Nat}{iv nsv:Value}{its:List Pl.It}{ns:List Int}(h:GI w base own iv nsv its ns)(g:St (FV own) (FV own') w w'):GI w' base own' iv nsv its ns:=by
 obtain⟨⟨xi,hi,hx⟩,hn,h3,h4,h5⟩:=h;have z:∀k,k<w.heap.size->own k=0->own' k=0:=λ k hk h0=>U1g λ h=>(g.own k h).elim (λ e=>e h0) (λ e=>by omega)
 exact⟨⟨xi,O1 hi λ k e=>g.block k (hi.lt k e).2 (λ hf=>hf (h3 k e)),hx⟩,O1 hn λ k e=>g.block k (hn.lt k e).2 (λ hf=>hf (h4 k e)),λ k e=>z k (hi.lt k e).2 (h3 k e),λ k e=>z k (hn.lt k e).2 (h4 k e),h5⟩
theorem GI.gr{w w':World}{base:Nat}{own:Nat->Nat}{iv nsv:Value}{its:List Pl.It}{ns:List Int}(h:GI w base own iv nsv its ns)(g:Gr w w'):GI w' base own iv nsv its ns:=h.st (g.st (F:=FV own))
def Opa(w:World)(R B base:Nat)(s:ByteArray)(X:V9 (Nat×Vb))(e:Ending)(w':World):Prop:=match X with
 |.non=>True
 |.bad c p=>e=.returned (.tuple #[(0:Int),fv c p])/\c≠0/\Up base w w'
 |.ok (m,g')=>∃nv' L' own' x',e=.returned (.tuple #[m,f0])/\GM w' R B base s nv' L' own' x' g'/\GI w' base own' x'.iv x'.nsv g'.its g'.ns/\Up base w w'
theorem O8h.open{V w2:World}{R B base:Nat}{s:ByteArray}{own:Nat->Nat}{iv nsv:Value}{Y:V9 (Nat×Nat×Vc×Vb)}{e:Ending}(h:O8h V R B base s own iv nsv Y e w2)(hn:Y≠.non):∃(v1 v2:Int)(o:Option Addr)(l k:Nat)(v4 c q:Int),e=.returned (.tuple #[.agg #[v1,v2],.agg #[.slice o l k,v4],.agg #[c,q]]):=by
 cases Y with
 |non=>exact absurd rfl hn
 |bad c p =>
  obtain⟨⟨v1,v2,o,l,k,v4,he⟩,_⟩:=h;exact⟨v1,v2,o,l,k,v4,c,p,he⟩
 |ok r =>
  obtain⟨into,root,nds,g'⟩:=r;obtain⟨dd,tv,T,b2,nv',L',own',x',he,_,_,_,_,_,hT,_⟩:=h;rcases hT with⟨rfl,_⟩|⟨g,rfl,_⟩
  exact⟨_,_,_,_,_,_,_,_,he⟩
  exact⟨_,_,_,_,_,_,_,_,he⟩
theorem Oa5{w2:World}{z:Nat}{x y:Value}(h:FX z x y w2)(c q v1 v2 v3 v4:Value)(T0 T1:TypeId):FX z c q ((((w2.setCell z c).setCell ⟨z,1,none⟩ q).alloc (.cells #[v1,v2] T0)).alloc (.cells #[v3,v4] T1))/\FX w2 v1 v2 ((((w2.setCell z c).setCell ⟨z,1,none⟩ q).alloc (.cells #[v1,v2] T0)).alloc (.cells #[v3,v4] T1)) /\FX (w2.heap.size+1) v3 v4 ((((w2.setCell z c).setCell ⟨z,1,none⟩ q).alloc (.cells #[v1,v2] T0)).alloc (.cells #[v3,v4] T1)) /\(∀k,k<w2.heap.size->k≠z->((((w2.setCell z c).setCell ⟨z,1,none⟩ q).alloc (.cells #[v1,v2] T0)).alloc (.cells #[v3,v4] T1)).heap[k]?=w2.heap[k]?) /\((((w2.setCell z c).setCell ⟨z,1,none⟩ q).alloc (.cells #[v1,v2] T0)).alloc (.cells #[v3,v4] T1)).heap.size=w2.heap.size+1+1 /\(∀(F F':Nat->Prop)(w:World),St F F' w w2->w.heap.size<=z->St F F' w ((((w2.setCell z c).setCell ⟨z,1,none⟩ q).alloc (.cells #[v1,v2] T0)).alloc (.cells #[v3,v4] T1))):=by
 refine Z124 ?_;intro hF iR hs;have hb:∀k,k≠z->((w2.setCell z c).setCell ⟨z,1,none⟩ q).heap[k]?=w2.heap[k]?:=λ k hk=>by rw[U15 _ _ _ _ hk,U15 _ _ _ _ hk]
 obtain⟨W,hW⟩:=ExZ ((w2.setCell z c).setCell ⟨z,1,none⟩ q)
 rw[hW]at hF iR hs hb⊢;obtain⟨f1,g1,z1⟩:=bx2 W v1 v2 T0;obtain⟨W1,aR⟩:=ExZ (W.alloc (.cells #[v1,v2] T0))
 rw[aR]at f1 g1 z1⊢;obtain⟨f2,g2,z2⟩:=bx2 W1 v3 v4 T1;rw[iR]at f1 z1;rw[z1]at f2 z2;exact⟨(hF.gr g1).gr g2,f1.gr g2,f2,λ k hk hn=>((g1.trans g2).block Ya).trans (hb k hn),z2,λ F F' w g l=>((hs F F' w g l).gr g1).gr g2⟩
theorem GI.kept{w w':World}{base:Nat}{own:Nat->Nat}{iv nsv:Value}{its:List Pl.It}{ns:List Int}(h:GI w base own iv nsv its ns)(hb:∀k,iv.ownBlock=some k\/nsv.ownBlock=some k->w'.heap[k]?=w.heap[k]?):GI w' base own iv nsv its ns:=by
 obtain⟨⟨xi,hi,hx⟩,hn,h3,h4,h5⟩:=h;exact⟨⟨xi,O1 hi λ k e=>hb k (.inl e),hx⟩,O1 hn λ k e=>hb k (.inr e),h3,h4,h5⟩
theorem GI.lt{w:World}{base:Nat}{own:Nat->Nat}{iv nsv:Value}{its:List Pl.It}{ns:List Int}(h:GI w base own iv nsv its ns):∀k,iv.ownBlock=some k\/nsv.ownBlock=some k->base<=k/\k<w.heap.size:=λ k e=>by
 obtain⟨⟨xi,hi,_⟩,hn,_⟩:=h;rcases e with e|e
 exact hi.lt k e
 exact hn.lt k e
theorem Ocv{w2:World}{z:Nat}{x y:Value}(h:FX z x y w2)(c q c0 c1 c2 c3 c4 c5 c6 c7 c8:Value)(T:TypeId):FX z c q (((w2.setCell z c).setCell ⟨z,1,none⟩ q).alloc (.cells #[c0,c1,c2,c3,c4,c5,c6,c7,c8] T)) /\(((w2.setCell z c).setCell ⟨z,1,none⟩ q).alloc (.cells #[c0,c1,c2,c3,c4,c5,c6,c7,c8] T)).heap[w2.heap.size]?=some (.cells #[c0,c1,c2,c3,c4,c5,c6,c7,c8] T (0,0)) /\(∀k,k<w2.heap.size->k≠z->(((w2.setCell z c).setCell ⟨z,1,none⟩ q).alloc (.cells #[c0,c1,c2,c3,c4,c5,c6,c7,c8] T)).heap[k]?=w2.heap[k]?) /\(((w2.setCell z c).setCell ⟨z,1,none⟩ q).alloc (.cells #[c0,c1,c2,c3,c4,c5,c6,c7,c8] T)).heap.size=w2.heap.size+1 /\(∀(F F':Nat->Prop)(w:World),St F F' w w2->w.heap.size<=z->St F F' w (((w2.setCell z c).setCell ⟨z,1,none⟩ q).alloc (.cells #[c0,c1,c2,c3,c4,c5,c6,c7,c8] T))):=by
 refine Z124 ?_;intro hF iR hs;have hb:∀k,k≠z->((w2.setCell z c).setCell ⟨z,1,none⟩ q).heap[k]?=w2.heap[k]?:=λ k hk=>by rw[U15 _ _ _ _ hk,U15 _ _ _ _ hk]
 obtain⟨W,hW⟩:=ExZ ((w2.setCell z c).setCell ⟨z,1,none⟩ q)
 rw[hW]at hF iR hs hb⊢;have g1:Gr W (W.alloc (.cells #[c0,c1,c2,c3,c4,c5,c6,c7,c8] T)):=(Gr.refl W).alloc _;have hn:=U1w W (.cells #[c0,c1,c2,c3,c4,c5,c6,c7,c8] T);rw[iR]at hn;exact⟨hF.gr g1,hn,λ k hk hn=>(g1.block Ya).trans (hb k hn),by simp[iR],λ F F' w g l=>(hs F F' w g l).gr g1⟩
theorem Ol8{E:Vv}{l:Pl.Bs}{n m:Nat}{g g2:Vb}(h:V32 E l n g=.ok (m,g2)):g.nds.length<=g2.nds.length:=by
 unfold V32 at h
 split at h;cases h
 cases h
 rename_i hw
 have h1:=(O3x hw).2
 split at h;cases h
 cases h
 split at h;cases h;exact h1
 split at h
 split at h;cases h
 simp only at h
 split at h;cases h;exact U1l h1 (by simp[V1r,Vf,V12])
 cases h
 cases h;exact h1
theorem Onp:(prog.info? 53).map (λ i=>(i.zero,i.size,i.bytes))=some (some itZ,9,120):=Yc
structure V5e(w0 W:World)(base:Nat)(F:Nat->Prop)(iv nv:Value)(ni nn:Nat)(xi xn:List Value):Prop where
 st:St F (λ _=>False) w0 W
 i:W.ownsRow base 53 9 iv ni xi
 n:W.ownsRow base 3 1 nv nn xn
 fi:∀b,iv.ownBlock=some b->F b\/w0.heap.size<=b
 fn:∀b,nv.ownBlock=some b->F b\/w0.heap.size<=b
 ne:∀b,iv.ownBlock=some b->nv.ownBlock≠some b
section
variable {w0 W w1:World}{base:Nat}{F:Nat->Prop}{iv nv:Value}{ni nn:Nat}{xi xn:List Value}
theorem V5e.alloc(h:V5e w0 W base F iv nv ni nn xi xn)(o:Obj):V5e w0 (W.alloc o) base F iv nv ni nn xi xn:=⟨h.st.alloc o,h.i.alloc o,h.n.alloc o,h.fi,h.fn,h.ne⟩
theorem V5e.appI(h:V5e w0 W base F iv nv ni nn xi xn){g cap:Nat}{ys:List Value}(ho:w1.ownsRow base 53 9 (.slice g (ni+1) cap) (ni+1) ys)(hg:W.grownBy w1 iv.ownBlock)(cX:iv.ownBlock=some g\/g=W.heap.size):V5e w0 w1 base F (.slice g (ni+1) cap) nv (ni+1) nn ys xn:=by
 have eG:F g\/w0.heap.size<=g:=by
  rcases cX with e|e
  exact h.fi g e
  exact .inr (by have:=h.st.size;omega)
 have hs:nv.ownBlock≠some g:=by
  rcases cX with e|e
  exact h.ne g e
  intro e2;have:=(h.n.lt g e2).2;omega
 exact⟨h.st.grown hg h.fi,ho,O1j h.n hg h.ne,λ b e=>by simp[Value.ownBlock]at e;subst e;exact eG,h.fn,λ b e=>by simp[Value.ownBlock]at e;subst e;exact hs⟩
theorem V5e.appN(h:V5e w0 W base F iv nv ni nn xi xn){g cap:Nat}{ys:List Value}(ho:w1.ownsRow base 3 1 (.slice g (nn+1) cap) (nn+1) ys)(hg:W.grownBy w1 nv.ownBlock)(cX:nv.ownBlock=some g\/g=W.heap.size):V5e w0 w1 base F iv (.slice g (nn+1) cap) ni (nn+1) xi ys:=by
 have eG:F g\/w0.heap.size<=g:=by
  rcases cX with e|e
  exact h.fn g e
  exact .inr (by have:=h.st.size;omega)
 have hs:iv.ownBlock≠some g:=by
  rcases cX with e|e
  exact λ e2=>h.ne g e2 e
  intro e2;have:=(h.i.lt g e2).2;omega
 exact⟨h.st.grown hg h.fn,O1j h.i hg (λ b e e2=>h.ne b e2 e),ho,h.fi,λ b e=>by simp[Value.ownBlock]at e;subst e;exact eG,λ b e e2=>by simp[Value.ownBlock]at e2;subst e2;exact hs e⟩
end
structure IS(R I:Nat)(iv nsv c0 c1 c2 c3 c4 c5 c6 c7 c8:Value)(w:World):Prop where
 i:w.cell? ⟨R,7,none⟩=some iv
 n:w.cell? ⟨R,8,none⟩=some nsv
 b0:w.cell? I=some c0
 b1:w.cell? ⟨I,1,none⟩=some c1
 b2:w.cell? ⟨I,2,none⟩=some c2
 b3:w.cell? ⟨I,3,none⟩=some c3
 b4:w.cell? ⟨I,4,none⟩=some c4
 b5:w.cell? ⟨I,5,none⟩=some c5
 b6:w.cell? ⟨I,6,none⟩=some c6
 b7:w.cell? ⟨I,7,none⟩=some c7
 b8:w.cell? ⟨I,8,none⟩=some c8
def Vdo(V:World)(R B base:Nat)(s:ByteArray)(nv:Value)(L:List Vy)(own:Nat->Nat)(x:GrX)(g:Vb)(its:List Pl.It)(ns:List Int)(W':World):Prop :=
 ∃lh eK,GM W' R B base s nv L own { x with iv:=lh,nsv:=eK } g/\GI W' base own lh eK its ns/\Up base V W'/\(∀k,k<V.heap.size->own k=0->(∀v,v=x.iv\/v=x.nsv->v.ownBlock≠some k)->W'.heap[k]?=V.heap[k]?)
theorem Onq{V V2:World}{R B base:Nat}{s:ByteArray}{nv:Value}{L:List Vy}{own:Nat->Nat}{x:GrX}{g:Vb}{n:Nat}(h:GM V R B base s nv L own x g){KO its:List Pl.It}{SZ ns:List Int}(hI:GI V base own x.iv x.nsv KO SZ){lh eK:Value}{xi xn:List Value}(H:V5e V V2 base (λ k=>x.iv.ownBlock=some k\/x.nsv.ownBlock=some k) lh eK n n xi xn)(hn:n=its.length)(Gg:V6m xi its)(E3:xn=ns.map λ z=>Value.int .i64 z):Vdo V R B base s nv L own x g its ns ((V2.setCell ⟨R,7,none⟩ lh).setCell ⟨R,8,none⟩ eK):=by
 have hF:∀k,own k≠0->¬(x.iv.ownBlock=some k\/x.nsv.ownBlock=some k):=λ k h0 e=>e.elim (λ e=>h0 (hI.oi k e)) (λ e=>h0 (hI.on k e))
 have my:=h.v.R_lt;have kj:V2.heap[R]?=V.heap[R]?:=H.st.block R my.2 (hF R (by rw[h.v.oR];omega));have jO:(V2.setCell ⟨R,7,none⟩ lh).heap[R]?=some (.cells #[nv,(0:Int),.string s,.map (some B),x.sec,x.dep,x.many,lh,x.nsv] 69 (0,0)):=by rw[block_setCell (kj.trans h.v.blk)];rfl
 have FY:((V2.setCell ⟨R,7,none⟩ lh).setCell ⟨R,8,none⟩ eK).heap[R]?=some (.cells #[nv,(0:Int),.string s,.map (some B),x.sec,x.dep,x.many,lh,eK] 69 (0,0)):=by rw[block_setCell jO];rfl
 have uP:∀k,k≠R->((V2.setCell ⟨R,7,none⟩ lh).setCell ⟨R,8,none⟩ eK).heap[k]?=V2.heap[k]?:=λ k hk=>by rw[U15 _ _ _ _ hk,U15 _ _ _ _ hk]
 have iR:((V2.setCell ⟨R,7,none⟩ lh).setCell ⟨R,8,none⟩ eK).heap.size=V2.heap.size:=by simp[World.setCell]
 have aM:=H.st.size;have AY:B≠R:=λ e=>by have h1:=h.v.oR;rw[<-e,h.v.oB]at h1;omega
 have bz:∀(v:Value),(∀b,v.ownBlock=some b->(x.iv.ownBlock=some b\/x.nsv.ownBlock=some b)\/V.heap.size<=b)->∀k,v.ownBlock=some k->own k=0/\k≠R:=λ v hv k e=>by
  have h0:own k=0:=by
   rcases hv k e with e|e
   exact e.elim (hI.oi k) (hI.on k)
   exact U1g λ h0=>by have:=(h.v.lt k h0).2;omega
  exact⟨h0,λ e=>by subst e;rw[h.v.oR]at h0;omega⟩
 obtain⟨D,h1,h2⟩:=h.v.map;refine⟨lh,eK,⟨h.v.turn rfl FY ⟨D,Oe h1 ((uP B AY).trans (H.st.block B h.v.B_lt.2 (hF B (by rw[h.v.oB];omega)))),h2⟩ (λ k hk hR _=>(uP k hR).trans (H.st.block k (h.v.lt k hk).2 (hF k hk))) Ya (λ i r hr hg => .inl hg),h.nd,h.sec,h.dep,h.many⟩,?_,?_,λ k hk h0 hv=>?_⟩;subst E3 hn;exact⟨⟨xi,O1 H.i λ k e=>uP k (bz lh H.fi k e).2,Gg⟩,O1 H.n λ k e=>uP k (bz eK H.fn k e).2,λ k e=>(bz lh H.fi k e).1,λ k e=>(bz eK H.fn k e).1,H.ne⟩;exact ((H.st.up λ k e=>(hI.lt k e).1).setCell (p:=⟨R,7,none⟩) (.inl my.1) _).setCell (p:=⟨R,8,none⟩) (.inl my.1) _
 have By:k≠R:=λ e=>by subst e;rw[h.v.oR]at h0;omega
 exact (uP k By).trans (H.st.block k hk (λ e=>e.elim (hv x.iv (.inl rfl)) (hv x.nsv (.inr rfl))))
theorem O63(g1:Vb)(L1 T:List Vy)(nds:Vc)(h1:L1.map (·.nd)=g1.nds)(h2:T.map (·.nd)=nds):(L1++T.map (O10 L1.length)).map (·.nd)=(V12 g1 nds).nds:=by
 have e:L1.length=g1.nds.length:=by rw[<-h1,U1j]
 rw[U2x,h1,e,<-h2];unfold V12;simp only[U4o];rfl
theorem Oa6(g1:Vb)(T:List Vy)(nds:Vc)(h2:T.map (·.nd)=nds):g1.srt++List.replicate T.length (0,0)=(V12 g1 nds).srt:=by
 rw[<-h2];show _=g1.srt++(T.map (·.nd)).map (λ _=>(0,0));congr 1;clear h2
 induction T with
 |nil=>rfl
 |cons r T ih=>rw[U1d,List.replicate_succ,ih];rfl
def Opb(w:World)(I:Nat)(cs:Array Value)(R B base:Nat)(s:ByteArray)(x1:GrX)(its:List Pl.It)(ns:List Int)(it:Pl.It)(e:Nat)(X:V9 (Nat×Vb))(s9:Value)(W':World):Prop :=
 ∃(nI:Int)(xc:Value)(LE:List Vy)(eJ:Nat->Nat)(gE gF:Vb),s9=.int .i64 nI/\GM W' R B base s xc LE eJ x1 gE/\GI W' base eJ x1.iv x1.nsv its ns/\W'.heap[I]?=some (.cells cs 53 (0,0))/\FX w (0:Int) (0:Int) W'/\Up base w W'/\eJ I=0/\eJ w.heap.size=0 /\
  X=.ok (e,gF)/\gF.nds=gE.nds/\gF.srt=gE.srt/\gF.sec=gE.sec/\gF.dep=gE.dep/\gF.many=gE.many/\gF.its=its++[it]/\gF.ns=ns++[nI]
theorem Onr(Tb:Nat->UInt8×UInt8)(w0 w:World)(eC:Gr w0 w)(bU:RW Tb w0)(R B base:Nat)(kj:w0.heap.size<=base)(s:ByteArray)(hs:s.size<=20000000)(nv:Value)(L:List Vy)(own:Nat->Nat)(x:GrX)(g:Vb)(h:GM w R B base s nv L own x g)(kR:V7k g=true)(OU:GI w base own x.iv x.nsv g.its g.ns)(n:Nat)(hn:n<s.size)(X:V9 (Nat×Vb))(hX:V32 ⟨Vi Tb,Ve⟩ (bs s) n g=X)(a8:X≠.non):Calls prog 37 #[.pointer (some ⟨R,0,none⟩),n] w (Opa w R B base s X):=by
 unfold V7k at kR;simp only[U1h,U1x]at kR;obtain⟨⟨⟨xm,Bg⟩,OV⟩,VP⟩:=kR;have hL:L.length<=20000001:=by rw[<-h.nd,U1j]at xm;exact xm
 have hm:x.many<=30000000:=by rw[h.many];omega
 unfold V32 at hX;obtain⟨Y,hY⟩:=ExZ (V2n ⟨Vi Tb,Ve⟩ (bs s) n g)
 rw[hY]at hX;have bP:Y≠.non:=λ e=>by rw[e]at hX;exact a8 hX.symm
 have OW:=U10 hY;have S':=U10 (λ V (q:Gr w V)=>Ol7 Tb w0 V (eC.trans q) bU R B base kj s hs nv L own x g (h.gr q) hL hm OV n hn Y hY bP);have HX:=U10 hX;have H:=U10 h;have ow:=U10 eC;have iJ:=U10 bU;have ld:=U10 OU;have pF:=h.v.R_lt;clear h hX hY eC bU OU xm Bg OV;go_enter func37,ntmps37;go_wp2_with fail;obtain⟨dl,gA,zA⟩:=bx2 w (0:Int) (0:Int) 29;obtain⟨W1,aR⟩:=ExZ (w.alloc (.cells #[(0:Int),(0:Int)] 29))
 rw[aR]at dl gA zA⊢;clear aR;refine (S'.o W1 gA).mono ?_;rintro e w2 aq;obtain⟨v1,v2,tV,tl,tk,v4,ec,eq,rfl⟩:=aq.open bP;cases Y with
 |non=>exact absurd rfl bP
 |bad c p =>
  obtain⟨⟨_,_,_,_,_,_,he⟩,dJ,ac,st2,dX,kS⟩:=aq;have h1:ec=(c:Int)/\eq=(p:Int):=by simp[fv,and_assoc]at he;omega
  obtain⟨rfl,rfl⟩:=h1;have eo:=dl.st st2 (λ e=>by have:=(H.o.v.lt _ e).2;omega);have B6:Up base w w2:=(gA.st).trans (st2.up λ k e=>(H.o.v.lt k e).1);obtain⟨p0,p1,pf,pl⟩:=id eo;go_wp2_with fail;obtain⟨gO,_,_,_,Bf,oD⟩:=Oa5 eo c p v1 v2 (.slice tV tl tk) v4 67 26;obtain⟨W5,fw⟩:=ExZ ((((w2.setCell w c).setCell ⟨w,1,none⟩ p).alloc (.cells #[v1,v2] 67)).alloc (.cells #[.slice tV tl tk,v4] 26))
  rw[fw]at gO Bf oD⊢;clear fw p0 p1 pf pl;have Gh:=oD _ _ w B6 (U12 _);obtain⟨p0,p1,pf,pl⟩:=id gO;refine Z182 ?_;intro w6 g6;clear p0 p1 pf pl
  go_upto_region 3 with fail
  have ip:=gO.gr g6;have mi:=ip.gr (Gr.refl w6).drew;obtain⟨p0,p1,pf,pl⟩:=id ip;refine Z150 ?_;refine Z12 ?_;go_wp2_with fail;obtain⟨q0,q1,qf,ql⟩:=mi;refine U11 (v:=.tuple #[(0:Int),fv c p]) (by simp[results,results37,go_sem,q0,q1,qf,ql]) rfl ?_;have ae:=HX.o
  try simp only at ae
  rw[<-ae];exact⟨rfl,dJ,(Gh.gr g6).drew⟩
 |ok r =>
  obtain⟨into,root,nds,g1⟩:=r;obtain⟨dd,tv,T,base2,kO,L1,aC,x1,he,yM,E4,cE,st2,kS,KP,mp,aA,kz⟩:=aq;have h1:v1=(into:Int)/\v2=dd/\tv=.slice tV tl tk/\v4=(root:Int)/\ec=0/\eq=0:=by
   simp[f0,and_assoc]at he;obtain⟨a1,a2,a3,a4,a5,a6⟩:=he;exact⟨a1,a2,a3.symm,a4,a5,a6⟩
  obtain⟨rfl,rfl,rfl,rfl,rfl,rfl⟩:=h1;have eo:=dl.st st2 (λ e=>by have:=(H.o.v.lt _ e).2;omega);have B6:Up base w w2:=(gA.st).trans (st2.up λ k e=>(H.o.v.lt k e).1);have uZ:=(ld.o.gr gA).st st2;have A0:=U10 yM;have A1:=U10 E4;clear yM E4;have T7:=st2.size;obtain⟨p0,p1,pf,pl⟩:=id eo;go_wp2_with fail;obtain⟨gO,yF,pk,cr,Bf,oD⟩:=Oa5 eo (0:Int) (0:Int) into v2 (.slice tV tl tk) root 67 26;obtain⟨W5,fw⟩:=ExZ ((((w2.setCell w (0:Int)).setCell ⟨w,1,none⟩ (0:Int)).alloc (.cells #[into,v2] 67)).alloc (.cells #[.slice tV tl tk,root] 26))
  rw[fw]at gO yF pk cr Bf oD⊢;clear fw p0 p1 pf pl;have Gh:=oD _ _ w B6 (U12 _);have oz:aC w.heap.size=0:=U1g λ h=>(kS _ h).elim (λ h=>by have:=(H.o.v.lt _ h).2;omega) (λ h=>by omega)
  have E5:GM W5 R B base s kO L1 aC x1 g1:=⟨cE.v.kept (λ k hk=>cr k (cE.v.lt k hk).2 (λ e=>hk (by rw[e];exact oz))) Ya,cE.nd,cE.sec,cE.dep,cE.many⟩
  have E6:GI W5 base aC x.iv x.nsv g.its g.ns:=uZ.kept λ k e=>by
   have:=(ld.o.lt k e).2;exact cr k Ya Ya
  have xP:Hid (∀k,TB T T.length k->base2<=k/\k<w2.heap.size):=λ k ⟨i,r,_,hr,hb⟩=>by
   rcases KP with⟨_,rfl⟩|⟨g0,_,hT⟩
   simp at hr
   exact hb.lt hT hr
  have E7:=KP.keptB (λ k h1 h2=>cr k h2 Ya) Ya;obtain⟨Z,hZ⟩:=ExZ (V3v ⟨Vi Tb,Ve⟩ (bs s) n)
  have ae:=HX.o
  try simp only at ae
  rw[hZ]at ae;have OX:Z≠.non:=λ e=>by rw[e]at ae;exact a8 ae.symm
  have eh:=U10 (λ V (q:Gr w0 V)=>Ono Tb s hs n _ rfl hn V (iJ.o.gr q) Z hZ OX);have bY:=U10 ae;obtain⟨p0,p1,pf,pl⟩:=id gO;refine Z190 ?_;intro w6 g6;have KQ:=U10 (gO.gr g6);have T8:=U10 (yF.gr g6);have KT:=U10 (pk.gr g6);have KU:=U10 (Gh.gr g6);have jH:=U10 (E5.gr g6);have KV:=U10 (E6.gr g6);have KX:=U10 (E7.keptB (λ k _ h2=>g6.block h2) g6.size);have zi:=U10 kS;have OY:=U10 kz;have T9:Hid (∀k,aC k≠0->k<w2.heap.size):=λ k hk=>(cE.v.lt k hk).2
  have KY:Gr w0 w6:=KU.o.below ow.o (λ k e=>by omega);have VQ:=jH.o.v.cells.1.2.2.1;have VS:=jH.o.v.R_lt.2;have tA:w2.heap.size+1+1<=w6.heap.size:=by have:=g6.size;omega
  have aM:w.heap.size+1<=w2.heap.size:=Ya;clear gO yF pk cr oD Gh E5 E6 E7 KP uZ cE eo B6 p0 p1 pf pl ae hZ g6 kS kz st2 he;go_wp2_with fail;refine (eh.o w6 KY).mono ?_;clear eh;obtain⟨p0,p1,pf,pl⟩:=id KQ.o;cases Z with
  |non=>exact absurd rfl OX
  |bad c p =>
   rintro e w7 ⟨he,dJ,g7⟩;subst he;have lY:=KQ.o.gr g7;clear p0 p1 pf pl;obtain⟨p0,p1,pf,pl⟩:=id lY;go_wp2_with fail;obtain⟨gO,_,_,_,oD⟩:=Ocv lY c p (.int .u8 0) (0:Int) (0:Int) (.slice none 0 0) (.slice none 0 0) (0:Int) (0:Int) (.slice none 0 0) (0:Int) 53;obtain⟨W8,mL⟩:=ExZ (((w7.setCell w c).setCell ⟨w,1,none⟩ p).alloc (.cells #[.int .u8 0,(0:Int),(0:Int),.slice none 0 0,.slice none 0 0,(0:Int),(0:Int),.slice none 0 0,(0:Int)] 53))
   rw[mL]at gO oD⊢;have Gi:=oD _ _ w (KU.o.gr g7) (U12 _);clear mL p0 p1 pf pl;obtain⟨p0,p1,pf,pl⟩:=id gO;refine Z182 ?_;intro w9 g9;clear p0 p1 pf pl
   go_upto_region 6 with fail
   have ip:=gO.gr g9;have mi:=ip.gr (Gr.refl w9).drew;obtain⟨p0,p1,pf,pl⟩:=id ip;refine Z150 ?_;refine Z12 ?_;go_wp2_with fail;obtain⟨q0,q1,qf,ql⟩:=mi;refine U11 (v:=.tuple #[(0:Int),fv c p]) (by simp[results,results37,go_sem,q0,q1,qf,ql]) rfl ?_;have ae:=bY.o
   try simp only at ae
   rw[<-ae];exact⟨rfl,dJ,(Gi.gr g9).drew⟩
  |ok it =>
   rintro e w7 ⟨kv,sv,tv,he,hM,g7⟩;subst he;obtain⟨⟨ka,kn,kc,rfl⟩,⟨sa,sn,sc,rfl⟩,⟨ta,tn,tc,rfl⟩⟩:=hM.forms;have lY:=KQ.o.gr g7;clear p0 p1 pf pl;obtain⟨p0,p1,pf,pl⟩:=id lY;go_wp2_with fail;obtain⟨gO,KZ,cr,Bf,oD⟩:=Ocv lY (0:Int) (0:Int) (.int .u8 it.kind) it.a it.b (.slice ka kn kc) (.slice sa sn sc) it.va it.vb (.slice ta tn tc) it.root 53;obtain⟨W8,mL⟩:=ExZ (((w7.setCell w (0:Int)).setCell ⟨w,1,none⟩ (0:Int)).alloc (.cells #[.int .u8 it.kind,it.a,it.b,.slice ka kn kc,.slice sa sn sc,it.va,it.vb,.slice ta tn tc,it.root] 53))
   rw[mL]at gO KZ cr Bf oD⊢;have Gi:=oD _ _ w (KU.o.gr g7) (U12 _);clear mL p0 p1 pf pl;obtain⟨p0,p1,pf,pl⟩:=id gO;have ls:=g7.size;refine Z190 ?_;intro w9 g9;have pv:∀k,k<w7.heap.size->k≠w.heap.size->w9.heap[k]?=w7.heap[k]?:=λ k h1 h2=>(g9.block Ya).trans (cr k h1 h2)
   have VT:=g9.size;have K':=(g9.block Ya).trans KZ;have OZ:=(T8.o.gr g7).of_block (pv _ Ya Ya) Ya;have ss:=(KT.o.gr g7).of_block (pv _ Ya Ya) Ya;have L0:∀k,w.heap.size<=k->k<W1.heap.size->aC k=0:=λ k h1 h2=>U1g λ h=>(zi.o _ h).elim (λ h=>by have:=(H.o.v.lt _ h).2;omega) (λ h=>by omega)
   have ma:GM w9 R B base s kO L1 aC x1 g1:=⟨(jH.o.v.gr g7).kept (λ k hk=>pv k (U13 (jH.o.v.lt k hk).2 g7.size) (λ e=>hk (L0 k Ya Ya))) Ya,jH.o.nd,jH.o.sec,jH.o.dep,jH.o.many⟩
   have E8:GI w9 base aC x1.iv x1.nsv g.its g.ns:=by
    rw[A0.o,A1.o];exact (KV.o.gr g7).kept λ k e=>by
     have:=(ld.o.lt k e).2;exact pv k Ya Ya
   have E9:=(KX.o.keptB (λ k _ h2=>g7.block h2) g7.size).keptB (λ k h1 h2=>pv k h2 Ya) Ya;have O':ItM w9 w6.heap.size it (.slice ka kn kc) (.slice sa sn sc) (.slice ta tn tc):=⟨hM.k.of_block λ k e=>pv k (hM.k.lt k e).2 (by have:=(hM.k.lt k e).1;omega),hM.s.of_block λ k e=>pv k (hM.s.lt k e).2 (by have:=(hM.s.lt k e).1;omega),hM.n.imp id λ ⟨g0,LL,a,b,c⟩=>⟨g0,LL,a,b,c.keptB (λ k h1 h2=>pv k h2 Ya) Ya⟩⟩
   have L3:=U10 (gO.gr g9);have L4:=U10 K';have Ta:=U10 OZ;have Tc:=U10 ss;have cy:=U10 ma;have mb:=U10 E8;have L6:=U10 E9;have L8:=U10 O';have L9:=U10 (Gi.gr g9);have P0:=U10 (show w.heap.size+1<=w7.heap.size by omega);obtain⟨⟨c0,c1,c2,c3,c4,c5,c6⟩,c7,c8,fz⟩:=ma.v.cells;obtain⟨⟨b0,b1,b2,b3,b4,b5,b6,b7,b8⟩,bf,bl⟩:=O4p K';have ae:=bY.o
   try simp only at ae
   have La:=U10 L0;have OS:=ma.v.R_lt;have Fu:w7.heap.size<w9.heap.size:=bl;clear gO KZ cr oD Gi K' OZ ss ma E8 E9 O' hM pv p0 p1 pf pl g9 g7 lY L0 c0 c1 c2 c3 c5 c6 c7 c8 fz;have A2:g1.its=g.its:=(O3x OW.o).1.1;have u9:g1.ns=g.ns:=(O3x OW.o).1.2
   go_upto_block 0 with fail
   go_cut [9] (λ s9 W'=>Opb w w7.heap.size #[.int .u8 it.kind,it.a,it.b,.slice ka kn kc,.slice sa sn sc,it.va,it.vb,.slice ta tn tc,it.root] R B base s x1 g.its g.ns it it.b X s9 W')
   case first =>
    have Gj:aC w7.heap.size=0:=U1g λ h=>by have:=(jH.o.v.lt _ h).2;omega
    have Gk:aC w.heap.size=0:=La.o _ (U12 _) Ya;by_cases h0:it.kind=0
    ·have s0:((it.kind:Int)==0)=true:=by simp;omega
     rw[U1a h0]at ae;clear h0;go_wp2_with fail
     go_meet
     exact⟨-1,kO,L1,aC,g1,_,rfl,cy.o,mb.o,L4.o,L3.o,L9.o,Gj,Gk,ae.symm,rfl,rfl,rfl,rfl,rfl,by simp[A2],by simp[u9]⟩
    have s0:((it.kind:Int)==0)=false:=Ye;rw[U1c h0]at ae;clear h0;by_cases h1:it.kind=1
    ·have s1:((it.kind:Int)==1)=true:=by simp;omega
     rw[U1a h1]at ae;clear h1;cases aW:it.ws.getLast? with
     |none=>rw[aW]at ae;exact absurd ae.symm a8
     |some kw =>
      obtain⟨wt,a,b⟩:=kw;rw[aW]at ae;simp only at ae;by_cases cY:(V5c nds root&&V2o (V12 g1 nds) into&&Pl.room (V12 g1 nds).nds)=true
      ·rw[U1a cY]at ae;simp only[U1h]at cY;obtain⟨⟨dR,lc⟩,bx⟩:=cY;unfold V5c at dR;simp only[U1h,U1x,U2k]at dR;obtain⟨rH,xo⟩:=dR;unfold Pl.room at bx;rw[U1x,<-O63 g1 L1 T nds cy.o.nd mp,U1j,U1b,U1j]at bx;have rU:=U10 (Ol2 w9 R B base s kO L1 aC g1.srt x1 cy.o.v (.slice tV tl tk) root base2 T L6.o Ya OY.o Ya rH (λ i r hr=>by
        have hm:r.nd∈nds:=by rw[<-mp];exact List.mem_map_of_mem (U2p hr)
        have h1:=xo _ hm;exact⟨h1.1,h1.2⟩))
       obtain⟨p0,p1,pf,pl⟩:=id Tc.o;go_wp2_with fail;refine rU.o.mono ?_;rintro e cH ⟨he,io,ac,je,dZ,sQ⟩;obtain⟨nd,aL⟩:=ExZ (root+L1.length)
       rw[aL]at he;subst he;have P1:w2.heap.size+1+1<=w6.heap.size:=tA;have P2:w7.heap.size<w9.heap.size:=Fu;have A3:∀k,aC k=0->(k<base2\/w2.heap.size<=k)->¬(FV aC k\/TB T T.length k):=λ k h0 h1 e=>e.elim (λ e=>e h0) (λ e=>by have:=xP.o k e;omega)
       have gm:∀k,aC k≠0->k<w2.heap.size:=λ k h=>U1g λ h2=>by
        have h3:=OY.o k;have h4:=T9.o k h;omega
       have Ea:∀k,w2.heap.size<=k->aC k=0:=λ k h=>U1g λ h2=>by have:=gm k h2;omega
       have Te:W1.heap.size<=base2:=aA;have Eb:=L3.o.st dZ (A3 _ Gk (.inl Ya));have Ec:=Ta.o.st dZ (A3 _ (Ea _ (U12 _)) (.inr (U12 _)));have Ed:=(dZ.block w7.heap.size P2 (A3 _ Gj (.inr Ya))).trans L4.o;have Ee:Up base w cH:=L9.o.trans (dZ.up λ k e=>e.elim (λ e=>(cy.o.v.lt k e).1) (λ e=>by have:=xP.o k e;omega));have d5:∀k,k<w9.heap.size->aC k=0->(k<base2\/w2.heap.size<=k)->ac k=0:=λ k h1 h2 h3=>U1g λ h=>by
        rcases sQ k h with e|e|e
        exact e h2;have:=xP.o k e;omega
        omega
       have xp:GI cH base ac x1.iv x1.nsv g.its g.ns:=by
        obtain⟨q1,q2,q3,q4,q5⟩:=mb.o;have aB:∀k,x1.iv.ownBlock=some k\/x1.nsv.ownBlock=some k->k<base2:=λ k e=>by
         rw[A0.o,A1.o]at e;have:=(ld.o.lt k e).2;omega
        have hk:∀k,x1.iv.ownBlock=some k\/x1.nsv.ownBlock=some k->aC k=0:=λ k e=>e.elim (q3 k) (q4 k)
        have hh:=mb.o.kept (w':=cH) λ k e=>dZ.block k (mb.o.lt k e).2 (A3 k (hk k e) (.inl (aB k e)))
        exact⟨hh.i,hh.n,λ k e=>d5 k (mb.o.lt k (.inl e)).2 (q3 k e) (.inl (aB k (.inl e))),λ k e=>d5 k (mb.o.lt k (.inr e)).2 (q4 k e) (.inl (aB k (.inr e))),q5⟩
       have eT:0<it.ws.length:=by
        cases hw:it.ws with
        |nil=>rw[hw]at aW;cases aW
        |cons=>simp
       obtain⟨gk,gs,ck,cs,oM,jN,Tf,Tg,Lb,Lc,Fz⟩:=O90 L8.o.k L8.o.s eT;simp only[U3h]at oM jN;obtain⟨rfl,rfl,rfl⟩:=oM;obtain⟨rfl,rfl,rfl⟩:=jN;obtain⟨la,eY⟩:∃la,it.ws.length=la+1:=⟨it.ws.length-1,Ya⟩
       have Ef:it.ws[la]?=some (wt,a,b):=by rw[U3i,eY]at aW;exact aW
       obtain⟨r1,r2,r3⟩:=Fz la wt a b Ef;have Eg:∀o,cH.cell? ⟨gk,o,none⟩=w9.cell? ⟨gk,o,none⟩:=λ o=>((dZ.use gk Lb (A3 _ (Ea _ Ya) (.inr Ya))).1 o)
       have A4:∀o,cH.cell? ⟨gs,o,none⟩=w9.cell? ⟨gs,o,none⟩:=λ o=>((dZ.use gs Lc (A3 _ (Ea _ Ya) (.inr Ya))).1 o)
       obtain⟨_,_,_,eP⟩:=(show ∃g c,(Value.slice gk it.ws.length kc)=.slice (some ⟨g,0,none⟩) it.ws.length c/\it.ws.length<=maxLen from by
        obtain⟨g,c,e,h1,h2⟩:=L8.o.k.form eT;exact⟨g,c,e,Ya⟩)
       have Ld:la<=9223372036854775806:=by unfold maxLen at eP;omega
       have cP:=Oei cH gk gs la kc sc ⟨wt.toArray⟩ a b Ld (U13 Lb dZ.size) (U13 Lc dZ.size) ((Eg _).trans r1) ((A4 _).trans r2) ((A4 _).trans r3);rw[<-eY]at cP;have xq:=U10 cP;have Eh:=U10 Ed;have Le:=U10 Eb;have Lf:=U10 Ec;have Lg:=U10 Ee;have Ei:=U10 xp;have dM:=U10 je;have da:=dZ.size;have Lh:w7.heap.size<cH.heap.size:=Ya;have P3:=d5 _ P2 Gj (.inr Ya);have P4:=d5 _ Ya Gk (.inl Ya);have VU:=d5 w2.heap.size Ya (Ea _ (U12 _)) (.inr (U12 _));clear Eb Ec Ee xp cP je dZ sQ d5 Eg A4 r1 r2 r3 Fz A3 gm Ea p0 p1 pf pl b0 b1 b2 b3 b4 b5 b6 b7 b8 bf bl rU eT aW Ef c4 Tf Tg Lb Lc eY xo Ed;obtain⟨⟨b0,b1,b2,b3,b4,b5,b6,b7,b8⟩,bf,bl⟩:=O4p Eh.o;go_wp2_with fail;refine xq.o.mono ?_;rintro e wJ ⟨rfl,DZ⟩;obtain⟨cg,jx,Th⟩:=bx2 wJ (.int .i64 a) b 38;obtain⟨xg,rR⟩:=ExZ (wJ.alloc (.cells #[a,b] 38))
       rw[rR]at cg jx Th;have vj:=DZ.trans jx;unfold V2o at lc;rw[U1h]at lc;obtain⟨bh,f7⟩:=lc;unfold Pl.kind8 at bh;rw[U1h,U1x,<-O63 g1 L1 T nds cy.o.nd mp]at bh;obtain⟨_,cI⟩:=bh;obtain⟨L2,vI⟩:=ExZ (L1++T.map (O10 L1.length))
       rw[vI]at cI dM;obtain⟨r,hr⟩:∃r,L2[into]?=some r:=by
        cases hr:L2[into]? with
        |some r=>exact⟨r,rfl⟩
        |none=>rw[U1m,hr]at cI;cases cI
       rw[U1m,hr]at cI;simp only[U25,U1h,U1x]at cI;obtain⟨⟨⟨_,ag⟩,aF⟩,lC⟩:=cI;have cB:Oi (g1.srt++List.replicate T.length (0,0)) into:=by
        unfold Oi;intro h2;unfold Vd at f7;rw[<-Oa6 g1 T nds mp,h2]at f7;cases f7
       have Li:L2.length<=30000000:=by rw[<-vI,U1b,U1j];omega
       have oq:=U10 (Oco xg R B base s 0 io L2 ac (g1.srt++List.replicate T.length (0,0)) x1 (dM.o.gr vj) Li into r hr cB ag aF lC ⟨wt.toArray⟩ a b nd);obtain⟨p0,p1,pf,pl⟩:=Lf.o.gr vj;obtain⟨y0,y1,yf,yl⟩:=cg;have jg:=U10 vj;clear cB f7 ag aF lC DZ jx vj b0 b1 b2 b3 b4 b5 b6 b7 b8 bf bl xq;go_wp2_with fail
       try rw[rR]
       refine oq.o.mono ?_;rintro e VW ⟨he,zx,ot,pq,JU,Gl,Gm,Ti⟩;subst he;go_wp2_with fail
       go_meet
       have tI:∀k,k<xg.heap.size->ac k=0->zx k=0:=λ k h1 h2=>U1g λ h=>(Ti k h).elim (λ h=>h h2) (λ h=>by omega)
       have cM:=jg.o.size;have Ej:=(Ei.o.gr jg.o).st Gm;refine⟨(nd:Int),io,L2.set into ⟨V10 r.nd (bs ⟨wt.toArray⟩) (a,b) nd,ot,pq,JU⟩,zx,V1r (V12 g1 nds) into wt (a,b) nd,_,rfl,⟨?_,?_,cy.o.sec,cy.o.dep,cy.o.many⟩,Ej,(Gm.block w7.heap.size Ya (λ e=>e P3)).trans ((jg.o.block Lh).trans Eh.o),(Le.o.gr jg.o).st Gm (λ e=>e P4),(Lg.o.gr jg.o).trans (Gm.up λ k e=>((dM.o.gr jg.o).lt k e).1),tI _ Ya P3,tI _ Ya P4,ae.symm,?_,rfl,rfl,rfl,rfl,by simp[V12,A2],by simp[V12,u9,<-aL,show L1.length=g1.nds.length from by rw[<-cy.o.nd,U1j]]⟩;have:(V1r (V12 g1 nds) into wt (a,b) nd).srt=g1.srt++List.replicate T.length (0,0):=(Oa6 g1 T nds mp).symm;rw[this];exact Gl;rw[O98 L2 into r hr,show bs (⟨wt.toArray⟩:ByteArray)=wt by simp[bs],<-vI,O63 g1 L1 T nds cy.o.nd mp];rfl
       rw[<-aL,show L1.length=g1.nds.length from by rw[<-cy.o.nd,U1j]]
      exact J84
    have s1:((it.kind:Int)==1)=false:=Ye;rw[U1c h1]at ae;clear h1;go_wp2_with fail
    go_meet
    exact⟨x1.sec,kO,L1,aC,g1,_,rfl,cy.o,mb.o,L4.o,L3.o,L9.o,Gj,Gk,ae.symm,rfl,rfl,rfl,rfl,rfl,by simp[A2],by simp[u9,cy.o.sec]⟩
   case rest =>
    obtain⟨nI,xc,LE,eJ,gE,gF,rfl,Ek,El,P5,P6,P7,Tj,Tk,AB,q1,q2,q3,q4,q5,q6,q7⟩:=hcut;have pX:=U10 Ek;have yi:=U10 El;have Lj:=U10 P5;have P8:=U10 P6;have Tl:=U10 P7;have Tm:=U10 AB;obtain⟨V,hV⟩:∃V,V=wc:=⟨_,rfl⟩
    subst hV;clear Ek El P5 P6 P7 AB b0 b1 b2 b3 b4 b5 b6 b7 b8 bf c4;have Tn:=pX.o.v.R_lt
    go_upto_region 15 with fail
    obtain⟨⟨xi,hi,Gg⟩,Ay,P9,mn,A5⟩:=yi.o;obtain⟨xn,E3⟩:=ExZ ((g.ns.map λ z=>Value.int .i64 z))
    rw[E3]at Ay;have Hk:=U10 Gg;have PP:=U10 E3;clear Gg E3;have ex:V5e V V.drew base (λ k=>x1.iv.ownBlock=some k\/x1.nsv.ownBlock=some k) x1.iv x1.nsv g.its.length g.its.length xi xn:=⟨⟨rfl,rfl,rfl,U12 _,λ _ _ _=>rfl,λ _ e=>e.elim⟩,hi,Ay,λ k e => .inl (.inl e),λ k e => .inl (.inr e),A5⟩
    have bT:∀k,eJ k≠0\/w.heap.size<=k->¬(x1.iv.ownBlock=some k\/x1.nsv.ownBlock=some k):=λ k h0 e=>by
     rcases h0 with h0|h0
     exact e.elim (λ e=>h0 (P9 k e)) (λ e=>h0 (mn k e))
     rw[A0.o,A1.o]at e;have:=(ld.o.lt k e).2;omega
    have Az:=pX.o.v.R_lt;have sD:Hid (∀V',St (λ k=>x1.iv.ownBlock=some k\/x1.nsv.ownBlock=some k) (λ _=>False) V V'->V'.cell? ⟨R,7,none⟩=some x1.iv/\V'.cell? ⟨R,8,none⟩=some x1.nsv/\(∀o,V'.frozen? ⟨R,o,none⟩=false)):=λ V' po=>by
     have hu:=po.use R Az.2 (bT R (.inl (by rw[pX.o.v.oR];omega)));obtain⟨_,c7,c8,fz⟩:=pX.o.v.cells;exact⟨(hu.1 7).trans c7,(hu.1 8).trans c8,λ o=>(hu.2 o).trans (fz o)⟩
    have et:Hid (∀V',St (λ k=>x1.iv.ownBlock=some k\/x1.nsv.ownBlock=some k) (λ _=>False) V V'->IS R w7.heap.size x1.iv x1.nsv (.int .u8 it.kind) it.a it.b (.slice ka kn kc) (.slice sa sn sc) it.va it.vb (.slice ta tn tc) it.root V'):=λ V' po=>by
     obtain⟨⟨b0,b1,b2,b3,b4,b5,b6,b7,b8⟩,_,bl⟩:=O4p Lj.o;have hu:=po.use w7.heap.size bl (bT w7.heap.size (.inr (by have:=P0.o;omega)));obtain⟨k7,k8,_⟩:=sD.o V' po;exact⟨k7,k8,(hu.1 0).trans b0,(hu.1 1).trans b1,(hu.1 2).trans b2,(hu.1 3).trans b3,(hu.1 4).trans b4,(hu.1 5).trans b5,(hu.1 6).trans b6,(hu.1 7).trans b7,(hu.1 8).trans b8⟩
    obtain⟨iI,i1,i2,i3,i4⟩:=U3w Onp;have vy:=U10 (And.intro i1 (And.intro i2 (And.intro i3 i4)));obtain⟨iU,u1,u2,u3,u4⟩:=U3w O4j;have fV:=U10 (And.intro u1 (And.intro u2 (And.intro u3 u4)));have bS:base<=V.heap.size:=Ya;have To:Hid (∀k,x1.iv.ownBlock=some k->k<V.heap.size):=λ k e=>(yi.o.lt k (.inl e)).2
    clear i1 i2 i3 i4 u1 u2 u3 u4 hi Ay P9 mn A5
    go_cut [9] (λ s9 W'=>Vdo V R B base s xc LE eJ x1 gE (g.its++[it]) (g.ns++[nI]) W')
    case first =>
     have bj:=et.o V.drew ex.st;refine Reg.begin' (W:=λ i=>i != 15&&i != 18&&i != 21) (S:=IS R w7.heap.size x1.iv x1.nsv (.int .u8 it.kind) it.a it.b (.slice ka kn kc) (.slice sa sn sc) it.va it.vb (.slice ta tn tc) it.root) Yc ?_;obtain⟨V0,hV⟩:=ExZ (V.drew)
     have Tp:=U10 (show V0.heap.size=V.heap.size by rw[<-hV];rfl);rw[hV]at bj ex⊢;clear hV;have En:Hid (∀k,V0.heap.size<=k->x1.iv.ownBlock=some k->False):=λ k h1 h2=>by
      have:=To.o k h2;have:=Tp.o;omega
     have Lk:V0.heap.size<=V0.heap.size:=U12 _;have iP:=U10 ex;clear ex;refine Z32 ?_;refine Z41 ?_;refine Reg.tl 5 bj ?_ (hy:=by intro w ab;obtain⟨BK,BL,Gn,Gp,Gq,Pa,Pb,Pc,Pd,Pe,Eo⟩:=ab;go_simp;try with_reducible rfl);refine Reg.tl 6 bj ?_ (hy:=by intro w ab;obtain⟨BK,BL,Gn,Gp,Gq,Pa,Pb,Pc,Pd,Pe,Eo⟩:=ab;go_simp;try with_reducible rfl);refine Reg.ty 9 ?_;refine Z61 ?_;refine Reg.tl 12 bj ?_ (hy:=by intro w ab;obtain⟨BK,BL,Gn,Gp,Gq,Pa,Pb,Pc,Pd,Pe,Eo⟩:=ab;go_simp;try with_reducible rfl);refine Reg.ty 13 ?_;refine Reg.all (rs:=[7,14]) Yc Yb ?_;refine Z14 ?_;intro j hj;rcases hj with rfl|rfl
     ·skip;refine Reg.one (i:=7) rfl Yi ?_;go_simp;have lu:=iP.o.alloc (.cells #[.int .u8 it.kind,it.a,it.b,.slice ka kn kc,.slice sa sn sc,it.va,it.vb,.slice ta tn tc,it.root] 53);have lw:=U1w V0 (.cells #[.int .u8 it.kind,it.a,it.b,.slice ka kn kc,.slice sa sn sc,it.va,it.vb,.slice ta tn tc,it.root] 53);have ly:(V0.alloc (.cells #[.int .u8 it.kind,it.a,it.b,.slice ka kn kc,.slice sa sn sc,it.va,it.vb,.slice ta tn tc,it.root] 53)).heap.size=V0.heap.size+1:=by simp
      have lx:Gr V0 (V0.alloc (.cells #[.int .u8 it.kind,it.a,it.b,.slice ka kn kc,.slice sa sn sc,it.va,it.vb,.slice ta tn tc,it.root] 53)):=(Gr.refl _).alloc _;obtain⟨V1,hV⟩:=ExZ (V0.alloc (.cells #[.int .u8 it.kind,it.a,it.b,.slice ka kn kc,.slice sa sn sc,it.va,it.vb,.slice ta tn tc,it.root] 53))
      rw[hV]at lu lw lx ly⊢;clear hV;refine Z209 ?_;intro aN xK BB GQ;clear lu lw lx ly;have Ep:=U1l Lk BB.o.size;have ce:=et.o V1 aN.o.st
      first|refine (And.intro (ce) ?_:_/\Reg.anyW _ _ _ _ _ _ _ _ _ _)|refine (And.intro (λ _=>ce) ?_:_/\Reg.anyW _ _ _ _ _ _ _ _ _ _)|refine (And.intro (λ _ _=>ce) ?_:_/\Reg.anyW _ _ _ _ _ _ _ _ _ _)|skip
      refine Z2 ?_;refine Reg.all (rs:=[8,14]) Yc Yb ?_;refine Z14 ?_;intro j hj;rcases hj with rfl|rfl
      ·skip;refine Reg.one (i:=8) rfl Yi ?_;refine U32 _ (.tmp 68) (.tmp 70) 48 Yi base 53 iI _ 9 120 underlying48 vy.o.1 vy.o.2.1 vy.o.2.2.1 vy.o.2.2.2 Yi Yd x1.iv g.its.length xi Yi aN.o.i _ 1 1 [.int .u8 it.kind,.int .i64 it.a,.int .i64 it.b,.slice ka kn kc,.slice sa sn sc,.int .i64 it.va,.int .i64 it.vb,.slice ta tn tc,.int .i64 it.root] Yi Yi (U2e xK.o) Ym Yd Yk Ya (U1l bS aN.o.st.size) _ rfl ?_;intro gI tw V2 ho hg ha hz;have aO:=U10 (aN.o.appI ho hg ha);have EK:=U1l Ep hg.size;skip;clear ho hg ha hz;have br:=et.o V2 aO.o.st;refine⟨λ _ _=>br,?_⟩;refine Reg.pt ?_;refine Reg.on 14 ?_;go_simp;have lu:=aO.o.alloc (.cells #[.int .i64 (nI)] 3);have lw:=U1w V2 (.cells #[.int .i64 (nI)] 3);have ly:(V2.alloc (.cells #[.int .i64 (nI)] 3)).heap.size=V2.heap.size+1:=by simp
       have lx:Gr V2 (V2.alloc (.cells #[.int .i64 (nI)] 3)):=(Gr.refl _).alloc _;obtain⟨V3,hV⟩:=ExZ (V2.alloc (.cells #[.int .i64 (nI)] 3))
       rw[hV]at lu lw lx ly⊢;clear hV;refine Z209 ?_;intro bm pD Tq VX;clear lu lw lx ly;have EJ:=U1l EK Tq.o.size;have aD:=et.o V3 bm.o.st
       first|refine (And.intro (aD) ?_:_/\Reg.anyW _ _ _ _ _ _ _ _ _ _)|refine (And.intro (λ _=>aD) ?_:_/\Reg.anyW _ _ _ _ _ _ _ _ _ _)|refine (And.intro (λ _ _=>aD) ?_:_/\Reg.anyW _ _ _ _ _ _ _ _ _ _)|skip
       refine Z2 ?_;exact J116
      skip;refine Reg.one (i:=14) rfl Yi ?_;go_simp;have lu:=aN.o.alloc (.cells #[.int .i64 (nI)] 3);have lw:=U1w V1 (.cells #[.int .i64 (nI)] 3);have ly:(V1.alloc (.cells #[.int .i64 (nI)] 3)).heap.size=V1.heap.size+1:=Yb
      have lx:Gr V1 (V1.alloc (.cells #[.int .i64 (nI)] 3)):=(Gr.refl _).alloc _;obtain⟨V2,hV⟩:=ExZ (V1.alloc (.cells #[.int .i64 (nI)] 3))
      rw[hV]at lu lw lx ly⊢;clear hV;refine Z209 ?_;intro aO pD Er Tr;clear lu lw lx ly;have EK:=U1l Ep Er.o.size;have br:=et.o V2 aO.o.st
      first|refine (And.intro (br) ?_:_/\Reg.anyW _ _ _ _ _ _ _ _ _ _)|refine (And.intro (λ _=>br) ?_:_/\Reg.anyW _ _ _ _ _ _ _ _ _ _)|refine (And.intro (λ _ _=>br) ?_:_/\Reg.anyW _ _ _ _ _ _ _ _ _ _)|skip
      refine Z2 ?_;refine Reg.all (rs:=[8]) Yc Yb ?_;intro j hj;obtain rfl:=U20.1 hj;clear hj;have Ll:=U10 ((Er.o.block (U18.1 xK.o).1).trans xK.o);clear xK;have xK:=Ll;refine Z87 ?_;intro gI tw V3 ho hg ha hz bm EJ;have BW:=U10 ((hg.block _ (U18.1 pD.o).1 (λ e=>En.o _ Ep e.symm)).trans pD.o);exact J212
     skip;refine Reg.one (i:=14) rfl Yi ?_;go_simp;have lu:=iP.o.alloc (.cells #[.int .i64 (nI)] 3);have lw:=U1w V0 (.cells #[.int .i64 (nI)] 3);have ly:(V0.alloc (.cells #[.int .i64 (nI)] 3)).heap.size=V0.heap.size+1:=Yb
     have lx:Gr V0 (V0.alloc (.cells #[.int .i64 (nI)] 3)):=(Gr.refl _).alloc _;obtain⟨V1,hV⟩:=ExZ (V0.alloc (.cells #[.int .i64 (nI)] 3))
     rw[hV]at lu lw lx ly⊢;clear hV;refine Z209 ?_;intro aN pD BB GQ;clear lu lw lx ly;have Ep:=U1l Lk BB.o.size;have ce:=et.o V1 aN.o.st
     first|refine (And.intro (ce) ?_:_/\Reg.anyW _ _ _ _ _ _ _ _ _ _)|refine (And.intro (λ _=>ce) ?_:_/\Reg.anyW _ _ _ _ _ _ _ _ _ _)|refine (And.intro (λ _ _=>ce) ?_:_/\Reg.anyW _ _ _ _ _ _ _ _ _ _)|skip
     refine Z2 ?_;refine Reg.on 7 ?_;go_simp;have lu:=aN.o.alloc (.cells #[.int .u8 it.kind,it.a,it.b,.slice ka kn kc,.slice sa sn sc,it.va,it.vb,.slice ta tn tc,it.root] 53);have lw:=U1w V1 (.cells #[.int .u8 it.kind,it.a,it.b,.slice ka kn kc,.slice sa sn sc,it.va,it.vb,.slice ta tn tc,it.root] 53);have ly:(V1.alloc (.cells #[.int .u8 it.kind,it.a,it.b,.slice ka kn kc,.slice sa sn sc,it.va,it.vb,.slice ta tn tc,it.root] 53)).heap.size=V1.heap.size+1:=Yb;have lx:Gr V1 (V1.alloc (.cells #[.int .u8 it.kind,it.a,it.b,.slice ka kn kc,.slice sa sn sc,it.va,it.vb,.slice ta tn tc,it.root] 53)):=(Gr.refl _).alloc _;obtain⟨V2,hV⟩:=ExZ (V1.alloc (.cells #[.int .u8 it.kind,it.a,it.b,.slice ka kn kc,.slice sa sn sc,it.va,it.vb,.slice ta tn tc,it.root] 53))
     rw[hV]at lu lw lx ly⊢;clear hV;refine Z209 ?_;intro aO xK Er Tr;clear lu lw lx ly;have EK:=U1l Ep Er.o.size;have br:=et.o V2 aO.o.st
     first|refine (And.intro (br) ?_:_/\Reg.anyW _ _ _ _ _ _ _ _ _ _)|refine (And.intro (λ _=>br) ?_:_/\Reg.anyW _ _ _ _ _ _ _ _ _ _)|refine (And.intro (λ _ _=>br) ?_:_/\Reg.anyW _ _ _ _ _ _ _ _ _ _)|skip
     refine Z2 ?_;refine Reg.all (rs:=[8]) Yc Yb ?_;intro j hj;obtain rfl:=U20.1 hj;clear hj;have Es:=U10 ((Er.o.block (U18.1 pD.o).1).trans pD.o);refine Z87 ?_;intro gI tw V3 ho hg ha hz bm EJ;have BW:=U10 ((hg.block _ (U18.1 Es.o).1 (λ e=>En.o _ Lk e.symm)).trans Es.o);exact J212
    case rest =>
     obtain⟨lh,eK,rV,Lm,Pf,Pg⟩:=hcut;have Et:∀k,w.heap.size<=k->∀v,v=x1.iv\/v=x1.nsv->v.ownBlock≠some k:=λ k hk v hv e=>bT k (.inr hk) (by
      rcases hv with rfl|rfl
      exact .inl e
      exact .inr e)
     have Ts:=(Pg w7.heap.size (U18.1 Lj.o).1 Tj (Et _ (by have:=P0.o;omega))).trans Lj.o;have xJ:=P8.o.of_block (Pg w.heap.size P8.o.2.2.2 Tk (Et _ (U12 _))) Pf.size;obtain⟨⟨b0,b1,b2,b3,b4,b5,b6,b7,b8⟩,bf,bl⟩:=O4p Ts
     go_upto_region 16 with fail
     have A6:FX w (0:Int) (0:Int) wc.drew/\wc.drew.cell? ⟨w7,2,none⟩=some (.int .i64 it.b):=⟨xJ.gr (Gr.refl wc).drew,b2⟩
     obtain⟨p0,p1,pf,pl⟩:=id xJ;refine Reg.begin' (W:=λ i=>i != 5) (S:=λ W=>FX w (0:Int) (0:Int) W/\W.cell? ⟨w7,2,none⟩=some (.int .i64 it.b)) Yc ?_;refine Z56 ?_;refine Reg.tl 2 A6 ?_ (hy:=by intro w ab;obtain⟨⟨BK,BL,Gn,Gp⟩,Gq⟩:=ab;go_simp;try with_reducible rfl);refine Reg.tl 3 A6 ?_ (hy:=by intro w ab;obtain⟨⟨BK,BL,Gn,Gp⟩,Gq⟩:=ab;go_simp;try with_reducible rfl);refine Reg.ty 4 ?_;refine Reg.on 5 ?_;go_simp;rw[O5 xJ.1,O5 xJ.2.1];refine Z12 ?_;go_wp2_with fail;obtain⟨Ln,Lo,Lp,Lq⟩:=A6.1;refine U11 (v:=.tuple #[it.b,f0]) (by simp[results,results37,go_sem,Ln,Lo,Lp,Lq]) rfl ?_;rw[Tm.o];exact⟨xc,LE,eJ,{ x1 with iv:=lh,nsv:=eK },rfl,⟨by rw[q2];exact rV.v.drew,by rw[q1];exact rV.nd,by rw[q3];exact rV.sec,by rw[q4];exact rV.dep,by rw[q5];exact rV.many⟩,by rw[q6,q7];exact Lm.gr (Gr.refl wc).drew,(Tl.o.trans Pf).drew⟩
theorem O9b{w:World}{base n:Nat}{v:Value}{xs:List Value}(h:V26 w base 9 1 v n xs)(W:World):Calls prog 21 #[v] W λ e w'=>e=.returned (O3 v)/\W=w':=by
 rcases Oo h with⟨rfl,_⟩|⟨g,cap,rfl,h1,h2⟩
 exact O86 W
 exact O3y g n cap h1 h2 W
theorem O8j{w:World}{base n:Nat}{v:Value}{xs:List Value}(h:V26 w base 38 2 v n xs)(W:World):Calls prog 22 #[v] W λ e w'=>e=.returned (O3 v)/\W=w':=by
 rcases Oo h with⟨rfl,_⟩|⟨g,cap,rfl,h1,h2⟩
 exact O6u W
 exact O55 g n cap h1 h2 W
theorem GrV.start(w:World)(base:Nat)(s:ByteArray)(hb:base<=w.heap.size):GrV ((w.alloc (.map #[] 0)).alloc (.cells #[Vo,(0:Int),.string s,.map (some w.heap.size),(0:Int),(0:Int),(0:Int),Vo,Vo] 69)) (w.heap.size+1) w.heap.size base s 0 Vo [] (λ k=>if k=w.heap.size+1 then 1 else if k=w.heap.size then 2 else 0) [] ⟨0,0,0,Vo,Vo⟩:=by
 refine⟨?_,Yb,?_,Ot _ _ _ _,O6e _ _,?_,λ i r hr=>by simp at hr,?_,rfl⟩;have:=U1w (w.alloc (.map #[] 0)) (.cells #[Vo,(0:Int),.string s,.map (some w.heap.size),(0:Int),(0:Int),(0:Int),Vo,Vo] 69);exact J5;rw[U1c Ya,U1a rfl];refine⟨.map [],?_,⟨[],rfl⟩,λ i=>rfl⟩;have h1:(w.alloc (.map #[] 0)).ownsMap prog 3 sortR w.heap.size 0 (.map []):=World.ownsMap_made _ _ _ _;exact Oe h1 (((Gr.refl _).alloc _).block Yb)
 exact J160
theorem V5r.treeG{w7 wr wF:World}{R B base g cap:Nat}{s:ByteArray}{root:Int}{L:List Vy}{own:Nat->Nat}{so:List (Nat×Nat)}{x:GrX}(h:V5r w7 R base g cap L L.length wr)(hr:GrV w7 R B base s root (.slice g L.length cap) L own so x)(hb:∀k,own k≠0->own k≠1->wF.heap[k]?=wr.heap[k]?)(hz:wr.heap.size<=wF.heap.size):V2b wF base g (L.map Or):=by
 have dR:own g=3:=hr.oN g rfl;have aW:=hr.lt g Ya;have e:(L.take L.length).map Or++L.drop L.length=L.map Or:=Yb;have h1:=h.1;rw[e]at h1;refine⟨⟨aW.1,U13 aW.2 (U1l h.2.2.1 hz)⟩,λ i r hi j v hv=>?_,λ i r hi=>?_,own,dR,λ i r hi=>?_⟩;exact J80
 ·rw[U1m]at hi;cases hx:L[i]? with
  |none=>rw[hx]at hi;cases hi
  |some x =>
  rw[hx]at hi;cases hi;have hR:=hr.rows i x hx;have hb:∀k t,own k=t->4<=t->wF.heap[k]?=w7.heap[k]?:=λ k t e h4=>(hb k Ya Ya).trans (h.2.1 k (hr.lt k Ya).2 (λ e2=>by subst e2;omega))
  exact⟨O3g (hR.k.of_block λ k e=>hb k _ (hR.tk k e) Ya),O3g (hR.s.of_block λ k e=>hb k _ (hR.ts k e) Ya),O3g (hR.u.of_block λ k e=>hb k _ (hR.tu k e) Ya)⟩
 exact J144
theorem Odo(v:Value):O3 (O3 v)=O3 v:=by cases v <;> rfl
theorem Odp(r:Vy):Or (Or r)=Or r:=by unfold Or;simp only[Odo]
def Oll(w:World)(base R:Nat)(its:List Pl.It)(ns:List Int):Prop :=
 ∃(iv nsv:Value)(xs:List Value),w.cell? ⟨R,7,none⟩=some iv/\w.cell? ⟨R,8,none⟩=some nsv/\w.ownsRow base 53 9 iv its.length xs/\V6m xs its/\w.ownsRow base 3 1 nsv its.length (ns.map λ z=>Value.int .i64 z)
def Ool(w:World)(X:V9 Vb)(e:Ending)(w':World):Prop:=match X with
 |.non=>True
 |.bad c p=>e=.returned (.tuple #[.pointer none,fv c p])/\c≠0/\Gr w w'
 |.ok g=>∃(R gn:Nat)(L:List Vy),e=.returned (.tuple #[.pointer (some ⟨R,0,none⟩),f0])/\R<w'.heap.size/\w.heap.size<=R/\w'.cell? R=some (.slice gn L.length L.length)/\w'.cell? ⟨R,1,none⟩=some (.int .i64 0)/\L.map (·.nd)=g.nds/\V2b w' w.heap.size gn L/\Gr w w'/\Oll w' (w.heap.size+1) R g.its g.ns/\∀r∈L,Or r=r
def Oom(E:Vv)(s:ByteArray)(w:World)(R B:Nat)(X:V9 Vb)(k:Nat)(v:Value)(wr:World):Prop :=
 ∃(m:Nat)(g:Vb)(nv:Value)(L:List Vy)(own:Nat->Nat)(x:GrX),v=.int .i64 m/\Pl.grownF E (bs s) k m g=X/\GM wr R B (w.heap.size+1) s nv L own x g/\GI wr (w.heap.size+1) own x.iv x.nsv g.its g.ns/\FX w (0:Int) (0:Int) wr/\Gr w wr/\0<g.nds.length
theorem O7i(Tb:Nat->UInt8×UInt8)(w:World)(bU:RW Tb w)(s:ByteArray)(hs:s.size<=20000000)(ba:Option Addr)(bn bc:Nat)(dO:∀W,Gr w W->(convert 22 9 (.slice ba bn bc)).run prog W=.ok (.string s) W)(X:V9 Vb)(hX:V1e ⟨Vi Tb,Ve⟩ (bs s)=X)(a8:X≠.non):Calls prog 17 #[.slice ba bn bc] w (Ool w X):=by
 have HX:=U10 hX;have iJ:=U10 bU;have nJ:=U10 a8;have Rn := @run_makeMap prog;obtain⟨kL,g0,z0⟩:=bx2 w (0:Int) (0:Int) 29;obtain⟨W0,aI⟩:=ExZ (w.alloc (.cells #[(0:Int),(0:Int)] 29))
 rw[aI]at kL g0 z0;have Lr:=dO W0 g0;have bQ:=GrV.start W0 (w.heap.size+1) s Ya;have Gs:=U10 aI;clear hX bU a8;go_enter func17,ntmps17
 go_upto_region 1 with fail
 try rw[show w.alloc (.cells #[(0:Int),(0:Int)] 29)=W0 from Gs.o]
 clear aI;go_wp2_with fail;rw[z0]at bQ;obtain⟨W1,aR⟩:=ExZ ((W0.alloc (.map #[] 0)).alloc (.cells #[Vo,(0:Int),.string s,.map (some (w.heap.size+1)),(0:Int),(0:Int),(0:Int),Vo,Vo] 69))
 have g1:Gr W0 W1:=by rw[<-aR];exact ((Gr.refl W0).alloc _).alloc _
 have z1:W1.heap.size=w.heap.size+1+1+1:=by rw[<-aR];simp[z0]
 rw[aR]at bQ⊢;clear aR Lr;refine (O6k W1 (w.heap.size+1+1) (w.heap.size+1) (w.heap.size+1) s 0 Vo [] _ [] _ bQ Yb Yb 8 (1,0)).mono ?_;rintro e w1 ⟨he,kO,aC,ig,iL,mJ⟩;subst he;obtain⟨⟨c0,c1,c2,c3,c4,c5,c6⟩,c7,c8,fz⟩:=ig.cells;have fP:=ig.R_lt.2;have Tt:=iL.size;have Ph:FX w (0:Int) (0:Int) w1:=(kL.gr g1).st iL (λ e=>by
  replace e:(if w.heap.size=w.heap.size+1+1 then (1:Nat) else if w.heap.size=w.heap.size+1 then 2 else 0)≠0:=e
  rw[U1c Ya,U1c Ya]at e;exact e rfl)
 have cB:Gr w w1:=iL.below (g0.trans g1) (λ k e=>by
  replace e:(if k=w.heap.size+1+1 then (1:Nat) else if k=w.heap.size+1 then 2 else 0)≠0:=e
  by_cases h1:k=w.heap.size+1+1;omega
  rw[U1c h1]at e;by_cases h2:k=w.heap.size+1;omega
  rw[U1c h2]at e;exact absurd rfl e)
 have je:=ig.setSec 0 1 0 (U12 _);have Eu:((w1.setCell ⟨w+1+1,4,none⟩ (.int .i64 ((0:Nat):Int))).setCell ⟨w+1+1,5,none⟩ (.int .i64 ((1:Nat):Int))).cell? ⟨w+1+1,6,none⟩=some (.int .i64 ((0:Nat):Int)):=by
  rw[U1n _ _ _ _ Yb,U1n _ _ _ _ Yb];exact c6
 rw[O5 Eu]at je;have Ls:St (FV aC) (FV aC) w1 ((w1.setCell ⟨w+1+1,4,none⟩ (.int .i64 ((0:Nat):Int))).setCell ⟨w+1+1,5,none⟩ (.int .i64 ((1:Nat):Int))):=by
  have ex:FV aC (w.heap.size+1+1):=by unfold FV;rw[ig.oR];omega
  exact ((St.refl (FV aC) w1).setCell (p:=⟨w+1+1,4,none⟩) (.inl ex) _).setCell (p:=⟨w+1+1,5,none⟩) (.inl ex) _
 have o0:aC w.heap.size=0:=U1g λ h=>by have:=(ig.lt _ h).1;omega
 have eo:=Ph.st Ls (λ e=>e o0);have bM:Gr w ((w1.setCell ⟨w+1+1,4,none⟩ (.int .i64 ((0:Nat):Int))).setCell ⟨w+1+1,5,none⟩ (.int .i64 ((1:Nat):Int))):=Ls.below cB (λ k e=>by have:=(ig.lt k e).1;omega);have FC:=U10 c1;go_wp2_with fail;rw[O5 FC.o];obtain⟨W2,dy⟩:=ExZ ((w1.setCell ⟨w+1+1,4,none⟩ (0:Int)).setCell ⟨w+1+1,5,none⟩ (1:Int))
 have Gl:GrV W2 (w.heap.size+1+1) (w.heap.size+1) (w.heap.size+1) s 0 kO [Og 8] aC [(1,0)] ⟨0,1,0,Vo,Vo⟩:=by rw[<-dy];exact je
 have df:FX w (0:Int) (0:Int) W2:=by rw[<-dy];exact eo
 have dj:Gr w W2:=by rw[<-dy];exact bM
 rw[dy];have Lt:=U10 Gl;have uM:=U10 df;have kX:=U10 dj;clear dy je Gl eo df bM dj Ls Eu Ph cB c0 c1 c2 c3 c4 c5 c6 c7 c8 fz ig iL mJ bQ g1 kL g0
 go_loopg [5] ((bs s).length+1) (λ k v wr=>Oom ⟨Vi Tb,Ve⟩ s w (w.heap.size+1+1) (w.heap.size+1) X k v wr)
 case atStart =>
  exact⟨0,V4p,kO,[Og 8],aC,⟨0,1,0,Vo,Vo⟩,rfl,HX.o,⟨Lt.o,rfl,rfl,rfl,rfl⟩,⟨⟨[],Ot _ _ _ _,rfl⟩,Ot _ _ _ _,λ k e=>by simp[Value.ownBlock]at e,λ k e=>by simp[Value.ownBlock]at e,λ k e=>by simp[Value.ownBlock]at e⟩,uM.o,kX.o,Yd⟩
 case round =>
  obtain⟨m,g,nv,L,own,x,rfl,eG,cE,uV,l9,cY,eW⟩:=hrel;obtain⟨gk,rfl⟩:∃f,gk=f+1:=by
   cases gk with
   |zero=>exact absurd eG.symm nJ.o
   |succ f=>exact⟨f,rfl⟩
  rw[Pl.grownF,O0]at eG;obtain⟨⟨c0,c1,c2,c3,c4,c5,c6⟩,c7,c8,fz⟩:=cE.v.cells;have hR:=cE.v.R_lt.2;have bO:=U10 cE;have ld:=U10 uV;have eB:=U10 l9;have pN:=U10 cY;by_cases Lv:m<s.size
  ·rw[U1a Lv]at eG;have d1:decide ((m:Int)<(s.size:Int))=true:=by simp;omega
   have d2:decide (m<s.size)=true:=Ye
   cases kR:V7k g with
   |false=>rw[kR,U1c Yb]at eG;exact absurd eG.symm nJ.o
   |true =>
    rw[kR,U1a rfl]at eG;obtain⟨Y,hY⟩:=ExZ (V32 ⟨Vi Tb,Ve⟩ (bs s) m g)
    rw[hY]at eG;have bP:Y≠.non:=λ e=>by rw[e]at eG;exact nJ.o eG.symm
    have Ev:=U10 (Onr Tb w wr cY iJ.o (w.heap.size+1+1) (w.heap.size+1) (w.heap.size+1) Ya s hs nv L own x g cE kR uV m Lv Y hY bP);have AV:=U10 eG;have HY:=U10 hY;clear eG cE uV l9 cY c0 c1 c3 c4 c5 c6 c7 c8 fz hY kR;go_wp2_with fail;refine Ev.o.mono ?_;cases Y with
    |non=>exact absurd rfl bP
    |bad c p =>
     rintro e w2 ⟨he,dJ,hU⟩;subst he;have eo:=eB.o.st hU Ya;have bM:Gr w w2:=hU.below pN.o (λ k e=>by omega);refine Z159 ?_;intro W3 bH nA hT g3 z3;clear bH c2;go_wp2_with fail
     try rw[show w2.alloc (.cells #[c,p] 29)=W3 from nA.o]
     refine Z182 ?_;intro w4 g4;have Bh:=hT.gr g4;have d6:=(eo.gr g3).gr g4;have dw:=(bM.trans g3).trans g4;have A5:w.heap.size≠w2.heap.size:=by have:=eo.2.2.2;omega
     obtain⟨p0,p1,pf,pl⟩:=id d6
     go_upto_region 8 with fail
     have hS:=Bh.gr (Gr.refl w4).drew;refine Reg.begin' (W:=λ i=>i != 2) (S:=FX w2 c p) Yc ?_;refine Reg.tl 0 hS ?_ (hy:=by intro w ab;obtain⟨s0,s1,s2,s3⟩:=ab;go_simp;try with_reducible rfl);refine Reg.on 1 ?_;go_simp;refine Z2 ?_;refine Reg.on 2 ?_;refine Z298 ?_;go_wp2_with fail;have xd:=d6.set c p;have oC:=(dw.setCell (p:=w) (U12 _) c).setCell (p:=⟨w,1,none⟩) (U12 _) p;obtain⟨WF,ao⟩:=ExZ ((w4.setCell w c).setCell ⟨w,1,none⟩ p)
     rw[ao]at xd oC;rw[ao];obtain⟨q0,q1,qf,ql⟩:=xd.gr (Gr.refl WF).drew;have eG:=AV.o
     try simp only at eG
     rw[<-eG];exact U11 (v:=.tuple #[.pointer none,fv c p]) (by simp[results,results17,go_sem,q0,q1,qf,ql]) rfl ⟨rfl,dJ,oC.drew⟩
    |ok r =>
     obtain⟨e1,g2⟩:=r;rintro e w2 ⟨io,L2,ac,x2,he,cx,Lw,hU⟩;subst he;have eo:=eB.o.st hU Ya;have bM:Gr w w2:=hU.below pN.o (λ k e=>by omega);refine Z127 ?_;intro hT g3 z3;clear c2;go_wp2_with fail;refine Z190 ?_;intro w4 g4;have li:=g3.trans g4;go_wp2_with fail
     go_roundg gk
     case rel =>
      have eG:=AV.o
      try simp only at eG
      exact⟨e1,g2,io,L2,ac,x2,rfl,eG,cx.gr li,Lw.gr li,eo.gr li,bM.trans li,U13 eW (Ol8 HY.o)⟩
     case measure=>first|omega|(simp;done)|(simp;omega)
  rw[U1c Lv]at eG;have d1:decide ((m:Int)<(s.size:Int))=false:=Ye
  have d2:decide (m<s.size)=false:=Ye;subst eG;obtain⟨gn,cap,cur,sO,qe,aW,dR,oZ,tM,lF,cM,FH,A7,C1⟩:=bO.o.v.form (by rw[<-bO.o.nd,U1j]at eW;exact eW);subst sO;have kP:V5r wr (w.heap.size+1+1) (w.heap.size+1) gn cap L 0 wr:=by
   refine⟨?_,λ _ _ _=>rfl,U12 _,rfl,rfl,rfl⟩
   simpa using bO.o.v.nodes
  have rz:=U10 kP;have Rp:L.length<=9223372036854775807:=by unfold maxLen at A7;omega
  have rA:=U10 (show L.length<=cap/\cap<=9223372036854775807 from ⟨FH,by unfold maxLen at A7;omega⟩);have Tu:=c1;clear lF cM C1 kP A7 cE uV l9 cY c1 c3 c4 c5 c6 c7 c8;obtain⟨wo,Ke⟩:∃wo,wo=wr:=⟨_,rfl⟩
  subst Ke;go_wp2_with fail
  go_loopw [55] (λ v W=>∃j:Nat,v=.int .i64 j/\j<=L.length/\V5r wo (w.heap.size+1+1) (w.heap.size+1) gn cap L j W) (λ v _=>L.length-(intOf v).toNat)
  case atStart=>exact⟨0,rfl,U2u _,rz.o⟩
  case round =>
   obtain⟨j,rfl,hj,hcut⟩:=hrel;have dv:=U10 hcut;have FJ:w.heap.size+1+1≠gn:=U3l oZ;have ym:=bO.o.v.R_lt.2;have om:=hcut.2.1 (w.heap.size+1+1) ym FJ;have q0:wr.cell? (w.heap.size+1+1:Nat)=some (.slice gn L.length cap):=(U1r (w:=wo) (a:=⟨w+1+1,0,none⟩) om).trans c0;have q1:wr.cell? ⟨w+1+1,1,none⟩=some (.int .i64 0):=(U1r (w:=wo) (a:=⟨w+1+1,1,none⟩) om).trans Tu;have qz:∀o,wr.frozen? ⟨w+1+1,o,none⟩=false:=λ o=>(U33 (w:=wo) (a:=⟨w+1+1,o,none⟩) om).trans (fz o)
   clear hcut om;by_cases e9:j<L.length
   ·have e1:decide ((j:Int)<(L.length:Int))=true:=by simp;omega
    have e2:decide (j<L.length)=true:=Ye;refine Z230 ?_;intro i1;have i2:(j:Int)<(L.length:Int):=Ya;refine Z153 ?_;intro wj;obtain⟨rj,rB⟩:∃rj,L[j]?=some rj:=⟨_,U1e e9⟩
    have Rq:=U10 rB;have oE:=U10 (bO.o.v.rows j rj rB);have hS:O59 gn j rj wr.drew:=dv.o.cells rj rB;have cj:=dv.o.step rj rB;obtain⟨ka,kn,Da⟩:=O42 oE.o.k;obtain⟨sa,sn,Db⟩:=O42 oE.o.s;obtain⟨ua,un,Dc⟩:=O42 oE.o.u;have l8:=O9b oE.o.k;have uN:=O8j oE.o.s;have zg:=O4n oE.o.u;rw[Da]at l8 cj;rw[Db]at uN cj;rw[Dc]at zg cj;have fO:=U10 l8;have Mg:=U10 uN;have Mh:=U10 zg;have ky:=U10 cj;clear rB cj Da Db Dc l8 uN zg
    go_upto_region 14 with fail
    refine Reg.begin' (W:=λ i=>i != 20&&i != 23&&i != 26) (S:=O59 gn j rj) Yc ?_;refine Z304 ?_;obtain⟨p1,p2,p3,pf⟩:=(show O59 gn j rj wr from hS)
    exact J170
   have e1:decide ((j:Int)<(L.length:Int))=false:=Ye;have e2:decide (j<L.length)=false:=Ye;have JD:j=L.length:=Ya;subst JD;have eL:FX w (0:Int) (0:Int) wr:=eB.o.of_block (dv.o.2.1 _ eB.o.2.2.2 Ya) dv.o.2.2.1;have dN:Gr w wr:=dv.o.gr pN.o Ya;have VY:w.heap.size+1+1<wr.heap.size:=U13 ym dv.o.2.2.1;obtain⟨p0,p1,pf,pl⟩:=id eL;go_wp2_with fail;refine (O88 gn L.length cap rA.o.1 rA.o.2 _).mono ?_;rintro e w3 ⟨rfl,KD⟩;subst w3;go_wp2_with fail;obtain⟨wS,fC⟩:=ExZ (wr.setCell (w.heap.size+1+1:Nat) (.slice gn L.length L.length))
   have dJ:wS.cell? (w.heap.size+1+1:Nat)=some (.slice gn L.length L.length):=by rw[<-fC,U2v _ _ _ (by rw[q0];rfl)]
   have ag:wS.cell? ⟨w+1+1,1,none⟩=some (.int .i64 0):=by rw[<-fC,U1n _ _ _ _ Yb];exact q1
   have mi:FX w (0:Int) (0:Int) wS:=by rw[<-fC];exact eL.other Ya _
   have Tv:Gr w wS:=by rw[<-fC];exact dN.setCell (p:=⟨w+1+1,0,none⟩) (by show w.heap.size<=w.heap.size+1+1;omega) _
   have Tw:∀k,own k≠0->own k≠1->wS.heap[k]?=wr.heap[k]?:=by
    rw[<-fC];intro k h0 h1;exact U15 _ _ _ _ (λ e=>by rw[show k=w.heap.size+1+1 from e]at h1;exact h1 bO.o.v.oR)
   have Tx:wr.heap.size=wS.heap.size:=by rw[<-fC];simp[World.setCell]
   have rS:=dv.o.treeG bO.o.v Tw (U41 Tx);have EV:Oll wS (w.heap.size+1) (w.heap.size+1+1) g.its g.ns:=by
    obtain⟨⟨xs,i1,i2⟩,i3,i4,i5,_⟩:=ld.o;obtain⟨_,c7,c8,_⟩:=bO.o.v.cells;have hk:∀k,k<wo.heap.size->own k=0->wS.heap[k]?=wo.heap[k]?:=λ k h1 h0=>by
     have h2:k≠w.heap.size+1+1:=λ e=>by rw[e,bO.o.v.oR]at h0;cases h0
     rw[<-fC,U15 _ _ _ _ h2];exact dv.o.2.1 k h1 (λ e=>by rw[e,dR]at h0;cases h0)
    have Pi:∀o,o≠0->wS.cell? ⟨w+1+1,o,none⟩=wo.cell? ⟨w+1+1,o,none⟩:=λ o ho=>by
     rw[<-fC,U1n _ _ _ _ Yf];exact U1r (w:=wo) (a:=⟨w+1+1,o,none⟩) (dv.o.2.1 _ ym FJ)
    exact⟨x.iv,x.nsv,xs,(Pi 7 Yd).trans c7,(Pi 8 Yd).trans c8,O1 i1 λ k e=>hk k (i1.lt k e).2 (i4 k e),i2,O1 i3 λ k e=>hk k (i3.lt k e).2 (i5 k e)⟩
   rw[fC];rw[O5 mi.1,O5 mi.2.1];obtain⟨Ln,Lo,Lp,Lq⟩:=id mi;refine U11 (v:=.tuple #[.pointer (some ⟨w+1+1,0,none⟩),f0]) (by simp[results,results17,go_sem,Ln,Lo,Lp,Lq]) rfl ?_;refine⟨w.heap.size+1+1,gn,L.map Or,rfl,Ya,Ya,by rw[U1j];exact dJ,ag,?_,?_,Tv,EV,λ r hr=>?_⟩;rw[<-bO.o.nd,U4o];rfl;exact rS.low Ya
   obtain⟨r0,_,rfl⟩:=U3k.1 hr;exact Odp r0
def Oon(w:World)(X:V9 Vb)(e:Ending)(w':World):Prop:=match X with
 |.non=>True
 |.bad c p=>e=.returned (.tuple #[.agg #[Vo,(0:Int)],fv c p])/\c≠0/\Gr w w'
 |.ok g=>∃(gn:Nat)(L:List Vy),e=.returned (.tuple #[.agg #[.slice gn L.length L.length,(0:Int)],f0])/\L.map (·.nd)=g.nds/\V2b w' w.heap.size gn L/\Gr w w'/\∀r∈L,Or r=r
structure Vbx(R z:Nat)(v0 v1 x y:Value)(w:World):Prop where
 c0:w.cell? R=some v0
 c1:w.cell? ⟨R,1,none⟩=some v1
 f:FX z x y w
theorem O7j(Tb:Nat->UInt8×UInt8)(w:World)(bU:RW Tb w)(s:ByteArray)(hs:s.size<=20000000)(ba:Option Addr)(bn bc:Nat)(dO:∀W,Gr w W->(convert 22 9 (.slice ba bn bc)).run prog W=.ok (.string s) W)(X:V9 Vb)(hX:V1e ⟨Vi Tb,Ve⟩ (bs s)=X)(a8:X≠.non):Calls prog 7 #[.slice ba bn bc] w (Oon w X):=by
 obtain⟨hA,gA,zA⟩:=bx2 w Vo (0:Int) 26;obtain⟨W0,aI⟩:=ExZ (w.alloc (.cells #[Vo,(0:Int)] 26))
 rw[aI]at hA gA zA;refine Z102 ?_;intro W1 aR gB hB zB;have xr:=gA.trans gB;have sK:=hA.gr gB;have f9:=U10 (O7i Tb W1 (bU.gr xr) s hs ba bn bc (λ W q=>dO W (xr.trans q)) X hX a8);have Gs:=U10 aI;have mq:=U10 aR;clear aI aR hX bU dO hA;go_enter func7,ntmps7;go_wp2_with fail;rw[show (w.alloc (.cells #[.slice none 0 0,(0:Int)] 26)).alloc (.cells #[(0:Int),(0:Int)] 29)=W1 from by rw[show w.alloc (.cells #[.slice none 0 0,(0:Int)] 26)=W0 from Gs.o];exact mq.o];refine f9.o.mono ?_;clear f9 Gs mq;cases X with
 |non=>exact absurd rfl a8
 |bad c p =>
  rintro e w2 ⟨he,dJ,g2⟩;subst he;refine Z159 ?_;intro W3 bH nA hT g3 z3;clear bH;go_wp2_with fail;rw[show w2.alloc (.cells #[c,p] 29)=W3 from nA.o];refine Z182 ?_;intro w4 g4;have aM:=g2.size;have gE:=(g2.trans g3).trans g4;have Bh:=hT.gr g4;have A8:=sK.gr gE;have rD:=hB.gr gE;obtain⟨p0,p1,pf,pl⟩:=id A8;obtain⟨p2,p3,fG,fH⟩:=id rD
  go_upto_region 3 with fail
  have hS:=Bh.gr (Gr.refl w4).drew;refine Reg.begin' (W:=λ i=>i != 3) (S:=FX w2 c p) Yc ?_;refine Reg.ty 0 ?_;refine Reg.tl 1 hS ?_ (hy:=by intro w ab;obtain⟨s0,s1,s2,s3⟩:=ab;go_simp;try with_reducible rfl);refine Reg.on 2 ?_;go_simp;rw[O5 A8.1,O5 A8.2.1];refine⟨by first|exact hS|exact λ _=>hS|exact λ _ _=>hS,?_⟩;refine Reg.pt ?_;refine Z191 ?_;refine Z2 ?_;refine Z12 ?_;go_wp2_with fail;have vM:=rD.set c p;have Gt:=(A8.other (b2:=w.heap.size+1) (o:=0) Ya c).other (b2:=w.heap.size+1) (o:=1) Ya p;have oC:=((xr.trans gE).setCell (p:=⟨w+1,0,none⟩) (U2t _) c).setCell (p:=⟨w+1,1,none⟩) (U2t _) p;obtain⟨WF,ao⟩:=ExZ ((w4.setCell (w.heap.size+1:Nat) c).setCell ⟨w+1,1,none⟩ p)
  rw[ao]at vM Gt oC;rw[ao];obtain⟨q0,q1,qf,ql⟩:=Gt.gr (Gr.refl WF).drew;obtain⟨y0,y1,yf,yl⟩:=vM.gr (Gr.refl WF).drew;exact U11 (v:=.tuple #[.agg #[Vo,(0:Int)],fv c p]) (by simp[results,results7,go_sem,q0,q1,qf,ql,y0,y1,yf,yl]) rfl ⟨rfl,dJ,oC.drew⟩
 |ok g =>
  rintro e w2 ⟨R,gn,L,he,my,pF,dJ,ag,aL,rS,g2,_,cA⟩;subst he;refine Z127 ?_;intro hT g3 z3;obtain⟨W3,bH⟩:=ExZ (w2.alloc (.cells #[(0:Int),(0:Int)] 29))
  rw[bH]at hT g3 z3;have nA:=U10 bH;clear bH;go_wp2_with fail;rw[show w2.alloc (.cells #[(0:Int),(0:Int)] 29)=W3 from nA.o];refine Z190 ?_;intro w4 g4;have aM:=g2.size;have li:=g3.trans g4;have gE:=g2.trans li;have Bh:=hT.gr g4;have A8:=sK.gr gE;have rD:=hB.gr gE;have k0:=(li.use.1 R 0 my).trans dJ;have k1:=(li.use.1 R 1 my).trans ag;have Ty:=U13 my li.size;obtain⟨p0,p1,pf,pl⟩:=id A8;obtain⟨p2,p3,fG,fH⟩:=id rD;have mM:=U10 rS;clear rS dJ ag
  go_upto_region 4 with fail
  have hS:Vbx R w2.heap.size (.slice gn L.length L.length) (0:Int) (0:Int) (0:Int) w4.drew:=⟨k0,k1,Bh.gr (Gr.refl w4).drew⟩
  refine Reg.begin' (W:=λ i=>i != 6) (S:=Vbx R w2.heap.size (.slice gn L.length L.length) (0:Int) (0:Int) (0:Int)) Yc ?_;refine Z32 ?_;refine Reg.tl 3 hS ?_ (hy:=by intro w ab;obtain⟨s0,s1,⟨s2,s3,s4,s5⟩⟩:=ab;go_simp;try with_reducible rfl);refine Reg.tl 4 hS ?_ (hy:=by intro w ab;obtain⟨s0,s1,⟨s2,s3,s4,s5⟩⟩:=ab;go_simp;try with_reducible rfl);refine Reg.on 5 ?_;go_simp;have eQ:Vbx R w2.heap.size (.slice gn L.length L.length) (0:Int) (0:Int) (0:Int) ((w4.setCell w (.slice gn L.length L.length)).setCell ⟨w,1,none⟩ (0:Int)).drew:=by
   refine⟨?_,?_,((Bh.other Ya _).other Ya _).gr (Gr.refl _).drew⟩;show ((w4.setCell _ _).setCell _ _).cell? _=_;refine Z88 ?_;exact k0
   show ((w4.setCell _ _).setCell _ _).cell? _=_;refine Z88 ?_;exact k1
  refine⟨by first|exact eQ|exact λ _=>eQ|exact λ _ _=>eQ,?_⟩;refine Reg.pt ?_;refine Reg.on 6 ?_;refine Z298 ?_;go_wp2_with fail;have cD:=fx2 A8 rD Ya (xr.trans gE) (U12 _) (U2t _) (.slice gn L.length L.length) (0:Int) (0:Int) (0:Int);have cr:∀k,k≠w.heap.size->k≠w.heap.size+1->((((w4.setCell w (.slice gn L.length L.length)).setCell ⟨w,1,none⟩ (0:Int)).setCell (w.heap.size+1:Nat) (0:Int)).setCell ⟨w+1,1,none⟩ (0:Int)).heap[k]?=w4.heap[k]?:=λ k h1 h2=>by
   rw[U15 _ _ _ _ h2,U15 _ _ _ _ h2,U15 _ _ _ _ h1,U15 _ _ _ _ h1]
  have iR:((((w4.setCell w (.slice gn L.length L.length)).setCell ⟨w,1,none⟩ (0:Int)).setCell (w.heap.size+1:Nat) (0:Int)).setCell ⟨w+1,1,none⟩ (0:Int)).heap.size=w4.heap.size:=by simp[World.setCell]
  obtain⟨WF,ao⟩:=ExZ ((((w4.setCell w (.slice gn L.length L.length)).setCell ⟨w,1,none⟩ (0:Int)).setCell (w.heap.size+1:Nat) (0:Int)).setCell ⟨w+1,1,none⟩ (0:Int))
  rw[ao]at cD cr iR;rw[ao];obtain⟨Gt,vM,oC⟩:=cD;obtain⟨q0,q1,qf,ql⟩:=Gt.gr (Gr.refl WF).drew;obtain⟨y0,y1,yf,yl⟩:=vM.gr (Gr.refl WF).drew;refine U11 (v:=.tuple #[.agg #[.slice gn L.length L.length,(0:Int)],f0]) (by simp[results,results7,go_sem,q0,q1,qf,ql,y0,y1,yf,yl]) rfl ⟨gn,L,rfl,aL,?_,oC.drew,cA⟩;exact (((mM.o.gr li).keptB (λ k h1 _=>cr k Ya Ya) (U41 iR.symm)).gr (Gr.refl WF).drew).low Ya
theorem Ocw(Tb:Nat->UInt8×UInt8)(w:World)(bU:RW Tb w)(s:ByteArray)(hs:s.size<=20000000)(ba:Option Addr)(bn bc:Nat)(dO:∀W,Gr w W->(convert 22 9 (.slice ba bn bc)).run prog W=.ok (.string s) W)(c p:Nat)(hX:V1e ⟨Vi Tb,Ve⟩ (bs s)=.bad c p):Calls prog 12 #[.slice ba bn bc] w λ e w'=>e=.returned (.tuple #[Vo,Vo])/\Gr w w':=by
 have f9:=U10 (O7i Tb w bU s hs ba bn bc dO _ hX Yb);clear hX bU dO;go_enter func12,ntmps12;go_wp2_with fail;refine f9.o.mono ?_;rintro e w2 ⟨he,dJ,g2⟩;subst he;refine Z159 ?_;intro W3 bH nA hT g3 z3;clear bH;go_wp2_with fail;rw[show w2.alloc (.cells #[c,p] 29)=W3 from nA.o];refine Z182 ?_;intro w4 g4;go_wp2_with fail;exact U11 (v:=.tuple #[Vo,Vo]) (by simp[results,results12,go_sem]) rfl ⟨rfl,(g2.trans g3).trans g4⟩
def V5a(PT:Lib.PrintTabs)(l:Pl.Bs):Pl.Bs:=(Lib.quoteZ PT ⟨l.toArray⟩).map λ n=>UInt8.ofNat n.toNat
structure TxW(PT:Lib.PrintTabs)(w:World):Prop where
 int:V3y w
 pr:Lib.PrintTabsAt 7 8 9 10 PT w
 u8:Lib.Utf8Tabs 4 5 w
theorem TxW.gr{PT:Lib.PrintTabs}{w w':World}(h:TxW PT w)(g:Gr w w'):TxW PT w':=⟨h.int.gr g,printTabs_below h.pr g,Utf8Tabs_below h.u8 g⟩
theorem O64(a b:ByteArray):bs (a++b)=bs a++bs b:=by
 show (a++b).data.toList=_;rw[U2n,Array.toList_append]
theorem Ocx(PT:Lib.PrintTabs)(l:Pl.Bs)(hl:l.length<=1000000)(w:World)(hw:TxW PT w):Calls prog 29 #[.string ⟨l.toArray⟩] w λ e w'=>∃q:ByteArray,e=.returned (.string q)/\bs q=V5a PT l/\Gr w w':=by
 refine (strconv_Quote PT ⟨l.toArray⟩ w ?_ hw.pr hw.u8).mono ?_
 have:(⟨l.toArray⟩:ByteArray).size=l.length:=by simp[ByteArray.size]
 omega
 rintro e w' ⟨rfl,hb⟩;exact⟨_,rfl,rfl,hb⟩
structure TxS(z b g k:Nat)(v0 v1:Value)(n c u:Nat)(w:World):Prop where
 t:FX z v0 v1 w
 b4:w.cell? ⟨b,4,none⟩=some (.slice g n c)
 u:w.cell? ⟨g,k,none⟩=some (.int .i64 u)
theorem TxS.gr{z b g k:Nat}{v0 v1:Value}{n c u:Nat}{w w':World}(h:TxS z b g k v0 v1 n c u w)(q:Gr w w'):TxS z b g k v0 v1 n c u w' :=
 ⟨h.t.gr q,(q.use.1 _ _ (Lib.lt_of_cell h.b4)).trans h.b4,(q.use.1 _ _ (Lib.lt_of_cell h.u)).trans h.u⟩
theorem O9c(PT:Lib.PrintTabs):∀(f i:Nat)(t:Pl.Bs)(w:World)(_:TxW PT w)(base gn:Nat)(L:List Vy)(_:V2b w base gn L)(_:Pl.tidy (L.map (·.nd))=true)(_:L.length<=1000000)(_:i<=1000000)(_:V28 (V5a PT) (L.map (·.nd)) f i=some t)(_:t.length<=1000000000000000000)(root:Int),Calls prog 11 #[.agg #[.slice gn L.length L.length,root],i] w λ e w'=>∃q:ByteArray,e=.returned (.string q)/\bs q=t/\Gr w w':=by
 intro f
 induction f with
 |zero=>intro i t w _ base gn L _ _ _ _ h _ root;cases h
 |succ f ih =>
  intro i t w hw base gn L hT yT yH dT h MX root;obtain⟨B8,gW,zW⟩:=bx2 w (.slice gn L.length L.length) root 26;obtain⟨W,hW⟩:=ExZ (w.alloc (.cells #[.slice gn L.length L.length,root] 26))
  rw[hW]at B8 gW zW;have HW:=U10 hW;have xP:=U10 B8;have HG:=U10 gW;have HT:=U10 (hT.gr gW);have sZ:=U10 (hw.gr gW);have Gu:=U10 yT;have Tz:=U10 ih;obtain⟨p0,p1,pf,pl⟩:=B8;have i0:decide ((i:Int)<0)=false:=Yb
  unfold V28 at h;rw[U1m]at h;clear hW hw hT yT ih gW zW;cases hr:L[i]? with
  |none =>
   rw[hr]at h;simp only[Option.map_none,U1f]at h;subst h;have Ja:L.length<=i:=by simpa using hr
   have d1:decide ((L.length:Int)<=(i:Int))=true:=Ye;have d2:decide (L.length<=i)=true:=Ye
   go_enter func11,ntmps11
   go_upto_region 1 with fail
   rw[show w.alloc (.cells #[.slice gn L.length L.length,root] 26)=W from HW.o];go_wp2_with fail;exact U11 (v:=.string ⟨#[]⟩) (by simp[results,results11,go_sem]) rfl ⟨_,rfl,rfl,HG.o⟩
  |some r =>
   rw[hr]at h;simp only[U25]at h;have TA:i<L.length:=(U14.1 hr).1;have d1:decide ((L.length:Int)<=(i:Int))=false:=Ye
   have d2:decide (L.length<=i)=false:=Ye;refine Z141 ?_;intro j1 j2;obtain⟨u,hu⟩:∃u,V17 (V28 (V5a PT) (L.map (·.nd)) f) (V5a PT) r.nd.keys r.nd.subs=some u:=by
    cases hs:V17 (V28 (V5a PT) (L.map (·.nd)) f) (V5a PT) r.nd.keys r.nd.subs with
    |none=>rw[hs]at h;cases h
    |some u=>exact⟨u,rfl⟩
   rw[hu]at h;simp only[U1f]at h;have vk:=Gu.o;unfold Pl.tidy at vk;rw[U2k]at vk;have Pj:=vk r.nd (List.mem_map_of_mem (U2p hr));simp only[U1h,U1x,U2k]at Pj;obtain⟨⟨⟨⟨hk,ht⟩,pY⟩,oa⟩,FZ⟩:=Pj;have cA:∀m v,(ndV r)[m]?=some v->W.cell? ⟨gn,i*7+m,none⟩=some v:=λ m v hv=>HT.o.cell i r hr m v hv
   obtain⟨Gv,Pk,Gw⟩:=HT.o.rows i r hr;obtain⟨ka,kc,oM⟩:∃a c,r.kv=.slice a r.nd.keys.length c:=by
    rcases Oo Gv with⟨e,e2⟩|⟨g,c,e,_,_⟩
    exact J83
    exact⟨_,_,e⟩
   obtain⟨sa,sc,jN⟩:∃a c,r.sv=.slice a r.nd.spots.length c:=by
    rcases Oo Pk with⟨e,e2⟩|⟨g,c,e,_,_⟩
    exact J83
    exact⟨_,_,e⟩
   obtain⟨ua,uc,mo⟩:∃a c,r.uv=.slice a r.nd.subs.length c:=by
    rcases Oo Gw with⟨e,e2⟩|⟨g,c,e,_,_⟩
    exact J83
    exact⟨_,_,e⟩
   have q0:W.cell? ⟨gn,i*7,none⟩=some (.int .u8 r.nd.kind):=cA 0 (.int .u8 r.nd.kind) rfl;refine Z164 ?_;intro q1 q2 q3 q4 q5 q6;rw[oM]at Gv;rw[mo]at Gw;have sD:=U10 Gv;have B7:=U10 Gw;have HU:=U10 hu;have H:=U10 h;have TC:=U10 pY;have TD:=U10 FZ;have ap:t.length=(Lib.itoa (r.nd.kind:Int)).length+((V5a PT r.nd.text).length+u.length):=by rw[<-h];simp
   clear h hu cA Gv Pk Gw oM jN mo pY FZ vk hr;go_enter func11,ntmps11
   go_upto_region 1 with fail
   rw[show w.alloc (.cells #[.slice gn L.length L.length,root] 26)=W from HW.o]
   go_upto_region 4 with fail
   have wY:=U1w W (.cells #[.int .u8 r.nd.kind,.string ⟨r.nd.text.toArray⟩,.slice ka r.nd.keys.length kc,.slice sa r.nd.spots.length sc,.slice ua r.nd.subs.length uc,r.nd.sp.1,r.nd.sp.2] 40);have g1:Gr W (W.alloc (.cells #[.int .u8 r.nd.kind,.string ⟨r.nd.text.toArray⟩,.slice ka r.nd.keys.length kc,.slice sa r.nd.spots.length sc,.slice ua r.nd.subs.length uc,r.nd.sp.1,r.nd.sp.2] 40)):=(Gr.refl W).alloc _;obtain⟨W1,aR⟩:=ExZ (W.alloc (.cells #[.int .u8 r.nd.kind,.string ⟨r.nd.text.toArray⟩,.slice ka r.nd.keys.length kc,.slice sa r.nd.spots.length sc,.slice ua r.nd.subs.length uc,r.nd.sp.1,r.nd.sp.2] 40))
   rw[aR]at wY g1⊢;clear aR q0 q1 q2 q3 q4 q5 q6 p0 p1 pf pl;have NV:=U10 wY;have ej:=U10 g1;obtain⟨⟨b0,b1,b2,b3,b4,b5,b6⟩,bf,bl⟩:=Ocn wY;have hS:W1.drew.cell? W=some (.int .u8 r.nd.kind)/\W1.drew.cell? ⟨W,1,none⟩=some (.string ⟨r.nd.text.toArray⟩):=⟨b0,b1⟩
   have wk:IntKind.i64.wrap (r.nd.kind:Int)=(r.nd.kind:Int):=U1k _ ⟨Ya,Ya⟩;have Lx:=U10 (λ W (q:TxW PT W)=>strconv_Itoa (r.nd.kind:Int) Ya Ya W q.int.pow);have TE:=U10 (λ W (q:TxW PT W)=>Ocx PT r.nd.text ht W q);refine Reg.begin' (W:=λ _=>true) (S:=λ V=>V.cell? W=some (.int .u8 r.nd.kind)/\V.cell? ⟨W,1,none⟩=some (.string ⟨r.nd.text.toArray⟩)) Yc ?_;refine Reg.ty 0 ?_;refine Reg.tl 1 hS ?_ (hy:=by intro w ab;obtain⟨s0,s1⟩:=ab;go_simp;try with_reducible rfl);refine Reg.ty 2 ?_;refine Reg.ty 4 ?_;refine Reg.tl 5 hS ?_ (hy:=by intro w ab;obtain⟨s0,s1⟩:=ab;go_simp;try with_reducible rfl);refine Z191 ?_;refine (Lx.o _ (sZ.o.gr (g1.trans (Gr.refl W1).drew))).mono ?_;rintro e w2 ⟨rfl,k,os,fq⟩;have g2:Gr W1 w2:=by rw[fq];exact (Gr.refl W1).drew.trans (O4b _ _ _)
   clear fq;have br:w2.cell? W=some (.int .u8 r.nd.kind)/\w2.cell? ⟨W,1,none⟩=some (.string ⟨r.nd.text.toArray⟩):=⟨(g2.use.1 _ _ bl).trans b0,(g2.use.1 _ _ bl).trans b1⟩
   refine Z239 ?_;refine Reg.on 6 ?_;go_simp;refine (TE.o w2 (sZ.o.gr (g1.trans g2))).mono ?_;rintro e w3 ⟨q,rfl,hq,g3⟩;have aD:w3.cell? W=some (.int .u8 r.nd.kind)/\w3.cell? ⟨W,1,none⟩=some (.string ⟨r.nd.text.toArray⟩):=⟨(g3.use.1 _ _ (U13 bl g2.size)).trans br.1,(g3.use.1 _ _ (U13 bl g2.size)).trans br.2⟩
   refine Z16 ?_;have VZ:q.size=(V5a PT r.nd.text).length:=by rw[<-hq,O0]
   refine Reg.takeY (i:=7) (v:=?_) rfl Yc Yc Yc (λ _ _ _ h=>h) Yi ?_ ?_;rotate_left;exact J96
   refine Z50 ?_;refine Reg.ty 8 ?_;refine Z12 ?_;obtain⟨ts,AZ⟩:=ExZ ((({ data:=(Lib.itoa (r.nd.kind:Int)).toArray }:ByteArray)++q))
   have iD:bs ts=Lib.itoa (r.nd.kind:Int)++V5a PT r.nd.text:=by rw[<-AZ,O64,hq]
   have aa:bs ts++u=t:=by rw[iD,<-H.o];simp
   rw[AZ];have sW:=g2.trans g3;have bG:=U10 aa;have Ly:=U10 sW;clear aa sW g2 g3 br aD hS AZ iD;go_wp2_with fail
   go_loopw [6,7] (λ v6 v7 wr=>∃(m:Nat)(tb:ByteArray)(us:Pl.Bs),v6=.string tb/\v7=.int .i64 m/\m<=r.nd.subs.length/\V17 (V28 (V5a PT) (L.map (·.nd)) f) (V5a PT) (r.nd.keys.drop m) (r.nd.subs.drop m)=some us/\bs tb++us=t/\Gr W1 wr) (λ _ v7 _=>r.nd.subs.length-(intOf v7).toNat)
   case atStart=>exact⟨0,ts,u,rfl,rfl,U2u _,HU.o,bG.o,Ly.o⟩
   case round =>
    obtain⟨m,tb,us,rfl,rfl,hm,A9,vm,cY⟩:=hrel;have f2:=(cY.use.1 _ _ bl).trans b2;have f4:=(cY.use.1 _ _ bl).trans b4;have pN:=U10 cY;by_cases i9:m<r.nd.subs.length
    ·have e1:decide ((m:Int)<(r.nd.subs.length:Int))=true:=by simp;omega
     have e2:decide (m<r.nd.subs.length)=true:=Ye;obtain⟨a,ub,Pm,Dz,iM⟩:=V6z i9 A9;obtain⟨gu,cu,rI,mB,eP⟩:=B7.o.form Ya;simp only[U3h]at rI;obtain⟨rfl,_,rfl⟩:=rI;have Aj:=B7.o.cells (g:=gu) rfl m (.int .i64 r.nd.subs[m]) (by simp[O6,i9]);have aW:=(B7.o.lt gu rfl).2;have Aj:=(ej.o.use.1 _ _ aW).trans Aj;have aW:=U13 aW ej.o.size;have TF:a.length<=1000000000000000000:=by
      have:=U2w List.length vm;rw[iM]at this;simp only[U1b,U1d]at this;omega
     have GH:=U10 (λ V (g:Gr W1 V)=>Tz.o r.nd.subs[m] a V (sZ.o.gr (ej.o.trans g)) base gn L (HT.o.gr (ej.o.trans g)) Gu.o yH (TD.o _ (U43 i9)) Pm TF root);have PO:=U10 Dz;refine Z249 ?_;intro j3 j4 wm;clear Dz Pm;by_cases tP:m<r.nd.keys.length
     ·have e3:decide ((m:Int)<(r.nd.keys.length:Int))=true:=by simp;omega
      have e4:decide (m<r.nd.keys.length)=true:=Ye;have j5:(m:Int)<(r.nd.keys.length:Int):=Ya;obtain⟨gk,ck,Ew,rC,TG⟩:=sD.o.form Ya;simp only[U3h]at Ew;obtain⟨rfl,_,rfl⟩:=Ew;have aQ:=sD.o.cells (g:=gk) rfl m (.string ⟨r.nd.keys[m].toArray⟩) (by simp[Oh,tP]);have pY:=(sD.o.lt gk rfl).2;have aQ:=(((ej.o.trans cY).use.1 _ _ pY).trans aQ)
      have TH:r.nd.keys[m].length<=1000000:=TC.o _ (U43 tP);have TI:=U10 (Ocx PT r.nd.keys[m] TH wr (sZ.o.gr (ej.o.trans cY)));rw[U1e tP]at iM;simp only at iM;have Lz:=U10 iM;have LA:=U10 vm;have a9:=U2w List.length vm;rw[iM,U1b,O0]at a9;simp only[U1b,U1d]at a9;clear A9 iM vm cY mB eP rC TG;go_wp2_with fail;refine TI.o.mono ?_;rintro e wq ⟨qk,rfl,Pn,gq⟩;have TJ:qk.size=(V5a PT r.nd.keys[m]).length:=by rw[<-Pn,O0]
      have oF:¬ 9223372036854775807<tb.size+qk.size:=Ya;have TK:decide (9223372036854775807<tb.size+qk.size)=false:=Ye;have mj:=U10 (pN.o.trans gq);obtain⟨TL,wB⟩:=ExZ (tb++qk)
      have aA:bs TL++(40::(a++(41::ub)))=t:=by rw[<-wB,O64,Pn,U4e,<-Lz.o,LA.o]
      clear f2 f4 aQ;exact J111
     have e3:decide ((m:Int)<(r.nd.keys.length:Int))=false:=Ye;have e4:decide (m<r.nd.keys.length)=false:=Ye;rw[U2g Ya]at iM;simp only[U2l]at iM;have aA:bs tb++(40::(a++(41::ub)))=t:=by rw[<-iM,vm]
     obtain⟨wq,TM⟩:∃wq,wq=wr:=⟨_,rfl⟩
     subst TM;have mj:=pN;clear A9 iM vm cY mB eP;exact J111
    have tW:m=r.nd.subs.length:=Ya;subst tW;have e1:decide ((r.nd.subs.length:Int)<(r.nd.subs.length:Int))=false:=Yb;have e2:decide (r.nd.subs.length<r.nd.subs.length)=false:=Yb;rw[List.drop_length]at A9;have jq:us=[]:=by unfold V17 at A9;exact (U2m A9).symm
    rw[jq,U3j]at vm;have LB:=U10 vm;clear vm A9 cY;go_wp2_with fail;exact U11 (v:=.string tb) (by simp[results,results11,go_sem]) rfl ⟨_,rfl,LB.o,HG.o.trans (ej.o.trans pN.o)⟩
theorem Oa7(w:World)(s:ByteArray)(c:Nat)(W:World)(q:Gr (Lib.bytesWorld w 5 s) W):(convert 22 9 (.slice w.heap.size s.size c)).run prog W=.ok (.string s) W:=by
 refine Z71 ?_;intro e0;have aQ:∀i,i<s.size->W.cell? ⟨w.heap.size,0+i,none⟩=some (.int .u8 ((s.data.toList.map λ x=>(x.toNat:Int)).getD i 0)):=by
  intro i hi;have h:=U3g w 5 s i hi;have:=(q.use.1 _ _ (Lib.lt_of_cell h)).trans h;rw[U1v,this];have fh:i<s.data.toList.length:=by rw[Array.length_toList];exact hi
  simp[List.getD,U1e fh]
 rw[U4c W 22 5 underlying22 underlying5 w.heap.size 0 s.size c (s.data.toList.map λ x=>(x.toNat:Int)) (by rw[U1j,Array.length_toList];rfl) aQ 9 underlying9,e0]
theorem O7k(Tb:Nat->UInt8×UInt8)(w:World)(bU:RW Tb w)(s:ByteArray)(hs:s.size<=20000000)(c p:Nat)(hc:c≠0)(hX:V1e ⟨Vi Tb,Ve⟩ (bs s)=.bad c p):Calls prog 16 #[.string s,c,p] w λ e w'=>e=.returned (.bool true)/\Gr w w':=by
 refine Z156 ?_;intro tz gB cF;have Aa:=U10 (λ W (g:Gr w W)=>Ocw Tb (Lib.bytesWorld W 5 s) (bU.gr (g.trans (O11 W 5 s))) s hs (some ⟨W,0,none⟩) s.size (grownCap W s.size 0 5) (λ V q=>Oa7 W s _ V q) c p hX);have xb:=U10 gB;clear gB hX bU;have dO:=tz.o;go_enter func16,ntmps16;go_wp2_with fail;clear dO;refine cF.o.mono ?_;rintro e w2 ⟨he,dJ,g2⟩;subst he;obtain⟨hA,gA,zA⟩:=bx2 w2 Vo (0:Int) 26;obtain⟨W0,aI⟩:=ExZ (w2.alloc (.cells #[Vo,(0:Int)] 26))
 rw[aI]at hA gA zA;obtain⟨hB,gB,zB⟩:=bx2 W0 c p 29;obtain⟨W1,aR⟩:=ExZ (W0.alloc (.cells #[c,p] 29))
 rw[aR]at hB gB zB;rw[zA]at hB zB;have sK:=hA.gr gB;have ej:=U10 ((xb.o.trans g2).trans (gA.trans gB));have HA:=U10 sK;have HB:=U10 hB;have HZ:=U10 zB;have mq:=U10 (show (w2.alloc (.cells #[Vo,(0:Int)] 26)).alloc (.cells #[c,p] 29)=W1 by rw[aI,aR]);clear cF hA hB sK gA gB zA zB aI aR;have dO:=tz.o;go_wp2_with fail;rw[show (w2.alloc (.cells #[.slice none 0 0,(0:Int)] 26)).alloc (.cells #[c,p] 29)=W1 from mq.o,<-HZ.o];clear dO;refine (Aa.o W1 ej.o).mono ?_;rintro e w5 ⟨rfl,g5⟩;have gE:=(O11 W1 5 s).trans g5;obtain⟨p0,p1,pf,pl⟩:=HA.o.gr gE;obtain⟨q0,q1,qf,ql⟩:=HB.o.gr gE;have HE:=U10 gE;go_wp2_with fail;exact U11 (v:=.bool true) (by simp[results,results16,go_sem]) rfl ⟨rfl,ej.o.trans HE.o⟩
theorem Ola(Tb:Nat->UInt8×UInt8)(PT:Lib.PrintTabs)(w:World)(bU:RW Tb w)(th:TxW PT w)(s ad:ByteArray)(hs:s.size<=20000000)(g:Vb)(hX:V1e ⟨Vi Tb,Ve⟩ (bs s)=.ok g)(yT:Pl.tidy g.nds=true)(hl:g.nds.length<=1000000)(F:Nat)(hT:V28 (V5a PT) g.nds F 0=some (bs ad))(hz:ad.size<=1000000000000000000):Calls prog 13 #[.string s,.string ad] w λ e w'=>e=.returned (.bool true)/\Gr w w':=by
 refine Z156 ?_;intro tz gB cF;have sZ:=U10 th;have HT:=U10 hT;have Gu:=U10 yT;have xb:=U10 gB;clear gB hX bU th hT yT;have dO:=tz.o;go_enter func13,ntmps13;go_wp2_with fail;clear dO;refine cF.o.mono ?_;rintro e w2 ⟨gn,L,he,hL,rS,g2,_⟩;subst he;have HL:=U10 hL;have FM:L.length<=1000000:=by rw[<-hL,U1j]at hl;exact hl
 refine Z225 ?_;intro W0 aI hA gA zA;refine Z102 ?_;intro W1 aR gB hB zB;have sK:=hA.gr gB;have cB:=(xb.o.trans g2).trans (gA.trans gB);have Ex:=U10 (O9c PT F 0 (bs ad) W1 (sZ.o.gr cB) _ gn L (rS.gr (gA.trans gB)) (by rw[HL.o];exact Gu.o) FM Ya (by rw[HL.o];exact HT.o) (by rw[O0];exact hz) 0);have ej:=U10 cB;refine Z272 ?_;intro mq;obtain⟨p0,p1,pf,pl⟩:=sK;obtain⟨q0,q1,qf,ql⟩:=hB;clear cF hA gA gB zA zB aI aR hL hl
 go_upto_region 2 with fail
 refine Z262 ?_;go_wp2_with fail;refine Ex.o.mono ?_;rintro e w5 ⟨q,rfl,hq,g5⟩;have LC:q=ad:=by
  cases q with|mk q=>cases ad with|mk v=>exact U2w _ (U2q.1 hq)
 subst LC;have HE:=U10 g5;go_wp2_with fail;exact U11 (v:=.bool true) (by simp[results,results13,go_sem]) rfl ⟨rfl,ej.o.trans HE.o⟩
end Go.Proofs.YtnkgknbdaiakgaaGreatDoor
namespace Go.Proofs.YtnkgknbdaiakgaaGreatDoor
open Pl Go.Proofs.Tryz Go.RowKit Go.Shelf Go.Joins
namespace Pl
def V77:Bs:=[97,46,98,32,61,32,49,10,91,99,46,100,93,10,120,32,61,32,50,10,91,91,101,93,93,10,91,91,101,93,93,10,121,32,61,32,51,10]
def V78:Bs:=[56,34,34,34,97,34,40,56,34,34,34,98,34,40,52,34,49,34,41,41,34,99,34,40,56,34,34,34,100,34,40,56,34,34,34,120,34,40,52,34,50,34,41,41,41,34,101,34,40,55,34,34,40,56,34,34,41,40,56,34,34,34,121,34,40,52,34,51,34,41,41,41]
def V79:Bs:=[97,46,98,32,61,32,49,10,91,97,46,99,93]
def V7a:Bs:=[97,32,61,32,49,10,97,32,61,32,50]
def V7b:Bs:=[91,97,93,10,91,97,93]
def V7c:Bs:=[97,46,98,32,61,32,49,10,91,97,93]
def V69(r:V9 Vb)(c p:Nat):Bool:=match r with|.bad a b=>a==c&&b==p|_=>false
theorem V5m{r:V9 Vb}{c p:Nat}(h:V69 r c p=true):r=.bad c p:=by
 cases r with
 |bad a b=>simp only[V69,U1h,U2z]at h;rw[h.1,h.2]
 |ok g=>cases h
 |non=>cases h
def V7t(Q:Bs->Bs)(F:Nat)(t:Bs)(r:V9 Vb):Bool:=match r with|.ok g=>tidy g.nds&&decide (g.nds.length<=1000000)&&(V28 Q g.nds F 0==some t)|_=>false
theorem V8a{Q:Bs->Bs}{F:Nat}{t:Bs}{r:V9 Vb}(h:V7t Q F t r=true):∃g,r=.ok g/\tidy g.nds=true/\g.nds.length<=1000000/\V28 Q g.nds F 0=some t:=by
 cases r with
 |bad a b=>cases h
 |ok g =>
  simp only[V7t,U1h,U2z,U1x]at h;exact⟨g,rfl,h.1.1,h.1.2,h.2⟩
 |non=>cases h
def Vb7(r:V9 Vb):Bool:=match r with|.ok _=>true|_=>false
theorem V9d{r:V9 Vb}(h:Vb7 r=true):∃g,r=.ok g:=by
 cases r with
 |bad a b=>cases h
 |ok g=>exact⟨g,rfl⟩
 |non=>cases h
end Pl
theorem Ooo(Tb:Nat->UInt8×UInt8)(PT:Lib.PrintTabs):V7t (V5a PT) 9 V78 (V1e ⟨Vi Tb,Ve⟩ V77)=true:=Yc
theorem Oop(Tb:Nat->UInt8×UInt8):Vb7 (V1e ⟨Vi Tb,Ve⟩ V79)=true:=Yc
theorem Ooq(Tb:Nat->UInt8×UInt8):V69 (V1e ⟨Vi Tb,Ve⟩ V7b) 5 5=true:=Yc
theorem Oor(Tb:Nat->UInt8×UInt8):V69 (V1e ⟨Vi Tb,Ve⟩ V7a) 5 6=true:=Yc
theorem Oos(Tb:Nat->UInt8×UInt8):V69 (V1e ⟨Vi Tb,Ve⟩ V7c) 5 9=true:=Yc
end Go.Proofs.YtnkgknbdaiakgaaGreatDoor
namespace Go.Proofs.YtnkgknbdaiakgaaGreatDoor
open Pl Go.Proofs.Tryz Go.RowKit Go.Shelf Go.Joins
attribute [local go_sem] U22
theorem Ofw(Tb:Nat->UInt8×UInt8)(PT:Lib.PrintTabs)(w:World)(bU:RW Tb w)(th:TxW PT w):Calls prog 13 #[.string ⟨V77.toArray⟩,.string ⟨V78.toArray⟩] w λ e w'=>e=.returned (.bool true)/\Gr w w':=by
 obtain⟨g,h1,h2,h3,h4⟩:=V8a (Ooo Tb PT);exact Ola Tb PT w bU th ⟨V77.toArray⟩ ⟨V78.toArray⟩ Yd g h1 h2 h3 9 h4 Yd
theorem Ons(Tb:Nat->UInt8×UInt8)(w:World)(bU:RW Tb w):Calls prog 16 #[.string ⟨V7a.toArray⟩,(5:Int),(6:Int)] w λ e w'=>e=.returned (.bool true)/\Gr w w' :=
 O7k Tb w bU ⟨V7a.toArray⟩ Yd 5 6 Yd (V5m (Oor Tb))
theorem Ont(Tb:Nat->UInt8×UInt8)(w:World)(bU:RW Tb w):Calls prog 16 #[.string ⟨V7b.toArray⟩,(5:Int),(5:Int)] w λ e w'=>e=.returned (.bool true)/\Gr w w' :=
 O7k Tb w bU ⟨V7b.toArray⟩ Yd 5 5 Yd (V5m (Ooq Tb))
theorem Onu(Tb:Nat->UInt8×UInt8)(w:World)(bU:RW Tb w):Calls prog 16 #[.string ⟨V7c.toArray⟩,(5:Int),(9:Int)] w λ e w'=>e=.returned (.bool true)/\Gr w w' :=
 O7k Tb w bU ⟨V7c.toArray⟩ Yd 5 9 Yd (V5m (Oos Tb))
theorem Olb(w:World)(l:List UInt8)(n c:Nat)(hn:l.length=n)(fz:Nat×Nat)(W:World)(q:Gr (w.alloc (.cells (l.map Ob).toArray 5 fz)) W):(convert 22 9 (.slice w.heap.size n c)).run prog W=.ok (.string ⟨l.toArray⟩) W:=by
 subst hn;refine Z71 ?_;intro e0;have aQ:∀i,i<l.length->W.cell? ⟨w.heap.size,0+i,none⟩=some (.int .u8 ((l.map λ x=>(x.toNat:Int)).getD i 0)):=by
  intro i hi;have h:(w.alloc (.cells (l.map Ob).toArray 5 fz)).cell? ⟨w,i,none⟩=some (Ob l[i]):=by
   have hb:=U1w w (.cells (l.map Ob).toArray 5 fz);unfold World.cell?;rw[hb];simp[hi]
  have:=(q.use.1 _ _ (Lib.lt_of_cell h)).trans h;rw[U1v,this];simp[List.getD,U1e hi,Ob]
 rw[U4c W 22 5 underlying22 underlying5 w.heap.size 0 l.length c (l.map λ x=>(x.toNat:Int)) (by rw[U1j]) aQ 9 underlying9,e0]
theorem Olc(Tb:Nat->UInt8×UInt8)(PT:Lib.PrintTabs)(w:World)(bU:RW Tb w)(th:TxW PT w):Calls prog 6 #[] w λ e w'=>e=.returned (.bool true)/\Gr w w':=by
 have HT:=U10 (Ofw Tb PT w bU th);have HC:=U10 (λ W (g:Gr w W)=>Ons Tb W (bU.gr g));have HD:=U10 (λ W (g:Gr w W)=>Ont Tb W (bU.gr g));have HE:=U10 (λ W (g:Gr w W)=>Onu Tb W (bU.gr g));have iJ:=U10 bU;clear bU th;go_enter func6,ntmps6;go_wp2_with fail;refine HT.o.mono ?_;rintro e w1 ⟨rfl,g1⟩;have ej:=U10 g1;have kc:=λ(w:World)(C:Array Value)(n c:Nat)=>Lib.run_convert_bytes_const (P:=prog) w 22 5 C n c underlying22 underlying5
 obtain⟨g,hg⟩:=V9d (Oop Tb);have gA:Gr w1 (w1.alloc (.cells #[.int .u8 97,.int .u8 46,.int .u8 98,.int .u8 32,.int .u8 61,.int .u8 32,.int .u8 49,.int .u8 10,.int .u8 91,.int .u8 97,.int .u8 46,.int .u8 99,.int .u8 93] 5 (13,14))):=(Gr.refl w1).alloc _;have cF:=U10 (O7j Tb _ (iJ.o.gr (g1.trans gA)) ⟨V79.toArray⟩ Yd (some ⟨w1,0,none⟩) 13 13 (λ W q=>Olb w1 V79 13 13 rfl (13,14) W q) _ hg Yb);have LD:=U10 (g1.trans gA);clear g1 gA hg;go_wp2_with fail;refine cF.o.mono ?_;rintro e w2 ⟨gn,L,he,_,_,g2,_⟩;subst he;refine Z225 ?_;intro W0 aI hA gA zA;refine Z102 ?_;intro W1 aR gB hB zB;have jg:=U10 ((LD.o.trans g2).trans (gA.trans gB));have HB:=U10 hB;refine Z272 ?_;intro mq;clear cF hA hB gA gB zA zB aI aR g2 kc
 go_upto_region 5 with fail
 refine Z262 ?_;go_wp2_with fail;refine (HC.o _ jg.o).mono ?_;rintro e w5 ⟨rfl,g5⟩;have rE:=U10 g5;clear g5;go_wp2_with fail;refine (HD.o _ (jg.o.trans rE.o)).mono ?_;rintro e w6 ⟨rfl,g6⟩;have mA:=U10 (rE.o.trans g6);clear g6;go_wp2_with fail;refine (HE.o _ (jg.o.trans mA.o)).mono ?_;rintro e w7 ⟨rfl,g7⟩;have Fh:=U10 (mA.o.trans g7);obtain⟨q0,q1,qf,ql⟩:=HB.o.gr Fh.o;clear g7;go_wp2_with fail;exact U11 (v:=.bool true) (by simp[results,results6,go_sem]) rfl ⟨rfl,jg.o.trans Fh.o⟩
