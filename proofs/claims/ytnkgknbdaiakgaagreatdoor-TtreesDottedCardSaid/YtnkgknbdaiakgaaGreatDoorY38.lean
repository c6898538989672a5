/- The proof's part 38. -/
import Derived.Test.YtnkgknbdaiakgaaGreatDoorY33
import Derived.Test.YtnkgknbdaiakgaaGreatDoorY35
set_option maxHeartbeats 16000000
set_option linter.all false
set_option maxRecDepth 100000
namespace Go.Proofs.YtnkgknbdaiakgaaGreatDoor
open Pl Go.Proofs.Tryz Go.RowKit Go.Shelf Go.Joins
attribute [local go_sem] U28
abbrev itO(k:Nat)(a b:Int)(kv sv:Value)(va vb:Int)(nv:Value)(root:Int):Obj := .cells #[.int .u8 k,a,b,kv,sv,va,vb,nv,root] 53 (0,0)
theorem Oo9{W:World}{I k:Nat}{a b va vb root:Int}{kv sv nv:Value}(h:W.heap[I]?=some (itO k a b kv sv va vb nv root))(x y:Value):((W.setCell ⟨I,3,none⟩ x).setCell ⟨I,4,none⟩ y).heap[I]?=some (itO k a b x y va vb nv root):=by
 have h1:(W.setCell ⟨I,3,none⟩ x).heap[I]?=some (itO k a b x sv va vb nv root):=by rw[block_setCell h];rfl
 rw[block_setCell h1];rfl
theorem O22{W:World}{I k:Nat}{a b va vb root:Int}{kv sv nv:Value}(h:W.heap[I]?=some (itO k a b kv sv va vb nv root)):(W.cell? I=some (.int .u8 k)/\W.cell? ⟨I,1,none⟩=some (.int .i64 a)/\W.cell? ⟨I,2,none⟩=some (.int .i64 b)/\W.cell? ⟨I,3,none⟩=some kv/\W.cell? ⟨I,4,none⟩=some sv/\W.cell? ⟨I,5,none⟩=some (.int .i64 va)/\W.cell? ⟨I,6,none⟩=some (.int .i64 vb) /\W.cell? ⟨I,7,none⟩=some nv/\W.cell? ⟨I,8,none⟩=some (.int .i64 root))/\(∀o,W.frozen? ⟨I,o,none⟩=false)/\I<W.heap.size :=
 ⟨⟨by rw[cell_of_block h];rfl,by rw[cell_of_block h];rfl,by rw[cell_of_block h];rfl,by rw[cell_of_block h];rfl,by rw[cell_of_block h];rfl,by rw[cell_of_block h];rfl,by rw[cell_of_block h];rfl,by rw[cell_of_block h];rfl,by rw[cell_of_block h];rfl⟩,λ o=>unfrozen_of_block h o,(U1a.1 h).1⟩
structure ItM(W:World)(base:Nat)(it:Pl.It)(kv sv nv:Value):Prop where
 k:V2f W base 9 1 kv it.ws.length (Oj (O1l it.ws))
 s:V2f W base 38 2 sv it.ws.length (Oc (O1c it.ws))
 n:(nv=Vp/\it.nds=[])\/∃g L,nv=.slice (some ⟨g,0,none⟩) it.nds.length it.nds.length/\L.map (·.nd)=it.nds/\V2q W base g L
theorem ItM.gr{W W':World}{base:Nat}{it:Pl.It}{kv sv nv:Value}(h:ItM W base it kv sv nv)(g:Gr W W'):ItM W' base it kv sv nv :=
 ⟨h.k.of_block λ k e=>g.block (h.k.lt k e).2,h.s.of_block λ k e=>g.block (h.s.lt k e).2,h.n.imp id λ ⟨g0,L,a,b,c⟩=>⟨g0,L,a,b,c.gr g⟩⟩
theorem ItM.set{W:World}{base:Nat}{it:Pl.It}{kv sv nv:Value}(h:ItM W base it kv sv nv){b:Nat}(hb:b<base)(o:Nat)(v:Value):ItM (W.setCell ⟨b,o,none⟩ v) base it kv sv nv:=by
 have hs:∀k,base<=k->(W.setCell ⟨b,o,none⟩ v).heap[k]?=W.heap[k]?:=λ k hk=>U14 _ _ _ _ (by (try simp);omega)
 refine⟨h.k.of_block λ k e=>hs k (h.k.lt k e).1,h.s.of_block λ k e=>hs k (h.s.lt k e).1,h.n.imp id λ ⟨g0,L,a,b',c⟩=>⟨g0,L,a,b',?_⟩⟩;refine⟨⟨c.lt.1,by simpa [World.setCell]using c.lt.2⟩,λ i r hr j v' hv=>?_,λ i r hr=>?_,c.tg⟩;rw[U1p _ _ _ _ (by have:=c.lt.1;intro e;have:=U2b Addr.block e;simp only at this;omega)];exact c.cell i r hr j v' hv
 obtain⟨x,y,z⟩:=c.rows i r hr;exact⟨x.of_block λ k e=>hs k (x.lt k e).1,y.of_block λ k e=>hs k (y.lt k e).1,z.of_block λ k e=>hs k (z.lt k e).1⟩
theorem V2f.low{w:World}{b b' e size n:Nat}{v:Value}{xs:List Value}(h:V2f w b e size v n xs)(hb:b'<=b):V2f w b' e size v n xs:=by
 obtain⟨v0,⟨h1,h2⟩,h3⟩:=h;exact⟨v0,⟨h1,h2.imp id λ ⟨g,cap,cur,x,y,z⟩=>⟨g,cap,cur,x,U1k hb y,z⟩⟩,h3⟩
theorem ItM.low{W:World}{b b':Nat}{it:Pl.It}{kv sv nv:Value}(h:ItM W b it kv sv nv)(hb:b'<=b):ItM W b' it kv sv nv :=
 ⟨h.k.low hb,h.s.low hb,h.n.imp id λ ⟨g0,L,x,y,z⟩=>⟨g0,L,x,y,⟨⟨U1k hb z.lt.1,z.lt.2⟩,z.cell,λ i r hr=>⟨(z.rows i r hr).1.low hb,(z.rows i r hr).2.1.low hb,(z.rows i r hr).2.2.low hb⟩,z.tg⟩⟩⟩
def O14(s:ByteArray)(I:Nat)(w:World)(X:Va (Nat×Pl.It))(e:Ending)(w':World):Prop:=match X with
 |.non=>True
 |.bad c p=>e=.returned (.tuple #[(0:Int),fv c p])/\c≠0/\St (λ k=>k=I) (λ k=>k=I) w w'/\∃k a b kv sv va vb nv root,w'.heap[I]?=some (itO k a b kv sv va vb nv root)
 |.ok (m,it)=>e=.returned (.tuple #[m,f0])/\m<=s.size/\St (λ k=>k=I) (λ k=>k=I) w w'/\∃kv sv nv,w'.heap[I]?=some (itO it.kind 0 0 kv sv it.va it.vb nv it.root)/\ItM w' w.heap.size it kv sv nv
theorem O4b(W:World):W.drew.heap=W.heap:=rfl
theorem O6j{w w2:World}{I F0 k:Nat}{a b va vb root:Int}{kv sv nv x y:Value}(hI:w2.heap[I]?=some (itO k a b kv sv va vb nv root))(hF:FX F0 x y w2)(a8:I≠F0)(kb:w.heap.size<=F0)(hS:St (λ k=>k=I) (λ k=>k=I) w w2)(qP qQ x' y':Value):((((w2.setCell ⟨I,3,none⟩ qP).setCell ⟨I,4,none⟩ qQ).setCell F0 x').setCell ⟨F0,1,none⟩ y').heap[I]?=some (itO k a b qP qQ va vb nv root) /\FX F0 x' y' ((((w2.setCell ⟨I,3,none⟩ qP).setCell ⟨I,4,none⟩ qQ).setCell F0 x').setCell ⟨F0,1,none⟩ y') /\St (λ k=>k=I) (λ k=>k=I) w ((((w2.setCell ⟨I,3,none⟩ qP).setCell ⟨I,4,none⟩ qQ).setCell F0 x').setCell ⟨F0,1,none⟩ y'):=by
 refine⟨?_,?_,?_⟩;rw[U14 _ _ _ _ a8,U14 _ _ _ _ a8];exact Oo9 hI qP qQ;exact ((hF.other a8 _).other a8 _).set x' y'
 exact (((hS.setCell (.inl rfl) _).setCell (.inl rfl) _).setCell (.inr kb) _).setCell (.inr kb) _
theorem Oaq(T:Nat->UInt8×UInt8)(E:V19)(hE:O2r T E)(s:ByteArray)(hs:s.size<=20000000)(I k:Nat)(aT:ByteArray)(N9:aT.size<=2)(az:∀h:Nat,(h1:h<aT.size)->(aT[h]'h1).toNat<128)(n:Nat)(i:Int)(hi:i=n)(hn:n+aT.size<=s.size)(w:World)(hI:w.heap[I]?=some (itO k 0 0 Vp Vp 0 0 Vp 0))(hQ:QW T w)(X:Va (Nat×Pl.It))(hX:V3p E (bs s) k n (bs aT)=X)(a8:X≠.non):Calls prog 120 #[.pointer (some ⟨I,0,none⟩),.string s,i,.string aT] w (O14 s I w X):=by
 subst hi;have hb:=V8 (bs s) (n+aT.size) (by rw[O0];exact hn);rw[O0]at hb;obtain⟨b,jj⟩:=ExZ (V7 (bs s) (n+aT.size))
 rw[jj]at hb;have ay:=hb.2;unfold V3p at hX;rw[O0,jj]at hX;obtain⟨Y,hY⟩:=ExZ (V23 E (bs s) b)
 rw[hY]at hX;have bH:Y≠.non:=λ e=>a8 (by rw[<-hX,e])
 have Ca:IntKind.i64.wrap ((n:Int)+(aT.size:Int))=(n:Int)+(aT.size:Int):=U1i _ ⟨Ya,Ya⟩;have A1:I<w.heap.size:=(U1a.1 hI).1;have HB:=U10 jj;have HQ:=U10 hQ;have HI:=U10 hI;have HR:=U10 (λ w1 (h:QW T w1)=>O4w T E hE s _ b rfl ay hs Y hY bH w1 h);have HX:=U10 hX;have mS:=U10 a8;clear jj hb hX hY hQ hI a8;go_enter func120,ntmps120;go_wp2_with fail;refine (Oa s _ (n+aT.size) Yb hn Ya _).mono ?_;rw[HB.o];rintro e w1 ⟨rfl,g1⟩;go_wp2_with fail;refine (HR.o _ (HQ.o.gr Gr.auto)).mono ?_;cases Y with
 |non=>exact absurd rfl bH
 |bad c p =>
  rintro e w2 ⟨rfl,hc,g2⟩;refine Z160 ?_;intro hF hG;have mM:=(hG.block A1).trans HI.o;refine Z171 ?_;intro i0 i1 i2 i3 i4 i5 i6 i7 i8 eV eW br jK q0 q1 qf ql;obtain⟨gL,dY,fM⟩:=O6j mM hF br (U12 _) hG.st (.slice none 0 0) (.slice none 0 0) c p;clear g1 g2;go_wp2_with fail;refine Z243 ?_;intro w3 g3;have gM:=(g3.block (U1a.1 gL).1).trans gL;have d5:=dY.gr g3;have aC:=fM.gr g3;have ie:FX w c p w3.drew:=d5.gr (Gr.refl _).drew;clear g3 gL dY fM q0 q1 qf ql i0 i1 i2 i3 i4 i5 i6 i7 i8 eV eW;go_wp2_with fail;refine Reg.begin' (W:=λ i=>i != 2) (S:=FX w c p) Yc ?_;refine Reg.tl 0 ie ?_ (hy:=by intro w ab;obtain⟨q0,q1,qf,ql⟩:=ab;go_simp;try with_reducible rfl);refine Reg.ty 1 ?_;obtain⟨q0,q1,qf,ql⟩:=d5;refine Reg.on 2 ?_;go_simp;refine Z12 ?_;go_wp2_with fail;refine U11 (v:=.tuple #[(0:Int),fv c p]) (by simp[results,results120,go_sem,q0,q1,qf,ql]) rfl ?_;rw[<-HX.o];refine⟨rfl,hc,St.auto,k,0,0,.slice none 0 0,.slice none 0 0,0,0,Vp,0,?_⟩;exact J76
 |ok r =>
  obtain⟨ws,m⟩:=r;rintro e w2 ⟨kv,sv,rfl,hm,jN,iM,fg,et,g2⟩;obtain⟨gk,ck,rfl,_,_⟩:=jN.form et;obtain⟨gs,cs,rfl,_,_⟩:=iM.form et;refine Z160 ?_;intro hF hG;have mM:=(hG.block A1).trans HI.o;have ax:w.heap.size<w1.heap.size:=by have:=g1.size;simp at this;omega
  obtain⟨it,hit⟩:∃it:Pl.It,it=⟨k,0,0,ws,0,0,0,[]⟩:=⟨_,rfl⟩
  have vU:ItM w2 w1.heap.size it (.slice gk ws.length ck) (.slice gs ws.length cs) Vp:=by subst hit;exact⟨jN,iM,.inl ⟨rfl,rfl⟩⟩
  refine Z171 ?_;intro i0 i1 i2 i3 i4 i5 i6 i7 i8 eV eW br jK q0 q1 qf ql;refine Z291 ?_;intro gL dY fM;have qV:=(((vU.set (b:=I) Ya 3 (.slice gk ws.length ck)).set (b:=I) Ya 4 (.slice gs ws.length cs)).set ax 0 (0:Int)).set ax 1 (0:Int);have aR:=V8 (bs s) m (by rw[O0];exact hm);rw[O0]at aR;obtain⟨b3,jm⟩:=ExZ (V7 (bs s) m)
  rw[jm]at aR;have dH:=aR.2;simp only[jm]at HX;have ii:=U10 jm;clear g1 g2 vU jN iM aR jm;go_wp2_with fail;refine (O29 _).mono ?_;rintro e w3 ⟨rfl,g3⟩;have gM:=(g3.block (U1a.1 gL).1).trans gL;have d5:=dY.gr g3;have aC:=fM.gr g3;have sq:=qV.gr g3;clear g3 gL dY fM qV q0 q1 qf ql i0 i1 i2 i3 i4 i5 i6 i7 i8 eV eW;go_wp2_with fail;refine (Oa s _ m rfl hm Ya _).mono ?_;rw[ii.o];rintro e w4 ⟨rfl,g4⟩;go_wp2_with fail;refine (Ogt s aT az hs Ya b3 _ rfl dH _).mono ?_;rintro e w5 ⟨hp,g5⟩;have jt:=(g5.block (by have:=(U1a.1 gM).1;have:=g4.size;omega)).trans ((g4.block (U1a.1 gM).1).trans gM);have eB:=(d5.gr g4).gr g5;have eH:=(aC.gr g4).gr g5;have D3:=(sq.gr g4).gr g5;have jn:=V5r (bs s) (bs aT) b3 (by rw[O0];exact dH);obtain⟨q0,q1,qf,ql⟩:=eB;clear g4 g5 gM d5 aC sq;unfold V9q at hp;cases hz:Pl.isF (bs s) b3 (bs aT) with
  |ok q =>
   rw[hz]at hp HX;simp only at HX;have he:=hp;clear hp;subst he;have hq:=(jn.1 q hz).2;rw[O0]at hq;clear hz jn;go_wp2_with fail;refine U11 (v:=.tuple #[q,f0]) (by simp[results,results120,go_sem,q0,q1,qf,ql]) rfl ?_;rw[<-HX.o];refine⟨rfl,hq,St.auto,(.slice gk ws.length ck),(.slice gs ws.length cs),Vp,?_,?_⟩;rw[U14 _ _ _ _ br,U14 _ _ _ _ br];exact jt
   rw[<-hit];exact ((D3.set ax 0 _).set ax 1 _).low Ya
  |bad c p =>
   rw[hz]at hp HX;simp only at HX;have he:=hp;clear hp;subst he;obtain rfl:c=3:=(jn.2 c p hz).2;clear hz jn;go_wp2_with fail;refine U11 (v:=.tuple #[(0:Int),fv 3 p]) (by simp[results,results120,go_sem,q0,q1,qf,ql]) rfl ?_;rw[<-HX.o];refine⟨rfl,Ya,St.auto,k,0,0,(.slice gk ws.length ck),(.slice gs ws.length cs),0,0,Vp,0,?_⟩;rw[U14 _ _ _ _ br,U14 _ _ _ _ br];exact jt
theorem Odg{w w2:World}{I F0 k:Nat}{a b va vb root:Int}{kv sv nv x y:Value}(hI:w2.heap[I]?=some (itO k a b kv sv va vb nv root))(hF:FX F0 x y w2)(a8:I≠F0)(kb:w.heap.size<=F0)(hS:St (λ k=>k=I) (λ k=>k=I) w w2)(nv' x' y':Value)(cO AC Fp:Int):((((((w2.setCell ⟨I,7,none⟩ nv').setCell ⟨I,8,none⟩ cO).setCell F0 x').setCell ⟨F0,1,none⟩ y').setCell ⟨I,5,none⟩ AC).setCell ⟨I,6,none⟩ Fp).heap[I]?=some (itO k a b kv sv AC Fp nv' cO) /\FX F0 x' y' ((((((w2.setCell ⟨I,7,none⟩ nv').setCell ⟨I,8,none⟩ cO).setCell F0 x').setCell ⟨F0,1,none⟩ y').setCell ⟨I,5,none⟩ AC).setCell ⟨I,6,none⟩ Fp) /\St (λ k=>k=I) (λ k=>k=I) w ((((((w2.setCell ⟨I,7,none⟩ nv').setCell ⟨I,8,none⟩ cO).setCell F0 x').setCell ⟨F0,1,none⟩ y').setCell ⟨I,5,none⟩ AC).setCell ⟨I,6,none⟩ Fp):=by
 refine⟨?_,?_,?_⟩
 have h1:(w2.setCell ⟨I,7,none⟩ nv').heap[I]?=some (itO k a b kv sv va vb nv' root):=by rw[block_setCell hI];rfl
 have h2:((w2.setCell ⟨I,7,none⟩ nv').setCell ⟨I,8,none⟩ cO).heap[I]?=some (itO k a b kv sv va vb nv' cO):=by rw[block_setCell h1];rfl
 have h3:((((w2.setCell ⟨I,7,none⟩ nv').setCell ⟨I,8,none⟩ cO).setCell F0 x').setCell ⟨F0,1,none⟩ y').heap[I]?=some (itO k a b kv sv va vb nv' cO):=by
  rw[U14 _ _ _ _ a8,U14 _ _ _ _ a8];exact h2
 have h4:(((((w2.setCell ⟨I,7,none⟩ nv').setCell ⟨I,8,none⟩ cO).setCell F0 x').setCell ⟨F0,1,none⟩ y').setCell ⟨I,5,none⟩ AC).heap[I]?=some (itO k a b kv sv AC vb nv' cO):=by rw[block_setCell h3];rfl
 rw[block_setCell h4];rfl;exact ((((hF.other a8 _).other a8 _).set x' y').other a8 _).other a8 _
 exact (((((hS.setCell (.inl rfl) _).setCell (.inl rfl) _).setCell (.inr kb) _).setCell (.inr kb) _).setCell (.inl rfl) _).setCell (.inl rfl) _
theorem ItM.wsOnly{W:World}{base k:Nat}{ws:List Pl.KW}{kv sv nv:Value}(h:ItM W base ⟨k,0,0,ws,0,0,0,[]⟩ kv sv nv){a b va vb root:Nat}{nds:Ve}{g:Nat}{L:List NdR}(hL:L.map (·.nd)=nds)(hT:V2q W base g L):ItM W base ⟨k,a,b,ws,va,vb,root,nds⟩ kv sv (.slice g nds.length nds.length) :=
 ⟨h.k,h.s,.inr ⟨g,L,rfl,hL,hT⟩⟩
theorem V2q.low{W:World}{b b' g:Nat}{L:List NdR}(z:V2q W b g L)(hb:b'<=b):V2q W b' g L :=
 ⟨⟨U1k hb z.lt.1,z.lt.2⟩,z.cell,λ i r hr=>⟨(z.rows i r hr).1.low hb,(z.rows i r hr).2.1.low hb,(z.rows i r hr).2.2.low hb⟩,z.tg⟩
theorem Ooa(T:Nat->UInt8×UInt8)(s:ByteArray)(hs:s.size<=20000000)(I:Nat)(n:Nat)(i:Int)(hi:i=n)(hn:n<=s.size)(w0 w:World)(ei:Gr w0 w)(AD:w0.heap.size<=I)(hI:w.heap[I]?=some (itO 1 0 0 Vp Vp 0 0 Vp 0))(hQ:RW T w0)(X:Va (Nat×Pl.It))(hX:V5p ⟨Vu T,Vl⟩ (bs s) n=X)(a8:X≠.non):Calls prog 121 #[.pointer (some ⟨I,0,none⟩),.string s,i] w (O14 s I w X):=by
 subst hi;unfold V5p at hX;obtain⟨Y,hY⟩:=ExZ (V23 ⟨Vu T,Vl⟩ (bs s) n)
 rw[hY]at hX;have bH:Y≠.non:=λ e=>a8 (by rw[<-hX,e])
 have A1:I<w.heap.size:=(U1a.1 hI).1;have HQ:=U10 hQ;have ny:=U10 ei;have HI:=U10 hI;have HR:=U10 (λ w1 (h:QW T w1)=>O4w T ⟨Vu T,Vl⟩ rfl s _ n rfl hn hs Y hY bH w1 h);have HX:=U10 hX;have mS:=U10 a8;clear hX hY hQ hI a8 ei;go_enter func121,ntmps121;go_wp2_with fail;refine (HR.o _ ((HQ.o.gr ny.o).q.gr Gr.auto)).mono ?_;cases Y with
 |non=>exact absurd rfl bH
 |bad c p =>
  rintro e w2 ⟨rfl,hc,g2⟩;refine Z272 ?_;intro hF hG mM;refine Z171 ?_;intro i0 i1 i2 i3 i4 i5 i6 i7 i8 eV eW br jK q0 q1 qf ql;obtain⟨gL,dY,fM⟩:=O6j mM hF br (U12 _) hG.st (.slice none 0 0) (.slice none 0 0) c p;clear g2;go_wp2_with fail;refine Z243 ?_;intro w3 g3;have gM:=(g3.block (U1a.1 gL).1).trans gL;have d5:=dY.gr g3;have aC:=fM.gr g3;have ie:FX w c p w3.drew:=d5.gr (Gr.refl _).drew;clear g3 gL dY fM q0 q1 qf ql i0 i1 i2 i3 i4 i5 i6 i7 i8 eV eW;go_wp2_with fail;refine Reg.begin' (W:=λ i=>i != 2) (S:=FX w c p) Yc ?_;refine Reg.tl 0 ie ?_ (hy:=by intro w ab;obtain⟨q0,q1,qf,ql⟩:=ab;go_simp;try with_reducible rfl);refine Reg.ty 1 ?_;obtain⟨q0,q1,qf,ql⟩:=d5;refine Reg.on 2 ?_;go_simp;refine Z12 ?_;go_wp2_with fail;refine Z296 ?_;refine⟨rfl,hc,St.auto,1,0,0,.slice none 0 0,.slice none 0 0,0,0,Vp,0,?_⟩;exact J76
 |ok r =>
  obtain⟨ws,m⟩:=r;rintro e w2 ⟨kv,sv,rfl,hm,jN,iM,fg,et,g2⟩;obtain⟨gk,ck,rfl,_,_⟩:=jN.form et;obtain⟨gs,cs,rfl,_,_⟩:=iM.form et;refine Z272 ?_;intro hF hG mM;obtain⟨it,hit⟩:∃it:Pl.It,it=⟨1,0,0,ws,0,0,0,[]⟩:=⟨_,rfl⟩
  have vU:ItM w2 (w.heap.size+1) it (.slice gk ws.length ck) (.slice gs ws.length cs) Vp:=by subst hit;exact⟨by simpa using jN,by simpa using iM,.inl ⟨rfl,rfl⟩⟩
  refine Z171 ?_;intro i0 i1 i2 i3 i4 i5 i6 i7 i8 eV eW br jK q0 q1 qf ql;refine Z291 ?_;intro gL dY fM;have qV:=(((vU.set (b:=I) Ya 3 (.slice gk ws.length ck)).set (b:=I) Ya 4 (.slice gs ws.length cs)).set (b:=w.heap.size) Ya 0 (0:Int)).set (b:=w.heap.size) Ya 1 (0:Int);have aR:=V8 (bs s) m (by rw[O0];exact hm);rw[O0]at aR;obtain⟨b3,jm⟩:=ExZ (V7 (bs s) m)
  rw[jm]at aR;have dH:=aR.2;simp only[jm]at HX;have ii:=U10 jm;clear g2 vU jN iM aR jm;go_wp2_with fail;refine (O29 _).mono ?_;rintro e w3 ⟨rfl,g3⟩;have gM:=(g3.block (U1a.1 gL).1).trans gL;have d5:=dY.gr g3;have aC:=fM.gr g3;have sq:=qV.gr g3;clear g3 gL dY fM qV q0 q1 qf ql i0 i1 i2 i3 i4 i5 i6 i7 i8 eV eW;go_wp2_with fail;refine (Oa s _ m rfl hm Ya _).mono ?_;rw[ii.o];rintro e w4 ⟨rfl,g4⟩;go_wp2_with fail;refine (Ogt s ⟨#[61]⟩ (O2n _ Yd) hs Yd b3 _ rfl dH _).mono ?_;rintro e w5 ⟨hp,g5⟩;rw[show bs ⟨#[61]⟩=[61] from rfl]at hp;have jt:=(g5.block (by have:=(U1a.1 gM).1;have:=g4.size;omega)).trans ((g4.block (U1a.1 gM).1).trans gM);have eB:=(d5.gr g4).gr g5;have eH:=(aC.gr g4).gr g5;have D3:=(sq.gr g4).gr g5;have jn:=V5r (bs s) [61] b3 (by rw[O0];exact dH);have Na:¬I=w.heap.size:=br;clear g4 g5 gM d5 aC sq;unfold V9q at hp;cases hz:Pl.isF (bs s) b3 [61] with
  |bad c p =>
   rw[hz]at hp HX;simp only at HX;have he:=hp;clear hp;subst he;obtain rfl:c=3:=(jn.2 c p hz).2;have dY:=eB.set (3:Int) p;have fM:=(eH.setCell (p:=w) (.inr (U12 _)) (3:Int)).setCell (p:=⟨w,1,none⟩) (.inr (U12 _)) p;obtain⟨q0,q1,qf,ql⟩:=eB;clear hz jn;go_wp2_with fail;refine (O81 3 p Ya _).mono ?_;rintro e w6 ⟨rfl,g6⟩;have qW:=dY.gr g6;have kx:=fM.gr g6;have mq:=(g6.block (by simpa [World.setCell]using (U1a.1 jt).1)).trans (((U14 _ _ _ _ br).trans (U14 _ _ _ _ br)).trans jt);have ie:FX w (3:Int) p w6.drew:=qW.gr (Gr.refl _).drew;clear g6 dY fM q0 q1 qf ql;go_wp2_with fail;refine Reg.begin' (W:=λ i=>i != 2) (S:=FX w (3:Int) p) Yc ?_;refine Reg.tl 0 ie ?_ (hy:=by intro w ab;obtain⟨q0,q1,qf,ql⟩:=ab;go_simp;try with_reducible rfl);refine Reg.ty 1 ?_;obtain⟨q0,q1,qf,ql⟩:=qW;refine Reg.on 2 ?_;go_simp;refine Z12 ?_;go_wp2_with fail;refine U11 (v:=.tuple #[(0:Int),fv 3 p]) (by simp[results,results121,go_sem,q0,q1,qf,ql]) rfl ?_;rw[<-HX.o];refine⟨rfl,Ya,St.auto,1,0,0,(.slice gk ws.length ck),(.slice gs ws.length cs),0,0,Vp,0,?_⟩;rw[O4b,U14 _ _ _ _ br,U14 _ _ _ _ br];exact mq
  |ok q =>
   rw[hz]at hp HX;simp only at HX;have he:=hp;clear hp;subst he;have hq:=(jn.1 q hz).2;rw[O0]at hq;have dY:=eB.set (0:Int) (0:Int);have fM:=(eH.setCell (p:=w) (.inr (U12 _)) (0:Int)).setCell (p:=⟨w,1,none⟩) (.inr (U12 _)) (0:Int);have qV:=(D3.set (b:=w.heap.size) Ya 0 (0:Int)).set (b:=w.heap.size) Ya 1 (0:Int);obtain⟨q0,q1,qf,ql⟩:=eB;have ig:=V8 (bs s) q (by rw[O0];exact hq);rw[O0]at ig;obtain⟨b5,uw⟩:=ExZ (V7 (bs s) q)
   rw[uw]at ig;have kU:=ig.2;simp only[uw]at HX;have tG:=U10 uw;obtain⟨V,hV⟩:=ExZ (V1j ⟨Vu T,Vl⟩ (bs s) b5 0)
   rw[hV]at HX;have Nb:V≠.non:=λ e=>mS.o (by rw[<-HX.o,e])
   have HV:=U10 (λ W (hw:RW T W)=>O9v W hw s hs _ b5 rfl kU 0 0 Yd V hV Nb);clear hz jn ig uw hV;go_wp2_with fail;refine (O29 _).mono ?_;rintro e w6 ⟨rfl,g6⟩;have qW:=dY.gr g6;have kx:=fM.gr g6;have JF:=qV.gr g6;have mq:=(g6.block (by simpa [World.setCell]using (U1a.1 jt).1)).trans (((U14 _ _ _ _ br).trans (U14 _ _ _ _ br)).trans jt);clear g6 dY fM qV q0 q1 qf ql;go_wp2_with fail;refine (Oa s _ q rfl hq Ya _).mono ?_;rw[tG.o];rintro e w7 ⟨rfl,g7⟩;have bW:RW T w7:=HQ.o.gr (((kx.gr g7).below ny.o (λ k e=>by rw[e];exact AD)));go_wp2_with fail;refine (HV.o _ bW).mono ?_;cases V with
   |non=>exact absurd rfl Nb
   |bad c p =>
    rintro e w8 ⟨rfl,hc,g8⟩;have sw:=(g8.block (by have:=(U1a.1 mq).1;have:=g7.size;omega)).trans ((g7.block (U1a.1 mq).1).trans mq);have sx:=(qW.gr g7).gr g8;have JG:=(kx.gr g7).gr g8;obtain⟨⟨i0,i1,i2,i3,i4,i5,i6,i7,i8⟩,eV,eW⟩:=O22 sw;obtain⟨q0,q1,qf,ql⟩:=id sx;obtain⟨gL,dY,fM⟩:=Odg sw sx br (U12 _) JG Vp c p 0 b5 0;clear g7 g8 mq qW kx JF bW jt eH D3;go_wp2_with fail;obtain⟨W,hW⟩:=ExZ (((((((w8.setCell ⟨I,7,none⟩ Vp).setCell ⟨I,8,none⟩ (0:Int)).setCell w c).setCell ⟨w,1,none⟩ p).setCell ⟨I,5,none⟩ b5).setCell ⟨I,6,none⟩ (0:Int)))
    rw[hW]at gL dY fM⊢;have ie:FX w c p W.drew:=dY.gr (Gr.refl _).drew;clear hW q0 q1 qf ql i0 i1 i2 i3 i4 i5 i6 i7 i8 eV eW;refine Reg.begin' (W:=λ i=>i != 3) (S:=FX w c p) Yc ?_;refine Z322 ?_;obtain⟨q0,q1,qf,ql⟩:=dY;refine Z189 ?_;refine Z12 ?_;go_wp2_with fail;refine Z296 ?_;refine⟨rfl,hc,St.auto,1,0,0,(.slice gk ws.length ck),(.slice gs ws.length cs),b5,0,Vp,0,?_⟩;exact J77
   |ok r =>
    obtain⟨root,m2,st⟩:=r;rintro e w8 ⟨g,L,rfl,jw,qR,hL,hT,g8⟩;have sw:=(g8.block (by have:=(U1a.1 mq).1;have:=g7.size;omega)).trans ((g7.block (U1a.1 mq).1).trans mq);have sx:=(qW.gr g7).gr g8;have JG:=(kx.gr g7).gr g8;have Nc:=(JF.gr g7).gr g8;obtain⟨⟨i0,i1,i2,i3,i4,i5,i6,i7,i8⟩,eV,eW⟩:=O22 sw;obtain⟨q0,q1,qf,ql⟩:=id sx;obtain⟨gL,dY,fM⟩:=Odg sw sx br (U12 _) JG (.slice g st.length st.length) (0:Int) (0:Int) root b5 m2;have yM:=Nc;rw[hit]at yM;have Nf:=ItM.wsOnly yM (a:=0) (b:=0) (va:=b5) (vb:=m2) (root:=root) hL (hT.low (by have:=qW.2.2.2;have:=g7.size;omega));have qV:=(((((Nf.set (b:=I) Ya 7 (.slice g st.length st.length)).set (b:=I) Ya 8 root).set (b:=w.heap.size) Ya 0 (0:Int)).set (b:=w.heap.size) Ya 1 (0:Int)).set (b:=I) Ya 5 b5).set (b:=I) Ya 6 m2;clear Nc yM Nf hT hL g8 mq qW kx JF bW jt eH D3;go_wp2_with fail;obtain⟨W,hW⟩:=ExZ (((((((w8.setCell ⟨I,7,none⟩ (.slice g st.length st.length)).setCell ⟨I,8,none⟩ root).setCell w (0:Int)).setCell ⟨w,1,none⟩ (0:Int)).setCell ⟨I,5,none⟩ b5).setCell ⟨I,6,none⟩ m2))
    rw[hW]at gL dY fM qV⊢;have ie:FX w (0:Int) (0:Int) W.drew:=dY.gr (Gr.refl _).drew;clear hW q0 q1 qf ql i0 i1 i2 i3 i4 i5 i6 i7 i8 eV eW;refine Z94 ?_;obtain⟨q0,q1,qf,ql⟩:=dY;refine Z189 ?_;refine Z12 ?_;go_wp2_with fail;refine U11 (v:=.tuple #[m2,fv 0 0]) (by simp[results,results121,go_sem,q0,q1,qf,ql]) rfl ?_;rw[<-HX.o];refine⟨rfl,jw,St.auto,(.slice gk ws.length ck),(.slice gs ws.length cs),(.slice g st.length st.length),?_,?_⟩;exact J77
    exact (((qV.gr (Gr.refl _).drew).set (b:=w.heap.size) Ya 0 _).set (b:=w.heap.size) Ya 1 _).low Ya
theorem O14.form{s:ByteArray}{I:Nat}{w w':World}{X:Va (Nat×Pl.It)}{e:Ending}(h:O14 s I w X e w')(a8:X≠.non):∃x y z:Int,e=.returned (.tuple #[x,.agg #[y,z]]):=by
 cases X with
 |non=>exact absurd rfl a8
 |bad c p=>exact⟨_,_,_,h.1⟩
 |ok r=>exact⟨_,_,_,h.1⟩
theorem O14.up{s:ByteArray}{I:Nat}{w wA w':World}{X:Va (Nat×Pl.It)}{e:Ending}(h:O14 s I wA X e w')(hA:St (λ k=>k=I) (λ k=>k=I) w wA):O14 s I w X e w':=by
 cases X with
 |non=>trivial
 |bad c p=>exact⟨h.1,h.2.1,hA.trans h.2.2.1,h.2.2.2⟩
 |ok r =>
  obtain⟨h1,h2,h3,kv,sv,nv,h4,h5⟩:=h;exact⟨h1,h2,hA.trans h3,kv,sv,nv,h4,h5.low hA.size⟩
theorem O14.setF2{s:ByteArray}{I:Nat}{w wA w':World}{X:Va (Nat×Pl.It)}{e:Ending}(h:O14 s I wA X e w')(hA:St (λ k=>k=I) (λ k=>k=I) w wA){F0:Nat}(h0:w.heap.size<=F0)(h1:F0<wA.heap.size)(a8:I≠F0)(x y:Value):O14 s I w X e ((w'.setCell F0 x).setCell ⟨F0,1,none⟩ y):=by
 cases X with
 |non=>trivial
 |bad c p =>
  obtain⟨a1,a2,a3,k,a,b,kv,sv,va,vb,nv,root,a4⟩:=h;exact⟨a1,a2,((hA.trans a3).setCell (.inr h0) _).setCell (.inr h0) _,k,a,b,kv,sv,va,vb,nv,root,by rw[U14 _ _ _ _ a8,U14 _ _ _ _ a8];exact a4⟩
 |ok r =>
  obtain⟨a1,a2,a3,kv,sv,nv,a4,a5⟩:=h;exact⟨a1,a2,((hA.trans a3).setCell (.inr h0) _).setCell (.inr h0) _,kv,sv,nv,by rw[U14 _ _ _ _ a8,U14 _ _ _ _ a8];exact a4,((a5.set h1 _ _).set h1 _ _).low hA.size⟩
theorem O14.st{s:ByteArray}{I:Nat}{w w':World}{X:Va (Nat×Pl.It)}{e:Ending}(h:O14 s I w X e w')(a8:X≠.non):St (λ k=>k=I) (λ k=>k=I) w w':=by
 cases X with
 |non=>exact absurd rfl a8
 |bad c p=>exact h.2.2.1
 |ok r=>exact h.2.2.1
theorem Odn(c:UInt8):(bs ⟨#[35,13,10]⟩).contains c=(c.toNat==35 || c.toNat==13 || c.toNat==10):=by
 have h:∀n:Fin 256,(bs ⟨#[35,13,10]⟩).contains (UInt8.ofNat n.val)=((UInt8.ofNat n.val).toNat==35 || (UInt8.ofNat n.val).toNat==13 || (UInt8.ofNat n.val).toNat==10):=Yi
 exact J36
theorem Ofk(s:ByteArray)(a:Nat)(h1:a<s.size):∃rest,s.extract a s.size=rest/\¬rest.toList=[]/\rest.toList.isEmpty=false/\(0:Int)<(rest.size:Int)/\∃h0:0<rest.size,rest[0]=s[a]:=by
 refine⟨_,rfl,?_⟩;have hb:=O3 s a;have hz:(s.extract a s.size).size=s.size-a:=Yb
 generalize s.extract a s.size=rest at hb hz⊢;have h0:0<rest.size:=Ya
 have a8:¬rest.toList=[]:=λ e=>by
  rw[U1y]at e;have h2:=O0 rest;rw[show bs rest=[] from e]at h2;simp at h2;omega
 refine⟨a8,by simpa using a8,Ya,h0,?_⟩;have e1:=O9 rest 0 h0;have e2:=O9 s a h1;exact J37
theorem O5r{w:World}{I:Nat}(hI:w.heap[I]?=some (itO 0 0 0 Vp Vp 0 0 Vp 0))(j:Nat)(jv:Int)(hj:jv=j):((w.setCell I (.int .u8 jv)).alloc (.cells #[(0:Int),(0:Int)] 29)).heap[I]?=some (itO j 0 0 Vp Vp 0 0 Vp 0) /\St (λ k=>k=I) (λ k=>k=I) w ((w.setCell I (.int .u8 jv)).alloc (.cells #[(0:Int),(0:Int)] 29)) /\FX w (0:Int) (0:Int) ((w.setCell I (.int .u8 jv)).alloc (.cells #[(0:Int),(0:Int)] 29)) /\w.heap.size<((w.setCell I (.int .u8 jv)).alloc (.cells #[(0:Int),(0:Int)] 29)).heap.size:=by
 subst hj;have hz:(w.setCell I (.int .u8 j)).heap.size=w.heap.size:=by simp[World.setCell]
 have h1:(w.setCell I (.int .u8 j)).heap[I]?=some (itO j 0 0 Vp Vp 0 0 Vp 0):=by rw[block_setCell hI];rfl
 refine⟨(((Gr.refl _).alloc _).block (by rw[hz];exact (U1a.1 hI).1)).trans h1,((St.refl (λ k=>k=I) w).setCell (p:=I) (.inl rfl) _).alloc _,?_,by simp[hz]⟩;have:=FX.new (w.setCell I (.int .u8 j)) (0:Int) (0:Int) 29
 rwa [hz]at this
theorem Oof(T:Nat->UInt8×UInt8)(s:ByteArray)(hs:s.size<=20000000)(I:Nat)(n:Nat)(i:Int)(hi:i=n)(hn:n<=s.size)(w0 w:World)(ei:Gr w0 w)(AD:w0.heap.size<=I)(hI:w.heap[I]?=some (itO 0 0 0 Vp Vp 0 0 Vp 0))(hQ:RW T w0)(X:Va (Nat×Pl.It))(hX:V3o ⟨Vu T,Vl⟩ (bs s) n=X)(a8:X≠.non):Calls prog 91 #[.pointer (some ⟨I,0,none⟩),.string s,i] w (O14 s I w X):=by
 subst hi;have A1:I<w.heap.size:=(U1a.1 hI).1;have br:I≠w.heap.size:=Ya
 obtain⟨⟨i0,i1,i2,i3,i4,i5,i6,i7,i8⟩,eV,eW⟩:=O22 hI;have Es:(w.alloc (.cells #[(0:Int),(0:Int)] 29)).heap[I]?=some (itO 0 0 0 Vp Vp 0 0 Vp 0):=(((Gr.refl w).alloc _).block A1).trans hI;have k0:(0:Int)<=(n:Int):=Ya;have k1:(n:Int)<=(s.size:Int):=Ya;have HQ:=U10 hQ;have ny:=U10 ei;have HX:=U10 hX;have mS:=U10 a8;have Gp:=FX.new w (0:Int) (0:Int) 29;unfold V3o at HX;clear hX hQ a8 ei;cases h2:Pl.pre ((bs s).drop n) [91,91] with
 |true =>
  have hl:=V1w _ _ h2;rw[U15,O0]at hl;simp only[U17,U1t]at hl;have HP:=U10 h2;rw[h2,U18 rfl]at HX;obtain⟨D4,A5,vh,Bp⟩:=O5r hI 3 3 rfl;have AE:=U10 (HQ.o.gr (A5.below ny.o (λ k e=>by rw[e];exact AD)));clear h2;go_enter func91,ntmps91;go_wp2_with (go_at_call 56;refine (O6 s ⟨#[91,91]⟩ n true HP.o _).mono ?_;rintro e w3 ⟨rfl,rfl⟩);refine (Oaq T ⟨Vu T,Vl⟩ rfl s hs I 3 ⟨#[93,93]⟩ Yd (O2n _ Yd) n _ rfl (by show n+2<=s.size;omega) _ D4 AE.o.q X HX.o mS.o).mono ?_;exact J121
 |false =>
  have HP:=U10 h2;rw[h2,U1b Yb]at HX;clear h2;cases h1:Pl.pre ((bs s).drop n) [91] with
  |true =>
   have hl:=V1w _ _ h1;rw[U15,O0]at hl;simp only[U17,U1t]at hl;have Fq:=U10 h1;rw[h1,U18 rfl]at HX;obtain⟨D4,A5,vh,Bp⟩:=O5r hI 2 2 rfl;have AE:=U10 (HQ.o.gr (A5.below ny.o (λ k e=>by rw[e];exact AD)));clear h1;go_enter func91,ntmps91;go_wp2_with (go_at_call 56;first|(refine (O6 s ⟨#[91,91]⟩ n false HP.o _).mono ?_;rintro e w3 ⟨rfl,rfl⟩)|(refine (O6 s ⟨#[91]⟩ n true Fq.o _).mono ?_;rintro e w3 ⟨rfl,rfl⟩));refine (Oaq T ⟨Vu T,Vl⟩ rfl s hs I 2 ⟨#[93]⟩ Yd (O2n _ Yd) n _ rfl (by show n+1<=s.size;omega) _ D4 AE.o.q X HX.o mS.o).mono ?_;exact J121
  |false =>
   have Fq:=U10 h1;rw[h1,U1b Yb]at HX;clear h1;by_cases bD:n=s.size
   ·have aO:V1c ((bs s).drop n)=true:=by rw[U1w (by rw[O0];omega)];rfl
    rw[aO,U18 rfl]at HX;have aF:s.extract n s.size=ByteArray.empty:=by
     apply U31;apply U32.1;rw[show (s.extract n s.size).data.toList=(bs s).drop n from O3 s n,U1w (by rw[O0];omega)];rfl
    have nH:=U10 (O6 s ⟨#[91]⟩ n false Fq.o);have AF:=U10 (O6 s ⟨#[91,91]⟩ n false HP.o);rw[aF]at nH AF;clear aO bD;go_enter func91,ntmps91;clear i0 i1 i2 i3 i4 i5 i6 i7 i8 eV eW;go_wp2_with (go_at_call 56;first|(refine (AF.o _).mono ?_;rintro e w3 ⟨rfl,rfl⟩)|(refine (nH.o _).mono ?_;rintro e w3 ⟨rfl,rfl⟩));exact J89
   obtain⟨rest,aF,r1,r2,r3,r0,r4⟩:=Ofk s n Ya;have nH:=U10 (O6 s ⟨#[91]⟩ n false Fq.o);have AF:=U10 (O6 s ⟨#[91,91]⟩ n false HP.o);rw[aF]at nH AF;have jU:V1c ((bs s).drop n)=(bs ⟨#[35,13,10]⟩).contains (rest[0]'r0):=by
    rw[Odn,r4,O9 s n Ya];rfl
   cases aO:V1c ((bs s).drop n) with
   |true =>
    rw[aO,U18 rfl]at HX;rw[aO]at jU;have HB:=U10 jU.symm;clear aO jU r4;go_enter func91,ntmps91;go_wp2_with (first|(go_at_call 56;first|(refine (AF.o _).mono ?_;rintro e w3 ⟨rfl,rfl⟩)|(refine (nH.o _).mono ?_;rintro e w3 ⟨rfl,rfl⟩))|(go_at_call 85;refine (Oq ⟨#[35,13,10]⟩ _ true HB.o _).mono ?_;rintro e w3 ⟨⟨i,rfl,hi⟩,rfl⟩;have eY:decide (i<0)=false:=by (simp at hi⊢;omega)))
    try clear aF
    exact J89
   |false =>
    rw[aO,U1b Yb]at HX;rw[aO]at jU;have HB:=U10 jU.symm;obtain⟨D4,A5,vh,Bp⟩:=O5r hI 1 1 rfl;clear aO jU r4;go_enter func91,ntmps91;go_wp2_with (first|(go_at_call 56;first|(refine (AF.o _).mono ?_;rintro e w3 ⟨rfl,rfl⟩)|(refine (nH.o _).mono ?_;rintro e w3 ⟨rfl,rfl⟩))|(go_at_call 85;refine (Oq ⟨#[35,13,10]⟩ _ false HB.o _).mono ?_;rintro e w3 ⟨⟨i,rfl,hi⟩,rfl⟩;have eY:decide (i<0)=true:=by (simp at hi⊢;omega)))
    try clear aF
    refine (Ooa T s hs I n _ rfl hn w0 _ (A5.below ny.o (λ k e=>by rw[e];exact AD)) AD D4 HQ.o X HX.o mS.o).mono ?_;exact J121
abbrev itV(k:Nat)(a b:Int)(kv sv:Value)(va vb:Int)(nv:Value)(root:Int):Value := .agg #[.int .u8 k,a,b,kv,sv,va,vb,nv,root]
abbrev itZ:Value := .agg #[.int .u8 0,(0:Int),(0:Int),Vp,Vp,(0:Int),(0:Int),Vp,(0:Int)]
abbrev Vei:Obj := .cells #[.int .u8 0,(0:Int),(0:Int),Vp,Vp,(0:Int),(0:Int),Vp,(0:Int)] 53 (0,0)
def Oq0(s:ByteArray)(w:World)(X:Va Pl.It)(e:Ending)(w':World):Prop:=match X with
 |.non=>True
 |.bad c p=>e=.returned (.tuple #[itZ,fv c p])/\c≠0/\Gr w w'
 |.ok it=>∃kv sv nv,e=.returned (.tuple #[itV it.kind it.a it.b kv sv it.va it.vb nv it.root,f0])/\ItM w' w.heap.size it kv sv nv/\Gr w w'
theorem ItM.forms{W:World}{lo:Nat}{it:Pl.It}{kv sv nv:Value}(h:ItM W lo it kv sv nv):(∃a n c,kv=.slice a n c)/\(∃a n c,sv=.slice a n c)/\(∃a n c,nv=.slice a n c):=by
 refine⟨?_,?_,?_⟩
 rcases Ou h.k with⟨rfl,_⟩|⟨g,c,rfl,_⟩
 exact⟨_,_,_,rfl⟩
 exact⟨_,_,_,rfl⟩
 rcases Ou h.s with⟨rfl,_⟩|⟨g,c,rfl,_⟩
 exact⟨_,_,_,rfl⟩
 exact⟨_,_,_,rfl⟩
 rcases h.n with⟨rfl,_⟩|⟨g,L,rfl,_⟩
 exact⟨_,_,_,rfl⟩
 exact⟨_,_,_,rfl⟩
theorem V2f.keptC{V W:World}{base e size n:Nat}{v:Value}{xs:List Value}(h:V2f V base e size v n xs)(hk:∀(k:Nat)(o:Obj),base<=k->V.heap[k]?=some o->o.isCells=true->W.heap[k]?=some o):V2f W base e size v n xs:=by
 obtain⟨v0,⟨h1,h2⟩,h3⟩:=h;exact⟨v0,⟨h1,h2.imp id λ ⟨g,cap,cur,x,y,z,r⟩=>⟨g,cap,cur,x,y,hk g _ y z rfl,r⟩⟩,h3⟩
theorem ItM.kept{V W:World}{lo:Nat}{it:Pl.It}{kv sv nv:Value}(h:ItM V lo it kv sv nv)(hk:∀(k:Nat)(o:Obj),lo<=k->V.heap[k]?=some o->o.isCells=true->W.heap[k]?=some o)(hz:V.heap.size<=W.heap.size):ItM W lo it kv sv nv:=by
 refine⟨h.k.keptC hk,h.s.keptC hk,h.n.imp id λ ⟨g0,L,a,b,c⟩=>⟨g0,L,a,b,⟨⟨c.lt.1,U13 c.lt.2 hz⟩,λ i r hr j v hv=>?_,λ i r hr=>?_,c.tg⟩⟩⟩;have h1:=c.cell i r hr j v hv;obtain⟨o,ho,hc⟩:=cells_of_cell h1;exact (U1r (w:=V) (a:=⟨g0,i*7+j,none⟩) ((hk g0 o c.lt.1 ho hc).trans ho.symm)).trans h1
 obtain⟨x,y,z⟩:=c.rows i r hr;exact⟨x.keptC hk,y.keptC hk,z.keptC hk⟩
theorem O94{w2:World}{I F:Nat}{k:Nat}{a b:Int}{kv sv:Value}{va vb:Int}{nv:Value}{root:Int}{x0 y0:Value}(hI:w2.heap[I]?=some (itO k a b kv sv va vb nv root))(hF:FX F x0 y0 w2)(a8:I≠F){w:World}(hG:Gr w w2)(ux:w.heap.size<=I)(Ng:w.heap.size<=F)(c0 c1 c2 c3 c4 c5 c6 c7 c8 x y:Value):(((((((((((w2.setCell I c0).setCell ⟨I,1,none⟩ c1).setCell ⟨I,2,none⟩ c2).setCell ⟨I,3,none⟩ c3).setCell ⟨I,4,none⟩ c4).setCell ⟨I,5,none⟩ c5).setCell ⟨I,6,none⟩ c6).setCell ⟨I,7,none⟩ c7).setCell ⟨I,8,none⟩ c8).setCell F x).setCell ⟨F,1,none⟩ y).heap[I]?=some (.cells #[c0,c1,c2,c3,c4,c5,c6,c7,c8] 53 (0,0)) /\FX F x y (((((((((((w2.setCell I c0).setCell ⟨I,1,none⟩ c1).setCell ⟨I,2,none⟩ c2).setCell ⟨I,3,none⟩ c3).setCell ⟨I,4,none⟩ c4).setCell ⟨I,5,none⟩ c5).setCell ⟨I,6,none⟩ c6).setCell ⟨I,7,none⟩ c7).setCell ⟨I,8,none⟩ c8).setCell F x).setCell ⟨F,1,none⟩ y) /\Gr w (((((((((((w2.setCell I c0).setCell ⟨I,1,none⟩ c1).setCell ⟨I,2,none⟩ c2).setCell ⟨I,3,none⟩ c3).setCell ⟨I,4,none⟩ c4).setCell ⟨I,5,none⟩ c5).setCell ⟨I,6,none⟩ c6).setCell ⟨I,7,none⟩ c7).setCell ⟨I,8,none⟩ c8).setCell F x).setCell ⟨F,1,none⟩ y) /\(∀k,k≠I->k≠F->(((((((((((w2.setCell I c0).setCell ⟨I,1,none⟩ c1).setCell ⟨I,2,none⟩ c2).setCell ⟨I,3,none⟩ c3).setCell ⟨I,4,none⟩ c4).setCell ⟨I,5,none⟩ c5).setCell ⟨I,6,none⟩ c6).setCell ⟨I,7,none⟩ c7).setCell ⟨I,8,none⟩ c8).setCell F x).setCell ⟨F,1,none⟩ y).heap[k]?=w2.heap[k]?):=by
 have h0:(w2.setCell I c0).heap[I]?=some (.cells #[c0,a,b,kv,sv,va,vb,nv,root] 53 (0,0)):=by rw[block_setCell hI];rfl
 have h1:((w2.setCell I c0).setCell ⟨I,1,none⟩ c1).heap[I]?=some (.cells #[c0,c1,b,kv,sv,va,vb,nv,root] 53 (0,0)):=by rw[block_setCell h0];rfl
 have h2:(((w2.setCell I c0).setCell ⟨I,1,none⟩ c1).setCell ⟨I,2,none⟩ c2).heap[I]?=some (.cells #[c0,c1,c2,kv,sv,va,vb,nv,root] 53 (0,0)):=by rw[block_setCell h1];rfl
 obtain⟨W2,dQ⟩:=ExZ (((w2.setCell I c0).setCell ⟨I,1,none⟩ c1).setCell ⟨I,2,none⟩ c2)
 have g2:FX F x0 y0 W2:=by rw[<-dQ];exact ((hF.other a8 _).other a8 _).other a8 _
 rw[dQ]at h2⊢;have h3:(W2.setCell ⟨I,3,none⟩ c3).heap[I]?=some (.cells #[c0,c1,c2,c3,sv,va,vb,nv,root] 53 (0,0)):=by rw[block_setCell h2];rfl
 have h4:((W2.setCell ⟨I,3,none⟩ c3).setCell ⟨I,4,none⟩ c4).heap[I]?=some (.cells #[c0,c1,c2,c3,c4,va,vb,nv,root] 53 (0,0)):=by rw[block_setCell h3];rfl
 have h5:(((W2.setCell ⟨I,3,none⟩ c3).setCell ⟨I,4,none⟩ c4).setCell ⟨I,5,none⟩ c5).heap[I]?=some (.cells #[c0,c1,c2,c3,c4,c5,vb,nv,root] 53 (0,0)):=by rw[block_setCell h4];rfl
 obtain⟨W5,jz⟩:=ExZ (((W2.setCell ⟨I,3,none⟩ c3).setCell ⟨I,4,none⟩ c4).setCell ⟨I,5,none⟩ c5)
 have g5:FX F x0 y0 W5:=by rw[<-jz];exact ((g2.other a8 _).other a8 _).other a8 _
 rw[jz]at h5⊢;have h6:(W5.setCell ⟨I,6,none⟩ c6).heap[I]?=some (.cells #[c0,c1,c2,c3,c4,c5,c6,nv,root] 53 (0,0)):=by rw[block_setCell h5];rfl
 have h7:((W5.setCell ⟨I,6,none⟩ c6).setCell ⟨I,7,none⟩ c7).heap[I]?=some (.cells #[c0,c1,c2,c3,c4,c5,c6,c7,root] 53 (0,0)):=by rw[block_setCell h6];rfl
 have h8:(((W5.setCell ⟨I,6,none⟩ c6).setCell ⟨I,7,none⟩ c7).setCell ⟨I,8,none⟩ c8).heap[I]?=some (.cells #[c0,c1,c2,c3,c4,c5,c6,c7,c8] 53 (0,0)):=by rw[block_setCell h7];rfl
 have k2:Gr w W2:=by rw[<-dQ];exact ((hG.setCell (p:=I) ux _).setCell (p:=⟨I,1,none⟩) ux _).setCell (p:=⟨I,2,none⟩) ux _
 have k5:Gr w W5:=by rw[<-jz];exact ((k2.setCell (p:=⟨I,3,none⟩) ux _).setCell (p:=⟨I,4,none⟩) ux _).setCell (p:=⟨I,5,none⟩) ux _
 refine⟨by rw[U14 _ _ _ _ a8,U14 _ _ _ _ a8];exact h8,(((g5.other a8 _).other a8 _).other a8 _).set x y,
  ((((k5.setCell (p:=⟨I,6,none⟩) ux _).setCell (p:=⟨I,7,none⟩) ux _).setCell (p:=⟨I,8,none⟩) ux _).setCell (p:=F) Ng _).setCell (p:=⟨F,1,none⟩) Ng _,λ k k1 k2=>?_⟩
 rw[U14 _ _ _ _ k2,U14 _ _ _ _ k2,U14 _ _ _ _ k1,U14 _ _ _ _ k1,U14 _ _ _ _ k1,<-jz,U14 _ _ _ _ k1,U14 _ _ _ _ k1,U14 _ _ _ _ k1,<-dQ,U14 _ _ _ _ k1,U14 _ _ _ _ k1,U14 _ _ _ _ k1]
theorem ItM.same{W:World}{base:Nat}{it:Pl.It}{kv sv nv:Value}(h:ItM W base it kv sv nv){a b:Nat}:ItM W.drew base { it with a:=a,b:=b } kv sv nv:=⟨h.k.of_block λ _ _=>rfl,h.s.of_block λ _ _=>rfl,(h.gr (Gr.refl W).drew).n⟩
theorem O50{W:World}{I:Nat}{c0 c1 c2 c3 c4 c5 c6 c7 c8:Value}(h:W.heap[I]?=some (.cells #[c0,c1,c2,c3,c4,c5,c6,c7,c8] 53 (0,0))):(W.cell? I=some c0/\W.cell? ⟨I,1,none⟩=some c1/\W.cell? ⟨I,2,none⟩=some c2/\W.cell? ⟨I,3,none⟩=some c3/\W.cell? ⟨I,4,none⟩=some c4/\W.cell? ⟨I,5,none⟩=some c5/\W.cell? ⟨I,6,none⟩=some c6/\W.cell? ⟨I,7,none⟩=some c7/\W.cell? ⟨I,8,none⟩=some c8)/\(∀o,W.frozen? ⟨I,o,none⟩=false)/\I<W.heap.size :=
 ⟨⟨by rw[cell_of_block h];rfl,by rw[cell_of_block h];rfl,by rw[cell_of_block h];rfl,by rw[cell_of_block h];rfl,by rw[cell_of_block h];rfl,by rw[cell_of_block h];rfl,by rw[cell_of_block h];rfl,by rw[cell_of_block h];rfl,by rw[cell_of_block h];rfl⟩,λ o=>unfrozen_of_block h o,(U1a.1 h).1⟩
theorem Oog(T:Nat->UInt8×UInt8)(s:ByteArray)(hs:s.size<=20000000)(n:Nat)(i:Int)(hi:i=n)(hn:n<s.size)(w:World)(hQ:RW T w)(X:Va Pl.It)(hX:V41 ⟨Vu T,Vl⟩ (bs s) n=X)(a8:X≠.non):Calls prog 59 #[.string s,i] w (Oq0 s w X):=by
 subst hi;have hb:=V8 (bs s) n (by rw[O0];omega);rw[O0]at hb;obtain⟨b,jj⟩:=ExZ (V7 (bs s) n)
 rw[jj]at hb;have ay:=hb.2;unfold V41 at hX;rw[jj]at hX;obtain⟨Y,hY⟩:=ExZ (V3o ⟨Vu T,Vl⟩ (bs s) b)
 rw[hY]at hX;have bH:Y≠.non:=λ e=>a8 (by rw[<-hX,e])
 have t1:decide ((n:Int)<0)=false:=Yb;have t2:decide ((s.size:Int)<=(n:Int))=false:=Ye;have t3:decide (s.size<=n)=false:=Ye;have HB:=U10 jj;have HQ:=U10 hQ;have HX:=U10 hX;have mS:=U10 a8;have Nh:=U10 hY;obtain⟨W1,aK⟩:=ExZ ((w.alloc Vei).alloc (.cells #[(0:Int),(0:Int)] 29))
 have cx:Gr w W1:=by rw[<-aK];exact ((Gr.refl w).alloc _).alloc _
 have BD:W1.heap[w.heap.size]?=some (itO 0 0 0 Vp Vp 0 0 Vp 0):=by rw[<-aK];exact (((Gr.refl _).alloc _).block Yb).trans (U1z w _)
 have d9:FX (w.heap.size+1) (0:Int) (0:Int) W1:=by
  rw[<-aK];have:=FX.new (w.alloc Vei) (0:Int) (0:Int) 29;exact J4
 have lY:=U10 aK;clear jj hb hX hY hQ a8 aK;go_enter func59,ntmps59;go_wp2_with fail;rw[show ((w.alloc (.cells #[.int .u8 0,(0:Int),(0:Int),.slice none 0 0,.slice none 0 0,(0:Int),(0:Int),.slice none 0 0,(0:Int)] 53)).alloc (.cells #[(0:Int),(0:Int)] 29))=W1 from lY.o];refine (Oa s _ n rfl Ya Ya _).mono ?_;rw[HB.o];rintro e w1 ⟨rfl,g1⟩;have mM:=(g1.block (U1a.1 BD).1).trans BD;have dV:=d9.gr g1;have bC:=cx.trans g1;have JH:w.heap.size+1<w1.heap.size:=dV.2.2.2;clear BD d9 cx lY;go_wp2_with fail;refine (Oof T s hs w.heap.size b _ rfl ay w _ bC (U12 _) mM HQ.o Y Nh.o bH).mono ?_;clear Nh;cases Y with
 |non=>exact absurd rfl bH
 |bad c p =>
  rintro e w2 ⟨rfl,hc,a9,k,a1,a2,kv,sv,va,vb,nv,root,gM⟩;have d5:=dV.st a9 Yb;have d7:=a9.below bC (λ k e=>by rw[e];exact U12 _);clear a9 dV bC g1 mM;go_wp2_with fail;refine Z243 ?_;intro w3 g3;have gA:Gr w2 w3:=((Gr.refl w2).alloc _).trans g3;have eo:=(FX.new w2 c p 29).gr g3;have vg:=(gA.block (U1a.1 gM).1).trans gM;have cV:=d5.gr gA;have dk:=d7.trans gA;have JI:=(U1a.1 gM).1;have aL:=d5.2.2.2;clear gM d5 d7 g3 gA;obtain⟨q0,q1,qf,ql⟩:=id eo;go_wp2_with fail;refine Z243 ?_;intro w4 g4;exact J110
 |ok r =>
  obtain⟨m,it⟩:=r;rintro e w2 ⟨rfl,hm,a9,kv,sv,nv,gM,sq⟩;have d5:=dV.st a9 Yb;have d7:=a9.below bC (λ k e=>by rw[e];exact U12 _);obtain⟨⟨ka,kn,kc,rfl⟩,⟨sa,sn,sc,rfl⟩,⟨na,nn,nc,rfl⟩⟩:=sq.forms;clear a9 dV bC g1 mM;go_wp2_with fail;refine (O29 _).mono ?_;rintro e w3 ⟨rfl,g3⟩;have gA:Gr w2 w3:=((Gr.refl w2).alloc _).trans g3;have eo:=(FX.new w2 (0:Int) (0:Int) 29).gr g3;have vg:=(gA.block (U1a.1 gM).1).trans gM;have cV:=d5.gr gA;have dk:=d7.trans gA;have Ni:∀k,k<w2.heap.size->w3.heap[k]?=w2.heap[k]?:=λ k hk=>gA.block hk
  have Nj:=gA.size;have JI:=(U1a.1 gM).1;have aL:=d5.2.2.2;have bN:=V60 (bs s) m (by rw[O0];exact hm);clear gM d5 d7 g3 gA;go_wp2_with fail;refine (Ojd s hs m _ rfl hm _).mono ?_;rintro e w5 ⟨hp,g5⟩;have yN:=eo.gr g5;have jt:=(g5.block (U1a.1 vg).1).trans vg;have eB:=cV.gr g5;have dc:=dk.trans g5;have nR:∀k,k<w2.heap.size->w5.heap[k]?=w2.heap[k]?:=λ k hk=>(g5.block Ya).trans (Ni k hk)
  have vd:w2.heap.size<w5.heap.size:=yN.2.2.2;clear g5 eo vg cV dk Ni;have xJ:w.heap.size≠w2.heap.size:=Ya;have sy:w.heap.size+1≠w2.heap.size:=Ya
  unfold V9q at hp;cases hq:V1e (bs s) m with
  |bad c p =>
   rw[hq]at hp HX;simp only at HX;have he:=hp;clear hp;subst he;have hc:c≠0:=(bN.2 c p hq).2;clear hq bN sq nR;obtain⟨q0,q1,qf,ql⟩:=id yN;have D5:((w5.setCell w2 c).setCell ⟨w2,1,none⟩ p).heap[w.heap.size]?=some (itO it.kind 0 0 (.slice ka kn kc) (.slice sa sn sc) it.va it.vb (.slice na nn nc) it.root):=by
    rw[U14 _ _ _ _ xJ,U14 _ _ _ _ xJ];exact jt
   have D6:=(eB.other (U3p sy) (b2:=w2.heap.size) (o:=0) c).other (U3p sy) (b2:=w2.heap.size) (o:=1) p;have D7:=yN.set c p;have D8:=(dc.setCell (p:=w2) (by show w.heap.size<=w2.heap.size;omega) c).setCell (p:=⟨w2,1,none⟩) (by show w.heap.size<=w2.heap.size;omega) p;go_wp2_with fail;refine Z243 ?_;intro w4 g4;have vg:=D5;have cV:=D6;have eo:=D7;have dk:=D8;clear jt eB yN dc D5 D6 D7 D8;exact J110
  |ok q =>
   rw[hq]at hp HX;simp only at HX;have he:=hp;clear hp;subst he;have UP:=bN.1 q hq;clear hq bN;obtain⟨q0,q1,qf,ql⟩:=id yN;have mq:((w5.setCell w2 (0:Int)).setCell ⟨w2,1,none⟩ (0:Int)).heap[w.heap.size]?=some (itO it.kind 0 0 (.slice ka kn kc) (.slice sa sn sc) it.va it.vb (.slice na nn nc) it.root):=by
    rw[U14 _ _ _ _ xJ,U14 _ _ _ _ xJ];exact jt
   have qW:=(eB.other (U3p sy) (b2:=w2.heap.size) (o:=0) (0:Int)).other (U3p sy) (b2:=w2.heap.size) (o:=1) (0:Int);have Nk:=yN.set (0:Int) (0:Int);have eI:=(dc.setCell (p:=w2) (by show w.heap.size<=w2.heap.size;omega) (0:Int)).setCell (p:=⟨w2,1,none⟩) (by show w.heap.size<=w2.heap.size;omega) (0:Int);have Nl:∀k,k<w2.heap.size->((w5.setCell w2 (0:Int)).setCell ⟨w2,1,none⟩ (0:Int)).heap[k]?=w2.heap[k]?:=λ k hk=>by
    rw[U14 _ _ _ _ (by show k≠w2.heap.size;omega),U14 _ _ _ _ (by show k≠w2.heap.size;omega)];exact nR k hk
   go_wp2_with fail;refine (O29 _).mono ?_;rintro e w6 ⟨rfl,g6⟩;have sQ:w5.heap.size<=w6.heap.size:=by have:=g6.size;simpa [World.setCell]using this
   have uy:=(g6.block (U1a.1 mq).1).trans mq;have lI:=qW.gr g6;have JJ:=Nk.gr g6;have nT:=eI.trans g6;have Nm:∀k,k<w2.heap.size->w6.heap[k]?=w2.heap[k]?:=λ k hk=>(g6.block (by simp[World.setCell];omega)).trans (Nl k hk)
   clear g6 jt mq eB qW yN Nk dc eI nR Nl q0 q1 qf ql;obtain⟨⟨i0,i1,i2,i3,i4,i5,i6,i7,i8⟩,eV,eW⟩:=O22 uy;have sw:((w6.setCell ⟨w,1,none⟩ n).setCell ⟨w,2,none⟩ q).heap[w.heap.size]?=some (itO it.kind n q (.slice ka kn kc) (.slice sa sn sc) it.va it.vb (.slice na nn nc) it.root):=by
    have h1:(w6.setCell ⟨w,1,none⟩ n).heap[w.heap.size]?=some (itO it.kind n 0 (.slice ka kn kc) (.slice sa sn sc) it.va it.vb (.slice na nn nc) it.root):=by rw[block_setCell uy];rfl
    rw[block_setCell h1];rfl
   have sx:=(lI.other (b2:=w.heap.size) (o:=1) Ya n).other (b2:=w.heap.size) (o:=2) Ya q;have JK:=(JJ.other (b2:=w.heap.size) (o:=1) Ya n).other (b2:=w.heap.size) (o:=2) Ya q;have Bm:=(nT.setCell (p:=⟨w,1,none⟩) (U12 _) n).setCell (p:=⟨w,2,none⟩) (U12 _) q;have JL:∀k,w1.heap.size<=k->k<w2.heap.size->((w6.setCell ⟨w,1,none⟩ n).setCell ⟨w,2,none⟩ q).heap[k]?=w2.heap[k]?:=λ k dp hk=>by
    rw[U14 _ _ _ _ (by show k≠w.heap.size;omega),U14 _ _ _ _ (by show k≠w.heap.size;omega)];exact Nm k hk
   have C2:((w6.setCell ⟨w,1,none⟩ n).setCell ⟨w,2,none⟩ q).heap.size=w6.heap.size:=by simp[World.setCell]
   obtain⟨q0,q1,qf,ql⟩:=id JJ;go_wp2_with fail;obtain⟨W8,mr⟩:=ExZ ((w6.setCell ⟨w,1,none⟩ n).setCell ⟨w,2,none⟩ q)
   rw[mr]at sw sx JK Bm JL C2⊢;clear mr uy lI JJ nT Nm i0 i1 i2 i3 i4 i5 i6 i7 i8 eV eW q0 q1 qf ql;obtain⟨⟨i0,i1,i2,i3,i4,i5,i6,i7,i8⟩,eV,eW⟩:=O22 sw;obtain⟨q0,q1,qf,ql⟩:=id JK;obtain⟨v0,v1,vf,vl⟩:=id sx;obtain⟨zI,zF,zG,zK⟩:=O94 sw sx (Nat.ne_of_lt (Nat.lt_succ_self _)) Bm (U12 _) (U2x _) (.int .u8 it.kind) n q (.slice ka kn kc) (.slice sa sn sc) it.va it.vb (.slice na nn nc) it.root (0:Int) (0:Int);obtain⟨WF,am⟩:=ExZ ((((((((((((W8.setCell w (.int .u8 it.kind)).setCell ⟨w,1,none⟩ n).setCell ⟨w,2,none⟩ q).setCell ⟨w,3,none⟩ (.slice ka kn kc)).setCell ⟨w,4,none⟩ (.slice sa sn sc)).setCell ⟨w,5,none⟩ it.va).setCell ⟨w,6,none⟩ it.vb).setCell ⟨w,7,none⟩ (.slice na nn nc)).setCell ⟨w,8,none⟩ it.root).setCell (w.heap.size+1:Nat) (0:Int)).setCell ⟨w+1,1,none⟩ (0:Int)))
   have UQ:WF.heap.size=W8.heap.size:=by rw[<-am];simp[World.setCell]
   rw[am]at zI zF zG zK;have oE:=U10 am;have RX:Hid (ItM WF w1.heap.size it (.slice ka kn kc) (.slice sa sn sc) (.slice na nn nc)):=U10 (sq.kept (λ k o hk ho _=>by
    have aa:=(U1a.1 ho).1;exact ((zK k Ya Ya).trans (JL k hk aa)).trans ho) Ya)
   clear am JL zK sq
   go_region
   all_goals rw[oE.o]
   all_goals clear oE i0 i1 i2 i3 i4 i5 i6 i7 i8 eV eW v0 v1 vf vl q0 q1 qf ql sw sx JK Bm
   all_goals obtain⟨⟨i0,i1,i2,i3,i4,i5,i6,i7,i8⟩,eV,eW⟩:=O50 zI
   all_goals obtain⟨v0,v1,vf,vl⟩:=id zF
   all_goals go_wp2_with fail
   all_goals refine U11 (v:=.tuple #[itV it.kind n q (.slice ka kn kc) (.slice sa sn sc) it.va it.vb (.slice na nn nc) it.root,f0]) (by simp[results,results59,go_sem,i0,i1,i2,i3,i4,i5,i6,i7,i8,v0,v1]) rfl ?_
   all_goals rw[<-HX.o]
   all_goals exact⟨_,_,_,rfl,ItM.same (RX.o.low Ya),zG.drew⟩
