/- The proof's part 36. -/
import Derived.Test.YtnkgknbdaiakgaaGreatDoorQ31
import Derived.Test.YtnkgknbdaiakgaaGreatDoorQ35
set_option maxHeartbeats 16000000
set_option linter.all false
set_option maxRecDepth 100000
namespace Go.Proofs.YtnkgknbdaiakgaaGreatDoor
section
open Pl Go.Proofs.Tryz Go.RowKit Go.Shelf Go.Joins
attribute [local go_sem] U22
abbrev itO(k:Nat)(a b:Int)(kv sv:Value)(va vb:Int)(nv:Value)(root:Int):Obj := .cells #[.int .u8 k,a,b,kv,sv,va,vb,nv,root] 53 (0,0)
theorem Onh{W:World}{I k:Nat}{a b va vb root:Int}{kv sv nv:Value}(h:W.heap[I]?=some (itO k a b kv sv va vb nv root))(x y:Value):((W.setCell ⟨I,3,none⟩ x).setCell ⟨I,4,none⟩ y).heap[I]?=some (itO k a b x y va vb nv root):=by
 have h1:(W.setCell ⟨I,3,none⟩ x).heap[I]?=some (itO k a b x sv va vb nv root):=by rw[block_setCell h];rfl
 rw[block_setCell h1];rfl
theorem O1v{W:World}{I k:Nat}{a b va vb root:Int}{kv sv nv:Value}(h:W.heap[I]?=some (itO k a b kv sv va vb nv root)):(W.cell? I=some (.int .u8 k)/\W.cell? ⟨I,1,none⟩=some (.int .i64 a)/\W.cell? ⟨I,2,none⟩=some (.int .i64 b)/\W.cell? ⟨I,3,none⟩=some kv/\W.cell? ⟨I,4,none⟩=some sv/\W.cell? ⟨I,5,none⟩=some (.int .i64 va)/\W.cell? ⟨I,6,none⟩=some (.int .i64 vb) /\W.cell? ⟨I,7,none⟩=some nv/\W.cell? ⟨I,8,none⟩=some (.int .i64 root))/\(∀o,W.frozen? ⟨I,o,none⟩=false)/\I<W.heap.size :=
 ⟨⟨by rw[cell_of_block h];rfl,by rw[cell_of_block h];rfl,by rw[cell_of_block h];rfl,by rw[cell_of_block h];rfl,by rw[cell_of_block h];rfl,by rw[cell_of_block h];rfl,by rw[cell_of_block h];rfl,by rw[cell_of_block h];rfl,by rw[cell_of_block h];rfl⟩,λ o=>unfrozen_of_block h o,(U18.1 h).1⟩
structure ItM(W:World)(base:Nat)(it:Pl.It)(kv sv nv:Value):Prop where
 k:V26 W base 9 1 kv it.ws.length (Oh (O1f it.ws))
 s:V26 W base 38 2 sv it.ws.length (Oc (O1a it.ws))
 n:(nv=Vo/\it.nds=[])\/∃g L,nv=.slice (some ⟨g,0,none⟩) it.nds.length it.nds.length/\L.map (·.nd)=it.nds/\V2b W base g L
theorem ItM.gr{W W':World}{base:Nat}{it:Pl.It}{kv sv nv:Value}(h:ItM W base it kv sv nv)(g:Gr W W'):ItM W' base it kv sv nv :=
 ⟨h.k.of_block λ k e=>g.block (h.k.lt k e).2,h.s.of_block λ k e=>g.block (h.s.lt k e).2,h.n.imp id λ ⟨g0,L,a,b,c⟩=>⟨g0,L,a,b,c.gr g⟩⟩
theorem ItM.set{W:World}{base:Nat}{it:Pl.It}{kv sv nv:Value}(h:ItM W base it kv sv nv){b:Nat}(hb:b<base)(o:Nat)(v:Value):ItM (W.setCell ⟨b,o,none⟩ v) base it kv sv nv:=by
 have hs:∀k,base<=k->(W.setCell ⟨b,o,none⟩ v).heap[k]?=W.heap[k]?:=λ k hk=>U15 _ _ _ _ (by (try simp);omega)
 refine⟨h.k.of_block λ k e=>hs k (h.k.lt k e).1,h.s.of_block λ k e=>hs k (h.s.lt k e).1,h.n.imp id λ ⟨g0,L,a,b',c⟩=>⟨g0,L,a,b',?_⟩⟩;refine⟨⟨c.lt.1,by simpa [World.setCell]using c.lt.2⟩,λ i r hr j v' hv=>?_,λ i r hr=>?_,c.tg⟩;rw[U1n _ _ _ _ (by have:=c.lt.1;intro e;have:=U2w Addr.block e;simp only at this;omega)];exact c.cell i r hr j v' hv
 obtain⟨x,y,z⟩:=c.rows i r hr;exact⟨x.of_block λ k e=>hs k (x.lt k e).1,y.of_block λ k e=>hs k (y.lt k e).1,z.of_block λ k e=>hs k (z.lt k e).1⟩
theorem V26.low{w:World}{b b' e size n:Nat}{v:Value}{xs:List Value}(h:V26 w b e size v n xs)(hb:b'<=b):V26 w b' e size v n xs:=by
 obtain⟨v0,⟨h1,h2⟩,h3⟩:=h;exact⟨v0,⟨h1,h2.imp id λ ⟨g,cap,cur,x,y,z⟩=>⟨g,cap,cur,x,U1l hb y,z⟩⟩,h3⟩
theorem ItM.low{W:World}{b b':Nat}{it:Pl.It}{kv sv nv:Value}(h:ItM W b it kv sv nv)(hb:b'<=b):ItM W b' it kv sv nv :=
 ⟨h.k.low hb,h.s.low hb,h.n.imp id λ ⟨g0,L,x,y,z⟩=>⟨g0,L,x,y,⟨⟨U1l hb z.lt.1,z.lt.2⟩,z.cell,λ i r hr=>⟨(z.rows i r hr).1.low hb,(z.rows i r hr).2.1.low hb,(z.rows i r hr).2.2.low hb⟩,z.tg⟩⟩⟩
def O13(s:ByteArray)(I:Nat)(w:World)(X:V9 (Nat×Pl.It))(e:Ending)(w':World):Prop:=match X with
 |.non=>True
 |.bad c p=>e=.returned (.tuple #[(0:Int),fv c p])/\c≠0/\St (λ k=>k=I) (λ k=>k=I) w w'/\∃k a b kv sv va vb nv root,w'.heap[I]?=some (itO k a b kv sv va vb nv root)
 |.ok (m,it)=>e=.returned (.tuple #[m,f0])/\m<=s.size/\St (λ k=>k=I) (λ k=>k=I) w w'/\∃kv sv nv,w'.heap[I]?=some (itO it.kind 0 0 kv sv it.va it.vb nv it.root)/\ItM w' w.heap.size it kv sv nv
theorem O43(W:World):W.drew.heap=W.heap:=rfl
theorem O62{w w2:World}{I F0 k:Nat}{a b va vb root:Int}{kv sv nv x y:Value}(hI:w2.heap[I]?=some (itO k a b kv sv va vb nv root))(hF:FX F0 x y w2)(a8:I≠F0)(kL:w.heap.size<=F0)(hS:St (λ k=>k=I) (λ k=>k=I) w w2)(ot pq x' y':Value):((((w2.setCell ⟨I,3,none⟩ ot).setCell ⟨I,4,none⟩ pq).setCell F0 x').setCell ⟨F0,1,none⟩ y').heap[I]?=some (itO k a b ot pq va vb nv root) /\FX F0 x' y' ((((w2.setCell ⟨I,3,none⟩ ot).setCell ⟨I,4,none⟩ pq).setCell F0 x').setCell ⟨F0,1,none⟩ y') /\St (λ k=>k=I) (λ k=>k=I) w ((((w2.setCell ⟨I,3,none⟩ ot).setCell ⟨I,4,none⟩ pq).setCell F0 x').setCell ⟨F0,1,none⟩ y'):=by
 refine⟨?_,?_,?_⟩;rw[U15 _ _ _ _ a8,U15 _ _ _ _ a8];exact Onh hI ot pq;exact ((hF.other a8 _).other a8 _).set x' y'
 exact (((hS.setCell (.inl rfl) _).setCell (.inl rfl) _).setCell (.inr kL) _).setCell (.inr kL) _
theorem Oa3(T:Nat->UInt8×UInt8)(E:Vv)(hE:O2l T E)(s:ByteArray)(hs:s.size<=20000000)(I k:Nat)(aY:ByteArray)(Nv:aY.size<=2)(aB:∀h:Nat,(h1:h<aY.size)->(aY[h]'h1).toNat<128)(n:Nat)(i:Int)(hi:i=n)(hn:n+aY.size<=s.size)(w:World)(hI:w.heap[I]?=some (itO k 0 0 Vo Vo 0 0 Vo 0))(hQ:QW T w)(X:V9 (Nat×Pl.It))(hX:V3k E (bs s) k n (bs aY)=X)(a8:X≠.non):Calls prog 120 #[.pointer (some ⟨I,0,none⟩),.string s,i,.string aY] w (O13 s I w X):=by
 subst hi;have hb:=V8 (bs s) (n+aY.size) (by rw[O0];exact hn);rw[O0]at hb;obtain⟨b,jB⟩:=ExZ (V7 (bs s) (n+aY.size))
 rw[jB]at hb;have aA:=hb.2;unfold V3k at hX;rw[O0,jB]at hX;obtain⟨Y,hY⟩:=ExZ (V1q E (bs s) b)
 rw[hY]at hX;have bP:Y≠.non:=λ e=>a8 (by rw[<-hX,e])
 have CF:IntKind.i64.wrap ((n:Int)+(aY.size:Int))=(n:Int)+(aY.size:Int):=U1k _ ⟨Ya,Ya⟩;have Aw:I<w.heap.size:=(U18.1 hI).1;have HB:=U10 jB;have HQ:=U10 hQ;have HI:=U10 hI;have HR:=U10 (λ w1 (h:QW T w1)=>O3k T E hE s _ b rfl aA hs Y hY bP w1 h);have HX:=U10 hX;have nJ:=U10 a8;clear jB hb hX hY hQ hI a8;go_enter func120,ntmps120;go_wp2_with fail;refine (O9 s _ (n+aY.size) Yb hn Ya _).mono ?_;rw[HB.o];rintro e w1 ⟨rfl,g1⟩;go_wp2_with fail;refine (HR.o _ (HQ.o.gr Gr.auto)).mono ?_;cases Y with
 |non=>exact absurd rfl bP
 |bad c p =>
  rintro e w2 ⟨rfl,hc,g2⟩;refine Z162 ?_;intro hF hG;have nB:=(hG.block Aw).trans HI.o;refine Z173 ?_;intro i0 i1 i2 i3 i4 i5 i6 i7 i8 fd fe bE kh q0 q1 qf ql;obtain⟨gP,ew,fR⟩:=O62 nB hF bE (U12 _) hG.st (.slice none 0 0) (.slice none 0 0) c p;clear g1 g2;go_wp2_with fail;refine Z242 ?_;intro w3 g3;have gQ:=(g3.block (U18.1 gP).1).trans gP;have df:=ew.gr g3;have aD:=fR.gr g3;have ip:FX w c p w3.drew:=df.gr (Gr.refl _).drew;clear g3 gP ew fR q0 q1 qf ql i0 i1 i2 i3 i4 i5 i6 i7 i8 fd fe;go_wp2_with fail;refine Reg.begin' (W:=λ i=>i != 2) (S:=FX w c p) Yc ?_;refine Reg.tl 0 ip ?_ (hy:=by intro w ab;obtain⟨q0,q1,qf,ql⟩:=ab;go_simp;try with_reducible rfl);refine Reg.ty 1 ?_;obtain⟨q0,q1,qf,ql⟩:=df;refine Reg.on 2 ?_;go_simp;refine Z12 ?_;go_wp2_with fail;refine U11 (v:=.tuple #[(0:Int),fv c p]) (by simp[results,results120,go_sem,q0,q1,qf,ql]) rfl ?_;rw[<-HX.o];refine⟨rfl,hc,St.auto,k,0,0,.slice none 0 0,.slice none 0 0,0,0,Vo,0,?_⟩;exact J81
 |ok r =>
  obtain⟨ws,m⟩:=r;rintro e w2 ⟨kv,sv,rfl,hm,gY,iZ,gm,en,g2⟩;obtain⟨gk,ck,rfl,_,_⟩:=gY.form en;obtain⟨gs,cs,rfl,_,_⟩:=iZ.form en;refine Z162 ?_;intro hF hG;have nB:=(hG.block Aw).trans HI.o;have az:w.heap.size<w1.heap.size:=by have:=g1.size;simp at this;omega
  obtain⟨it,hit⟩:∃it:Pl.It,it=⟨k,0,0,ws,0,0,0,[]⟩:=⟨_,rfl⟩
  have wR:ItM w2 w1.heap.size it (.slice gk ws.length ck) (.slice gs ws.length cs) Vo:=by subst hit;exact⟨gY,iZ,.inl ⟨rfl,rfl⟩⟩
  refine Z173 ?_;intro i0 i1 i2 i3 i4 i5 i6 i7 i8 fd fe bE kh q0 q1 qf ql;refine Z289 ?_;intro gP ew fR;have rF:=(((wR.set (b:=I) Ya 3 (.slice gk ws.length ck)).set (b:=I) Ya 4 (.slice gs ws.length cs)).set az 0 (0:Int)).set az 1 (0:Int);have aV:=V8 (bs s) m (by rw[O0];exact hm);rw[O0]at aV;obtain⟨b3,jD⟩:=ExZ (V7 (bs s) m)
  rw[jD]at aV;have dE:=aV.2;simp only[jD]at HX;have ir:=U10 jD;clear g1 g2 wR gY iZ aV jD;go_wp2_with fail;refine (O22 _).mono ?_;rintro e w3 ⟨rfl,g3⟩;have gQ:=(g3.block (U18.1 gP).1).trans gP;have df:=ew.gr g3;have aD:=fR.gr g3;have sR:=rF.gr g3;clear g3 gP ew fR rF q0 q1 qf ql i0 i1 i2 i3 i4 i5 i6 i7 i8 fd fe;go_wp2_with fail;refine (O9 s _ m rfl hm Ya _).mono ?_;rw[ir.o];rintro e w4 ⟨rfl,g4⟩;go_wp2_with fail;refine (Ofu s aY aB hs Ya b3 _ rfl dE _).mono ?_;rintro e w5 ⟨hp,g5⟩;have jJ:=(g5.block (by have:=(U18.1 gQ).1;have:=g4.size;omega)).trans ((g4.block (U18.1 gQ).1).trans gQ);have eL:=(df.gr g4).gr g5;have eQ:=(aD.gr g4).gr g5;have Dn:=(sR.gr g4).gr g5;have jE:=V57 (bs s) (bs aY) b3 (by rw[O0];exact dE);obtain⟨q0,q1,qf,ql⟩:=eL;clear g4 g5 gQ df aD sR;unfold V91 at hp;cases hz:Pl.isF (bs s) b3 (bs aY) with
  |ok q =>
   rw[hz]at hp HX;simp only at HX;have he:=hp;clear hp;subst he;have hq:=(jE.1 q hz).2;rw[O0]at hq;clear hz jE;go_wp2_with fail;refine U11 (v:=.tuple #[q,f0]) (by simp[results,results120,go_sem,q0,q1,qf,ql]) rfl ?_;rw[<-HX.o];refine⟨rfl,hq,St.auto,(.slice gk ws.length ck),(.slice gs ws.length cs),Vo,?_,?_⟩;rw[U15 _ _ _ _ bE,U15 _ _ _ _ bE];exact jJ
   rw[<-hit];exact ((Dn.set az 0 _).set az 1 _).low Ya
  |bad c p =>
   rw[hz]at hp HX;simp only at HX;have he:=hp;clear hp;subst he;obtain rfl:c=3:=(jE.2 c p hz).2;clear hz jE;go_wp2_with fail;refine U11 (v:=.tuple #[(0:Int),fv 3 p]) (by simp[results,results120,go_sem,q0,q1,qf,ql]) rfl ?_;rw[<-HX.o];refine⟨rfl,Ya,St.auto,k,0,0,(.slice gk ws.length ck),(.slice gs ws.length cs),0,0,Vo,0,?_⟩;rw[U15 _ _ _ _ bE,U15 _ _ _ _ bE];exact jJ
end
section
open Pl Go.Proofs.Tryz Go.ChangeShapes Go.WideShapes Go.ChangeAt Go.RowKit
theorem Ole{W:World}(hS:W.ShapedOpen prog):∃m:Nat->Int,∀j,j<14->W.cell? ⟨0,j,none⟩=some (.int .u8 (m j))/\0<=m j/\m j<=255:=by
 obtain⟨cs,hh,hs,hr⟩:=hS.1 0 #[.int .u8 0,.int .u8 0,.int .u8 0,.int .u8 0,.int .u8 0,.int .u8 0,.int .u8 0,.int .u8 0,.int .u8 0,.int .u8 0,.int .u8 0,.int .u8 0,.int .u8 0,.int .u8 0] 108 Yg Yc;obtain⟨ts,AZ,_,aT⟩:=hr Yc;have hc:prog.cellTypes prog.depth 108=some (List.replicate 14 5):=Yc;rw[hc]at AZ;cases AZ;have dc:cs.size=14:=hs;have key:∀j,∃n:Int,j<14->W.cell? ⟨0,j,none⟩=some (.int .u8 n)/\0<=n/\n<=255:=λ j=>by
  by_cases hj:j<14
  ·have h1:j<cs.size:=by omega
   obtain⟨u,sI,kR⟩:=aT j cs[j] (by simp[h1]);have:u=5:=by
    rw[List.getElem?_replicate,List.length_replicate,U1a Ya]at sI;exact (U2m sI).symm
   subst this;have aQ:W.cell? ⟨0,j,none⟩=some cs[j]:=by simp[World.cell?,hh,h1]
   unfold Cell.ok at kR;rw[underlying5]at kR;cases hv:cs[j] <;> rw[hv]at kR <;> simp at kR
   case int k' n =>
    obtain⟨rfl,h2⟩:=kR;refine⟨n,λ _=>⟨by rw[aQ,hv],?_⟩⟩;simp[IntKind.has,IntKind.min,IntKind.max,IntKind.signed,IntKind.bits]at h2;omega
  exact⟨0,λ h=>absurd h hj⟩
 obtain⟨m,hm⟩:=Classical.axiomOfChoice key;exact⟨m,λ j hj=>hm j hj⟩
theorem Oov{W:World}(hS:W.ShapedOpen prog):∃T,ShW T W:=by
 obtain⟨m,hm⟩:=Ole hS;refine⟨λ k=>(UInt8.ofNat (m (2*k)).toNat,UInt8.ofNat (m (2*k+1)).toNat),λ j v hj=>?_⟩;have key:∀i,i<14->Ob (UInt8.ofNat (m i).toNat)=.int .u8 (m i):=λ i hi=>by
  obtain⟨_,h1,h2⟩:=hm i hi;show Value.int .u8 ((UInt8.ofNat (m i).toNat).toNat:Int)=_;rw[UInt8.toNat_ofNat'];congr 1;omega
 match j,hj with
 |0,hj=>simp[shC]at hj;rw[<-hj,key 0 Ya];exact (hm 0 Ya).1
 |1,hj=>simp[shC]at hj;rw[<-hj,key 1 Ya];exact (hm 1 Ya).1
 |2,hj=>simp[shC]at hj;rw[<-hj,key 2 Ya];exact (hm 2 Ya).1
 |3,hj=>simp[shC]at hj;rw[<-hj,key 3 Ya];exact (hm 3 Ya).1
 |4,hj=>simp[shC]at hj;rw[<-hj,key 4 Ya];exact (hm 4 Ya).1
 |5,hj=>simp[shC]at hj;rw[<-hj,key 5 Ya];exact (hm 5 Ya).1
 |6,hj=>simp[shC]at hj;rw[<-hj,key 6 Ya];exact (hm 6 Ya).1
 |7,hj=>simp[shC]at hj;rw[<-hj,key 7 Ya];exact (hm 7 Ya).1
 |8,hj=>simp[shC]at hj;rw[<-hj,key 8 Ya];exact (hm 8 Ya).1
 |9,hj=>simp[shC]at hj;rw[<-hj,key 9 Ya];exact (hm 9 Ya).1
 |10,hj=>simp[shC]at hj;rw[<-hj,key 10 Ya];exact (hm 10 Ya).1
 |11,hj=>simp[shC]at hj;rw[<-hj,key 11 Ya];exact (hm 11 Ya).1
 |12,hj=>simp[shC]at hj;rw[<-hj,key 12 Ya];exact (hm 12 Ya).1
 |13,hj=>simp[shC]at hj;rw[<-hj,key 13 Ya];exact (hm 13 Ya).1
 |j+14,hj=>simp[shC]at hj
end
section
open Pl Go.Proofs.Tryz Go.RowKit Go.Shelf Go.Joins
attribute [local go_sem] U22
theorem Ocm{w w2:World}{I F0 k:Nat}{a b va vb root:Int}{kv sv nv x y:Value}(hI:w2.heap[I]?=some (itO k a b kv sv va vb nv root))(hF:FX F0 x y w2)(a8:I≠F0)(kL:w.heap.size<=F0)(hS:St (λ k=>k=I) (λ k=>k=I) w w2)(nv' x' y':Value)(cC A' FR:Int):((((((w2.setCell ⟨I,7,none⟩ nv').setCell ⟨I,8,none⟩ cC).setCell F0 x').setCell ⟨F0,1,none⟩ y').setCell ⟨I,5,none⟩ A').setCell ⟨I,6,none⟩ FR).heap[I]?=some (itO k a b kv sv A' FR nv' cC) /\FX F0 x' y' ((((((w2.setCell ⟨I,7,none⟩ nv').setCell ⟨I,8,none⟩ cC).setCell F0 x').setCell ⟨F0,1,none⟩ y').setCell ⟨I,5,none⟩ A').setCell ⟨I,6,none⟩ FR) /\St (λ k=>k=I) (λ k=>k=I) w ((((((w2.setCell ⟨I,7,none⟩ nv').setCell ⟨I,8,none⟩ cC).setCell F0 x').setCell ⟨F0,1,none⟩ y').setCell ⟨I,5,none⟩ A').setCell ⟨I,6,none⟩ FR):=by
 refine⟨?_,?_,?_⟩
 have h1:(w2.setCell ⟨I,7,none⟩ nv').heap[I]?=some (itO k a b kv sv va vb nv' root):=by rw[block_setCell hI];rfl
 have h2:((w2.setCell ⟨I,7,none⟩ nv').setCell ⟨I,8,none⟩ cC).heap[I]?=some (itO k a b kv sv va vb nv' cC):=by rw[block_setCell h1];rfl
 have h3:((((w2.setCell ⟨I,7,none⟩ nv').setCell ⟨I,8,none⟩ cC).setCell F0 x').setCell ⟨F0,1,none⟩ y').heap[I]?=some (itO k a b kv sv va vb nv' cC):=by
  rw[U15 _ _ _ _ a8,U15 _ _ _ _ a8];exact h2
 have h4:(((((w2.setCell ⟨I,7,none⟩ nv').setCell ⟨I,8,none⟩ cC).setCell F0 x').setCell ⟨F0,1,none⟩ y').setCell ⟨I,5,none⟩ A').heap[I]?=some (itO k a b kv sv A' vb nv' cC):=by rw[block_setCell h3];rfl
 rw[block_setCell h4];rfl;exact ((((hF.other a8 _).other a8 _).set x' y').other a8 _).other a8 _
 exact (((((hS.setCell (.inl rfl) _).setCell (.inl rfl) _).setCell (.inr kL) _).setCell (.inr kL) _).setCell (.inl rfl) _).setCell (.inl rfl) _
theorem ItM.wsOnly{W:World}{base k:Nat}{ws:List Pl.KW}{kv sv nv:Value}(h:ItM W base ⟨k,0,0,ws,0,0,0,[]⟩ kv sv nv){a b va vb root:Nat}{nds:Vc}{g:Nat}{L:List Vy}(hL:L.map (·.nd)=nds)(hT:V2b W base g L):ItM W base ⟨k,a,b,ws,va,vb,root,nds⟩ kv sv (.slice g nds.length nds.length) :=
 ⟨h.k,h.s,.inr ⟨g,L,rfl,hL,hT⟩⟩
theorem V2b.low{W:World}{b b' g:Nat}{L:List Vy}(z:V2b W b g L)(hb:b'<=b):V2b W b' g L :=
 ⟨⟨U1l hb z.lt.1,z.lt.2⟩,z.cell,λ i r hr=>⟨(z.rows i r hr).1.low hb,(z.rows i r hr).2.1.low hb,(z.rows i r hr).2.2.low hb⟩,z.tg⟩
theorem Oni(T:Nat->UInt8×UInt8)(s:ByteArray)(hs:s.size<=20000000)(I:Nat)(n:Nat)(i:Int)(hi:i=n)(hn:n<=s.size)(w0 w:World)(eC:Gr w0 w)(B0:w0.heap.size<=I)(hI:w.heap[I]?=some (itO 1 0 0 Vo Vo 0 0 Vo 0))(hQ:RW T w0)(X:V9 (Nat×Pl.It))(hX:V55 ⟨Vi T,Ve⟩ (bs s) n=X)(a8:X≠.non):Calls prog 121 #[.pointer (some ⟨I,0,none⟩),.string s,i] w (O13 s I w X):=by
 subst hi;unfold V55 at hX;obtain⟨Y,hY⟩:=ExZ (V1q ⟨Vi T,Ve⟩ (bs s) n)
 rw[hY]at hX;have bP:Y≠.non:=λ e=>a8 (by rw[<-hX,e])
 have Aw:I<w.heap.size:=(U18.1 hI).1;have HQ:=U10 hQ;have ow:=U10 eC;have HI:=U10 hI;have HR:=U10 (λ w1 (h:QW T w1)=>O3k T ⟨Vi T,Ve⟩ rfl s _ n rfl hn hs Y hY bP w1 h);have HX:=U10 hX;have nJ:=U10 a8;clear hX hY hQ hI a8 eC;go_enter func121,ntmps121;go_wp2_with fail;refine (HR.o _ ((HQ.o.gr ow.o).q.gr Gr.auto)).mono ?_;cases Y with
 |non=>exact absurd rfl bP
 |bad c p =>
  rintro e w2 ⟨rfl,hc,g2⟩;refine Z269 ?_;intro hF hG nB;refine Z173 ?_;intro i0 i1 i2 i3 i4 i5 i6 i7 i8 fd fe bE kh q0 q1 qf ql;obtain⟨gP,ew,fR⟩:=O62 nB hF bE (U12 _) hG.st (.slice none 0 0) (.slice none 0 0) c p;clear g2;go_wp2_with fail;refine Z242 ?_;intro w3 g3;have gQ:=(g3.block (U18.1 gP).1).trans gP;have df:=ew.gr g3;have aD:=fR.gr g3;have ip:FX w c p w3.drew:=df.gr (Gr.refl _).drew;clear g3 gP ew fR q0 q1 qf ql i0 i1 i2 i3 i4 i5 i6 i7 i8 fd fe;go_wp2_with fail;refine Reg.begin' (W:=λ i=>i != 2) (S:=FX w c p) Yc ?_;refine Reg.tl 0 ip ?_ (hy:=by intro w ab;obtain⟨q0,q1,qf,ql⟩:=ab;go_simp;try with_reducible rfl);refine Reg.ty 1 ?_;obtain⟨q0,q1,qf,ql⟩:=df;refine Reg.on 2 ?_;go_simp;refine Z12 ?_;go_wp2_with fail;refine Z294 ?_;refine⟨rfl,hc,St.auto,1,0,0,.slice none 0 0,.slice none 0 0,0,0,Vo,0,?_⟩;exact J81
 |ok r =>
  obtain⟨ws,m⟩:=r;rintro e w2 ⟨kv,sv,rfl,hm,gY,iZ,gm,en,g2⟩;obtain⟨gk,ck,rfl,_,_⟩:=gY.form en;obtain⟨gs,cs,rfl,_,_⟩:=iZ.form en;refine Z269 ?_;intro hF hG nB;obtain⟨it,hit⟩:∃it:Pl.It,it=⟨1,0,0,ws,0,0,0,[]⟩:=⟨_,rfl⟩
  have wR:ItM w2 (w.heap.size+1) it (.slice gk ws.length ck) (.slice gs ws.length cs) Vo:=by subst hit;exact⟨by simpa using gY,by simpa using iZ,.inl ⟨rfl,rfl⟩⟩
  refine Z173 ?_;intro i0 i1 i2 i3 i4 i5 i6 i7 i8 fd fe bE kh q0 q1 qf ql;refine Z289 ?_;intro gP ew fR;have rF:=(((wR.set (b:=I) Ya 3 (.slice gk ws.length ck)).set (b:=I) Ya 4 (.slice gs ws.length cs)).set (b:=w.heap.size) Ya 0 (0:Int)).set (b:=w.heap.size) Ya 1 (0:Int);have aV:=V8 (bs s) m (by rw[O0];exact hm);rw[O0]at aV;obtain⟨b3,jD⟩:=ExZ (V7 (bs s) m)
  rw[jD]at aV;have dE:=aV.2;simp only[jD]at HX;have ir:=U10 jD;clear g2 wR gY iZ aV jD;go_wp2_with fail;refine (O22 _).mono ?_;rintro e w3 ⟨rfl,g3⟩;have gQ:=(g3.block (U18.1 gP).1).trans gP;have df:=ew.gr g3;have aD:=fR.gr g3;have sR:=rF.gr g3;clear g3 gP ew fR rF q0 q1 qf ql i0 i1 i2 i3 i4 i5 i6 i7 i8 fd fe;go_wp2_with fail;refine (O9 s _ m rfl hm Ya _).mono ?_;rw[ir.o];rintro e w4 ⟨rfl,g4⟩;go_wp2_with fail;refine (Ofu s ⟨#[61]⟩ (O2f _ Yd) hs Yd b3 _ rfl dE _).mono ?_;rintro e w5 ⟨hp,g5⟩;rw[show bs ⟨#[61]⟩=[61] from rfl]at hp;have jJ:=(g5.block (by have:=(U18.1 gQ).1;have:=g4.size;omega)).trans ((g4.block (U18.1 gQ).1).trans gQ);have eL:=(df.gr g4).gr g5;have eQ:=(aD.gr g4).gr g5;have Dn:=(sR.gr g4).gr g5;have jE:=V57 (bs s) [61] b3 (by rw[O0];exact dE);have Nx:¬I=w.heap.size:=bE;clear g4 g5 gQ df aD sR;unfold V91 at hp;cases hz:Pl.isF (bs s) b3 [61] with
  |bad c p =>
   rw[hz]at hp HX;simp only at HX;have he:=hp;clear hp;subst he;obtain rfl:c=3:=(jE.2 c p hz).2;have ew:=eL.set (3:Int) p;have fR:=(eQ.setCell (p:=w) (.inr (U12 _)) (3:Int)).setCell (p:=⟨w,1,none⟩) (.inr (U12 _)) p;obtain⟨q0,q1,qf,ql⟩:=eL;clear hz jE;go_wp2_with fail;refine (O7l 3 p Ya _).mono ?_;rintro e w6 ⟨rfl,g6⟩;have rG:=ew.gr g6;have kU:=fR.gr g6;have mK:=(g6.block (by simpa [World.setCell]using (U18.1 jJ).1)).trans (((U15 _ _ _ _ bE).trans (U15 _ _ _ _ bE)).trans jJ);have ip:FX w (3:Int) p w6.drew:=rG.gr (Gr.refl _).drew;clear g6 ew fR q0 q1 qf ql;go_wp2_with fail;refine Reg.begin' (W:=λ i=>i != 2) (S:=FX w (3:Int) p) Yc ?_;refine Reg.tl 0 ip ?_ (hy:=by intro w ab;obtain⟨q0,q1,qf,ql⟩:=ab;go_simp;try with_reducible rfl);refine Reg.ty 1 ?_;obtain⟨q0,q1,qf,ql⟩:=rG;refine Reg.on 2 ?_;go_simp;refine Z12 ?_;go_wp2_with fail;refine U11 (v:=.tuple #[(0:Int),fv 3 p]) (by simp[results,results121,go_sem,q0,q1,qf,ql]) rfl ?_;rw[<-HX.o];refine⟨rfl,Ya,St.auto,1,0,0,(.slice gk ws.length ck),(.slice gs ws.length cs),0,0,Vo,0,?_⟩;rw[O43,U15 _ _ _ _ bE,U15 _ _ _ _ bE];exact mK
  |ok q =>
   rw[hz]at hp HX;simp only at HX;have he:=hp;clear hp;subst he;have hq:=(jE.1 q hz).2;rw[O0]at hq;have ew:=eL.set (0:Int) (0:Int);have fR:=(eQ.setCell (p:=w) (.inr (U12 _)) (0:Int)).setCell (p:=⟨w,1,none⟩) (.inr (U12 _)) (0:Int);have rF:=(Dn.set (b:=w.heap.size) Ya 0 (0:Int)).set (b:=w.heap.size) Ya 1 (0:Int);obtain⟨q0,q1,qf,ql⟩:=eL;have iq:=V8 (bs s) q (by rw[O0];exact hq);rw[O0]at iq;obtain⟨b5,uR⟩:=ExZ (V7 (bs s) q)
   rw[uR]at iq;have jm:=iq.2;simp only[uR]at HX;have ue:=U10 uR;obtain⟨V,hV⟩:=ExZ (V1g ⟨Vi T,Ve⟩ (bs s) b5 0)
   rw[hV]at HX;have Ny:V≠.non:=λ e=>nJ.o (by rw[<-HX.o,e])
   have HV:=U10 (λ W (hw:RW T W)=>O97 W hw s hs _ b5 rfl jm 0 0 Yd V hV Ny);clear hz jE iq uR hV;go_wp2_with fail;refine (O22 _).mono ?_;rintro e w6 ⟨rfl,g6⟩;have rG:=ew.gr g6;have kU:=fR.gr g6;have JW:=rF.gr g6;have mK:=(g6.block (by simpa [World.setCell]using (U18.1 jJ).1)).trans (((U15 _ _ _ _ bE).trans (U15 _ _ _ _ bE)).trans jJ);clear g6 ew fR rF q0 q1 qf ql;go_wp2_with fail;refine (O9 s _ q rfl hq Ya _).mono ?_;rw[ue.o];rintro e w7 ⟨rfl,g7⟩;have bU:RW T w7:=HQ.o.gr (((kU.gr g7).below ow.o (λ k e=>by rw[e];exact B0)));go_wp2_with fail;refine (HV.o _ bU).mono ?_;cases V with
   |non=>exact absurd rfl Ny
   |bad c p =>
    rintro e w8 ⟨rfl,hc,g8⟩;have sS:=(g8.block (by have:=(U18.1 mK).1;have:=g7.size;omega)).trans ((g7.block (U18.1 mK).1).trans mK);have sT:=(rG.gr g7).gr g8;have zj:=(kU.gr g7).gr g8;obtain⟨⟨i0,i1,i2,i3,i4,i5,i6,i7,i8⟩,fd,fe⟩:=O1v sS;obtain⟨q0,q1,qf,ql⟩:=id sT;obtain⟨gP,ew,fR⟩:=Ocm sS sT bE (U12 _) zj Vo c p 0 b5 0;clear g7 g8 mK rG kU JW bU jJ eQ Dn;go_wp2_with fail;obtain⟨W,hW⟩:=ExZ (((((((w8.setCell ⟨I,7,none⟩ Vo).setCell ⟨I,8,none⟩ (0:Int)).setCell w c).setCell ⟨w,1,none⟩ p).setCell ⟨I,5,none⟩ b5).setCell ⟨I,6,none⟩ (0:Int)))
    rw[hW]at gP ew fR⊢;have ip:FX w c p W.drew:=ew.gr (Gr.refl _).drew;clear hW q0 q1 qf ql i0 i1 i2 i3 i4 i5 i6 i7 i8 fd fe;refine Reg.begin' (W:=λ i=>i != 3) (S:=FX w c p) Yc ?_;refine Z319 ?_;obtain⟨q0,q1,qf,ql⟩:=ew;refine Z191 ?_;refine Z12 ?_;go_wp2_with fail;refine Z294 ?_;refine⟨rfl,hc,St.auto,1,0,0,(.slice gk ws.length ck),(.slice gs ws.length cs),b5,0,Vo,0,?_⟩;exact J82
   |ok r =>
    obtain⟨root,m2,st⟩:=r;rintro e w8 ⟨g,L,rfl,jM,rH,hL,hT,g8⟩;have sS:=(g8.block (by have:=(U18.1 mK).1;have:=g7.size;omega)).trans ((g7.block (U18.1 mK).1).trans mK);have sT:=(rG.gr g7).gr g8;have zj:=(kU.gr g7).gr g8;have Nz:=(JW.gr g7).gr g8;obtain⟨⟨i0,i1,i2,i3,i4,i5,i6,i7,i8⟩,fd,fe⟩:=O1v sS;obtain⟨q0,q1,qf,ql⟩:=id sT;obtain⟨gP,ew,fR⟩:=Ocm sS sT bE (U12 _) zj (.slice g st.length st.length) (0:Int) (0:Int) root b5 m2;have zk:=Nz;rw[hit]at zk;have NA:=ItM.wsOnly zk (a:=0) (b:=0) (va:=b5) (vb:=m2) (root:=root) hL (hT.low (by have:=rG.2.2.2;have:=g7.size;omega));have rF:=(((((NA.set (b:=I) Ya 7 (.slice g st.length st.length)).set (b:=I) Ya 8 root).set (b:=w.heap.size) Ya 0 (0:Int)).set (b:=w.heap.size) Ya 1 (0:Int)).set (b:=I) Ya 5 b5).set (b:=I) Ya 6 m2;clear Nz zk NA hT hL g8 mK rG kU JW bU jJ eQ Dn;go_wp2_with fail;obtain⟨W,hW⟩:=ExZ (((((((w8.setCell ⟨I,7,none⟩ (.slice g st.length st.length)).setCell ⟨I,8,none⟩ root).setCell w (0:Int)).setCell ⟨w,1,none⟩ (0:Int)).setCell ⟨I,5,none⟩ b5).setCell ⟨I,6,none⟩ m2))
    rw[hW]at gP ew fR rF⊢;have ip:FX w (0:Int) (0:Int) W.drew:=ew.gr (Gr.refl _).drew;clear hW q0 q1 qf ql i0 i1 i2 i3 i4 i5 i6 i7 i8 fd fe;refine Z95 ?_;obtain⟨q0,q1,qf,ql⟩:=ew;refine Z191 ?_;refine Z12 ?_;go_wp2_with fail;refine U11 (v:=.tuple #[m2,fv 0 0]) (by simp[results,results121,go_sem,q0,q1,qf,ql]) rfl ?_;rw[<-HX.o];refine⟨rfl,jM,St.auto,(.slice gk ws.length ck),(.slice gs ws.length cs),(.slice g st.length st.length),?_,?_⟩;exact J82
    exact (((rF.gr (Gr.refl _).drew).set (b:=w.heap.size) Ya 0 _).set (b:=w.heap.size) Ya 1 _).low Ya
theorem O13.form{s:ByteArray}{I:Nat}{w w':World}{X:V9 (Nat×Pl.It)}{e:Ending}(h:O13 s I w X e w')(a8:X≠.non):∃x y z:Int,e=.returned (.tuple #[x,.agg #[y,z]]):=by
 cases X with
 |non=>exact absurd rfl a8
 |bad c p=>exact⟨_,_,_,h.1⟩
 |ok r=>exact⟨_,_,_,h.1⟩
theorem O13.up{s:ByteArray}{I:Nat}{w wA w':World}{X:V9 (Nat×Pl.It)}{e:Ending}(h:O13 s I wA X e w')(hA:St (λ k=>k=I) (λ k=>k=I) w wA):O13 s I w X e w':=by
 cases X with
 |non=>trivial
 |bad c p=>exact⟨h.1,h.2.1,hA.trans h.2.2.1,h.2.2.2⟩
 |ok r =>
  obtain⟨h1,h2,h3,kv,sv,nv,h4,h5⟩:=h;exact⟨h1,h2,hA.trans h3,kv,sv,nv,h4,h5.low hA.size⟩
theorem O13.setF2{s:ByteArray}{I:Nat}{w wA w':World}{X:V9 (Nat×Pl.It)}{e:Ending}(h:O13 s I wA X e w')(hA:St (λ k=>k=I) (λ k=>k=I) w wA){F0:Nat}(h0:w.heap.size<=F0)(h1:F0<wA.heap.size)(a8:I≠F0)(x y:Value):O13 s I w X e ((w'.setCell F0 x).setCell ⟨F0,1,none⟩ y):=by
 cases X with
 |non=>trivial
 |bad c p =>
  obtain⟨a1,a2,a3,k,a,b,kv,sv,va,vb,nv,root,a4⟩:=h;exact⟨a1,a2,((hA.trans a3).setCell (.inr h0) _).setCell (.inr h0) _,k,a,b,kv,sv,va,vb,nv,root,by rw[U15 _ _ _ _ a8,U15 _ _ _ _ a8];exact a4⟩
 |ok r =>
  obtain⟨a1,a2,a3,kv,sv,nv,a4,a5⟩:=h;exact⟨a1,a2,((hA.trans a3).setCell (.inr h0) _).setCell (.inr h0) _,kv,sv,nv,by rw[U15 _ _ _ _ a8,U15 _ _ _ _ a8];exact a4,((a5.set h1 _ _).set h1 _ _).low hA.size⟩
theorem O13.st{s:ByteArray}{I:Nat}{w w':World}{X:V9 (Nat×Pl.It)}{e:Ending}(h:O13 s I w X e w')(a8:X≠.non):St (λ k=>k=I) (λ k=>k=I) w w':=by
 cases X with
 |non=>exact absurd rfl a8
 |bad c p=>exact h.2.2.1
 |ok r=>exact h.2.2.1
theorem Oct(c:UInt8):(bs ⟨#[35,13,10]⟩).contains c=(c.toNat==35 || c.toNat==13 || c.toNat==10):=by
 have h:∀n:Fin 256,(bs ⟨#[35,13,10]⟩).contains (UInt8.ofNat n.val)=((UInt8.ofNat n.val).toNat==35 || (UInt8.ofNat n.val).toNat==13 || (UInt8.ofNat n.val).toNat==10):=Yg
 exact J40
theorem Oek(s:ByteArray)(a:Nat)(h1:a<s.size):∃rest,s.extract a s.size=rest/\¬rest.toList=[]/\rest.toList.isEmpty=false/\(0:Int)<(rest.size:Int)/\∃h0:0<rest.size,rest[0]=s[a]:=by
 refine⟨_,rfl,?_⟩;have hb:=O4 s a;have hz:(s.extract a s.size).size=s.size-a:=Yb
 generalize s.extract a s.size=rest at hb hz⊢;have h0:0<rest.size:=Ya
 have a8:¬rest.toList=[]:=λ e=>by
  rw[U21]at e;have h2:=O0 rest;rw[show bs rest=[] from e]at h2;simp at h2;omega
 refine⟨a8,by simpa using a8,Ya,h0,?_⟩;have e1:=O8 rest 0 h0;have e2:=O8 s a h1;exact J41
theorem O5b{w:World}{I:Nat}(hI:w.heap[I]?=some (itO 0 0 0 Vo Vo 0 0 Vo 0))(j:Nat)(jv:Int)(hj:jv=j):((w.setCell I (.int .u8 jv)).alloc (.cells #[(0:Int),(0:Int)] 29)).heap[I]?=some (itO j 0 0 Vo Vo 0 0 Vo 0) /\St (λ k=>k=I) (λ k=>k=I) w ((w.setCell I (.int .u8 jv)).alloc (.cells #[(0:Int),(0:Int)] 29)) /\FX w (0:Int) (0:Int) ((w.setCell I (.int .u8 jv)).alloc (.cells #[(0:Int),(0:Int)] 29)) /\w.heap.size<((w.setCell I (.int .u8 jv)).alloc (.cells #[(0:Int),(0:Int)] 29)).heap.size:=by
 subst hj;have hz:(w.setCell I (.int .u8 j)).heap.size=w.heap.size:=by simp[World.setCell]
 have h1:(w.setCell I (.int .u8 j)).heap[I]?=some (itO j 0 0 Vo Vo 0 0 Vo 0):=by rw[block_setCell hI];rfl
 refine⟨(((Gr.refl _).alloc _).block (by rw[hz];exact (U18.1 hI).1)).trans h1,((St.refl (λ k=>k=I) w).setCell (p:=I) (.inl rfl) _).alloc _,?_,by simp[hz]⟩;have:=FX.new (w.setCell I (.int .u8 j)) (0:Int) (0:Int) 29
 rwa [hz]at this
theorem Onn(T:Nat->UInt8×UInt8)(s:ByteArray)(hs:s.size<=20000000)(I:Nat)(n:Nat)(i:Int)(hi:i=n)(hn:n<=s.size)(w0 w:World)(eC:Gr w0 w)(B0:w0.heap.size<=I)(hI:w.heap[I]?=some (itO 0 0 0 Vo Vo 0 0 Vo 0))(hQ:RW T w0)(X:V9 (Nat×Pl.It))(hX:V3l ⟨Vi T,Ve⟩ (bs s) n=X)(a8:X≠.non):Calls prog 91 #[.pointer (some ⟨I,0,none⟩),.string s,i] w (O13 s I w X):=by
 subst hi;have Aw:I<w.heap.size:=(U18.1 hI).1;have bE:I≠w.heap.size:=Ya
 obtain⟨⟨i0,i1,i2,i3,i4,i5,i6,i7,i8⟩,fd,fe⟩:=O1v hI;have EV:(w.alloc (.cells #[(0:Int),(0:Int)] 29)).heap[I]?=some (itO 0 0 0 Vo Vo 0 0 Vo 0):=(((Gr.refl w).alloc _).block Aw).trans hI;have k0:(0:Int)<=(n:Int):=Ya;have k1:(n:Int)<=(s.size:Int):=Ya;have HQ:=U10 hQ;have ow:=U10 eC;have HX:=U10 hX;have nJ:=U10 a8;have GZ:=FX.new w (0:Int) (0:Int) 29;unfold V3l at HX;clear hX hQ a8 eC;cases h2:Pl.pre ((bs s).drop n) [91,91] with
 |true =>
  have hl:=V1i _ _ h2;rw[U16,O0]at hl;simp only[U1d,U1q]at hl;have HP:=U10 h2;rw[h2,U1a rfl]at HX;obtain⟨Do,AA,vM,BT⟩:=O5b hI 3 3 rfl;have JX:=U10 (HQ.o.gr (AA.below ow.o (λ k e=>by rw[e];exact B0)));clear h2;go_enter func91,ntmps91;go_wp2_with (go_at_call 56;refine (O7 s ⟨#[91,91]⟩ n true HP.o _).mono ?_;rintro e w3 ⟨rfl,rfl⟩);refine (Oa3 T ⟨Vi T,Ve⟩ rfl s hs I 3 ⟨#[93,93]⟩ Yd (O2f _ Yd) n _ rfl (by show n+2<=s.size;omega) _ Do JX.o.q X HX.o nJ.o).mono ?_;exact J124
 |false =>
  have HP:=U10 h2;rw[h2,U1c Yb]at HX;clear h2;cases h1:Pl.pre ((bs s).drop n) [91] with
  |true =>
   have hl:=V1i _ _ h1;rw[U16,O0]at hl;simp only[U1d,U1q]at hl;have FS:=U10 h1;rw[h1,U1a rfl]at HX;obtain⟨Do,AA,vM,BT⟩:=O5b hI 2 2 rfl;have JX:=U10 (HQ.o.gr (AA.below ow.o (λ k e=>by rw[e];exact B0)));clear h1;go_enter func91,ntmps91;go_wp2_with (go_at_call 56;first|(refine (O7 s ⟨#[91,91]⟩ n false HP.o _).mono ?_;rintro e w3 ⟨rfl,rfl⟩)|(refine (O7 s ⟨#[91]⟩ n true FS.o _).mono ?_;rintro e w3 ⟨rfl,rfl⟩));refine (Oa3 T ⟨Vi T,Ve⟩ rfl s hs I 2 ⟨#[93]⟩ Yd (O2f _ Yd) n _ rfl (by show n+1<=s.size;omega) _ Do JX.o.q X HX.o nJ.o).mono ?_;exact J124
  |false =>
   have FS:=U10 h1;rw[h1,U1c Yb]at HX;clear h1;by_cases de:n=s.size
   ·have bv:V1c ((bs s).drop n)=true:=by rw[U1t (by rw[O0];omega)];rfl
    rw[bv,U1a rfl]at HX;have aG:s.extract n s.size=ByteArray.empty:=by
     apply U30;apply U2q.1;rw[show (s.extract n s.size).data.toList=(bs s).drop n from O4 s n,U1t (by rw[O0];omega)];rfl
    have ox:=U10 (O7 s ⟨#[91]⟩ n false FS.o);have B4:=U10 (O7 s ⟨#[91,91]⟩ n false HP.o);rw[aG]at ox B4;clear bv de;go_enter func91,ntmps91;clear i0 i1 i2 i3 i4 i5 i6 i7 i8 fd fe;go_wp2_with (go_at_call 56;first|(refine (B4.o _).mono ?_;rintro e w3 ⟨rfl,rfl⟩)|(refine (ox.o _).mono ?_;rintro e w3 ⟨rfl,rfl⟩));exact J94
   obtain⟨rest,aG,r1,r2,r3,r0,r4⟩:=Oek s n Ya;have ox:=U10 (O7 s ⟨#[91]⟩ n false FS.o);have B4:=U10 (O7 s ⟨#[91,91]⟩ n false HP.o);rw[aG]at ox B4;have kC:V1c ((bs s).drop n)=(bs ⟨#[35,13,10]⟩).contains (rest[0]'r0):=by
    rw[Oct,r4,O8 s n Ya];rfl
   cases bv:V1c ((bs s).drop n) with
   |true =>
    rw[bv,U1a rfl]at HX;rw[bv]at kC;have HB:=U10 kC.symm;clear bv kC r4;go_enter func91,ntmps91;go_wp2_with (first|(go_at_call 56;first|(refine (B4.o _).mono ?_;rintro e w3 ⟨rfl,rfl⟩)|(refine (ox.o _).mono ?_;rintro e w3 ⟨rfl,rfl⟩))|(go_at_call 85;refine (O_s ⟨#[35,13,10]⟩ _ true HB.o _).mono ?_;rintro e w3 ⟨⟨i,rfl,hi⟩,rfl⟩;have fh:decide (i<0)=false:=by (simp at hi⊢;omega)))
    try clear aG
    exact J94
   |false =>
    rw[bv,U1c Yb]at HX;rw[bv]at kC;have HB:=U10 kC.symm;obtain⟨Do,AA,vM,BT⟩:=O5b hI 1 1 rfl;clear bv kC r4;go_enter func91,ntmps91;go_wp2_with (first|(go_at_call 56;first|(refine (B4.o _).mono ?_;rintro e w3 ⟨rfl,rfl⟩)|(refine (ox.o _).mono ?_;rintro e w3 ⟨rfl,rfl⟩))|(go_at_call 85;refine (O_s ⟨#[35,13,10]⟩ _ false HB.o _).mono ?_;rintro e w3 ⟨⟨i,rfl,hi⟩,rfl⟩;have fh:decide (i<0)=true:=by (simp at hi⊢;omega)))
    try clear aG
    refine (Oni T s hs I n _ rfl hn w0 _ (AA.below ow.o (λ k e=>by rw[e];exact B0)) B0 Do HQ.o X HX.o nJ.o).mono ?_;exact J124
abbrev itV(k:Nat)(a b:Int)(kv sv:Value)(va vb:Int)(nv:Value)(root:Int):Value := .agg #[.int .u8 k,a,b,kv,sv,va,vb,nv,root]
abbrev itZ:Value := .agg #[.int .u8 0,(0:Int),(0:Int),Vo,Vo,(0:Int),(0:Int),Vo,(0:Int)]
abbrev Vdk:Obj := .cells #[.int .u8 0,(0:Int),(0:Int),Vo,Vo,(0:Int),(0:Int),Vo,(0:Int)] 53 (0,0)
def Op8(s:ByteArray)(w:World)(X:V9 Pl.It)(e:Ending)(w':World):Prop:=match X with
 |.non=>True
 |.bad c p=>e=.returned (.tuple #[itZ,fv c p])/\c≠0/\Gr w w'
 |.ok it=>∃kv sv nv,e=.returned (.tuple #[itV it.kind it.a it.b kv sv it.va it.vb nv it.root,f0])/\ItM w' w.heap.size it kv sv nv/\Gr w w'
theorem ItM.forms{W:World}{lo:Nat}{it:Pl.It}{kv sv nv:Value}(h:ItM W lo it kv sv nv):(∃a n c,kv=.slice a n c)/\(∃a n c,sv=.slice a n c)/\(∃a n c,nv=.slice a n c):=by
 refine⟨?_,?_,?_⟩
 rcases Oo h.k with⟨rfl,_⟩|⟨g,c,rfl,_⟩
 exact⟨_,_,_,rfl⟩
 exact⟨_,_,_,rfl⟩
 rcases Oo h.s with⟨rfl,_⟩|⟨g,c,rfl,_⟩
 exact⟨_,_,_,rfl⟩
 exact⟨_,_,_,rfl⟩
 rcases h.n with⟨rfl,_⟩|⟨g,L,rfl,_⟩
 exact⟨_,_,_,rfl⟩
 exact⟨_,_,_,rfl⟩
theorem V26.keptC{V W:World}{base e size n:Nat}{v:Value}{xs:List Value}(h:V26 V base e size v n xs)(hk:∀(k:Nat)(o:Obj),base<=k->V.heap[k]?=some o->o.isCells=true->W.heap[k]?=some o):V26 W base e size v n xs:=by
 obtain⟨v0,⟨h1,h2⟩,h3⟩:=h;exact⟨v0,⟨h1,h2.imp id λ ⟨g,cap,cur,x,y,z,r⟩=>⟨g,cap,cur,x,y,hk g _ y z rfl,r⟩⟩,h3⟩
theorem ItM.kept{V W:World}{lo:Nat}{it:Pl.It}{kv sv nv:Value}(h:ItM V lo it kv sv nv)(hk:∀(k:Nat)(o:Obj),lo<=k->V.heap[k]?=some o->o.isCells=true->W.heap[k]?=some o)(hz:V.heap.size<=W.heap.size):ItM W lo it kv sv nv:=by
 refine⟨h.k.keptC hk,h.s.keptC hk,h.n.imp id λ ⟨g0,L,a,b,c⟩=>⟨g0,L,a,b,⟨⟨c.lt.1,U13 c.lt.2 hz⟩,λ i r hr j v hv=>?_,λ i r hr=>?_,c.tg⟩⟩⟩;have h1:=c.cell i r hr j v hv;obtain⟨o,ho,hc⟩:=cells_of_cell h1;exact (U1r (w:=V) (a:=⟨g0,i*7+j,none⟩) ((hk g0 o c.lt.1 ho hc).trans ho.symm)).trans h1
 obtain⟨x,y,z⟩:=c.rows i r hr;exact⟨x.keptC hk,y.keptC hk,z.keptC hk⟩
theorem O8i{w2:World}{I F:Nat}{k:Nat}{a b:Int}{kv sv:Value}{va vb:Int}{nv:Value}{root:Int}{x0 y0:Value}(hI:w2.heap[I]?=some (itO k a b kv sv va vb nv root))(hF:FX F x0 y0 w2)(a8:I≠F){w:World}(hG:Gr w w2)(uS:w.heap.size<=I)(NB:w.heap.size<=F)(c0 c1 c2 c3 c4 c5 c6 c7 c8 x y:Value):(((((((((((w2.setCell I c0).setCell ⟨I,1,none⟩ c1).setCell ⟨I,2,none⟩ c2).setCell ⟨I,3,none⟩ c3).setCell ⟨I,4,none⟩ c4).setCell ⟨I,5,none⟩ c5).setCell ⟨I,6,none⟩ c6).setCell ⟨I,7,none⟩ c7).setCell ⟨I,8,none⟩ c8).setCell F x).setCell ⟨F,1,none⟩ y).heap[I]?=some (.cells #[c0,c1,c2,c3,c4,c5,c6,c7,c8] 53 (0,0)) /\FX F x y (((((((((((w2.setCell I c0).setCell ⟨I,1,none⟩ c1).setCell ⟨I,2,none⟩ c2).setCell ⟨I,3,none⟩ c3).setCell ⟨I,4,none⟩ c4).setCell ⟨I,5,none⟩ c5).setCell ⟨I,6,none⟩ c6).setCell ⟨I,7,none⟩ c7).setCell ⟨I,8,none⟩ c8).setCell F x).setCell ⟨F,1,none⟩ y) /\Gr w (((((((((((w2.setCell I c0).setCell ⟨I,1,none⟩ c1).setCell ⟨I,2,none⟩ c2).setCell ⟨I,3,none⟩ c3).setCell ⟨I,4,none⟩ c4).setCell ⟨I,5,none⟩ c5).setCell ⟨I,6,none⟩ c6).setCell ⟨I,7,none⟩ c7).setCell ⟨I,8,none⟩ c8).setCell F x).setCell ⟨F,1,none⟩ y) /\(∀k,k≠I->k≠F->(((((((((((w2.setCell I c0).setCell ⟨I,1,none⟩ c1).setCell ⟨I,2,none⟩ c2).setCell ⟨I,3,none⟩ c3).setCell ⟨I,4,none⟩ c4).setCell ⟨I,5,none⟩ c5).setCell ⟨I,6,none⟩ c6).setCell ⟨I,7,none⟩ c7).setCell ⟨I,8,none⟩ c8).setCell F x).setCell ⟨F,1,none⟩ y).heap[k]?=w2.heap[k]?):=by
 have h0:(w2.setCell I c0).heap[I]?=some (.cells #[c0,a,b,kv,sv,va,vb,nv,root] 53 (0,0)):=by rw[block_setCell hI];rfl
 have h1:((w2.setCell I c0).setCell ⟨I,1,none⟩ c1).heap[I]?=some (.cells #[c0,c1,b,kv,sv,va,vb,nv,root] 53 (0,0)):=by rw[block_setCell h0];rfl
 have h2:(((w2.setCell I c0).setCell ⟨I,1,none⟩ c1).setCell ⟨I,2,none⟩ c2).heap[I]?=some (.cells #[c0,c1,c2,kv,sv,va,vb,nv,root] 53 (0,0)):=by rw[block_setCell h1];rfl
 obtain⟨W2,dy⟩:=ExZ (((w2.setCell I c0).setCell ⟨I,1,none⟩ c1).setCell ⟨I,2,none⟩ c2)
 have g2:FX F x0 y0 W2:=by rw[<-dy];exact ((hF.other a8 _).other a8 _).other a8 _
 rw[dy]at h2⊢;have h3:(W2.setCell ⟨I,3,none⟩ c3).heap[I]?=some (.cells #[c0,c1,c2,c3,sv,va,vb,nv,root] 53 (0,0)):=by rw[block_setCell h2];rfl
 have h4:((W2.setCell ⟨I,3,none⟩ c3).setCell ⟨I,4,none⟩ c4).heap[I]?=some (.cells #[c0,c1,c2,c3,c4,va,vb,nv,root] 53 (0,0)):=by rw[block_setCell h3];rfl
 have h5:(((W2.setCell ⟨I,3,none⟩ c3).setCell ⟨I,4,none⟩ c4).setCell ⟨I,5,none⟩ c5).heap[I]?=some (.cells #[c0,c1,c2,c3,c4,c5,vb,nv,root] 53 (0,0)):=by rw[block_setCell h4];rfl
 obtain⟨W5,fw⟩:=ExZ (((W2.setCell ⟨I,3,none⟩ c3).setCell ⟨I,4,none⟩ c4).setCell ⟨I,5,none⟩ c5)
 have g5:FX F x0 y0 W5:=by rw[<-fw];exact ((g2.other a8 _).other a8 _).other a8 _
 rw[fw]at h5⊢;have h6:(W5.setCell ⟨I,6,none⟩ c6).heap[I]?=some (.cells #[c0,c1,c2,c3,c4,c5,c6,nv,root] 53 (0,0)):=by rw[block_setCell h5];rfl
 have h7:((W5.setCell ⟨I,6,none⟩ c6).setCell ⟨I,7,none⟩ c7).heap[I]?=some (.cells #[c0,c1,c2,c3,c4,c5,c6,c7,root] 53 (0,0)):=by rw[block_setCell h6];rfl
 have h8:(((W5.setCell ⟨I,6,none⟩ c6).setCell ⟨I,7,none⟩ c7).setCell ⟨I,8,none⟩ c8).heap[I]?=some (.cells #[c0,c1,c2,c3,c4,c5,c6,c7,c8] 53 (0,0)):=by rw[block_setCell h7];rfl
 have k2:Gr w W2:=by rw[<-dy];exact ((hG.setCell (p:=I) uS _).setCell (p:=⟨I,1,none⟩) uS _).setCell (p:=⟨I,2,none⟩) uS _
 have k5:Gr w W5:=by rw[<-fw];exact ((k2.setCell (p:=⟨I,3,none⟩) uS _).setCell (p:=⟨I,4,none⟩) uS _).setCell (p:=⟨I,5,none⟩) uS _
 refine⟨by rw[U15 _ _ _ _ a8,U15 _ _ _ _ a8];exact h8,(((g5.other a8 _).other a8 _).other a8 _).set x y,
  ((((k5.setCell (p:=⟨I,6,none⟩) uS _).setCell (p:=⟨I,7,none⟩) uS _).setCell (p:=⟨I,8,none⟩) uS _).setCell (p:=F) NB _).setCell (p:=⟨F,1,none⟩) NB _,λ k k1 k2=>?_⟩
 rw[U15 _ _ _ _ k2,U15 _ _ _ _ k2,U15 _ _ _ _ k1,U15 _ _ _ _ k1,U15 _ _ _ _ k1,<-fw,U15 _ _ _ _ k1,U15 _ _ _ _ k1,U15 _ _ _ _ k1,<-dy,U15 _ _ _ _ k1,U15 _ _ _ _ k1,U15 _ _ _ _ k1]
theorem ItM.same{W:World}{base:Nat}{it:Pl.It}{kv sv nv:Value}(h:ItM W base it kv sv nv){a b:Nat}:ItM W.drew base { it with a:=a,b:=b } kv sv nv:=⟨h.k.of_block λ _ _=>rfl,h.s.of_block λ _ _=>rfl,(h.gr (Gr.refl W).drew).n⟩
theorem O4p{W:World}{I:Nat}{c0 c1 c2 c3 c4 c5 c6 c7 c8:Value}(h:W.heap[I]?=some (.cells #[c0,c1,c2,c3,c4,c5,c6,c7,c8] 53 (0,0))):(W.cell? I=some c0/\W.cell? ⟨I,1,none⟩=some c1/\W.cell? ⟨I,2,none⟩=some c2/\W.cell? ⟨I,3,none⟩=some c3/\W.cell? ⟨I,4,none⟩=some c4/\W.cell? ⟨I,5,none⟩=some c5/\W.cell? ⟨I,6,none⟩=some c6/\W.cell? ⟨I,7,none⟩=some c7/\W.cell? ⟨I,8,none⟩=some c8)/\(∀o,W.frozen? ⟨I,o,none⟩=false)/\I<W.heap.size :=
 ⟨⟨by rw[cell_of_block h];rfl,by rw[cell_of_block h];rfl,by rw[cell_of_block h];rfl,by rw[cell_of_block h];rfl,by rw[cell_of_block h];rfl,by rw[cell_of_block h];rfl,by rw[cell_of_block h];rfl,by rw[cell_of_block h];rfl,by rw[cell_of_block h];rfl⟩,λ o=>unfrozen_of_block h o,(U18.1 h).1⟩
theorem Ono(T:Nat->UInt8×UInt8)(s:ByteArray)(hs:s.size<=20000000)(n:Nat)(i:Int)(hi:i=n)(hn:n<s.size)(w:World)(hQ:RW T w)(X:V9 Pl.It)(hX:V3v ⟨Vi T,Ve⟩ (bs s) n=X)(a8:X≠.non):Calls prog 59 #[.string s,i] w (Op8 s w X):=by
 subst hi;have hb:=V8 (bs s) n (by rw[O0];omega);rw[O0]at hb;obtain⟨b,jB⟩:=ExZ (V7 (bs s) n)
 rw[jB]at hb;have aA:=hb.2;unfold V3v at hX;rw[jB]at hX;obtain⟨Y,hY⟩:=ExZ (V3l ⟨Vi T,Ve⟩ (bs s) b)
 rw[hY]at hX;have bP:Y≠.non:=λ e=>a8 (by rw[<-hX,e])
 have t1:decide ((n:Int)<0)=false:=Yb;have t2:decide ((s.size:Int)<=(n:Int))=false:=Ye;have t3:decide (s.size<=n)=false:=Ye;have HB:=U10 jB;have HQ:=U10 hQ;have HX:=U10 hX;have nJ:=U10 a8;have NC:=U10 hY;obtain⟨W1,aR⟩:=ExZ ((w.alloc Vdk).alloc (.cells #[(0:Int),(0:Int)] 29))
 have cB:Gr w W1:=by rw[<-aR];exact ((Gr.refl w).alloc _).alloc _
 have C5:W1.heap[w.heap.size]?=some (itO 0 0 0 Vo Vo 0 0 Vo 0):=by rw[<-aR];exact (((Gr.refl _).alloc _).block Yb).trans (U1w w _)
 have dl:FX (w.heap.size+1) (0:Int) (0:Int) W1:=by
  rw[<-aR];have:=FX.new (w.alloc Vdk) (0:Int) (0:Int) 29;exact J5
 have mq:=U10 aR;clear jB hb hX hY hQ a8 aR;go_enter func59,ntmps59;go_wp2_with fail;rw[show ((w.alloc (.cells #[.int .u8 0,(0:Int),(0:Int),.slice none 0 0,.slice none 0 0,(0:Int),(0:Int),.slice none 0 0,(0:Int)] 53)).alloc (.cells #[(0:Int),(0:Int)] 29))=W1 from mq.o];refine (O9 s _ n rfl Ya Ya _).mono ?_;rw[HB.o];rintro e w1 ⟨rfl,g1⟩;have nB:=(g1.block (U18.1 C5).1).trans C5;have eo:=dl.gr g1;have bM:=cB.trans g1;have JY:w.heap.size+1<w1.heap.size:=eo.2.2.2;clear C5 dl cB mq;go_wp2_with fail;refine (Onn T s hs w.heap.size b _ rfl aA w _ bM (U12 _) nB HQ.o Y NC.o bP).mono ?_;clear NC;cases Y with
 |non=>exact absurd rfl bP
 |bad c p =>
  rintro e w2 ⟨rfl,hc,aa,k,a1,a2,kv,sv,va,vb,nv,root,gQ⟩;have df:=eo.st aa Yb;have dj:=aa.below bM (λ k e=>by rw[e];exact U12 _);clear aa eo bM g1 nB;go_wp2_with fail;refine Z242 ?_;intro w3 g3;have gA:Gr w2 w3:=((Gr.refl w2).alloc _).trans g3;have eX:=(FX.new w2 c p 29).gr g3;have vL:=(gA.block (U18.1 gQ).1).trans gQ;have d6:=df.gr gA;have dw:=dj.trans gA;have JZ:=(U18.1 gQ).1;have aM:=df.2.2.2;clear gQ df dj g3 gA;obtain⟨q0,q1,qf,ql⟩:=id eX;go_wp2_with fail;refine Z242 ?_;intro w4 g4;exact J113
 |ok r =>
  obtain⟨m,it⟩:=r;rintro e w2 ⟨rfl,hm,aa,kv,sv,nv,gQ,sR⟩;have df:=eo.st aa Yb;have dj:=aa.below bM (λ k e=>by rw[e];exact U12 _);obtain⟨⟨ka,kn,kc,rfl⟩,⟨sa,sn,sc,rfl⟩,⟨na,nn,nc,rfl⟩⟩:=sR.forms;clear aa eo bM g1 nB;go_wp2_with fail;refine (O22 _).mono ?_;rintro e w3 ⟨rfl,g3⟩;have gA:Gr w2 w3:=((Gr.refl w2).alloc _).trans g3;have eX:=(FX.new w2 (0:Int) (0:Int) 29).gr g3;have vL:=(gA.block (U18.1 gQ).1).trans gQ;have d6:=df.gr gA;have dw:=dj.trans gA;have ND:∀k,k<w2.heap.size->w3.heap[k]?=w2.heap[k]?:=λ k hk=>gA.block hk
  have NE:=gA.size;have JZ:=(U18.1 gQ).1;have aM:=df.2.2.2;have cA:=V5f (bs s) m (by rw[O0];exact hm);clear gQ df dj g3 gA;go_wp2_with fail;refine (Oij s hs m _ rfl hm _).mono ?_;rintro e w5 ⟨hp,g5⟩;have zm:=eX.gr g5;have jJ:=(g5.block (U18.1 vL).1).trans vL;have eL:=d6.gr g5;have dN:=dw.trans g5;have oJ:∀k,k<w2.heap.size->w5.heap[k]?=w2.heap[k]?:=λ k hk=>(g5.block Ya).trans (ND k hk)
  have vJ:w2.heap.size<w5.heap.size:=zm.2.2.2;clear g5 eX vL d6 dw ND;have yp:w.heap.size≠w2.heap.size:=Ya;have sU:w.heap.size+1≠w2.heap.size:=Ya
  unfold V91 at hp;cases hq:V25 (bs s) m with
  |bad c p =>
   rw[hq]at hp HX;simp only at HX;have he:=hp;clear hp;subst he;have hc:c≠0:=(cA.2 c p hq).2;clear hq cA sR oJ;obtain⟨q0,q1,qf,ql⟩:=id zm;have Dp:((w5.setCell w2 c).setCell ⟨w2,1,none⟩ p).heap[w.heap.size]?=some (itO it.kind 0 0 (.slice ka kn kc) (.slice sa sn sc) it.va it.vb (.slice na nn nc) it.root):=by
    rw[U15 _ _ _ _ yp,U15 _ _ _ _ yp];exact jJ
   have Dq:=(eL.other (U3l sU) (b2:=w2.heap.size) (o:=0) c).other (U3l sU) (b2:=w2.heap.size) (o:=1) p;have Dr:=zm.set c p;have Ds:=(dN.setCell (p:=w2) (by show w.heap.size<=w2.heap.size;omega) c).setCell (p:=⟨w2,1,none⟩) (by show w.heap.size<=w2.heap.size;omega) p;go_wp2_with fail;refine Z242 ?_;intro w4 g4;have vL:=Dp;have d6:=Dq;have eX:=Dr;have dw:=Ds;clear jJ eL zm dN Dp Dq Dr Ds;exact J113
  |ok q =>
   rw[hq]at hp HX;simp only at HX;have he:=hp;clear hp;subst he;have UU:=cA.1 q hq;clear hq cA;obtain⟨q0,q1,qf,ql⟩:=id zm;have mK:((w5.setCell w2 (0:Int)).setCell ⟨w2,1,none⟩ (0:Int)).heap[w.heap.size]?=some (itO it.kind 0 0 (.slice ka kn kc) (.slice sa sn sc) it.va it.vb (.slice na nn nc) it.root):=by
    rw[U15 _ _ _ _ yp,U15 _ _ _ _ yp];exact jJ
   have rG:=(eL.other (U3l sU) (b2:=w2.heap.size) (o:=0) (0:Int)).other (U3l sU) (b2:=w2.heap.size) (o:=1) (0:Int);have NF:=zm.set (0:Int) (0:Int);have eR:=(dN.setCell (p:=w2) (by show w.heap.size<=w2.heap.size;omega) (0:Int)).setCell (p:=⟨w2,1,none⟩) (by show w.heap.size<=w2.heap.size;omega) (0:Int);have NG:∀k,k<w2.heap.size->((w5.setCell w2 (0:Int)).setCell ⟨w2,1,none⟩ (0:Int)).heap[k]?=w2.heap[k]?:=λ k hk=>by
    rw[U15 _ _ _ _ (by show k≠w2.heap.size;omega),U15 _ _ _ _ (by show k≠w2.heap.size;omega)];exact oJ k hk
   go_wp2_with fail;refine (O22 _).mono ?_;rintro e w6 ⟨rfl,g6⟩;have tA:w5.heap.size<=w6.heap.size:=by have:=g6.size;simpa [World.setCell]using this
   have uT:=(g6.block (U18.1 mK).1).trans mK;have lY:=rG.gr g6;have J':=NF.gr g6;have oT:=eR.trans g6;have NH:∀k,k<w2.heap.size->w6.heap[k]?=w2.heap[k]?:=λ k hk=>(g6.block (by simp[World.setCell];omega)).trans (NG k hk)
   clear g6 jJ mK eL rG zm NF dN eR oJ NG q0 q1 qf ql;obtain⟨⟨i0,i1,i2,i3,i4,i5,i6,i7,i8⟩,fd,fe⟩:=O1v uT;have sS:((w6.setCell ⟨w,1,none⟩ n).setCell ⟨w,2,none⟩ q).heap[w.heap.size]?=some (itO it.kind n q (.slice ka kn kc) (.slice sa sn sc) it.va it.vb (.slice na nn nc) it.root):=by
    have h1:(w6.setCell ⟨w,1,none⟩ n).heap[w.heap.size]?=some (itO it.kind n 0 (.slice ka kn kc) (.slice sa sn sc) it.va it.vb (.slice na nn nc) it.root):=by rw[block_setCell uT];rfl
    rw[block_setCell h1];rfl
   have sT:=(lY.other (b2:=w.heap.size) (o:=1) Ya n).other (b2:=w.heap.size) (o:=2) Ya q;have K8:=(J'.other (b2:=w.heap.size) (o:=1) Ya n).other (b2:=w.heap.size) (o:=2) Ya q;have BQ:=(oT.setCell (p:=⟨w,1,none⟩) (U12 _) n).setCell (p:=⟨w,2,none⟩) (U12 _) q;have K9:∀k,w1.heap.size<=k->k<w2.heap.size->((w6.setCell ⟨w,1,none⟩ n).setCell ⟨w,2,none⟩ q).heap[k]?=w2.heap[k]?:=λ k dB hk=>by
    rw[U15 _ _ _ _ (by show k≠w.heap.size;omega),U15 _ _ _ _ (by show k≠w.heap.size;omega)];exact NH k hk
   have Cx:((w6.setCell ⟨w,1,none⟩ n).setCell ⟨w,2,none⟩ q).heap.size=w6.heap.size:=by simp[World.setCell]
   obtain⟨q0,q1,qf,ql⟩:=id J';go_wp2_with fail;obtain⟨W8,mL⟩:=ExZ ((w6.setCell ⟨w,1,none⟩ n).setCell ⟨w,2,none⟩ q)
   rw[mL]at sS sT K8 BQ K9 Cx⊢;clear mL uT lY J' oT NH i0 i1 i2 i3 i4 i5 i6 i7 i8 fd fe q0 q1 qf ql;obtain⟨⟨i0,i1,i2,i3,i4,i5,i6,i7,i8⟩,fd,fe⟩:=O1v sS;obtain⟨q0,q1,qf,ql⟩:=id K8;obtain⟨v0,v1,vf,vl⟩:=id sT;obtain⟨zI,zF,zG,zK⟩:=O8i sS sT (Nat.ne_of_lt (Nat.lt_succ_self _)) BQ (U12 _) (U2t _) (.int .u8 it.kind) n q (.slice ka kn kc) (.slice sa sn sc) it.va it.vb (.slice na nn nc) it.root (0:Int) (0:Int);obtain⟨WF,ao⟩:=ExZ ((((((((((((W8.setCell w (.int .u8 it.kind)).setCell ⟨w,1,none⟩ n).setCell ⟨w,2,none⟩ q).setCell ⟨w,3,none⟩ (.slice ka kn kc)).setCell ⟨w,4,none⟩ (.slice sa sn sc)).setCell ⟨w,5,none⟩ it.va).setCell ⟨w,6,none⟩ it.vb).setCell ⟨w,7,none⟩ (.slice na nn nc)).setCell ⟨w,8,none⟩ it.root).setCell (w.heap.size+1:Nat) (0:Int)).setCell ⟨w+1,1,none⟩ (0:Int)))
   have UV:WF.heap.size=W8.heap.size:=by rw[<-ao];simp[World.setCell]
   rw[ao]at zI zF zG zK;have mY:=U10 ao;have RY:Hid (ItM WF w1.heap.size it (.slice ka kn kc) (.slice sa sn sc) (.slice na nn nc)):=U10 (sR.kept (λ k o hk ho _=>by
    have a9:=(U18.1 ho).1;exact ((zK k Ya Ya).trans (K9 k hk a9)).trans ho) Ya)
   clear ao K9 zK sR
   go_region
   all_goals rw[mY.o]
   all_goals clear mY i0 i1 i2 i3 i4 i5 i6 i7 i8 fd fe v0 v1 vf vl q0 q1 qf ql sS sT K8 BQ
   all_goals obtain⟨⟨i0,i1,i2,i3,i4,i5,i6,i7,i8⟩,fd,fe⟩:=O4p zI
   all_goals obtain⟨v0,v1,vf,vl⟩:=id zF
   all_goals go_wp2_with fail
   all_goals refine U11 (v:=.tuple #[itV it.kind n q (.slice ka kn kc) (.slice sa sn sc) it.va it.vb (.slice na nn nc) it.root,f0]) (by simp[results,results59,go_sem,i0,i1,i2,i3,i4,i5,i6,i7,i8,v0,v1]) rfl ?_
   all_goals rw[<-HX.o]
   all_goals exact⟨_,_,_,rfl,ItM.same (RY.o.low Ya),zG.drew⟩
end
