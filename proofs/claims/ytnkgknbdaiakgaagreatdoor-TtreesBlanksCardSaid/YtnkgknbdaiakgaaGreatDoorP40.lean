/- The proof's part 40. -/
import Derived.Test.YtnkgknbdaiakgaaGreatDoorP32
set_option maxHeartbeats 16000000
set_option linter.all false
set_option maxRecDepth 100000
namespace Go.Proofs.YtnkgknbdaiakgaaGreatDoor
open Pl Go.Proofs.Tryz Go.RowKit Go.Shelf Go.Joins
attribute [local go_sem] Uy
theorem O8f{w2:World}{I F:Nat}{k:Nat}{a b:Int}{kv sv:Value}{va vb:Int}{nv:Value}{root:Int}{x0 y0:Value}(hI:w2.heap[I]?=some (itO k a b kv sv va vb nv root))(hF:FX F x0 y0 w2)(a8:I≠F){w:World}(hG:Gr w w2)(tV:w.heap.size<=I)(Mt:w.heap.size<=F)(c0 c1 c2 c3 c4 c5 c6 c7 c8 x y:Value) :
    (((((((((((w2.setCell ⟨I,0,none⟩ c0).setCell ⟨I,1,none⟩ c1).setCell ⟨I,2,none⟩ c2).setCell ⟨I,3,none⟩ c3).setCell ⟨I,4,none⟩ c4).setCell ⟨I,5,none⟩ c5).setCell ⟨I,6,none⟩ c6).setCell ⟨I,7,none⟩ c7).setCell ⟨I,8,none⟩ c8).setCell ⟨F,0,none⟩ x).setCell ⟨F,1,none⟩ y).heap[I]?=some (.cells #[c0,c1,c2,c3,c4,c5,c6,c7,c8] 53 (0,0)) /\
    FX F x y (((((((((((w2.setCell ⟨I,0,none⟩ c0).setCell ⟨I,1,none⟩ c1).setCell ⟨I,2,none⟩ c2).setCell ⟨I,3,none⟩ c3).setCell ⟨I,4,none⟩ c4).setCell ⟨I,5,none⟩ c5).setCell ⟨I,6,none⟩ c6).setCell ⟨I,7,none⟩ c7).setCell ⟨I,8,none⟩ c8).setCell ⟨F,0,none⟩ x).setCell ⟨F,1,none⟩ y) /\
    Gr w (((((((((((w2.setCell ⟨I,0,none⟩ c0).setCell ⟨I,1,none⟩ c1).setCell ⟨I,2,none⟩ c2).setCell ⟨I,3,none⟩ c3).setCell ⟨I,4,none⟩ c4).setCell ⟨I,5,none⟩ c5).setCell ⟨I,6,none⟩ c6).setCell ⟨I,7,none⟩ c7).setCell ⟨I,8,none⟩ c8).setCell ⟨F,0,none⟩ x).setCell ⟨F,1,none⟩ y) /\
    (∀k,k≠I->k≠F->(((((((((((w2.setCell ⟨I,0,none⟩ c0).setCell ⟨I,1,none⟩ c1).setCell ⟨I,2,none⟩ c2).setCell ⟨I,3,none⟩ c3).setCell ⟨I,4,none⟩ c4).setCell ⟨I,5,none⟩ c5).setCell ⟨I,6,none⟩ c6).setCell ⟨I,7,none⟩ c7).setCell ⟨I,8,none⟩ c8).setCell ⟨F,0,none⟩ x).setCell ⟨F,1,none⟩ y).heap[k]?=w2.heap[k]?):=by
 have h0:(w2.setCell ⟨I,0,none⟩ c0).heap[I]?=some (.cells #[c0,a,b,kv,sv,va,vb,nv,root] 53 (0,0)):=by rw[block_setCell hI];rfl
 have h1:((w2.setCell ⟨I,0,none⟩ c0).setCell ⟨I,1,none⟩ c1).heap[I]?=some (.cells #[c0,c1,b,kv,sv,va,vb,nv,root] 53 (0,0)):=by rw[block_setCell h0];rfl
 have h2:(((w2.setCell ⟨I,0,none⟩ c0).setCell ⟨I,1,none⟩ c1).setCell ⟨I,2,none⟩ c2).heap[I]?=some (.cells #[c0,c1,c2,kv,sv,va,vb,nv,root] 53 (0,0)):=by rw[block_setCell h1];rfl
 obtain⟨W2,dU⟩:=ExZ (((w2.setCell ⟨I,0,none⟩ c0).setCell ⟨I,1,none⟩ c1).setCell ⟨I,2,none⟩ c2)
 have g2:FX F x0 y0 W2:=by rw[<-dU];exact ((hF.other a8 _).other a8 _).other a8 _
 rw[dU]at h2⊢;have h3:(W2.setCell ⟨I,3,none⟩ c3).heap[I]?=some (.cells #[c0,c1,c2,c3,sv,va,vb,nv,root] 53 (0,0)):=by rw[block_setCell h2];rfl
 have h4:((W2.setCell ⟨I,3,none⟩ c3).setCell ⟨I,4,none⟩ c4).heap[I]?=some (.cells #[c0,c1,c2,c3,c4,va,vb,nv,root] 53 (0,0)):=by rw[block_setCell h3];rfl
 have h5:(((W2.setCell ⟨I,3,none⟩ c3).setCell ⟨I,4,none⟩ c4).setCell ⟨I,5,none⟩ c5).heap[I]?=some (.cells #[c0,c1,c2,c3,c4,c5,vb,nv,root] 53 (0,0)):=by rw[block_setCell h4];rfl
 obtain⟨W5,jx⟩:=ExZ (((W2.setCell ⟨I,3,none⟩ c3).setCell ⟨I,4,none⟩ c4).setCell ⟨I,5,none⟩ c5)
 have g5:FX F x0 y0 W5:=by rw[<-jx];exact ((g2.other a8 _).other a8 _).other a8 _
 rw[jx]at h5⊢;have h6:(W5.setCell ⟨I,6,none⟩ c6).heap[I]?=some (.cells #[c0,c1,c2,c3,c4,c5,c6,nv,root] 53 (0,0)):=by rw[block_setCell h5];rfl
 have h7:((W5.setCell ⟨I,6,none⟩ c6).setCell ⟨I,7,none⟩ c7).heap[I]?=some (.cells #[c0,c1,c2,c3,c4,c5,c6,c7,root] 53 (0,0)):=by rw[block_setCell h6];rfl
 have h8:(((W5.setCell ⟨I,6,none⟩ c6).setCell ⟨I,7,none⟩ c7).setCell ⟨I,8,none⟩ c8).heap[I]?=some (.cells #[c0,c1,c2,c3,c4,c5,c6,c7,c8] 53 (0,0)):=by rw[block_setCell h7];rfl
 have k2:Gr w W2:=by rw[<-dU];exact ((hG.setCell (p:=⟨I,0,none⟩) tV _).setCell (p:=⟨I,1,none⟩) tV _).setCell (p:=⟨I,2,none⟩) tV _
 have k5:Gr w W5:=by rw[<-jx];exact ((k2.setCell (p:=⟨I,3,none⟩) tV _).setCell (p:=⟨I,4,none⟩) tV _).setCell (p:=⟨I,5,none⟩) tV _
 refine⟨by rw[U5 _ _ _ _ a8,U5 _ _ _ _ a8];exact h8,(((g5.other a8 _).other a8 _).other a8 _).set x y,
  ((((k5.setCell (p:=⟨I,6,none⟩) tV _).setCell (p:=⟨I,7,none⟩) tV _).setCell (p:=⟨I,8,none⟩) tV _).setCell (p:=⟨F,0,none⟩) Mt _).setCell (p:=⟨F,1,none⟩) Mt _,λ k k1 k2=>?_⟩
 rw[U5 _ _ _ _ k2,U5 _ _ _ _ k2,U5 _ _ _ _ k1,U5 _ _ _ _ k1,U5 _ _ _ _ k1,<-jx,U5 _ _ _ _ k1,U5 _ _ _ _ k1,U5 _ _ _ _ k1,<-dU,U5 _ _ _ _ k1,U5 _ _ _ _ k1,U5 _ _ _ _ k1]
theorem ItM.same{W:World}{base:Nat}{it:Pl.It}{kv sv nv:Value}(h:ItM W base it kv sv nv){a b:Nat}:ItM W.drew base { it with a:=a,b:=b } kv sv nv:=⟨h.k.of_block λ _ _=>rfl,h.s.of_block λ _ _=>rfl,(h.gr (Gr.refl W).drew).n⟩
theorem O4k{W:World}{I:Nat}{c0 c1 c2 c3 c4 c5 c6 c7 c8:Value}(h:W.heap[I]?=some (.cells #[c0,c1,c2,c3,c4,c5,c6,c7,c8] 53 (0,0))) :
    (W.cell? ⟨I,0,none⟩=some c0/\W.cell? ⟨I,1,none⟩=some c1/\W.cell? ⟨I,2,none⟩=some c2/\W.cell? ⟨I,3,none⟩=some c3/\W.cell? ⟨I,4,none⟩=some c4/\W.cell? ⟨I,5,none⟩=some c5/\W.cell? ⟨I,6,none⟩=some c6/\W.cell? ⟨I,7,none⟩=some c7/\W.cell? ⟨I,8,none⟩=some c8)/\(∀o,W.frozen? ⟨I,o,none⟩=false)/\I<W.heap.size :=
 ⟨⟨by rw[cell_of_block h];rfl,by rw[cell_of_block h];rfl,by rw[cell_of_block h];rfl,by rw[cell_of_block h];rfl,by rw[cell_of_block h];rfl,by rw[cell_of_block h];rfl,by rw[cell_of_block h];rfl,by rw[cell_of_block h];rfl,by rw[cell_of_block h];rfl⟩,λ o=>unfrozen_of_block h o,(U8.1 h).1⟩
theorem Omr(T:Nat->UInt8×UInt8)(s:ByteArray)(hs:s.size<=20000000)(n:Nat)(i:Int)(hi:i=n)(hn:n<s.size)(w:World)(hQ:RW T w)(X:Va Pl.It)(hX:V2h ⟨Vj T,Vd⟩ (bs s) n=X)(a8:X ≠ .non) :
    Calls prog 59 #[.string s,i] w (Oox s w X):=by
 subst hi;have hb:=V8 (bs s) n (by rw[O0];omega);rw[O0]at hb;obtain⟨b,jb⟩:=ExZ (V7 (bs s) n)
 rw[jb]at hb;have aA:=hb.2;unfold V2h at hX;rw[jb]at hX;obtain⟨Y,hY⟩:=ExZ (V2d ⟨Vj T,Vd⟩ (bs s) b)
 rw[hY]at hX;have bH:Y ≠ .non:=λ e=>a8 (by rw[<-hX,e])
 have t1:decide ((n:Int)<0)=false:=by simp
 have t2:decide ((s.size:Int)<=(n:Int))=false:=by simp;omega
 have t3:decide (s.size<=n)=false:=by simp;omega
 have HB:=U0 jb;have HQ:=U0 hQ;have HX:=U0 hX;have mO:=U0 a8;have Mu:=U0 hY;obtain⟨W1,aQ⟩:=ExZ ((w.alloc Vd8).alloc (.cells #[(0:Int),(0:Int)] 29))
 have cy:Gr w W1:=by rw[<-aQ];exact ((Gr.refl w).alloc _).alloc _
 have Bc:W1.heap[w.heap.size]?=some (itO 0 0 0 Vn Vn 0 0 Vn 0):=by rw[<-aQ];exact (((Gr.refl _).alloc _).block (by simp)).trans (U10 w _)
 have dl:FX (w.heap.size+1) (0:Int) (0:Int) W1:=by
  rw[<-aQ];have:=FX.new (w.alloc Vd8) (0:Int) (0:Int) 29;exact J15
 have lS:=U0 aQ;clear jb hb hX hY hQ a8 aQ;go_enter func59,ntmps59;go_wp2_with fail;rw[show ((w.alloc (.cells #[.int .u8 0,(0:Int),(0:Int),.slice none 0 0,.slice none 0 0,(0:Int),(0:Int),.slice none 0 0,(0:Int)] 53)).alloc (.cells #[(0:Int),(0:Int)] 29))=W1 from lS.o];refine (O9 s _ n rfl (by omega) (by omega) _).mono ?_;rw[HB.o];rintro e w1 ⟨rfl,g1⟩;have mJ:=(g1.block (U8.1 Bc).1).trans Bc;have dY:=dl.gr g1;have bC:=cy.trans g1;have IN:w.heap.size+1<w1.heap.size:=dY.2.2.2;clear Bc dl cy lS;go_wp2_with fail;refine (Omq T s hs w.heap.size b _ rfl aA w _ bC (U2 _) mJ HQ.o Y Mu.o bH).mono ?_;clear Mu;cases Y with
 |non=>exact absurd rfl bH
 |bad c p =>
  rintro e w2 ⟨rfl,hc,a9,k,a1,a2,kv,sv,va,vb,nv,root,gL⟩;have df:=dY.st a9 (by simp);have dh:=a9.below bC (λ k e=>by rw[e];exact U2 _);clear a9 dY bC g1 mJ;go_wp2_with fail;refine Z240 ?_;intro w3 g3;have gA:Gr w2 w3:=((Gr.refl w2).alloc _).trans g3;have eT:=(FX.new w2 c p 29).gr g3;have uF:=(gA.block (U8.1 gL).1).trans gL;have d7:=df.gr gA;have du:=dh.trans gA;have IP:=(U8.1 gL).1;have aJ:=df.2.2.2;clear gL df dh g3 gA;obtain⟨q0,q1,qf,ql⟩:=id eT;go_wp2_with fail;refine Z240 ?_;intro w4 g4;exact J112
 |ok r =>
  obtain⟨m,it⟩:=r;rintro e w2 ⟨rfl,hm,a9,kv,sv,nv,gL,rD⟩;have df:=dY.st a9 (by simp);have dh:=a9.below bC (λ k e=>by rw[e];exact U2 _);obtain⟨⟨ka,kn,kc,rfl⟩,⟨sa,sn,sc,rfl⟩,⟨na,nn,nc,rfl⟩⟩:=rD.forms;clear a9 dY bC g1 mJ;go_wp2_with fail;refine (O23 _).mono ?_;rintro e w3 ⟨rfl,g3⟩;have gA:Gr w2 w3:=((Gr.refl w2).alloc _).trans g3;have eT:=(FX.new w2 (0:Int) (0:Int) 29).gr g3;have uF:=(gA.block (U8.1 gL).1).trans gL;have d7:=df.gr gA;have du:=dh.trans gA;have Mv:∀k,k<w2.heap.size->w3.heap[k]?=w2.heap[k]?:=λ k hk=>gA.block hk
  have Mw:=gA.size;have IP:=(U8.1 gL).1;have aJ:=df.2.2.2;have cX:=V4n (bs s) m (by rw[O0];exact hm);clear gL df dh g3 gA;go_wp2_with fail;refine (Ohn s hs m _ rfl hm _).mono ?_;rintro e w5 ⟨hp,g5⟩;have yu:=eT.gr g5;have jl:=(g5.block (U8.1 uF).1).trans uF;have eF:=d7.gr g5;have dJ:=du.trans g5;have nJ:∀k,k<w2.heap.size->w5.heap[k]?=w2.heap[k]?:=λ k hk=>(g5.block (by omega)).trans (Mv k hk)
  have uE:w2.heap.size<w5.heap.size:=yu.2.2.2;clear g5 eT uF d7 du Mv;have xb:w.heap.size≠w2.heap.size:=by omega
  have rK:w.heap.size+1≠w2.heap.size:=by omega
  unfold V91 at hp;cases hq:V1b (bs s) m with
  |bad c p =>
   rw[hq]at hp HX;simp only at HX;have he:=hp;clear hp;subst he;have hc:c≠0:=(cX.2 c p hq).2;clear hq cX rD nJ;obtain⟨q0,q1,qf,ql⟩:=id yu;have CA:((w5.setCell ⟨w2.heap.size,0,none⟩ c).setCell ⟨w2.heap.size,1,none⟩ p).heap[w.heap.size]?=some (itO it.kind 0 0 (.slice ka kn kc) (.slice sa sn sc) it.va it.vb (.slice na nn nc) it.root):=by
    rw[U5 _ _ _ _ xb,U5 _ _ _ _ xb];exact jl
   have CB:=(eF.other (U2k rK) (b2:=w2.heap.size) (o:=0) c).other (U2k rK) (b2:=w2.heap.size) (o:=1) p;have CC:=yu.set c p;have CD:=(dJ.setCell (p:=⟨w2.heap.size,0,none⟩) (by show w.heap.size<=w2.heap.size;omega) c).setCell (p:=⟨w2.heap.size,1,none⟩) (by show w.heap.size<=w2.heap.size;omega) p;go_wp2_with fail;refine Z240 ?_;intro w4 g4;have uF:=CA;have d7:=CB;have eT:=CC;have du:=CD;clear jl eF yu dJ CA CB CC CD;exact J112
  |ok q =>
   rw[hq]at hp HX;simp only at HX;have he:=hp;clear hp;subst he;have Tv:=cX.1 q hq;clear hq cX;obtain⟨q0,q1,qf,ql⟩:=id yu;have mc:((w5.setCell ⟨w2.heap.size,0,none⟩ (0:Int)).setCell ⟨w2.heap.size,1,none⟩ (0:Int)).heap[w.heap.size]?=some (itO it.kind 0 0 (.slice ka kn kc) (.slice sa sn sc) it.va it.vb (.slice na nn nc) it.root):=by
    rw[U5 _ _ _ _ xb,U5 _ _ _ _ xb];exact jl
   have pW:=(eF.other (U2k rK) (b2:=w2.heap.size) (o:=0) (0:Int)).other (U2k rK) (b2:=w2.heap.size) (o:=1) (0:Int);have Mx:=yu.set (0:Int) (0:Int);have eN:=(dJ.setCell (p:=⟨w2.heap.size,0,none⟩) (by show w.heap.size<=w2.heap.size;omega) (0:Int)).setCell (p:=⟨w2.heap.size,1,none⟩) (by show w.heap.size<=w2.heap.size;omega) (0:Int);have My:∀k,k<w2.heap.size->((w5.setCell ⟨w2.heap.size,0,none⟩ (0:Int)).setCell ⟨w2.heap.size,1,none⟩ (0:Int)).heap[k]?=w2.heap[k]?:=λ k hk=>by
    rw[U5 _ _ _ _ (by show k≠w2.heap.size;omega),U5 _ _ _ _ (by show k≠w2.heap.size;omega)];exact nJ k hk
   go_wp2_with fail;refine (O23 _).mono ?_;rintro e w6 ⟨rfl,g6⟩;have se:w5.heap.size<=w6.heap.size:=by have:=g6.size;simpa [World.setCell]using this
   have tW:=(g6.block (U8.1 mc).1).trans mc;have lD:=pW.gr g6;have IQ:=Mx.gr g6;have nM:=eN.trans g6;have Mz:∀k,k<w2.heap.size->w6.heap[k]?=w2.heap[k]?:=λ k hk=>(g6.block (by simp[World.setCell];omega)).trans (My k hk)
   clear g6 jl mc eF pW yu Mx dJ eN nJ My q0 q1 qf ql;obtain⟨⟨i0,i1,i2,i3,i4,i5,i6,i7,i8⟩,eZ,f7⟩:=O1v tW;have rE:((w6.setCell ⟨w.heap.size,1,none⟩ n).setCell ⟨w.heap.size,2,none⟩ q).heap[w.heap.size]?=some (itO it.kind n q (.slice ka kn kc) (.slice sa sn sc) it.va it.vb (.slice na nn nc) it.root):=by
    have h1:(w6.setCell ⟨w.heap.size,1,none⟩ n).heap[w.heap.size]?=some (itO it.kind n 0 (.slice ka kn kc) (.slice sa sn sc) it.va it.vb (.slice na nn nc) it.root):=by rw[block_setCell tW];rfl
    rw[block_setCell h1];rfl
   have rF:=(lD.other (b2:=w.heap.size) (o:=1) (by omega) n).other (b2:=w.heap.size) (o:=2) (by omega) q;have IR:=(IQ.other (b2:=w.heap.size) (o:=1) (by omega) n).other (b2:=w.heap.size) (o:=2) (by omega) q;have AX:=(nM.setCell (p:=⟨w.heap.size,1,none⟩) (U2 _) n).setCell (p:=⟨w.heap.size,2,none⟩) (U2 _) q;have IT:∀k,w1.heap.size<=k->k<w2.heap.size->((w6.setCell ⟨w.heap.size,1,none⟩ n).setCell ⟨w.heap.size,2,none⟩ q).heap[k]?=w2.heap[k]?:=λ k dw hk=>by
    rw[U5 _ _ _ _ (by show k≠w.heap.size;omega),U5 _ _ _ _ (by show k≠w.heap.size;omega)];exact Mz k hk
   have BP:((w6.setCell ⟨w.heap.size,1,none⟩ n).setCell ⟨w.heap.size,2,none⟩ q).heap.size=w6.heap.size:=by simp[World.setCell]
   obtain⟨q0,q1,qf,ql⟩:=id IQ;go_wp2_with fail;obtain⟨W8,mq⟩:=ExZ ((w6.setCell ⟨w.heap.size,1,none⟩ n).setCell ⟨w.heap.size,2,none⟩ q)
   rw[mq]at rE rF IR AX IT BP⊢;clear mq tW lD IQ nM Mz i0 i1 i2 i3 i4 i5 i6 i7 i8 eZ f7 q0 q1 qf ql;obtain⟨⟨i0,i1,i2,i3,i4,i5,i6,i7,i8⟩,eZ,f7⟩:=O1v rE;obtain⟨q0,q1,qf,ql⟩:=id IR;obtain⟨v0,v1,vf,vl⟩:=id rF;obtain⟨zI,zF,zG,zK⟩:=O8f rE rF (Nat.ne_of_lt (Nat.lt_succ_self _)) AX (U2 _) (U1w _) (.int .u8 it.kind) n q (.slice ka kn kc) (.slice sa sn sc) it.va it.vb (.slice na nn nc) it.root (0:Int) (0:Int);obtain⟨WF,am⟩:=ExZ ((((((((((((W8.setCell ⟨w.heap.size,0,none⟩ (.int .u8 it.kind)).setCell ⟨w.heap.size,1,none⟩ n).setCell ⟨w.heap.size,2,none⟩ q).setCell ⟨w.heap.size,3,none⟩ (.slice ka kn kc)).setCell ⟨w.heap.size,4,none⟩ (.slice sa sn sc)).setCell ⟨w.heap.size,5,none⟩ it.va).setCell ⟨w.heap.size,6,none⟩ it.vb).setCell ⟨w.heap.size,7,none⟩ (.slice na nn nc)).setCell ⟨w.heap.size,8,none⟩ it.root).setCell ⟨w.heap.size+1,0,none⟩ (0:Int)).setCell ⟨w.heap.size+1,1,none⟩ (0:Int)))
   have Tw:WF.heap.size=W8.heap.size:=by rw[<-am];simp[World.setCell]
   rw[am]at zI zF zG zK;have oA:=U0 am;have QD:Hid (ItM WF w1.heap.size it (.slice ka kn kc) (.slice sa sn sc) (.slice na nn nc)):=U0 (rD.kept (λ k o hk ho _=>by
    have aa:=(U8.1 ho).1;exact ((zK k (by omega) (by omega)).trans (IT k hk aa)).trans ho) (by omega))
   clear am IT zK rD
   go_region
   all_goals rw[oA.o]
   all_goals clear oA i0 i1 i2 i3 i4 i5 i6 i7 i8 eZ f7 v0 v1 vf vl q0 q1 qf ql rE rF IR AX
   all_goals obtain⟨⟨i0,i1,i2,i3,i4,i5,i6,i7,i8⟩,eZ,f7⟩:=O4k zI
   all_goals obtain⟨v0,v1,vf,vl⟩:=id zF
   all_goals go_wp2_with fail
   all_goals refine U1 (v := .tuple #[itV it.kind n q (.slice ka kn kc) (.slice sa sn sc) it.va it.vb (.slice na nn nc) it.root,f0]) (by simp[results,results59,go_sem,i0,i1,i2,i3,i4,i5,i6,i7,i8,v0,v1]) rfl ?_
   all_goals rw[<-HX.o]
   all_goals exact⟨_,_,_,rfl,ItM.same (QD.o.low (by omega)),zG.drew⟩
