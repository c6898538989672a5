/- The proof's part 45. -/
import Derived.Test.YtnkgknbdaiakgaaGreatDoorP15
import Derived.Test.YtnkgknbdaiakgaaGreatDoorP44
set_option maxHeartbeats 16000000
set_option linter.all false
set_option maxRecDepth 100000
namespace Go.Proofs.YtnkgknbdaiakgaaGreatDoor
open Pl Go.Proofs.Tryz Go.RowKit Go.Shelf Go.Joins
attribute [local go_sem] Uy
theorem O9e{w:World}{base n:Nat}{v:Value}{xs:List Value}(h:V26 w base 9 1 v n xs)(W:World):Calls prog 21 #[v] W λ e w'=>e = .returned (O4 v)/\W=w':=by
 rcases Or h with⟨rfl,_⟩|⟨g,cap,rfl,h1,h2⟩
 exact O80 W
 exact O3u g n cap h1 h2 W
theorem O8g{w:World}{base n:Nat}{v:Value}{xs:List Value}(h:V26 w base 38 2 v n xs)(W:World):Calls prog 22 #[v] W λ e w'=>e = .returned (O4 v)/\W=w':=by
 rcases Or h with⟨rfl,_⟩|⟨g,cap,rfl,h1,h2⟩
 exact O6x W
 exact O4v g n cap h1 h2 W
theorem GrV.start(w:World)(base:Nat)(s:ByteArray)(hb:base<=w.heap.size) :
    GrV ((w.alloc (.map #[] 0)).alloc (.cells #[Vn,(0:Int),.string s,.map (some w.heap.size),(0:Int),(0:Int),(0:Int),Vn,Vn] 69)) (w.heap.size+1) w.heap.size base s 0 Vn [] (λ k=>if k=w.heap.size+1 then 1 else if k=w.heap.size then 2 else 0) [] ⟨0,0,0,Vn,Vn⟩:=by
 refine⟨?_,by simp,?_,On _ _ _ _,O6a _ _,?_,λ i r hr=>by simp at hr,?_,rfl⟩;have:=U10 (w.alloc (.map #[] 0)) (.cells #[Vn,(0:Int),.string s,.map (some w.heap.size),(0:Int),(0:Int),(0:Int),Vn,Vn] 69);exact J15;rw[Ud (by omega),Ua rfl];refine⟨.map [],?_,⟨[],rfl⟩,λ i=>rfl⟩;have h1:(w.alloc (.map #[] 0)).ownsMap prog 3 sortR w.heap.size 0 (.map []):=World.ownsMap_made _ _ _ _;exact Oe h1 (((Gr.refl _).alloc _).block (by simp))
 exact J157
theorem V5t.treeG{w7 wr wF:World}{R B base g cap:Nat}{s:ByteArray}{root:Int}{L:List Vw}{own:Nat->Nat}{so:List (Nat×Nat)}{x:GrX}(h:V5t w7 R base g cap L L.length wr)(hr:GrV w7 R B base s root (.slice (some ⟨g,0,none⟩) L.length cap) L own so x)
    (hb:∀k,own k≠0->own k≠1->wF.heap[k]?=wr.heap[k]?)(hz:wr.heap.size<=wF.heap.size):V2n wF base g (L.map O1a):=by
 have dM:own g=3:=hr.oN g rfl;have aY:=hr.lt g (by omega);have e:(L.take L.length).map O1a++L.drop L.length=L.map O1a:=by simp
 have h1:=h.1;rw[e]at h1;refine⟨⟨aY.1,U4 aY.2 (Uj h.2.2.1 hz)⟩,λ i r hi j v hv=>?_,λ i r hi=>?_,own,dM,λ i r hi=>?_⟩;exact J57
 ·rw[Uq]at hi;cases hx:L[i]? with
  |none=>rw[hx]at hi;cases hi
  |some x =>
  rw[hx]at hi;cases hi;have hR:=hr.rows i x hx;have hb:∀k t,own k=t->4<=t->wF.heap[k]?=w7.heap[k]?:=λ k t e h4=>(hb k (by omega) (by omega)).trans (h.2.1 k (hr.lt k (by omega)).2 (λ e2=>by subst e2;omega))
  exact⟨O36 (hR.k.of_block λ k e=>hb k _ (hR.tk k e) (by omega)),O36 (hR.s.of_block λ k e=>hb k _ (hR.ts k e) (by omega)),O36 (hR.u.of_block λ k e=>hb k _ (hR.tu k e) (by omega))⟩
 exact J141
def Olf(w:World)(base R:Nat)(its:List Pl.It)(ns:List Int):Prop :=
 ∃(iv nsv:Value)(xs:List Value),w.cell? ⟨R,7,none⟩=some iv/\w.cell? ⟨R,8,none⟩=some nsv/\w.ownsRow base 53 9 iv its.length xs/\V6n xs its/\w.ownsRow base 3 1 nsv its.length (ns.map λ z=>Value.int .i64 z)
def Oo4(w:World)(X:Va Vb)(e:Ending)(w':World):Prop:=match X with
 |.non=>True
 |.bad c p=>e = .returned (.tuple #[.pointer none,fv c p])/\c≠0/\Gr w w'
 |.ok g=>∃(R gn:Nat)(L:List Vw),e = .returned (.tuple #[.pointer (some ⟨R,0,none⟩),f0])/\R<w'.heap.size/\w.heap.size<=R/\w'.cell? ⟨R,0,none⟩=some (.slice (some ⟨gn,0,none⟩) L.length L.length)/\w'.cell? ⟨R,1,none⟩=some (.int .i64 0)/\L.map (·.nd)=g.nds/\V2n w' w.heap.size gn L/\Gr w w'/\Olf w' (w.heap.size+1) R g.its g.ns
def Oo5(E:Vz)(s:ByteArray)(w:World)(R B:Nat)(X:Va Vb)(k:Nat)(v:Value)(wr:World):Prop :=
 ∃(m:Nat)(g:Vb)(nv:Value)(L:List Vw)(own:Nat->Nat)(x:GrX),v = .int .i64 m/\Pl.grownF E (bs s) k m g=X/\GM wr R B (w.heap.size+1) s nv L own x g/\GI wr (w.heap.size+1) own x.iv x.nsv g.its g.ns/\FX w.heap.size (0:Int) (0:Int) wr/\Gr w wr/\0<g.nds.length
theorem O7l(Tb:Nat->UInt8×UInt8)(w:World)(bO:RW Tb w)(s:ByteArray)(hs:s.size<=20000000)(ba:Option Addr)(bn bc:Nat)(dK:∀W,Gr w W->(convert 22 9 (.slice ba bn bc)).run prog W = .ok (.string s) W)(X:Va Vb)(hX:V11 ⟨Vj Tb,Vd⟩ (bs s)=X)(a8:X ≠ .non) :
    Calls prog 17 #[.slice ba bn bc] w (Oo4 w X):=by
 have HX:=U0 hX;have is:=U0 bO;have mO:=U0 a8;have PV := @run_makeMap prog;obtain⟨jT,g0,z0⟩:=bx2 w (0:Int) (0:Int) 29;obtain⟨W0,aM⟩:=ExZ (w.alloc (.cells #[(0:Int),(0:Int)] 29))
 rw[aM]at jT g0 z0;have JZ:=dK W0 g0;have bL:=GrV.start W0 (w.heap.size+1) s (by omega);have EZ:=U0 aM;clear hX bO a8;go_enter func17,ntmps17
 go_upto_region 1 with fail
 try rw[show w.alloc (.cells #[(0:Int),(0:Int)] 29)=W0 from EZ.o]
 clear aM;go_wp2_with fail;rw[z0]at bL;obtain⟨W1,aQ⟩:=ExZ ((W0.alloc (.map #[] 0)).alloc (.cells #[Vn,(0:Int),.string s,.map (some (w.heap.size+1)),(0:Int),(0:Int),(0:Int),Vn,Vn] 69))
 have g1:Gr W0 W1:=by rw[<-aQ];exact ((Gr.refl W0).alloc _).alloc _
 have z1:W1.heap.size=w.heap.size+1+1+1:=by rw[<-aQ];simp[z0]
 rw[aQ]at bL⊢;clear aQ JZ;refine (O6n W1 (w.heap.size+1+1) (w.heap.size+1) (w.heap.size+1) s 0 Vn [] _ [] _ bL (by simp) (by simp) 8 (1,0)).mono ?_;rintro e w1 ⟨he,jZ,aC,gX,iu,mn⟩;subst he;obtain⟨⟨c0,c1,c2,c3,c4,c5,c6⟩,c7,c8,fz⟩:=gX.cells;have fJ:=gX.R_lt.2;have Rw:=iu.size;have Ng:FX w.heap.size (0:Int) (0:Int) w1:=(jT.gr g1).st iu (λ e=>by
  replace e:(if w.heap.size=w.heap.size+1+1 then (1:Nat) else if w.heap.size=w.heap.size+1 then 2 else 0)≠0:=e
  rw[Ud (by omega),Ud (by omega)]at e;exact e rfl)
 have cy:Gr w w1:=iu.below (g0.trans g1) (λ k e=>by
  replace e:(if k=w.heap.size+1+1 then (1:Nat) else if k=w.heap.size+1 then 2 else 0)≠0:=e
  by_cases h1:k=w.heap.size+1+1;omega
  rw[Ud h1]at e;by_cases h2:k=w.heap.size+1;omega
  rw[Ud h2]at e;exact absurd rfl e)
 have iP:=gX.setSec 0 1 0 (U2 _);have Nh:((w1.setCell ⟨w.heap.size+1+1,4,none⟩ (.int .i64 ((0:Nat):Int))).setCell ⟨w.heap.size+1+1,5,none⟩ (.int .i64 ((1:Nat):Int))).cell? ⟨w.heap.size+1+1,6,none⟩=some (.int .i64 ((0:Nat):Int)):=by
  rw[Um _ _ _ _ (by simp),Um _ _ _ _ (by simp)];exact c6
 rw[O5 Nh]at iP;have J':St (FV aC) (FV aC) w1 ((w1.setCell ⟨w.heap.size+1+1,4,none⟩ (.int .i64 ((0:Nat):Int))).setCell ⟨w.heap.size+1+1,5,none⟩ (.int .i64 ((1:Nat):Int))):=by
  have ek:FV aC (w.heap.size+1+1):=by unfold FV;rw[gX.oR];omega
  exact ((St.refl (FV aC) w1).setCell (p:=⟨w.heap.size+1+1,4,none⟩) (.inl ek) _).setCell (p:=⟨w.heap.size+1+1,5,none⟩) (.inl ek) _
 have o0:aC w.heap.size=0:=Ue λ h=>by have:=(gX.lt _ h).1;omega
 have dY:=Ng.st J' (λ e=>e o0);have bC:Gr w ((w1.setCell ⟨w.heap.size+1+1,4,none⟩ (.int .i64 ((0:Nat):Int))).setCell ⟨w.heap.size+1+1,5,none⟩ (.int .i64 ((1:Nat):Int))):=J'.below cy (λ k e=>by have:=(gX.lt k e).1;omega);have Ee:=U0 c1;go_wp2_with fail;rw[O5 Ee.o];obtain⟨W2,dU⟩:=ExZ ((w1.setCell ⟨w.heap.size+1+1,4,none⟩ (0:Int)).setCell ⟨w.heap.size+1+1,5,none⟩ (1:Int))
 have EU:GrV W2 (w.heap.size+1+1) (w.heap.size+1) (w.heap.size+1) s 0 jZ [Of 8] aC [(1,0)] ⟨0,1,0,Vn,Vn⟩:=by rw[<-dU];exact iP
 have df:FX w.heap.size (0:Int) (0:Int) W2:=by rw[<-dU];exact dY
 have dh:Gr w W2:=by rw[<-dU];exact bC
 rw[dU];have K8:=U0 EU;have Ez:=U0 df;have wI:=U0 dh;clear dU iP EU dY df bC dh J' Nh Ng cy c0 c1 c2 c3 c4 c5 c6 c7 c8 fz gX iu mn bL g1 jT g0
 go_loopg [5] ((bs s).length+1) (λ k v wr=>Oo5 ⟨Vj Tb,Vd⟩ s w (w.heap.size+1+1) (w.heap.size+1) X k v wr)
 case atStart =>
  exact⟨0,V4w,jZ,[Of 8],aC,⟨0,1,0,Vn,Vn⟩,rfl,HX.o,⟨K8.o,rfl,rfl,rfl,rfl⟩,⟨⟨[],On _ _ _ _,rfl⟩,On _ _ _ _,λ k e=>by simp[Value.ownBlock]at e,λ k e=>by simp[Value.ownBlock]at e,λ k e=>by simp[Value.ownBlock]at e⟩,Ez.o,wI.o,by decide⟩
 case round =>
  obtain⟨m,g,nv,L,own,x,rfl,ey,cE,tQ,kF,cH,eu⟩:=hrel;obtain⟨gk,rfl⟩:∃f,gk=f+1:=by
   cases gk with
   |zero=>exact absurd ey.symm mO.o
   |succ f=>exact⟨f,rfl⟩
  rw[Pl.grownF,O0]at ey;obtain⟨⟨c0,c1,c2,c3,c4,c5,c6⟩,c7,c8,fz⟩:=cE.v.cells;have hR:=cE.v.R_lt.2;have bG:=U0 cE;have kG:=U0 tQ;have eo:=U0 kF;have km:=U0 cH;by_cases K9:m<s.size
  ·rw[Ua K9]at ey;have d1:decide ((m:Int)<(s.size:Int))=true:=by simp;omega
   have d2:decide (m<s.size)=true:=by simp;omega
   cases cJ:V6t g with
   |false=>rw[cJ,Ud (by simp)]at ey;exact absurd ey.symm mO.o
   |true =>
    rw[cJ,Ua rfl]at ey;obtain⟨Y,hY⟩:=ExZ (V23 ⟨Vj Tb,Vd⟩ (bs s) m g)
    rw[hY]at ey;have bH:Y ≠ .non:=λ e=>by rw[e]at ey;exact mO.o ey.symm
    have Dm:=U0 (Omu Tb w wr cH is.o (w.heap.size+1+1) (w.heap.size+1) (w.heap.size+1) (by omega) s hs nv L own x g cE cJ tQ m K9 Y hY bH);have Ad:=U0 ey;have HY:=U0 hY;clear ey cE tQ kF cH c0 c1 c3 c4 c5 c6 c7 c8 fz hY cJ;go_wp2_with fail;refine Dm.o.mono ?_;cases Y with
    |non=>exact absurd rfl bH
    |bad c p =>
     rintro e w2 ⟨he,dT,hU⟩;subst he;have dY:=eo.o.st hU (by omega);have bC:Gr w w2:=hU.below km.o (λ k e=>by omega);refine Z157 ?_;intro W3 bQ kO hT g3 z3;clear bQ c2;go_wp2_with fail
     try rw[show w2.alloc (.cells #[c,p] 29)=W3 from kO.o]
     refine Z180 ?_;intro w4 g4;have Ao:=hT.gr g4;have d7:=(dY.gr g3).gr g4;have du:=(bC.trans g3).trans g4;have yO:w.heap.size≠w2.heap.size:=by have:=dY.2.2.2;omega
     obtain⟨p0,p1,pf,pl⟩:=id d7
     go_upto_region 8 with fail
     have hS:=Ao.gr (Gr.refl w4).drew;refine Reg.begin' (W:=λ i=>i != 2) (S:=FX w2.heap.size c p) (by kernel_rfl) ?_;refine Reg.tl 0 hS ?_ (hy:=by intro w ab;obtain⟨s0,s1,s2,s3⟩:=ab;go_simp;try with_reducible rfl);refine Reg.on 1 ?_;go_simp;refine Z2 ?_;refine Reg.on 2 ?_;refine Z293 ?_;go_wp2_with fail;have vG:=d7.set c p;have nB:=(du.setCell (p:=⟨w.heap.size,0,none⟩) (U2 _) c).setCell (p:=⟨w.heap.size,1,none⟩) (U2 _) p;obtain⟨WF,am⟩:=ExZ ((w4.setCell ⟨w.heap.size,0,none⟩ c).setCell ⟨w.heap.size,1,none⟩ p)
     rw[am]at vG nB;rw[am];obtain⟨q0,q1,qf,ql⟩:=vG.gr (Gr.refl WF).drew;have ey:=Ad.o
     try simp only at ey
     rw[<-ey];exact U1 (v := .tuple #[.pointer none,fv c p]) (by simp[results,results17,go_sem,q0,q1,qf,ql]) rfl ⟨rfl,dT,nB.drew⟩
    |ok r =>
     obtain⟨e1,g2⟩:=r;rintro e w2 ⟨ib,L2,ad,x2,he,cq,Ka,hU⟩;subst he;have dY:=eo.o.st hU (by omega);have bC:Gr w w2:=hU.below km.o (λ k e=>by omega);refine Z127 ?_;intro hT g3 z3;clear c2;go_wp2_with fail;refine Z187 ?_;intro w4 g4;have kI:=g3.trans g4;go_wp2_with fail
     go_roundg gk
     case rel =>
      have ey:=Ad.o
      try simp only at ey
      exact⟨e1,g2,ib,L2,ad,x2,rfl,ey,cq.gr kI,Ka.gr kI,dY.gr kI,bC.trans kI,U4 eu (Ok4 HY.o)⟩
     case measure=>first|omega|(simp;done)|(simp;omega)
  rw[Ud K9]at ey;have d1:decide ((m:Int)<(s.size:Int))=false:=by simp;omega
  have d2:decide (m<s.size)=false:=by simp;omega
  subst ey;obtain⟨gn,cap,cur,yi,lW,aY,dM,nR,sB,ld,bZ,tN,yQ,zJ⟩:=bG.o.v.form (by rw[<-bG.o.nd,Ul]at eu;exact eu);subst yi;have k9:V5t wr (w.heap.size+1+1) (w.heap.size+1) gn cap L 0 wr:=by
   refine⟨?_,λ _ _ _=>rfl,U2 _,rfl,rfl,rfl⟩
   simpa using bG.o.v.nodes
  have qE:=U0 k9;have PX:L.length<=9223372036854775807:=by unfold maxLen at yQ;omega
  have qF:=U0 (show L.length<=cap/\cap<=9223372036854775807 from ⟨tN,by unfold maxLen at yQ;omega⟩);have Rx:=c1;clear ld bZ zJ k9 yQ cE tQ kF cH c1 c3 c4 c5 c6 c7 c8;obtain⟨wo,ID⟩:∃wo,wo=wr:=⟨_,rfl⟩
  subst ID;go_wp2_with fail
  go_loopw [55] (λ v W=>∃j:Nat,v = .int .i64 j/\j<=L.length/\V5t wo (w.heap.size+1+1) (w.heap.size+1) gn cap L j W) (λ v _=>L.length-(intOf v).toNat)
  case atStart=>exact⟨0,rfl,U1p _,qE.o⟩
  case round =>
   obtain⟨j,rfl,hj,hcut⟩:=hrel;have dq:=U0 hcut;have EA:w.heap.size+1+1≠gn:=U2k nR;have xj:=bG.o.v.R_lt.2;have nx:=hcut.2.1 (w.heap.size+1+1) xj EA;have q0:wr.cell? ⟨w.heap.size+1+1,0,none⟩=some (.slice (some ⟨gn,0,none⟩) L.length cap):=(Us (w:=wo) (a:=⟨w.heap.size+1+1,0,none⟩) nx).trans c0;have q1:wr.cell? ⟨w.heap.size+1+1,1,none⟩=some (.int .i64 0):=(Us (w:=wo) (a:=⟨w.heap.size+1+1,1,none⟩) nx).trans Rx;have qz:∀o,wr.frozen? ⟨w.heap.size+1+1,o,none⟩=false:=λ o=>(U25 (w:=wo) (a:=⟨w.heap.size+1+1,o,none⟩) nx).trans (fz o)
   clear hcut nx;by_cases vx:j<L.length
   ·have e1:decide ((j:Int)<(L.length:Int))=true:=by simp;omega
    have e2:decide (j<L.length)=true:=by simp;omega
    refine Z291 ?_;intro i1;have i2:(j:Int)<(L.length:Int):=by omega
    refine Z194 ?_;intro wj;obtain⟨rj,qG⟩:∃rj,L[j]?=some rj:=⟨_,Uh vx⟩
    have PY:=U0 qG;have nE:=U0 (bG.o.v.rows j rj qG);have hS:O54 gn j rj wr.drew:=dq.o.cells rj qG;have cd:=dq.o.step rj qG;obtain⟨ka,kn,Cd⟩:=O3y nE.o.k;obtain⟨sa,sn,Ce⟩:=O3y nE.o.s;obtain⟨ua,un,Cf⟩:=O3y nE.o.u;have kD:=O9e nE.o.k;have yg:=O8g nE.o.s;have yh:=O4i nE.o.u;rw[Cd]at kD cd;rw[Ce]at yg cd;rw[Cf]at yh cd;have iA:=U0 kD;have KU:=U0 yg;have KV:=U0 yh;have jN:=U0 cd;clear qG cd Cd Ce Cf kD yg yh
    go_upto_region 14 with fail
    refine Reg.begin' (W:=λ i=>i != 20&&i != 23&&i != 26) (S:=O54 gn j rj) (by kernel_rfl) ?_;refine Z301 ?_;obtain⟨p1,p2,p3,pf⟩:=(show O54 gn j rj wr from hS)
    exact J169
   have e1:decide ((j:Int)<(L.length:Int))=false:=by simp;omega
   have e2:decide (j<L.length)=false:=by simp;omega
   have Ii:j=L.length:=by omega
   subst Ii;have eF:FX w.heap.size (0:Int) (0:Int) wr:=eo.o.of_block (dq.o.2.1 _ eo.o.2.2.2 (by omega)) dq.o.2.2.1;have dJ:Gr w wr:=dq.o.gr km.o (by omega);have TN:w.heap.size+1+1<wr.heap.size:=U4 xj dq.o.2.2.1;obtain⟨p0,p1,pf,pl⟩:=id eF;go_wp2_with fail;refine (O82 gn L.length cap qF.o.1 qF.o.2 _).mono ?_;rintro e w3 ⟨rfl,Jg⟩;subst w3;go_wp2_with fail;obtain⟨wS,fA⟩:=ExZ (wr.setCell ⟨w.heap.size+1+1,0,none⟩ (.slice (some ⟨gn,0,none⟩) L.length L.length))
   have dT:wS.cell? ⟨w.heap.size+1+1,0,none⟩=some (.slice (some ⟨gn,0,none⟩) L.length L.length):=by rw[<-fA,U1u _ _ _ (by rw[q0];rfl)]
   have ah:wS.cell? ⟨w.heap.size+1+1,1,none⟩=some (.int .i64 0):=by rw[<-fA,Um _ _ _ _ (by simp)];exact q1
   have lN:FX w.heap.size (0:Int) (0:Int) wS:=by rw[<-fA];exact eF.other (by omega) _
   have Ry:Gr w wS:=by rw[<-fA];exact dJ.setCell (p:=⟨w.heap.size+1+1,0,none⟩) (by show w.heap.size<=w.heap.size+1+1;omega) _
   have Rz:∀k,own k≠0->own k≠1->wS.heap[k]?=wr.heap[k]?:=by
    rw[<-fA];intro k h0 h1;exact U5 _ _ _ _ (λ e=>by rw[show k=w.heap.size+1+1 from e]at h1;exact h1 bG.o.v.oR)
   have RA:wr.heap.size=wS.heap.size:=by rw[<-fA];simp[World.setCell]
   have qU:=dq.o.treeG bG.o.v Rz (U39 RA);have DN:Olf wS (w.heap.size+1) (w.heap.size+1+1) g.its g.ns:=by
    obtain⟨⟨xs,i1,i2⟩,i3,i4,i5,_⟩:=kG.o;obtain⟨_,c7,c8,_⟩:=bG.o.v.cells;have hk:∀k,k<wo.heap.size->own k=0->wS.heap[k]?=wo.heap[k]?:=λ k h1 h0=>by
     have h2:k≠w.heap.size+1+1:=λ e=>by rw[e,bG.o.v.oR]at h0;cases h0
     rw[<-fA,U5 _ _ _ _ h2];exact dq.o.2.1 k h1 (λ e=>by rw[e,dM]at h0;cases h0)
    have Ni:∀o,o≠0->wS.cell? ⟨w.heap.size+1+1,o,none⟩=wo.cell? ⟨w.heap.size+1+1,o,none⟩:=λ o ho=>by
     rw[<-fA,Um _ _ _ _ (by first|(simp;done)|(simp;omega))];exact Us (w:=wo) (a:=⟨w.heap.size+1+1,o,none⟩) (dq.o.2.1 _ xj EA)
    exact⟨x.iv,x.nsv,xs,(Ni 7 (by decide)).trans c7,(Ni 8 (by decide)).trans c8,O1 i1 λ k e=>hk k (i1.lt k e).2 (i4 k e),i2,O1 i3 λ k e=>hk k (i3.lt k e).2 (i5 k e)⟩
   rw[fA];rw[O5 lN.1,O5 lN.2.1];obtain⟨JV,JW,JX,JY⟩:=id lN;refine U1 (v := .tuple #[.pointer (some ⟨w.heap.size+1+1,0,none⟩),f0]) (by simp[results,results17,go_sem,JV,JW,JX,JY]) rfl ?_;refine⟨w.heap.size+1+1,gn,L.map O1a,rfl,by omega,by omega,by rw[Ul];exact dT,ah,?_,?_,Ry,DN⟩;rw[<-bG.o.nd,List.map_map];rfl
   exact qU.low (by omega)
def Oo6(w:World)(X:Va Vb)(e:Ending)(w':World):Prop:=match X with
 |.non=>True
 |.bad c p=>e = .returned (.tuple #[.agg #[Vn,(0:Int)],fv c p])/\c≠0/\Gr w w'
 |.ok g=>∃(gn:Nat)(L:List Vw),e = .returned (.tuple #[.agg #[.slice (some ⟨gn,0,none⟩) L.length L.length,(0:Int)],f0])/\L.map (·.nd)=g.nds/\V2n w' w.heap.size gn L/\Gr w w'
structure Vbq(R z:Nat)(v0 v1 x y:Value)(w:World):Prop where
 c0:w.cell? ⟨R,0,none⟩=some v0
 c1:w.cell? ⟨R,1,none⟩=some v1
 f:FX z x y w
theorem O56(Tb:Nat->UInt8×UInt8)(w:World)(bO:RW Tb w)(s:ByteArray)(hs:s.size<=20000000)(ba:Option Addr)(bn bc:Nat)(dK:∀W,Gr w W->(convert 22 9 (.slice ba bn bc)).run prog W = .ok (.string s) W)(X:Va Vb)(hX:V11 ⟨Vj Tb,Vd⟩ (bs s)=X)(a8:X ≠ .non) :
    Calls prog 7 #[.slice ba bn bc] w (Oo6 w X):=by
 obtain⟨hA,gA,zA⟩:=bx2 w Vn (0:Int) 26;obtain⟨W0,aM⟩:=ExZ (w.alloc (.cells #[Vn,(0:Int)] 26))
 rw[aM]at hA gA zA;refine Z102 ?_;intro W1 aQ gB hB zB;have vO:=gA.trans gB;have rA:=hA.gr gB;have eX:=U0 (O7l Tb W1 (bO.gr vO) s hs ba bn bc (λ W q=>dK W (vO.trans q)) X hX a8);have EZ:=U0 aM;have lS:=U0 aQ;clear aM aQ hX bO dK hA;go_enter func7,ntmps7;go_wp2_with fail;rw[show (w.alloc (.cells #[.slice none 0 0,(0:Int)] 26)).alloc (.cells #[(0:Int),(0:Int)] 29)=W1 from by rw[show w.alloc (.cells #[.slice none 0 0,(0:Int)] 26)=W0 from EZ.o];exact lS.o];refine eX.o.mono ?_;clear eX EZ lS;cases X with
 |non=>exact absurd rfl a8
 |bad c p =>
  rintro e w2 ⟨he,dT,g2⟩;subst he;refine Z157 ?_;intro W3 bQ kO hT g3 z3;clear bQ;go_wp2_with fail;rw[show w2.alloc (.cells #[c,p] 29)=W3 from kO.o];refine Z180 ?_;intro w4 g4;have aJ:=g2.size;have gE:=(g2.trans g3).trans g4;have Ao:=hT.gr g4;have yR:=rA.gr gE;have qI:=hB.gr gE;obtain⟨p0,p1,pf,pl⟩:=id yR;obtain⟨p2,p3,fC,fD⟩:=id qI
  go_upto_region 3 with fail
  have hS:=Ao.gr (Gr.refl w4).drew;refine Reg.begin' (W:=λ i=>i != 3) (S:=FX w2.heap.size c p) (by kernel_rfl) ?_;refine Reg.ty 0 ?_;refine Reg.tl 1 hS ?_ (hy:=by intro w ab;obtain⟨s0,s1,s2,s3⟩:=ab;go_simp;try with_reducible rfl);refine Reg.on 2 ?_;go_simp;rw[O5 yR.1,O5 yR.2.1];refine⟨by first|exact hS|exact λ _=>hS|exact λ _ _=>hS,?_⟩;refine Reg.pt ?_;refine Z189 ?_;refine Z2 ?_;refine Z12 ?_;go_wp2_with fail;have uG:=qI.set c p;have E':=(yR.other (b2:=w.heap.size+1) (o:=0) (by omega) c).other (b2:=w.heap.size+1) (o:=1) (by omega) p;have nB:=((vO.trans gE).setCell (p:=⟨w.heap.size+1,0,none⟩) (U1w _) c).setCell (p:=⟨w.heap.size+1,1,none⟩) (U1w _) p;obtain⟨WF,am⟩:=ExZ ((w4.setCell ⟨w.heap.size+1,0,none⟩ c).setCell ⟨w.heap.size+1,1,none⟩ p)
  rw[am]at uG E' nB;rw[am];obtain⟨q0,q1,qf,ql⟩:=E'.gr (Gr.refl WF).drew;obtain⟨y0,y1,yf,yl⟩:=uG.gr (Gr.refl WF).drew;exact U1 (v := .tuple #[.agg #[Vn,(0:Int)],fv c p]) (by simp[results,results7,go_sem,q0,q1,qf,ql,y0,y1,yf,yl]) rfl ⟨rfl,dT,nB.drew⟩
 |ok g =>
  rintro e w2 ⟨R,gn,L,he,m7,oE,dT,ah,bP,qU,g2,_⟩;subst he;refine Z127 ?_;intro hT g3 z3;obtain⟨W3,bQ⟩:=ExZ (w2.alloc (.cells #[(0:Int),(0:Int)] 29))
  rw[bQ]at hT g3 z3;have kO:=U0 bQ;clear bQ;go_wp2_with fail;rw[show w2.alloc (.cells #[(0:Int),(0:Int)] 29)=W3 from kO.o];refine Z187 ?_;intro w4 g4;have aJ:=g2.size;have kI:=g3.trans g4;have gE:=g2.trans kI;have Ao:=hT.gr g4;have yR:=rA.gr gE;have qI:=hB.gr gE;have k0:=(kI.use.1 R 0 m7).trans dT;have k1:=(kI.use.1 R 1 m7).trans ah;have RC:=U4 m7 kI.size;obtain⟨p0,p1,pf,pl⟩:=id yR;obtain⟨p2,p3,fC,fD⟩:=id qI;have qJ:=U0 qU;clear qU dT ah
  go_upto_region 4 with fail
  have hS:Vbq R w2.heap.size (.slice (some ⟨gn,0,none⟩) L.length L.length) (0:Int) (0:Int) (0:Int) w4.drew:=⟨k0,k1,Ao.gr (Gr.refl w4).drew⟩
  refine Reg.begin' (W:=λ i=>i != 6) (S:=Vbq R w2.heap.size (.slice (some ⟨gn,0,none⟩) L.length L.length) (0:Int) (0:Int) (0:Int)) (by kernel_rfl) ?_;refine Z32 ?_;refine Reg.tl 3 hS ?_ (hy:=by intro w ab;obtain⟨s0,s1,⟨s2,s3,s4,s5⟩⟩:=ab;go_simp;try with_reducible rfl);refine Reg.tl 4 hS ?_ (hy:=by intro w ab;obtain⟨s0,s1,⟨s2,s3,s4,s5⟩⟩:=ab;go_simp;try with_reducible rfl);refine Reg.on 5 ?_;go_simp;have eM:Vbq R w2.heap.size (.slice (some ⟨gn,0,none⟩) L.length L.length) (0:Int) (0:Int) (0:Int) ((w4.setCell ⟨w.heap.size,0,none⟩ (.slice (some ⟨gn,0,none⟩) L.length L.length)).setCell ⟨w.heap.size,1,none⟩ (0:Int)).drew:=by
   refine⟨?_,?_,((Ao.other (by omega) _).other (by omega) _).gr (Gr.refl _).drew⟩;show ((w4.setCell _ _).setCell _ _).cell? _=_;refine Z87 ?_;exact k0
   show ((w4.setCell _ _).setCell _ _).cell? _=_;refine Z87 ?_;exact k1
  refine⟨by first|exact eM|exact λ _=>eM|exact λ _ _=>eM,?_⟩;refine Reg.pt ?_;refine Reg.on 6 ?_;refine Z293 ?_;go_wp2_with fail;have cC:=fx2 yR qI (by omega) (vO.trans gE) (U2 _) (U1w _) (.slice (some ⟨gn,0,none⟩) L.length L.length) (0:Int) (0:Int) (0:Int);have cR:∀k,k≠w.heap.size->k≠w.heap.size+1->((((w4.setCell ⟨w.heap.size,0,none⟩ (.slice (some ⟨gn,0,none⟩) L.length L.length)).setCell ⟨w.heap.size,1,none⟩ (0:Int)).setCell ⟨w.heap.size+1,0,none⟩ (0:Int)).setCell ⟨w.heap.size+1,1,none⟩ (0:Int)).heap[k]?=w4.heap[k]?:=λ k h1 h2=>by
   rw[U5 _ _ _ _ h2,U5 _ _ _ _ h2,U5 _ _ _ _ h1,U5 _ _ _ _ h1]
  have iB:((((w4.setCell ⟨w.heap.size,0,none⟩ (.slice (some ⟨gn,0,none⟩) L.length L.length)).setCell ⟨w.heap.size,1,none⟩ (0:Int)).setCell ⟨w.heap.size+1,0,none⟩ (0:Int)).setCell ⟨w.heap.size+1,1,none⟩ (0:Int)).heap.size=w4.heap.size:=by simp[World.setCell]
  obtain⟨WF,am⟩:=ExZ ((((w4.setCell ⟨w.heap.size,0,none⟩ (.slice (some ⟨gn,0,none⟩) L.length L.length)).setCell ⟨w.heap.size,1,none⟩ (0:Int)).setCell ⟨w.heap.size+1,0,none⟩ (0:Int)).setCell ⟨w.heap.size+1,1,none⟩ (0:Int))
  rw[am]at cC cR iB;rw[am];obtain⟨E',uG,nB⟩:=cC;obtain⟨q0,q1,qf,ql⟩:=E'.gr (Gr.refl WF).drew;obtain⟨y0,y1,yf,yl⟩:=uG.gr (Gr.refl WF).drew;refine U1 (v := .tuple #[.agg #[.slice (some ⟨gn,0,none⟩) L.length L.length,(0:Int)],f0]) (by simp[results,results7,go_sem,q0,q1,qf,ql,y0,y1,yf,yl]) rfl ⟨gn,L,rfl,bP,?_,nB.drew⟩;exact (((qJ.o.gr kI).keptB (λ k h1 _=>cR k (by omega) (by omega)) (U39 iB.symm)).gr (Gr.refl WF).drew).low (by omega)
theorem Och(Tb:Nat->UInt8×UInt8)(w:World)(bO:RW Tb w)(s:ByteArray)(hs:s.size<=20000000)(ba:Option Addr)(bn bc:Nat)(dK:∀W,Gr w W->(convert 22 9 (.slice ba bn bc)).run prog W = .ok (.string s) W)(c p:Nat)(hX:V11 ⟨Vj Tb,Vd⟩ (bs s) = .bad c p) :
    Calls prog 12 #[.slice ba bn bc] w λ e w'=>e = .returned (.tuple #[Vn,Vn])/\Gr w w':=by
 have eX:=U0 (O7l Tb w bO s hs ba bn bc dK _ hX (by simp));clear hX bO dK;go_enter func12,ntmps12;go_wp2_with fail;refine eX.o.mono ?_;rintro e w2 ⟨he,dT,g2⟩;subst he;refine Z157 ?_;intro W3 bQ kO hT g3 z3;clear bQ;go_wp2_with fail;rw[show w2.alloc (.cells #[c,p] 29)=W3 from kO.o];refine Z180 ?_;intro w4 g4;go_wp2_with fail;exact U1 (v := .tuple #[Vn,Vn]) (by simp[results,results12,go_sem]) rfl ⟨rfl,(g2.trans g3).trans g4⟩
def V5d(PT:Lib.PrintTabs)(l:Pl.Bs):Pl.Bs:=(Lib.quoteZ PT ⟨l.toArray⟩).map λ n=>UInt8.ofNat n.toNat
structure TxW(PT:Lib.PrintTabs)(w:World):Prop where
 int:V3z w
 pr:Lib.PrintTabsAt 7 8 9 10 PT w
 u8:Lib.Utf8Tabs 4 5 w
theorem TxW.gr{PT:Lib.PrintTabs}{w w':World}(h:TxW PT w)(g:Gr w w'):TxW PT w':=⟨h.int.gr g,printTabs_below h.pr g,Utf8Tabs_below h.u8 g⟩
theorem O3l(a b:ByteArray):bs (a++b)=bs a++bs b:=by
 show (a++b).data.toList=_;rw[U1n,Array.toList_append]
theorem Oci(PT:Lib.PrintTabs)(l:Pl.Bs)(hl:l.length<=1000000)(w:World)(hw:TxW PT w) :
    Calls prog 29 #[.string ⟨l.toArray⟩] w λ e w'=>∃q:ByteArray,e = .returned (.string q)/\bs q=V5d PT l/\Gr w w':=by
 refine (strconv_Quote PT ⟨l.toArray⟩ w ?_ hw.pr hw.u8).mono ?_
 have:(⟨l.toArray⟩:ByteArray).size=l.length:=by simp[ByteArray.size]
 omega
 rintro e w' ⟨rfl,hb⟩;exact⟨_,rfl,rfl,hb⟩
structure TxS(z b g k:Nat)(v0 v1:Value)(n c u:Nat)(w:World):Prop where
 t:FX z v0 v1 w
 b4:w.cell? ⟨b,4,none⟩=some (.slice (some ⟨g,0,none⟩) n c)
 u:w.cell? ⟨g,k,none⟩=some (.int .i64 u)
theorem TxS.gr{z b g k:Nat}{v0 v1:Value}{n c u:Nat}{w w':World}(h:TxS z b g k v0 v1 n c u w)(q:Gr w w'):TxS z b g k v0 v1 n c u w' :=
 ⟨h.t.gr q,(q.use.1 _ _ (Lib.lt_of_cell h.b4)).trans h.b4,(q.use.1 _ _ (Lib.lt_of_cell h.u)).trans h.u⟩
theorem Oem(PT:Lib.PrintTabs):∀(f i:Nat)(t:Pl.Bs)(w:World)(_:TxW PT w)(base gn:Nat)(L:List Vw)(_:V2n w base gn L)(_:V59 (L.map (·.nd))=true)(_:L.length<=1000000)(_:i<=1000000)(_:V25 (V5d PT) (L.map (·.nd)) f i=some t)(_:t.length<=1000000000000000000)(root:Int),
    Calls prog 11 #[.agg #[.slice (some ⟨gn,0,none⟩) L.length L.length,root],i] w λ e w'=>∃q:ByteArray,e = .returned (.string q)/\bs q=t/\Gr w w':=by
 intro f
 induction f with
 |zero=>intro i t w _ base gn L _ _ _ _ h _ root;cases h
 |succ f ih =>
  intro i t w hw base gn L hT xB uX eK h LF root;obtain⟨Ah,gW,zW⟩:=bx2 w (.slice (some ⟨gn,0,none⟩) L.length L.length) root 26;obtain⟨W,hW⟩:=ExZ (w.alloc (.cells #[.slice (some ⟨gn,0,none⟩) L.length L.length,root] 26))
  rw[hW]at Ah gW zW;have HW:=U0 hW;have wH:=U0 Ah;have HG:=U0 gW;have HT:=U0 (hT.gr gW);have rO:=U0 (hw.gr gW);have F1:=U0 xB;have RD:=U0 ih;obtain⟨p0,p1,pf,pl⟩:=Ah;have i0:decide ((i:Int)<0)=false:=by simp
  unfold V25 at h;rw[Uq]at h;clear hW hw hT xB ih gW zW;cases hr:L[i]? with
  |none =>
   rw[hr]at h;simp only[Option.map_none,Uc]at h;subst h;have GZ:L.length<=i:=by simpa using hr
   have d1:decide ((L.length:Int)<=(i:Int))=true:=by simp;omega
   have d2:decide (L.length<=i)=true:=by simp;omega
   go_enter func11,ntmps11
   go_upto_region 1 with fail
   rw[show w.alloc (.cells #[.slice (some ⟨gn,0,none⟩) L.length L.length,root] 26)=W from HW.o];go_wp2_with fail;exact U1 (v := .string ⟨#[]⟩) (by simp[results,results11,go_sem]) rfl ⟨_,rfl,rfl,HG.o⟩
  |some r =>
   rw[hr]at h;simp only[U18]at h;have RE:i<L.length:=(U7.1 hr).1;have d1:decide ((L.length:Int)<=(i:Int))=false:=by simp;omega
   have d2:decide (L.length<=i)=false:=by simp;omega
   refine Z140 ?_;intro j1 j2;obtain⟨u,hu⟩:∃u,V1v (V25 (V5d PT) (L.map (·.nd)) f) (V5d PT) r.nd.keys r.nd.subs=some u:=by
    cases hs:V1v (V25 (V5d PT) (L.map (·.nd)) f) (V5d PT) r.nd.keys r.nd.subs with
    |none=>rw[hs]at h;cases h
    |some u=>exact⟨u,rfl⟩
   rw[hu]at h;simp only[Uc]at h;have ue:=F1.o;unfold V59 at ue;rw[U1g]at ue;have Nj:=ue r.nd (List.mem_map_of_mem (U1r hr));simp only[Uf,Ux,U1g]at Nj;obtain⟨⟨⟨⟨hk,ht⟩,pi⟩,nY⟩,ED⟩:=Nj;have cX:∀m v,(ndV r)[m]?=some v->W.cell? ⟨gn,i*7+m,none⟩=some v:=λ m v hv=>HT.o.cell i r hr m v hv
   obtain⟨F3,Nk,F4⟩:=HT.o.rows i r hr;obtain⟨ka,kc,rZ⟩:∃a c,r.kv = .slice a r.nd.keys.length c:=by
    rcases Or F3 with⟨e,e2⟩|⟨g,c,e,_,_⟩
    exact J60
    exact⟨_,_,e⟩
   obtain⟨sa,sc,kQ⟩:∃a c,r.sv = .slice a r.nd.spots.length c:=by
    rcases Or Nk with⟨e,e2⟩|⟨g,c,e,_,_⟩
    exact J60
    exact⟨_,_,e⟩
   obtain⟨ua,uc,lQ⟩:∃a c,r.uv = .slice a r.nd.subs.length c:=by
    rcases Or F4 with⟨e,e2⟩|⟨g,c,e,_,_⟩
    exact J60
    exact⟨_,_,e⟩
   have q0:W.cell? ⟨gn,i*7,none⟩=some (.int .u8 r.nd.kind):=cX 0 (.int .u8 r.nd.kind) rfl;refine Z162 ?_;intro q1 q2 q3 q4 q5 q6;rw[rZ]at F3;rw[lQ]at F4;have rt:=U0 F3;have Kb:=U0 F4;have HU:=U0 hu;have H:=U0 h;have RF:=U0 pi;have RH:=U0 ED;have ao:t.length=(Lib.itoa (r.nd.kind:Int)).length+((V5d PT r.nd.text).length+u.length):=by rw[<-h];simp
   clear h hu cX F3 Nk F4 rZ kQ lQ pi ED ue hr;go_enter func11,ntmps11
   go_upto_region 1 with fail
   rw[show w.alloc (.cells #[.slice (some ⟨gn,0,none⟩) L.length L.length,root] 26)=W from HW.o]
   go_upto_region 4 with fail
   have vA:=U10 W (.cells #[.int .u8 r.nd.kind,.string ⟨r.nd.text.toArray⟩,.slice ka r.nd.keys.length kc,.slice sa r.nd.spots.length sc,.slice ua r.nd.subs.length uc,r.nd.sp.1,r.nd.sp.2] 40);have g1:Gr W (W.alloc (.cells #[.int .u8 r.nd.kind,.string ⟨r.nd.text.toArray⟩,.slice ka r.nd.keys.length kc,.slice sa r.nd.spots.length sc,.slice ua r.nd.subs.length uc,r.nd.sp.1,r.nd.sp.2] 40)):=(Gr.refl W).alloc _;obtain⟨W1,aQ⟩:=ExZ (W.alloc (.cells #[.int .u8 r.nd.kind,.string ⟨r.nd.text.toArray⟩,.slice ka r.nd.keys.length kc,.slice sa r.nd.spots.length sc,.slice ua r.nd.subs.length uc,r.nd.sp.1,r.nd.sp.2] 40))
   rw[aQ]at vA g1⊢;clear aQ q0 q1 q2 q3 q4 q5 q6 p0 p1 pf pl;have Mk:=U0 vA;have dW:=U0 g1;obtain⟨⟨b0,b1,b2,b3,b4,b5,b6⟩,bf,bl⟩:=Oc7 vA;have hS:W1.drew.cell? ⟨W.heap.size,0,none⟩=some (.int .u8 r.nd.kind)/\W1.drew.cell? ⟨W.heap.size,1,none⟩=some (.string ⟨r.nd.text.toArray⟩):=⟨b0,b1⟩
   have wk:IntKind.i64.wrap (r.nd.kind:Int)=(r.nd.kind:Int):=Uk _ ⟨by omega,by omega⟩;have Kc:=U0 (λ W (q:TxW PT W)=>strconv_Itoa (r.nd.kind:Int) (by omega) (by omega) W q.int.pow);have RJ:=U0 (λ W (q:TxW PT W)=>Oci PT r.nd.text ht W q);refine Reg.begin' (W:=λ _=>true) (S:=λ V=>V.cell? ⟨W.heap.size,0,none⟩=some (.int .u8 r.nd.kind)/\V.cell? ⟨W.heap.size,1,none⟩=some (.string ⟨r.nd.text.toArray⟩)) (by kernel_rfl) ?_;refine Reg.ty 0 ?_;refine Reg.tl 1 hS ?_ (hy:=by intro w ab;obtain⟨s0,s1⟩:=ab;go_simp;try with_reducible rfl);refine Reg.ty 2 ?_;refine Reg.ty 4 ?_;refine Reg.tl 5 hS ?_ (hy:=by intro w ab;obtain⟨s0,s1⟩:=ab;go_simp;try with_reducible rfl);refine Z189 ?_;refine (Kc.o _ (rO.o.gr (g1.trans (Gr.refl W1).drew))).mono ?_;rintro e w2 ⟨rfl,k,os,fh⟩;have g2:Gr W1 w2:=by rw[fh];exact (Gr.refl W1).drew.trans (O4b _ _ _)
   clear fh;have bj:w2.cell? ⟨W.heap.size,0,none⟩=some (.int .u8 r.nd.kind)/\w2.cell? ⟨W.heap.size,1,none⟩=some (.string ⟨r.nd.text.toArray⟩):=⟨(g2.use.1 _ _ bl).trans b0,(g2.use.1 _ _ bl).trans b1⟩
   refine Z237 ?_;refine Reg.on 6 ?_;go_simp;refine (RJ.o w2 (rO.o.gr (g1.trans g2))).mono ?_;rintro e w3 ⟨q,rfl,hq,g3⟩;have aD:w3.cell? ⟨W.heap.size,0,none⟩=some (.int .u8 r.nd.kind)/\w3.cell? ⟨W.heap.size,1,none⟩=some (.string ⟨r.nd.text.toArray⟩):=⟨(g3.use.1 _ _ (U4 bl g2.size)).trans bj.1,(g3.use.1 _ _ (U4 bl g2.size)).trans bj.2⟩
   refine Z16 ?_;have TO:q.size=(V5d PT r.nd.text).length:=by rw[<-hq,O0]
   refine Reg.takeY (i:=7) (v:=?_) rfl (by kernel_rfl) (by kernel_rfl) (by kernel_rfl) (λ _ _ _ h=>h) (by rfl) ?_ ?_;rotate_left;exact J73
   refine Z50 ?_;refine Reg.ty 8 ?_;refine Z12 ?_;obtain⟨ts,xO⟩:=ExZ ((({ data:=(Lib.itoa (r.nd.kind:Int)).toArray }:ByteArray)++q))
   have fR:bs ts=Lib.itoa (r.nd.kind:Int)++V5d PT r.nd.text:=by rw[<-xO,O3l,hq]
   have a9:bs ts++u=t:=by rw[fR,<-H.o];simp
   rw[xO];have Nl:=g2.trans g3;have bv:=U0 a9;have Kd:=U0 Nl;clear a9 Nl g2 g3 bj aD hS xO fR;go_wp2_with fail
   go_loopw [6,7] (λ v6 v7 wr=>∃(m:Nat)(tb:ByteArray)(us:Pl.Bs),v6 = .string tb/\v7 = .int .i64 m/\m<=r.nd.subs.length/\V1v (V25 (V5d PT) (L.map (·.nd)) f) (V5d PT) (r.nd.keys.drop m) (r.nd.subs.drop m)=some us/\bs tb++us=t/\Gr W1 wr) (λ _ v7 _=>r.nd.subs.length-(intOf v7).toNat)
   case atStart=>exact⟨0,ts,u,rfl,rfl,U1p _,HU.o,bv.o,Kd.o⟩
   case round =>
    obtain⟨m,tb,us,rfl,rfl,hm,yS,ug,cH⟩:=hrel;have f2:=(cH.use.1 _ _ bl).trans b2;have f4:=(cH.use.1 _ _ bl).trans b4;have km:=U0 cH;by_cases iG:m<r.nd.subs.length
    ·have e1:decide ((m:Int)<(r.nd.subs.length:Int))=true:=by simp;omega
     have e2:decide (m<r.nd.subs.length)=true:=by simp;omega
     obtain⟨a,ub,Nm,Cp,iw⟩:=V70 iG yS;obtain⟨gu,cu,qK,lZ,eL⟩:=Kb.o.form (by omega);simp only[U33]at qK;obtain⟨rfl,_,rfl⟩:=qK;have Fd:=Kb.o.cells (g:=gu) rfl m (.int .i64 r.nd.subs[m]) (by simp[O7,iG]);have aY:=(Kb.o.lt gu rfl).2;have Fd:=(dW.o.use.1 _ _ aY).trans Fd;have aY:=U4 aY dW.o.size;have RL:a.length<=1000000000000000000:=by
      have:=U1q List.length ug;rw[iw]at this;simp only[Ug,Ub]at this;omega
     have Fc:=U0 (λ V (g:Gr W1 V)=>RD.o r.nd.subs[m] a V (rO.o.gr (dW.o.trans g)) base gn L (HT.o.gr (dW.o.trans g)) F1.o uX (RH.o _ (U2v iG)) Nm RL root);have NI:=U0 Cp;refine Z247 ?_;intro j3 j4 wm;clear Cp Nm;by_cases xh:m<r.nd.keys.length
     ·have e3:decide ((m:Int)<(r.nd.keys.length:Int))=true:=by simp;omega
      have e4:decide (m<r.nd.keys.length)=true:=by simp;omega
      have j5:(m:Int)<(r.nd.keys.length:Int):=by omega
      obtain⟨gk,ck,Dn,qH,RM⟩:=rt.o.form (by omega);simp only[U33]at Dn;obtain⟨rfl,_,rfl⟩:=Dn;have aV:=rt.o.cells (g:=gk) rfl m (.string ⟨r.nd.keys[m].toArray⟩) (by simp[Oh,xh]);have pi:=(rt.o.lt gk rfl).2;have aV:=(((dW.o.trans cH).use.1 _ _ pi).trans aV)
      have RN:r.nd.keys[m].length<=1000000:=RF.o _ (U2v xh);have RO:=U0 (Oci PT r.nd.keys[m] RN wr (rO.o.gr (dW.o.trans cH)));rw[Uh xh]at iw;simp only at iw;have Ke:=U0 iw;have Kf:=U0 ug;have aa:=U1q List.length ug;rw[iw,Ug,O0]at aa;simp only[Ug,Ub]at aa;clear yS iw ug cH lZ eL qH RM;go_wp2_with fail;refine RO.o.mono ?_;rintro e wq ⟨qk,rfl,Nn,gq⟩;have RP:qk.size=(V5d PT r.nd.keys[m]).length:=by rw[<-Nn,O0]
      have qZ:¬ 9223372036854775807<tb.size+qk.size:=by omega
      have RQ:decide (9223372036854775807<tb.size+qk.size)=false:=by simp;omega
      have ze:=U0 (km.o.trans gq);obtain⟨RR,A0⟩:=ExZ (tb++qk)
      have aA:bs RR++(40::(a++(41::ub)))=t:=by rw[<-A0,O3l,Nn,U2p,<-Ke.o,Kf.o]
      clear f2 f4 aV;exact J110
     have e3:decide ((m:Int)<(r.nd.keys.length:Int))=false:=by simp;omega
     have e4:decide (m<r.nd.keys.length)=false:=by simp;omega
     rw[U1m (by omega)]at iw;simp only[U1c]at iw;have aA:bs tb++(40::(a++(41::ub)))=t:=by rw[<-iw,ug]
     obtain⟨wq,RT⟩:∃wq,wq=wr:=⟨_,rfl⟩
     subst RT;have ze:=km;clear yS iw ug cH lZ eL;exact J110
    have sL:m=r.nd.subs.length:=by omega
    subst sL;have e1:decide ((r.nd.subs.length:Int)<(r.nd.subs.length:Int))=false:=by simp
    have e2:decide (r.nd.subs.length<r.nd.subs.length)=false:=by simp
    rw[List.drop_length]at yS;have kt:us=[]:=by unfold V1v at yS;exact (U1x yS).symm
    rw[kt,U2g]at ug;have Kg:=U0 ug;clear ug yS cH;go_wp2_with fail;exact U1 (v := .string tb) (by simp[results,results11,go_sem]) rfl ⟨_,rfl,Kg.o,HG.o.trans (dW.o.trans km.o)⟩
theorem Oa3(w:World)(s:ByteArray)(c:Nat)(W:World)(q:Gr (Lib.bytesWorld w 5 s) W):(convert 22 9 (.slice (some ⟨w.heap.size,0,none⟩) s.size c)).run prog W = .ok (.string s) W:=by
 refine Z71 ?_;intro e0;have aV:∀i,i<s.size->W.cell? ⟨w.heap.size,0+i,none⟩=some (.int .u8 ((s.data.toList.map λ x=>(x.toNat:Int)).getD i 0)):=by
  intro i hi;have h:=U2h w 5 s i hi;have:=(q.use.1 _ _ (Lib.lt_of_cell h)).trans h;rw[Uu,this];have ei:i<s.data.toList.length:=by rw[Array.length_toList];exact hi
  simp[List.getD,Uh ei]
 rw[U3e W 22 5 underlying22 underlying5 w.heap.size 0 s.size c (s.data.toList.map λ x=>(x.toNat:Int)) (by rw[Ul,Array.length_toList];rfl) aV 9 underlying9,e0]
theorem O7m(Tb:Nat->UInt8×UInt8)(w:World)(bO:RW Tb w)(s:ByteArray)(hs:s.size<=20000000)(c p:Nat)(hc:c≠0)(hX:V11 ⟨Vj Tb,Vd⟩ (bs s) = .bad c p) :
    Calls prog 16 #[.string s,c,p] w λ e w'=>e = .returned (.bool true)/\Gr w w':=by
 refine Z154 ?_;intro rY gB cF;have yT:=U0 (λ W (g:Gr w W)=>Och Tb (Lib.bytesWorld W 5 s) (bO.gr (g.trans (O11 W 5 s))) s hs (some ⟨W.heap.size,0,none⟩) s.size (grownCap W s.size 0 5) (λ V q=>Oa3 W s _ V q) c p hX);have rL:=U0 gB;clear gB hX bO;have dK:=rY.o;go_enter func16,ntmps16;go_wp2_with fail;clear dK;refine cF.o.mono ?_;rintro e w2 ⟨he,dT,g2⟩;subst he;obtain⟨hA,gA,zA⟩:=bx2 w2 Vn (0:Int) 26;obtain⟨W0,aM⟩:=ExZ (w2.alloc (.cells #[Vn,(0:Int)] 26))
 rw[aM]at hA gA zA;obtain⟨hB,gB,zB⟩:=bx2 W0 c p 29;obtain⟨W1,aQ⟩:=ExZ (W0.alloc (.cells #[c,p] 29))
 rw[aQ]at hB gB zB;rw[zA]at hB zB;have rA:=hA.gr gB;have dW:=U0 ((rL.o.trans g2).trans (gA.trans gB));have HA:=U0 rA;have HB:=U0 hB;have HZ:=U0 zB;have lS:=U0 (show (w2.alloc (.cells #[Vn,(0:Int)] 26)).alloc (.cells #[c,p] 29)=W1 by rw[aM,aQ]);clear cF hA hB rA gA gB zA zB aM aQ;have dK:=rY.o;go_wp2_with fail;rw[show (w2.alloc (.cells #[.slice none 0 0,(0:Int)] 26)).alloc (.cells #[c,p] 29)=W1 from lS.o,<-HZ.o];clear dK;refine (yT.o W1 dW.o).mono ?_;rintro e w5 ⟨rfl,g5⟩;have gE:=(O11 W1 5 s).trans g5;obtain⟨p0,p1,pf,pl⟩:=HA.o.gr gE;obtain⟨q0,q1,qf,ql⟩:=HB.o.gr gE;have HE:=U0 gE;go_wp2_with fail;exact U1 (v := .bool true) (by simp[results,results16,go_sem]) rfl ⟨rfl,dW.o.trans HE.o⟩
theorem Ocj(Tb:Nat->UInt8×UInt8)(PT:Lib.PrintTabs)(w:World)(bO:RW Tb w)(rP:TxW PT w)(s ac:ByteArray)(hs:s.size<=20000000)(g:Vb)(hX:V11 ⟨Vj Tb,Vd⟩ (bs s) = .ok g)
    (xB:V59 g.nds=true)(hl:g.nds.length<=1000000)(F:Nat)(hT:V25 (V5d PT) g.nds F 0=some (bs ac))(hz:ac.size<=1000000000000000000) :
    Calls prog 13 #[.string s,.string ac] w λ e w'=>e = .returned (.bool true)/\Gr w w':=by
 refine Z154 ?_;intro rY gB cF;have rO:=U0 rP;have HT:=U0 hT;have F1:=U0 xB;have rL:=U0 gB;clear gB hX bO rP hT xB;have dK:=rY.o;go_enter func13,ntmps13;go_wp2_with fail;clear dK;refine cF.o.mono ?_;rintro e w2 ⟨gn,L,he,hL,qU,g2⟩;subst he;have HL:=U0 hL;have EB:L.length<=1000000:=by rw[<-hL,Ul]at hl;exact hl
 refine Z225 ?_;intro W0 aM hA gA zA;refine Z102 ?_;intro W1 aQ gB hB zB;have rA:=hA.gr gB;have cy:=(rL.o.trans g2).trans (gA.trans gB);have Do:=U0 (Oem PT F 0 (bs ac) W1 (rO.o.gr cy) _ gn L (qU.gr (gA.trans gB)) (by rw[HL.o];exact F1.o) EB (by omega) (by rw[HL.o];exact HT.o) (by rw[O0];exact hz) 0);have dW:=U0 cy;refine Z269 ?_;intro lS;obtain⟨p0,p1,pf,pl⟩:=rA;obtain⟨q0,q1,qf,ql⟩:=hB;clear cF hA gA gB zA zB aM aQ hL hl
 go_upto_region 2 with fail
 refine Z260 ?_;go_wp2_with fail;refine Do.o.mono ?_;rintro e w5 ⟨q,rfl,hq,g5⟩;have RU:q=ac:=by
  cases q with|mk q=>cases ac with|mk v=>exact U1q _ (U21.1 hq)
 subst RU;have HE:=U0 g5;go_wp2_with fail;exact U1 (v := .bool true) (by simp[results,results13,go_sem]) rfl ⟨rfl,dW.o.trans HE.o⟩
end Go.Proofs.YtnkgknbdaiakgaaGreatDoor
namespace Go.Proofs.YtnkgknbdaiakgaaGreatDoor
open Pl Go.Proofs.Tryz Go.RowKit Go.Shelf Go.Joins
namespace Pl
def V78:Bs:=[97,46,98,32,61,32,49,10,91,99,46,100,93,10,120,32,61,32,50,10,91,91,101,93,93,10,91,91,101,93,93,10,121,32,61,32,51,10]
def V79:Bs:=[56,34,34,34,97,34,40,56,34,34,34,98,34,40,52,34,49,34,41,41,34,99,34,40,56,34,34,34,100,34,40,56,34,34,34,120,34,40,52,34,50,34,41,41,41,34,101,34,40,55,34,34,40,56,34,34,41,40,56,34,34,34,121,34,40,52,34,51,34,41,41,41]
def V7a:Bs:=[97,46,98,32,61,32,49,10,91,97,46,99,93]
def V7b:Bs:=[97,32,61,32,49,10,97,32,61,32,50]
def V7c:Bs:=[91,97,93,10,91,97,93]
def V7d:Bs:=[97,46,98,32,61,32,49,10,91,97,93]
def V6c(r:Va Vb)(c p:Nat):Bool:=match r with|.bad a b=>a==c&&b==p|_=>false
theorem V5q{r:Va Vb}{c p:Nat}(h:V6c r c p=true):r = .bad c p:=by
 cases r with
 |bad a b=>simp only[V6c,Uf,U1v]at h;rw[h.1,h.2]
 |ok g=>cases h
 |non=>cases h
def V7u(Q:Bs->Bs)(F:Nat)(t:Bs)(r:Va Vb):Bool:=match r with|.ok g=>V59 g.nds&&decide (g.nds.length<=1000000)&&(V25 Q g.nds F 0==some t)|_=>false
theorem V88{Q:Bs->Bs}{F:Nat}{t:Bs}{r:Va Vb}(h:V7u Q F t r=true):∃g,r = .ok g/\V59 g.nds=true/\g.nds.length<=1000000/\V25 Q g.nds F 0=some t:=by
 cases r with
 |bad a b=>cases h
 |ok g =>
  simp only[V7u,Uf,U1v,Ux]at h;exact⟨g,rfl,h.1.1,h.1.2,h.2⟩
 |non=>cases h
def Vb2(r:Va Vb):Bool:=match r with|.ok _=>true|_=>false
theorem V9b{r:Va Vb}(h:Vb2 r=true):∃g,r = .ok g:=by
 cases r with
 |bad a b=>cases h
 |ok g=>exact⟨g,rfl⟩
 |non=>cases h
end Pl
theorem Oo7(Tb:Nat->UInt8×UInt8)(PT:Lib.PrintTabs):V7u (V5d PT) 9 V79 (V11 ⟨Vj Tb,Vd⟩ V78)=true:=by kernel_rfl
theorem Oo8(Tb:Nat->UInt8×UInt8):Vb2 (V11 ⟨Vj Tb,Vd⟩ V7a)=true:=by kernel_rfl
theorem Oo9(Tb:Nat->UInt8×UInt8):V6c (V11 ⟨Vj Tb,Vd⟩ V7c) 5 5=true:=by kernel_rfl
theorem Ooa(Tb:Nat->UInt8×UInt8):V6c (V11 ⟨Vj Tb,Vd⟩ V7b) 5 6=true:=by kernel_rfl
theorem Oob(Tb:Nat->UInt8×UInt8):V6c (V11 ⟨Vj Tb,Vd⟩ V7d) 5 9=true:=by kernel_rfl
end Go.Proofs.YtnkgknbdaiakgaaGreatDoor
namespace Go.Proofs.YtnkgknbdaiakgaaGreatDoor
open Pl Go.Proofs.Tryz Go.RowKit Go.Shelf Go.Joins
attribute [local go_sem] Uy
theorem Ofk(Tb:Nat->UInt8×UInt8)(PT:Lib.PrintTabs)(w:World)(bO:RW Tb w)(rP:TxW PT w):Calls prog 13 #[.string ⟨V78.toArray⟩,.string ⟨V79.toArray⟩] w λ e w'=>e = .returned (.bool true)/\Gr w w':=by
 obtain⟨g,h1,h2,h3,h4⟩:=V88 (Oo7 Tb PT);exact Ocj Tb PT w bO rP ⟨V78.toArray⟩ ⟨V79.toArray⟩ (by decide) g h1 h2 h3 9 h4 (by decide)
theorem Omv(Tb:Nat->UInt8×UInt8)(w:World)(bO:RW Tb w):Calls prog 16 #[.string ⟨V7b.toArray⟩,(5:Int),(6:Int)] w λ e w'=>e = .returned (.bool true)/\Gr w w' :=
 O7m Tb w bO ⟨V7b.toArray⟩ (by decide) 5 6 (by decide) (V5q (Ooa Tb))
theorem Omw(Tb:Nat->UInt8×UInt8)(w:World)(bO:RW Tb w):Calls prog 16 #[.string ⟨V7c.toArray⟩,(5:Int),(5:Int)] w λ e w'=>e = .returned (.bool true)/\Gr w w' :=
 O7m Tb w bO ⟨V7c.toArray⟩ (by decide) 5 5 (by decide) (V5q (Oo9 Tb))
theorem Omx(Tb:Nat->UInt8×UInt8)(w:World)(bO:RW Tb w):Calls prog 16 #[.string ⟨V7d.toArray⟩,(5:Int),(9:Int)] w λ e w'=>e = .returned (.bool true)/\Gr w w' :=
 O7m Tb w bO ⟨V7d.toArray⟩ (by decide) 5 9 (by decide) (V5q (Oob Tb))
theorem Ok6(w:World)(l:List UInt8)(n c:Nat)(hn:l.length=n)(fz:Nat×Nat)(W:World)(q:Gr (w.alloc (.cells (l.map Ob).toArray 5 fz)) W):(convert 22 9 (.slice (some ⟨w.heap.size,0,none⟩) n c)).run prog W = .ok (.string ⟨l.toArray⟩) W:=by
 subst hn;refine Z71 ?_;intro e0;have aV:∀i,i<l.length->W.cell? ⟨w.heap.size,0+i,none⟩=some (.int .u8 ((l.map λ x=>(x.toNat:Int)).getD i 0)):=by
  intro i hi;have h:(w.alloc (.cells (l.map Ob).toArray 5 fz)).cell? ⟨w.heap.size,i,none⟩=some (Ob l[i]):=by
   have hb:=U10 w (.cells (l.map Ob).toArray 5 fz);unfold World.cell?;rw[hb];simp[hi]
  have:=(q.use.1 _ _ (Lib.lt_of_cell h)).trans h;rw[Uu,this];simp[List.getD,Uh hi,Ob]
 rw[U3e W 22 5 underlying22 underlying5 w.heap.size 0 l.length c (l.map λ x=>(x.toNat:Int)) (by rw[Ul]) aV 9 underlying9,e0]
theorem Ok7(Tb:Nat->UInt8×UInt8)(PT:Lib.PrintTabs)(w:World)(bO:RW Tb w)(rP:TxW PT w):Calls prog 6 #[] w λ e w'=>e = .returned (.bool true)/\Gr w w':=by
 have HT:=U0 (Ofk Tb PT w bO rP);have HC:=U0 (λ W (g:Gr w W)=>Omv Tb W (bO.gr g));have HD:=U0 (λ W (g:Gr w W)=>Omw Tb W (bO.gr g));have HE:=U0 (λ W (g:Gr w W)=>Omx Tb W (bO.gr g));have is:=U0 bO;clear bO rP;go_enter func6,ntmps6;go_wp2_with fail;refine HT.o.mono ?_;rintro e w1 ⟨rfl,g1⟩;have dW:=U0 g1;have kc:=λ(w:World)(C:Array Value)(n c:Nat)=>Lib.run_convert_bytes_const (P:=prog) w 22 5 C n c underlying22 underlying5
 obtain⟨g,hg⟩:=V9b (Oo8 Tb);have gA:Gr w1 (w1.alloc (.cells #[.int .u8 97,.int .u8 46,.int .u8 98,.int .u8 32,.int .u8 61,.int .u8 32,.int .u8 49,.int .u8 10,.int .u8 91,.int .u8 97,.int .u8 46,.int .u8 99,.int .u8 93] 5 (13,14))):=(Gr.refl w1).alloc _;have cF:=U0 (O56 Tb _ (is.o.gr (g1.trans gA)) ⟨V7a.toArray⟩ (by decide) (some ⟨w1.heap.size,0,none⟩) 13 13 (λ W q=>Ok6 w1 V7a 13 13 rfl (13,14) W q) _ hg (by simp));have Kh:=U0 (g1.trans gA);clear g1 gA hg;go_wp2_with fail;refine cF.o.mono ?_;rintro e w2 ⟨gn,L,he,_,_,g2⟩;subst he;refine Z225 ?_;intro W0 aM hA gA zA;refine Z102 ?_;intro W1 aQ gB hB zB;have lI:=U0 ((Kh.o.trans g2).trans (gA.trans gB));have HB:=U0 hB;refine Z269 ?_;intro lS;clear cF hA hB gA gB zA zB aM aQ g2 kc
 go_upto_region 5 with fail
 refine Z260 ?_;go_wp2_with fail;refine (HC.o _ lI.o).mono ?_;rintro e w5 ⟨rfl,g5⟩;have lC:=U0 g5;clear g5;go_wp2_with fail;refine (HD.o _ (lI.o.trans lC.o)).mono ?_;rintro e w6 ⟨rfl,g6⟩;have xt:=U0 (lC.o.trans g6);clear g6;go_wp2_with fail;refine (HE.o _ (lI.o.trans xt.o)).mono ?_;rintro e w7 ⟨rfl,g7⟩;have E7:=U0 (xt.o.trans g7);obtain⟨q0,q1,qf,ql⟩:=HB.o.gr E7.o;clear g7;go_wp2_with fail;exact U1 (v := .bool true) (by simp[results,results6,go_sem]) rfl ⟨rfl,lI.o.trans E7.o⟩
