/- The proof's part 42. -/
import Derived.Test.YtnkgknbdaiakgaaGreatDoorP41
set_option maxHeartbeats 16000000
set_option linter.all false
set_option maxRecDepth 100000
namespace Go.Proofs.YtnkgknbdaiakgaaGreatDoor
open Pl Go.Proofs.Tryz Go.RowKit Go.Shelf Go.Joins
attribute [local go_sem] Uy
structure V9w(z R:Nat)(k1 k2:Value)(w:World):Prop where
 k:FX z k1 k2 w
 r:w.cell? ⟨R,1,none⟩=some (.int .i64 0)
 rl:R<w.heap.size
theorem V9w.gr{z R:Nat}{k1 k2:Value}{w w':World}(h:V9w z R k1 k2 w)(g:Gr w w'):V9w z R k1 k2 w' :=
 ⟨h.k.gr g,(g.use.1 _ _ h.rl).trans h.r,U4 h.rl g.size⟩
theorem Occ{w mi:World}{R B base E:Nat}{s:ByteArray}{nv:Value}{L:List Vw}{own ad:Nat->Nat}{so:List (Nat×Nat)}{x:GrX}(h:GrV mi R B base s 0 nv L ad so x)(hE:FX E (0:Int) (0:Int) mi)(iW:ad E=0)
    (st:St (FV own) (FV ad) w mi)(MH:w.heap.size<=E)(ek:FV own R)(sec dep:Nat) :
    let WF:=((((mi.setCell ⟨R,4,none⟩ sec).setCell ⟨R,5,none⟩ dep).setCell ⟨R,6,none⟩ (.int .i64 ((x.many:Int)+1))).setCell ⟨E,0,none⟩ (0:Int)).setCell ⟨E,1,none⟩ (0:Int)
    FX E (0:Int) (0:Int) WF/\GrV WF R B base s 0 nv L ad so { x with sec:=sec,dep:=dep,many:=x.many+1 }/\St (FV own) (FV ad) w WF:=by
 have yx:R≠E:=λ e=>by have h1:=h.oR;rw[e,iW]at h1;omega
 have g4:=h.setSec sec dep (x.many+1) (U1w _);rw[show (((x.many+1:Nat):Int))=(x.many:Int)+1 from rfl]at g4;have EF:=((hE.other yx (o:=4) sec).other yx (o:=5) dep).other yx (o:=6) (.int .i64 ((x.many:Int)+1));have s4:St (FV own) (FV ad) w (((mi.setCell ⟨R,4,none⟩ sec).setCell ⟨R,5,none⟩ dep).setCell ⟨R,6,none⟩ (.int .i64 ((x.many:Int)+1))) :=
  ((st.setCell (p:=⟨R,4,none⟩) (.inl ek) _).setCell (p:=⟨R,5,none⟩) (.inl ek) _).setCell (p:=⟨R,6,none⟩) (.inl ek) _
 obtain⟨W4,fm⟩:=ExZ (((mi.setCell ⟨R,4,none⟩ sec).setCell ⟨R,5,none⟩ dep).setCell ⟨R,6,none⟩ (.int .i64 ((x.many:Int)+1)))
 rw[fm]at g4 EF s4⊢;refine⟨EF.set _ _,g4.kept (λ k hk=>?_) (by simp[World.setCell]),(s4.setCell (p:=⟨E,0,none⟩) (.inr MH) _).setCell (p:=⟨E,1,none⟩) (.inr MH) _⟩;have hk:k≠E:=λ e=>hk (by rw[e];exact iW)
 rw[U5 _ _ _ _ hk,U5 _ _ _ _ hk]
theorem Omo(w:World)(R B base:Nat)(s:ByteArray)(nv:Value)(L:List Vw)(own:Nat->Nat)(x:GrX)(g:Vb)(h:GM w R B base s nv L own x g)
    (hL:L.length<=20000001)(hm:x.many<=30000000)(gk gs ck cs:Nat)(ws:List Pl.KW)(la:Nat)(eU:ws.length=la+1)(eA:la<=30000000)
    (fq:gk<w.heap.size)(bZ:gs<w.heap.size)(dw:own gk=0)(fN:own gs=0) 
    (aF:∀(j:Nat)(t:Pl.Bs)(a b:Nat),ws[j]?=some (t,a,b)->w.cell? ⟨gk,j,none⟩=some (V3a t)/\w.cell? ⟨gs,j*2,none⟩=some (.int .i64 a)/\w.cell? ⟨gs,j*2+1,none⟩=some (.int .i64 b))
    (X:Va Vb)(hX:V2y g ws=X)(a8:X ≠ .non) :
    Calls prog 87 #[.pointer (some ⟨R,0,none⟩),.agg #[.slice (some ⟨gk,0,none⟩) ws.length ck,.slice (some ⟨gs,0,none⟩) ws.length cs]] w (V9t w R B base s own x.iv x.nsv X):=by
 have H:=U0 h;have HX:=U0 hX;have lL:=U0 aF;clear h hX aF;have fI:=U0 eU;clear eU;go_enter func87,ntmps87
 go_upto_region 1 with fail
 obtain⟨W,hW⟩:=ExZ ((w.alloc (.cells #[.slice (some ⟨gk,0,none⟩) ws.length ck,.slice (some ⟨gs,0,none⟩) ws.length cs] 42)).alloc (.cells #[(0:Int),(0:Int)] 29))
 obtain⟨bi,iW,gW,hz⟩:V9w w.heap.size R (.slice (some ⟨gk,0,none⟩) ws.length ck) (.slice (some ⟨gs,0,none⟩) ws.length cs) W/\FX (w.heap.size+1) (0:Int) (0:Int) W/\Gr w W/\W.heap.size=w.heap.size+1+1:=by
  refine Z195 ?_;intro f1 g2 z2 w2 h2;rw[h2]at hW f1 g2 z2;refine Z127 ?_;intro f2 g3 z3;rw[hW]at f2 g3 z3;rw[z2]at f2 z3;have hR:=H.o.v.R_lt;exact⟨⟨f1.gr g3,((g2.trans g3).use.1 _ _ hR.2).trans H.o.v.cells.1.2.1,by omega⟩,f2,g2.trans g3,z3⟩
 rw[hW];clear hW;have eE:=U0 bi;have rH:=U0 iW;have HG:=U0 gW;clear bi iW gW;obtain⟨Y,hY⟩:=ExZ (V20 (2,0) V2u ws.dropLast 0 1 g)
 have HY:=U0 hY;have bH:Y ≠ .non:=λ e=>by
  have:=HX.o;unfold V2y at this;rw[HY.o,e]at this;exact a8 this.symm
 clear hY;have iT:=U0 (λ V (q:Gr w V)=>O8c V R B base s nv L own x g (H.o.gr q) 0 1 (2,0) hL hm (by omega) gk gs ck cs ws la fI.o eA (U4 fq q.size) (U4 bZ q.size) dw fN
  (λ j t a b hj=>⟨(q.use.1 _ _ fq).trans (lL.o j t a b hj).1,(q.use.1 _ _ bZ).trans (lL.o j t a b hj).2.1,(q.use.1 _ _ bZ).trans (lL.o j t a b hj).2.2⟩) Y HY.o bH)
 refine Z211 ?_;intro aa HZ;clear hz
 go_cut [5,6] (λ s5 s6 W'=>Vao W R B base s own x Y s5 s6 W')
 case first =>
  have hS:=eE.o.gr (Gr.refl W).drew;refine Reg.begin' (W:=λ i=>i != 11&&i != 17&&i != 18) (S:=V9w w.heap.size R (.slice (some ⟨gk,0,none⟩) ws.length ck) (.slice (some ⟨gs,0,none⟩) ws.length cs)) (by kernel_rfl) ?_;refine Z32 ?_;refine Z42 ?_;refine Reg.tl 5 hS ?_ (hy:=by intro w ab;obtain⟨⟨s2,s3,s4,s5⟩,s6,s8⟩:=ab;go_simp;try with_reducible rfl);refine Reg.ty 6 ?_;refine Reg.tl 7 hS ?_ (hy:=by intro w ab;obtain⟨⟨s2,s3,s4,s5⟩,s6,s8⟩:=ab;go_simp;try with_reducible rfl);refine Z46 ?_;exact J104
 case rest =>
  obtain⟨b5,b6,rfl,rfl,vD,h5,h6,qM⟩:=hcut;have ae:=HX.o;unfold V2y at ae;rw[HY.o]at ae;have oE:=H.o.v.R_lt;cases Y with
  |non=>exact absurd rfl bH
  |bad c p =>
   simp only at ae;obtain⟨⟨n,d,f5⟩,f6,dT,ad,st2,dC,ke⟩:=qM;have hE:=rH.o.st st2 (λ e=>by have:=(H.o.v.lt _ e).2;omega);obtain⟨k0,k1,kf,kl⟩:=id f6;have IU:=U0 hE;have F6:=U0 f6;have dS:=U0 st2;clear hE f5 f6;go_wp2_with fail;refine (O20 c p (by omega) wc).mono ?_;rintro e w5 ⟨rfl,g5⟩;have nK:=F6.o.gr g5;have iz:=IU.o.gr g5;obtain⟨v0,v1,vf,vl⟩:=id nK;obtain⟨r0,r1,rf,rl⟩:=id iz;clear k0 k1 kf kl;go_wp2_with fail;have hF:=iz.set c p;have sF:St (FV own) (FV ad) w _:=((((HG.o.st).trans dS.o).gr g5).setCell (p:=⟨w.heap.size+1,0,none⟩) (.inr (by simp only;omega)) c).setCell (p:=⟨w.heap.size+1,1,none⟩) (.inr (by simp only;omega)) p;have aE:((w5.setCell ⟨w.heap.size+1,0,none⟩ c).setCell ⟨w.heap.size+1,1,none⟩ p).cell? ⟨R,2,none⟩=some (.string s):=by
    exact J64
   obtain⟨WF,am⟩:=ExZ (((w5.setCell ⟨w.heap.size+1,0,none⟩ c).setCell ⟨w.heap.size+1,1,none⟩ p))
   rw[am]at hF sF aE;rw[am];clear am;obtain⟨q0,q1,qf,ql⟩:=hF;rw[<-ae];exact U1 (v:=fv c p) (by simp[results,results87,go_sem,q0,q1,qf,ql]) rfl ⟨rfl,dT,ad,sF,aE,λ k hk=>(ke k hk).imp id (λ h=>by have:=HG.o.size;omega)⟩
  |ok r =>
   obtain⟨n,d,g'⟩:=r;simp only at ae;obtain⟨f5,f6,nv',L',own',z5,z6,cE,a9,lP⟩:=qM;have bU:∀k,w.heap.size<=k->k<W.heap.size->¬FV own k:=λ k h1 h2 e=>by have:=(H.o.v.lt k e).2;omega
   have hz:=HZ.o;have hE:=rH.o.st a9 (bU _ (by omega) (by omega));have vE:=eE.o.k.st a9 (bU _ (by omega) (by omega));have HE:=U0 hE;have CE:=U0 vE;refine Z132 ?_;intro F5 F6 bv bG jH k0 k1 kf kl wt a b eP;have aY:ws.getLast?=some (wt,a,b):=by rw[U2j,fI.o];exact eP
   rw[aY]at ae;simp only at ae;have bV:=U0 ae;have Fa:=U0 eP;clear hE vE f5 f6 a9 cE lP eP aY ae hz bU;go_wp2_with fail;refine (O1n wc).mono ?_;rintro e w5 ⟨rfl,g5⟩;obtain⟨x0,x1,xf,xl⟩:=CE.o.gr g5;clear k0 k1 kf kl;go_wp2_with fail;have iQ:=U4 fq HG.o.size;have iR:=U4 bZ HG.o.size;have V3f:∀o,w5.cell? ⟨gk,o,none⟩=w.cell? ⟨gk,o,none⟩:=λ o=>(g5.use.1 _ _ (U4 iQ bv.o.size)).trans (((bv.o.use gk iQ (λ e=>e dw)).1 _).trans (HG.o.use.1 _ _ fq))
   have wv:∀o,w5.cell? ⟨gs,o,none⟩=w.cell? ⟨gs,o,none⟩:=λ o=>(g5.use.1 _ _ (U4 iR bv.o.size)).trans (((bv.o.use gs iR (λ e=>e fN)).1 _).trans (HG.o.use.1 _ _ bZ))
   refine Z64 ?_;intro r1 r2 r3 w6 g6 lM cN;obtain⟨e0,e1,ef,el⟩:=F5.o.gr lM;have AC:=U0 lM;clear x0 x1 xf xl V3f wv r1 r2 r3 cN g5 g6 lM;have yv:=O9c _ _ (λ _ _ _ _ _ e=>Oc9 e) _ _ _ _ _ _ _ HY.o (by rw[<-H.o.nd,Ul];exact hL);have ym:L'.length<=20000001:=by have:=yv.1;rw[<-bG.o.nd,Ul]at this;exact this
   have pJ:d<=100000000:=by have:=yv.2;rw[U3j,fI.o]at this;omega
   clear yv;have fR:bs (⟨wt.toArray⟩:ByteArray)=wt:=by simp[bs]
   obtain⟨XS,ny⟩:=ExZ (V12 g'.nds n wt)
   have ae:=bV.o;rw[ny]at ae;have kb:XS ≠ .non:=λ e=>by rw[e]at ae;exact a8 ae.symm
   refine Z139 ?_;intro W7 oL G7 dv g7 z7;have gd:=U0 (bG.o.gr G7.o);have lB:=U0 (Oc3 W7 R B base s 0 nv' L' own' g'.srt x gd.o.v n ⟨wt.toArray⟩ XS (by rw[bG.o.nd,fR];exact ny) kb);have Cg:=U0 ny;have Iv:∀i,XS = .yes i->i<L'.length:=λ i e=>by
    have h1:=Cg.o;rw[e]at h1;unfold V12 at h1
    split at h1;cases h1
    split at h1;cases h1
    split at h1;cases h1
    split at h1
    rename_i h2
    cases h1;rw[<-bG.o.nd,Ul]at h2;exact h2
    cases h1
   have EG:=U0 dv;clear e0 e1 ef el;obtain⟨e0,e1,ef,el⟩:=F5.o.gr G7.o;obtain⟨y0,y1,yf,yl⟩:=dv;have Q6:IntKind.i64.wrap ((d:Int)+2)=(d:Int)+2:=Uk _ ⟨by omega,by omega⟩;have QP:=gd.o.v.R_lt.2;clear ny;go_wp2_with fail;refine lB.o.mono ?_;refine Z48 ?_;clear lB;cases XS with
   |non=>exact absurd rfl kb
   |yes i =>
    have hi:=Iv i rfl;have s0:((i:Int) != -1)=true:=by simp
    obtain⟨⟨c0,c1,c2,c3,c4,c5,c6⟩,c7,c8,fz⟩:=gd.o.v.cells;obtain⟨sh,sof,cD⟩:∃a b,g'.srt.getD i (0,0)=(a,b):=⟨_,_,rfl⟩
    have qH:=gd.o.v.look i (by omega) W7 rfl;rw[cD,show O1z (sh,sof) = .agg #[.int .u8 sh,sof] from rfl]at qH;have AL:(Vl g' i).1=sh:=by unfold Vl;rw[cD]
    have xx:∀W,(Instr.field 94 (.agg #[.int .u8 sh,sof]) 0).run prog W = .ok (.int .u8 sh) W:=λ W=>by kernel_rfl
    have MI:=xx W7;simp only at ae;rw[AL]at ae;clear c0 c1 c2 c4 c5 c6 c7 c8 fz;dsimp only [O2p];by_cases h4:sh=4
    ·have s4:((sh:Int) != 4)=false:=by simp;omega
     rw[Ua h4]at ae;have H4:=U0 h4;clear h4;by_cases gP:256<d+2;exact J131
     have s2:decide ((256:Int)<(d:Int)+2)=false:=by simp;omega
     rw[Ud gP]at ae;obtain⟨ri,iq⟩:∃r,L'[i]?=some r:=⟨_,Uh hi⟩
     by_cases cH:(Pl.subsOk g' i&&Pl.room g'.nds)=true
     ·rw[Ua cH]at ae;rw[Uf]at cH;have sD:ri.nd.subs.length<=30000000:=by
       have h1:=cH.1;unfold Pl.subsOk at h1;rw[<-bG.o.nd,Uq,iq]at h1;exact of_decide_eq_true h1
      have h8:Og g'.srt i:=by unfold Og;rw[cD];show sh≠0;have:=H4.o;omega
      have ek:FV own R:=by unfold FV;rw[H.o.v.oR];omega
      refine Z276 ?_;intro iW;clear cH
      go_upto_region 13 with fail
      have eM:FX b5 n d W7.drew:=(F5.o.gr G7.o).gr (Gr.refl W7).drew;have yy:=(HE.o.gr G7.o)
      have rK:=(F6.o.gr G7.o)
      have eY:=((((HG.o.st).trans bv.o).gr G7.o))
      have uC:=U0 (O8d W7.drew R B base s _ _ _ _ x (gd.o.v).drew (by omega) hm (i) (ri) (iq) (h8) (sD));refine Z311 ?_;rintro e mi ⟨he,vF,eC,QQ,QR,QS,tZ,qP,yz⟩;subst he;have kh:=eM.st qP (λ e=>e z5);refine Z77 ?_;refine Z59 ?_;obtain⟨⟨c0,c1,c2,c3,c4,c5,c6⟩,c7,c8,fz⟩:=tZ.cells;have qQ:=(yy.gr (Gr.refl W7).drew).st qP (λ e=>e iW);have nA:=(rK.gr (Gr.refl W7).drew).st qP (λ e=>e z6);have qR:=eY.drew.trans qP;have Ja:eC (w.heap.size+1)=0:=Ue λ h=>(yz _ h).elim (λ h=>h iW) (λ h=>by have h1:=yy.2.2.2;rw[show W7.drew.heap.size=W7.heap.size from rfl]at h;omega)
      have CQ:=Occ tZ qQ Ja qR (U1w _) ek L'.length (d+2);refine Z239 ?_;intro wm;have Jb:=tZ.R_lt.2;have Jc:=U0 CQ;have yA:=U0 yz;obtain⟨r0,r1,rf,rl⟩:=qQ;obtain⟨v0,v1,vf,vl⟩:=nA;clear CQ tZ qP yz qR yy rK eY c0 c1 c2 c3 c7 c8;refine Reg.on 10 ?_;refine Z293 ?_;go_wp2_with fail;obtain⟨vG,nB,rM⟩:=Jc.o;obtain⟨WF,am⟩:=ExZ (((((mi.setCell ⟨R,4,none⟩ L'.length).setCell ⟨R,5,none⟩ (.int .i64 ((d+2:Nat):Int))).setCell ⟨R,6,none⟩ (.int .i64 ((x.many:Int)+1))).setCell ⟨w.heap.size+1,0,none⟩ (0:Int)).setCell ⟨w.heap.size+1,1,none⟩ (0:Int))
      rw[am]at vG nB rM;rw[show ((d+2:Nat):Int)=(d:Int)+2 from rfl]at am;rw[am];clear am r0 r1 rf rl v0 v1 vf vl;obtain⟨q0,q1,qf,ql⟩:=vG;rw[<-ae];refine U1 (v:=f0) (by simp[results,results87,go_sem,q0,q1,qf,ql]) rfl ⟨rfl,vF,_,eC,{ x with sec:=L'.length,dep:=d+2,many:=x.many+1 },rfl,rfl,⟨nB,?_,?_,rfl,by show x.many+1=g'.many+1;rw[bG.o.many]⟩,rM,λ k hk=>?_⟩
      rw[Oek _ i ri (by rw[U9 hi];exact iq),U20,bG.o.nd];have e1:L'.length=g'.nds.length:=by rw[<-bG.o.nd,Ul]
      rw[e1];rfl;show L'.length=g'.nds.length;rw[<-bG.o.nd,Ul]
      refine Z208 ?_;intro kS;rcases yA.o k hk with h|h
      exact (jH.o k h).imp id (λ h=>by have:=HG.o.size;omega)
      exact .inr (by rw[show W7.drew.heap.size=W7.heap.size from rfl]at h;have:=HG.o.size;omega)
     exact J61
    have s4:((sh:Int) != 4)=true:=by simp;omega
    rw[Ud h4]at ae;clear h4;have iz:=(HE.o.gr G7.o)
    obtain⟨r0,r1,rf,rl⟩:=id iz;go_wp2_with fail;have hF:=iz.set (5:Int) a;have At:=(((HG.o.st).trans bv.o).gr G7.o)
    have sF:St (FV own) (FV own') w _:=(At.setCell (p:=⟨w.heap.size+1,0,none⟩) (.inr (by simp only;omega)) (5:Int)).setCell (p:=⟨w.heap.size+1,1,none⟩) (.inr (by simp only;omega)) a;have aE:((W7.setCell ⟨w.heap.size+1,0,none⟩ (5:Int)).setCell ⟨w.heap.size+1,1,none⟩ a).cell? ⟨R,2,none⟩=some (.string s):=by
     exact J70
    obtain⟨WF,am⟩:=ExZ (((W7.setCell ⟨w.heap.size+1,0,none⟩ (5:Int)).setCell ⟨w.heap.size+1,1,none⟩ a))
    rw[am]at hF sF aE;rw[am];clear am;obtain⟨q0,q1,qf,ql⟩:=hF;rw[<-ae];exact U1 (v:=fv 5 a) (by simp[results,results87,go_sem,q0,q1,qf,ql]) rfl ⟨rfl,by decide,own',sF,aE,λ k hk=>(jH.o k hk).imp id (λ h=>by have:=HG.o.size;omega)⟩
   |no =>
    have s0:((-1:Int) != -1)=false:=by simp
    simp only at ae;dsimp only [O2p];by_cases gP:256<d+2;exact J131
    have s2:decide ((256:Int)<(d:Int)+2)=false:=by simp;omega
    rw[Ud gP]at ae;by_cases cH:(V32 g' n&&Pl.room g'.nds)=true
    ·rw[Ua cH]at ae;rw[Uf]at cH;obtain⟨kC,aX⟩:=cH;unfold V32 at kC;rw[Uf]at kC;obtain⟨be,eW⟩:=kC;have fp:=be;unfold Pl.kind8 at fp;rw[Uf,Ux]at fp;obtain⟨Mi,cZ⟩:=fp;obtain⟨r,hr⟩:∃r,L'[n]?=some r:=by
      cases hr:L'[n]? with
      |some r=>exact⟨r,rfl⟩
      |none =>
       rw[<-bG.o.nd,Uq,hr]at cZ;cases cZ
     have uQ:g'.nds[n]?=some r.nd:=by rw[<-bG.o.nd,Uq,hr];rfl
     rw[uQ]at cZ;simp only[Uf,Ux]at cZ;obtain⟨⟨⟨_,ah⟩,aE⟩,l0⟩:=cZ;have MJ:n<L'.length:=(U7.1 hr).1;have aU:(L'++[Of 7])[n]?=some r:=by rw[U9 MJ];exact hr
     have nY:g'.srt.length=L'.length:=bG.o.v.sl;have cy:Og (g'.srt++[(4,0)]) n:=by
      have h1:(g'.srt++[(4,0)]).getD n (0,0)=g'.srt.getD n (0,0):=by
       exact J62
      unfold Og;rw[h1];intro h2;unfold Vl at eW;rw[h2]at eW;cases eW
     have ek:FV own R:=by unfold FV;rw[H.o.v.oR];omega
     refine Z276 ?_;intro iW;have QT:=EG.o.2.2.2;have oS:own' w6.heap.size=0:=Ue λ h=>by have h1:=(bG.o.v.lt _ h).2;have:=AC.o.size;omega
     go_wp2_with fail;refine (O6n W7 R B base s 0 nv' L' own' g'.srt x gd.o.v (by omega) hm 7 (4,0)).mono ?_;rintro e w9 ⟨he,jZ,aC,gX,iu,mn⟩;subst he;have bm:∀k,own' k=0->k<W7.heap.size->aC k=0:=λ k h1 h2=>Ue λ h=>(mn _ h).elim (λ h=>h h1) (λ h=>by omega)
     have x5:=(F5.o.gr G7.o).st iu (λ h=>h z5);have xS:=EG.o.st iu (λ h=>h oS);have X5:=U0 x5;have XS:=U0 xS;obtain⟨e0,e1,ef,el⟩:=x5;obtain⟨y0,y1,yf,yl⟩:=xS;have nz:=U0 (Oc8 w9 R B base s 0 jZ (L'++[Of 7]) aC (g'.srt++[(4,0)]) x gX (by rw[Ug];simp only[U19];omega) n r aU cy ah aE l0 ⟨wt.toArray⟩ a b L'.length);have m5:=bm b5 z5 (F5.o.gr G7.o).2.2.2;have m6:=bm b6 z6 (F6.o.gr G7.o).2.2.2;have mE:=bm (w.heap.size+1) iW (HE.o.gr G7.o).2.2.2;have yB:=U0 iu;have Jd:=U0 mn;have h9:=iu.size;clear aU uQ cy gX iu mn bm;go_wp2_with fail;refine nz.o.mono ?_;rintro e cx ⟨he,ad,kv,sv,uv,iP,dS,rJ⟩;subst he;have bm:∀k,aC k=0->k<w9.heap.size->ad k=0:=λ k h1 h2=>Ue λ h=>(rJ _ h).elim (λ h=>h h1) (λ h=>by omega)
     have x5:=X5.o.st dS (λ h=>h m5);have xE:=((HE.o.gr G7.o).st yB.o (λ h=>h iW)).st dS (λ h=>h mE);have x6:=((F6.o.gr G7.o).st yB.o (λ h=>h z6)).st dS (λ h=>h m6);have iE:=((((HG.o.st).trans bv.o).gr G7.o).trans yB.o).trans dS;have k5:=bm b5 m5 X5.o.2.2.2;have k6:=bm b6 m6 (U4 (F6.o.gr G7.o).2.2.2 h9);have kE:=bm (w.heap.size+1) mE (U4 (HE.o.gr G7.o).2.2.2 h9);have QU:=U0 x5;have XE:=U0 xE;have X6:=U0 x6;obtain⟨LP,Al⟩:=ExZ ((L'++[Of 7]).set n ⟨Vy r.nd (bs ⟨wt.toArray⟩) (a,b) L'.length,kv,sv,uv⟩)
     rw[Al]at iP;have yC:LP.map (·.nd)=(V2r (V2l g' 7 (4,0)) n wt (a,b) g'.nds.length).nds:=by
      rw[<-Al,O9b _ n r (by rw[U9 MJ];exact hr),show bs (⟨wt.toArray⟩:ByteArray)=wt by simp[bs],U20,bG.o.nd,show L'.length=g'.nds.length from by rw[<-bG.o.nd,Ul]];rfl
     have QV:LP.length<=20000002:=by rw[<-Al];simp;omega
     have Je:=U0 (show LP.length=L'.length+1 by rw[<-Al];simp);have iq:LP[L'.length]?=some (Of 7):=by
      rw[<-Al,List.getElem?_set_ne (by omega),U14 (U2 _),U34];rfl
     have h8:Og (g'.srt++[(4,0)]) L'.length:=by
      unfold Og;rw[Ui,<-nY,U14 (U2 _),U34];decide
     have aR:=U0 dS;have Jf:=U0 rJ;have bD:=dS.size;have jh:=U0 iP;have QX:=iP.R_lt.2;clear x5 xE x6 dS rJ iP bm Al e0 e1 ef el y0 y1 yf yl nz
     go_upto_region 13 with fail
     have eM:FX b5 n d cx.drew:=(QU.o).gr (Gr.refl cx).drew;have yy:=(XE.o)
     have rK:=(X6.o)
     have eY:=(iE)
     have uC:=U0 (O8d cx.drew R B base s _ _ _ _ x (jh.o).drew (QV) hm (L'.length) (Of 7) (iq) (h8) (by simp[Of,V1t]));refine Z311 ?_;rintro e mi ⟨he,vF,eC,QQ,QR,QS,tZ,qP,yz⟩;subst he;have kh:=eM.st qP (λ e=>e k5);refine Z77 ?_;refine Z59 ?_;obtain⟨⟨c0,c1,c2,c3,c4,c5,c6⟩,c7,c8,fz⟩:=tZ.cells;have qQ:=(yy.gr (Gr.refl cx).drew).st qP (λ e=>e kE);have nA:=(rK.gr (Gr.refl cx).drew).st qP (λ e=>e k6);have qR:=eY.drew.trans qP;have Ja:eC (w.heap.size+1)=0:=Ue λ h=>(yz _ h).elim (λ h=>h kE) (λ h=>by have h1:=yy.2.2.2;rw[show cx.drew.heap.size=cx.heap.size from rfl]at h;omega)
     have CQ:=Occ tZ qQ Ja qR (U1w _) ek LP.length (d+2);refine Z239 ?_;intro wm;have Jb:=tZ.R_lt.2;have Jc:=U0 CQ;have yA:=U0 yz;obtain⟨r0,r1,rf,rl⟩:=qQ;obtain⟨v0,v1,vf,vl⟩:=nA;clear CQ tZ qP yz qR yy rK eY c0 c1 c2 c3 c7 c8;refine Reg.on 10 ?_;refine Z293 ?_;go_wp2_with fail;obtain⟨vG,nB,rM⟩:=Jc.o;obtain⟨WF,am⟩:=ExZ (((((mi.setCell ⟨R,4,none⟩ LP.length).setCell ⟨R,5,none⟩ (.int .i64 ((d+2:Nat):Int))).setCell ⟨R,6,none⟩ (.int .i64 ((x.many:Int)+1))).setCell ⟨w.heap.size+1,0,none⟩ (0:Int)).setCell ⟨w.heap.size+1,1,none⟩ (0:Int))
     rw[am]at vG nB rM;rw[show ((d+2:Nat):Int)=(d:Int)+2 from rfl]at am;rw[am];clear am r0 r1 rf rl v0 v1 vf vl;obtain⟨q0,q1,qf,ql⟩:=vG;rw[<-ae];refine U1 (v:=f0) (by simp[results,results87,go_sem,q0,q1,qf,ql]) rfl ⟨rfl,vF,_,eC,{ x with sec:=LP.length,dep:=d+2,many:=x.many+1 },rfl,rfl,⟨nB,?_,?_,rfl,by show x.many+1=g'.many+1;rw[bG.o.many]⟩,rM,λ k hk=>?_⟩
     rw[Oek _ L'.length (Of 7) (by rw[U9 (by have:=Je.o;omega)];exact iq),U20,yC];have e1:L'.length=g'.nds.length:=by rw[<-bG.o.nd,Ul]
     have e2:LP.length=(V2r (V2l g' 7 (4,0)) n wt (a,b) g'.nds.length).nds.length:=by rw[<-yC,Ul]
     rw[e1,e2];rfl;show LP.length=(V2r (V2l g' 7 (4,0)) n wt (a,b) g'.nds.length).nds.length;rw[<-yC,Ul]
     refine Z208 ?_;intro kS;have hz:=HG.o.size;rcases yA.o k hk with h|h
     rcases Jf.o k h with h|h
     rcases Jd.o k h with h|h
     exact (jH.o k h).imp id (λ h=>by omega)
     exact J40
     exact J40
     exact .inr (by rw[show cx.drew.heap.size=cx.heap.size from rfl]at h;omega)
    exact J61
