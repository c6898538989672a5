/- The proof's part 40. -/
import Derived.Test.YtnkgknbdaiakgaaGreatDoorQ39
set_option maxHeartbeats 16000000
set_option linter.all false
set_option maxRecDepth 100000
namespace Go.Proofs.YtnkgknbdaiakgaaGreatDoor
open Pl Go.Proofs.Tryz Go.RowKit Go.Shelf Go.Joins
attribute [local go_sem] U22
structure V9w(z R:Nat)(k1 k2:Value)(w:World):Prop where
 k:FX z k1 k2 w
 r:w.cell? ⟨R,1,none⟩=some (.int .i64 0)
 rl:R<w.heap.size
theorem V9w.gr{z R:Nat}{k1 k2:Value}{w w':World}(h:V9w z R k1 k2 w)(g:Gr w w'):V9w z R k1 k2 w' :=
 ⟨h.k.gr g,(g.use.1 _ _ h.rl).trans h.r,U13 h.rl g.size⟩
theorem Ocs{w mG:World}{R B base E:Nat}{s:ByteArray}{nv:Value}{L:List Vy}{own ac:Nat->Nat}{so:List (Nat×Nat)}{x:GrX}(h:GrV mG R B base s 0 nv L ac so x)(hE:FX E (0:Int) (0:Int) mG)(jp:ac E=0)(st:St (FV own) (FV ac) w mG)(OL:w.heap.size<=E)(ex:FV own R)(sec dep:Nat) :
    let WF:=((((mG.setCell ⟨R,4,none⟩ sec).setCell ⟨R,5,none⟩ dep).setCell ⟨R,6,none⟩ (.int .i64 ((x.many:Int)+1))).setCell E (0:Int)).setCell ⟨E,1,none⟩ (0:Int)
    FX E (0:Int) (0:Int) WF/\GrV WF R B base s 0 nv L ac so { x with sec:=sec,dep:=dep,many:=x.many+1 }/\St (FV own) (FV ac) w WF:=by
 have zN:R≠E:=λ e=>by have h1:=h.oR;rw[e,jp]at h1;omega
 have g4:=h.setSec sec dep (x.many+1) (U2t _);rw[show (((x.many+1:Nat):Int))=(x.many:Int)+1 from rfl]at g4;have G6:=((hE.other zN (o:=4) sec).other zN (o:=5) dep).other zN (o:=6) (.int .i64 ((x.many:Int)+1));have s4:St (FV own) (FV ac) w (((mG.setCell ⟨R,4,none⟩ sec).setCell ⟨R,5,none⟩ dep).setCell ⟨R,6,none⟩ (.int .i64 ((x.many:Int)+1))) :=
  ((st.setCell (p:=⟨R,4,none⟩) (.inl ex) _).setCell (p:=⟨R,5,none⟩) (.inl ex) _).setCell (p:=⟨R,6,none⟩) (.inl ex) _
 obtain⟨W4,j9⟩:=ExZ (((mG.setCell ⟨R,4,none⟩ sec).setCell ⟨R,5,none⟩ dep).setCell ⟨R,6,none⟩ (.int .i64 ((x.many:Int)+1)))
 rw[j9]at g4 G6 s4⊢;refine⟨G6.set _ _,g4.kept (λ k hk=>?_) (by simp[World.setCell]),(s4.setCell (p:=E) (.inr OL) _).setCell (p:=⟨E,1,none⟩) (.inr OL) _⟩;have hk:k≠E:=λ e=>hk (by rw[e];exact jp)
 rw[U15 _ _ _ _ hk,U15 _ _ _ _ hk]
theorem Onl(w:World)(R B base:Nat)(s:ByteArray)(nv:Value)(L:List Vy)(own:Nat->Nat)(x:GrX)(g:Vb)(h:GM w R B base s nv L own x g)(hL:L.length<=20000001)(hm:x.many<=30000000)(gk gs ck cs:Nat)(ws:List Pl.KW)(la:Nat)(eY:ws.length=la+1)(en:la<=30000000)(ey:gk<w.heap.size)(cM:gs<w.heap.size)(dB:own gk=0)(fT:own gs=0)(aE:∀(j:Nat)(t:Pl.Bs)(a b:Nat),ws[j]?=some (t,a,b)->w.cell? ⟨gk,j,none⟩=some (V2s t)/\w.cell? ⟨gs,j*2,none⟩=some (.int .i64 a)/\w.cell? ⟨gs,j*2+1,none⟩=some (.int .i64 b))(X:V9 Vb)(hX:V2v g ws=X)(a8:X≠.non):Calls prog 87 #[.pointer (some ⟨R,0,none⟩),.agg #[.slice gk ws.length ck,.slice gs ws.length cs]] w (V9t w R B base s own x.iv x.nsv X):=by
 have H:=U10 h;have HX:=U10 hX;have mg:=U10 aE;clear h hX aE;have fN:=U10 eY;clear eY;go_enter func87,ntmps87
 go_upto_region 1 with fail
 obtain⟨W,hW⟩:=ExZ ((w.alloc (.cells #[.slice gk ws.length ck,.slice gs ws.length cs] 42)).alloc (.cells #[(0:Int),(0:Int)] 29))
 obtain⟨bj,jp,gW,hz⟩:V9w w.heap.size R (.slice gk ws.length ck) (.slice gs ws.length cs) W/\FX (w.heap.size+1) (0:Int) (0:Int) W/\Gr w W/\W.heap.size=w.heap.size+1+1:=by
  refine Z196 ?_;intro f1 g2 z2 w2 h2;rw[h2]at hW f1 g2 z2;refine Z127 ?_;intro f2 g3 z3;rw[hW]at f2 g3 z3;rw[z2]at f2 z3;have hR:=H.o.v.R_lt;exact⟨⟨f1.gr g3,((g2.trans g3).use.1 _ _ hR.2).trans H.o.v.cells.1.2.1,Ya⟩,f2,g2.trans g3,z3⟩
 rw[hW];clear hW;have eu:=U10 bj;have sN:=U10 jp;have HG:=U10 gW;clear bj jp gW;obtain⟨Y,hY⟩:=ExZ (V24 (2,0) V37 ws.dropLast 0 1 g)
 have HY:=U10 hY;have bP:Y≠.non:=λ e=>by
  have:=HX.o;unfold V2v at this;rw[HY.o,e]at this;exact a8 this.symm
 clear hY;have jk:=U10 (λ V (q:Gr w V)=>O8f V R B base s nv L own x g (H.o.gr q) 0 1 (2,0) hL hm Ya gk gs ck cs ws la fN.o en (U13 ey q.size) (U13 cM q.size) dB fT
  (λ j t a b hj=>⟨(q.use.1 _ _ ey).trans (mg.o j t a b hj).1,(q.use.1 _ _ cM).trans (mg.o j t a b hj).2.1,(q.use.1 _ _ cM).trans (mg.o j t a b hj).2.2⟩) Y HY.o bP)
 refine Z211 ?_;intro a9 HZ;clear hz
 go_cut [5,6] (λ s5 s6 W'=>Vat W R B base s own x Y s5 s6 W')
 case first =>
  have hS:=eu.o.gr (Gr.refl W).drew;refine Reg.begin' (W:=λ i=>i != 11&&i != 17&&i != 18) (S:=V9w w.heap.size R (.slice gk ws.length ck) (.slice gs ws.length cs)) Yc ?_;refine Z32 ?_;refine Z41 ?_;refine Reg.tl 5 hS ?_ (hy:=by intro w ab;obtain⟨⟨s2,s3,s4,s5⟩,s6,s8⟩:=ab;go_simp;try with_reducible rfl);refine Reg.ty 6 ?_;refine Reg.tl 7 hS ?_ (hy:=by intro w ab;obtain⟨⟨s2,s3,s4,s5⟩,s6,s8⟩:=ab;go_simp;try with_reducible rfl);refine Z42 ?_;exact J105
 case rest =>
  obtain⟨b5,b6,rfl,rfl,x9,h5,h6,rK⟩:=hcut;have ae:=HX.o;unfold V2v at ae;rw[HY.o]at ae;have pF:=H.o.v.R_lt;cases Y with
  |non=>exact absurd rfl bP
  |bad c p =>
   simp only at ae;obtain⟨⟨n,d,f5⟩,f6,dJ,ac,st2,dX,kS⟩:=rK;have hE:=sN.o.st st2 (λ e=>by have:=(H.o.v.lt _ e).2;omega);obtain⟨k0,k1,kf,kl⟩:=id f6;have Ko:=U10 hE;have F6:=U10 f6;have dZ:=U10 st2;clear hE f5 f6;go_wp2_with fail;refine (O21 c p Ya wc).mono ?_;rintro e w5 ⟨rfl,g5⟩;have oP:=F6.o.gr g5;have iQ:=Ko.o.gr g5;obtain⟨v0,v1,vf,vl⟩:=id oP;obtain⟨r0,r1,rf,rl⟩:=id iQ;clear k0 k1 kf kl;go_wp2_with fail;have hF:=iQ.set c p;have sF:St (FV own) (FV ac) w _:=((((HG.o.st).trans dZ.o).gr g5).setCell (p:=⟨w+1,0,none⟩) (.inr Yj) c).setCell (p:=⟨w+1,1,none⟩) (.inr Yj) p;have aF:((w5.setCell (w.heap.size+1:Nat) c).setCell ⟨w+1,1,none⟩ p).cell? ⟨R,2,none⟩=some (.string s):=by
    exact J87
   obtain⟨WF,ao⟩:=ExZ (((w5.setCell (w.heap.size+1:Nat) c).setCell ⟨w+1,1,none⟩ p))
   rw[ao]at hF sF aF;rw[ao];clear ao;obtain⟨q0,q1,qf,ql⟩:=hF;rw[<-ae];exact U11 (v:=fv c p) (by simp[results,results87,go_sem,q0,q1,qf,ql]) rfl ⟨rfl,dJ,ac,sF,aF,λ k hk=>(kS k hk).imp id (λ h=>by have:=HG.o.size;omega)⟩
  |ok r =>
   obtain⟨n,d,g'⟩:=r;simp only at ae;obtain⟨f5,f6,nv',L',own',z5,z6,cE,aa,mn⟩:=rK;have bz:∀k,w.heap.size<=k->k<W.heap.size->¬FV own k:=λ k h1 h2 e=>by have:=(H.o.v.lt k e).2;omega
   have hz:=HZ.o;have hE:=sN.o.st aa (bz _ Ya Ya);have xa:=eu.o.k.st aa (bz _ Ya Ya);have HE:=U10 hE;have DK:=U10 xa;refine Z132 ?_;intro F5 F6 bG bO kb k0 k1 kf kl wt a b eT;have aW:ws.getLast?=some (wt,a,b):=by rw[U3i,fN.o];exact eT
   rw[aW]at ae;simp only at ae;have bY:=U10 ae;have GF:=U10 eT;clear hE xa f5 f6 aa cE mn eT aW ae hz bz;go_wp2_with fail;refine (O1n wc).mono ?_;rintro e w5 ⟨rfl,g5⟩;obtain⟨x0,x1,xf,xl⟩:=DK.o.gr g5;clear k0 k1 kf kl;go_wp2_with fail;have ji:=U13 ey HG.o.size;have jj:=U13 cM HG.o.size;have V3e:∀o,w5.cell? ⟨gk,o,none⟩=w.cell? ⟨gk,o,none⟩:=λ o=>(g5.use.1 _ _ (U13 ji bG.o.size)).trans (((bG.o.use gk ji (λ e=>e dB)).1 _).trans (HG.o.use.1 _ _ ey))
   have xI:∀o,w5.cell? ⟨gs,o,none⟩=w.cell? ⟨gs,o,none⟩:=λ o=>(g5.use.1 _ _ (U13 jj bG.o.size)).trans (((bG.o.use gs jj (λ e=>e fT)).1 _).trans (HG.o.use.1 _ _ cM))
   refine Z64 ?_;intro r1 r2 r3 w6 g6 fZ cP;obtain⟨e0,e1,ef,el⟩:=F5.o.gr fZ;have Bx:=U10 fZ;clear x0 x1 xf xl V3e xI r1 r2 r3 cP g5 g6 fZ;have zL:=O99 _ _ (λ _ _ _ _ _ e=>Ocp e) _ _ _ _ _ _ _ HY.o (by rw[<-H.o.nd,U1j];exact hL);have zv:L'.length<=20000001:=by have:=zL.1;rw[<-bO.o.nd,U1j]at this;exact this
   have qV:d<=100000000:=by have:=zL.2;rw[U4i,fN.o]at this;omega
   clear zL;have iD:bs (⟨wt.toArray⟩:ByteArray)=wt:=by simp[bs]
   obtain⟨XS,oo⟩:=ExZ (V1a g'.nds n wt)
   have ae:=bY.o;rw[oo]at ae;have kQ:XS≠.non:=λ e=>by rw[e]at ae;exact a8 ae.symm
   refine Z140 ?_;intro W7 pL G7 cg g7 z7;have gj:=U10 (bO.o.gr G7.o);have lX:=U10 (Ock W7 R B base s 0 nv' L' own' g'.srt x gj.o.v n ⟨wt.toArray⟩ XS (by rw[bO.o.nd,iD];exact oo) kQ);have Dd:=U10 oo;have JP:∀i,XS=.yes i->i<L'.length:=λ i e=>by
    have h1:=Dd.o;rw[e]at h1;unfold V1a at h1
    split at h1;cases h1
    split at h1;cases h1
    split at h1;cases h1
    split at h1
    rename_i h2
    cases h1;rw[<-bO.o.nd,U1j]at h2;exact h2
    cases h1
   have G8:=U10 cg;clear e0 e1 ef el;obtain⟨e0,e1,ef,el⟩:=F5.o.gr G7.o;obtain⟨y0,y1,yf,yl⟩:=cg;have RD:IntKind.i64.wrap ((d:Int)+2)=(d:Int)+2:=U1k _ ⟨Ya,Ya⟩;have SE:=gj.o.v.R_lt.2;clear oo;go_wp2_with fail;refine lX.o.mono ?_;refine Z48 ?_;clear lX;cases XS with
   |non=>exact absurd rfl kQ
   |yes i =>
    have hi:=JP i rfl;have s0:((i:Int) != -1)=true:=Yb;obtain⟨⟨c0,c1,c2,c3,c4,c5,c6⟩,c7,c8,fz⟩:=gj.o.v.cells;obtain⟨sh,sof,bR⟩:∃a b,g'.srt.getD i (0,0)=(a,b):=⟨_,_,rfl⟩
    have rC:=gj.o.v.look i Ya W7 rfl;rw[bR,show O20 (sh,sof)=.agg #[.int .u8 sh,sof] from rfl]at rC;have BF:(Vd g' i).1=sh:=by unfold Vd;rw[bR]
    have yG:∀W,(Instr.field 94 (.agg #[.int .u8 sh,sof]) 0).run prog W=.ok (.int .u8 sh) W:=λ W=>by kernel_rfl
    have OM:=yG W7;simp only at ae;rw[BF]at ae;clear c0 c1 c2 c4 c5 c6 c7 c8 fz;dsimp only [O2t];by_cases h4:sh=4
    ·have s4:((sh:Int) != 4)=false:=by simp;omega
     rw[U1a h4]at ae;have H4:=U10 h4;clear h4;by_cases hH:256<d+2;exact J132
     have s2:decide ((256:Int)<(d:Int)+2)=false:=Ye;rw[U1c hH]at ae;obtain⟨ri,iE⟩:∃r,L'[i]?=some r:=⟨_,U1e hi⟩
     by_cases cY:(Pl.subsOk g' i&&Pl.room g'.nds)=true
     ·rw[U1a cY]at ae;rw[U1h]at cY;have tO:ri.nd.subs.length<=30000000:=by
       have h1:=cY.1;unfold Pl.subsOk at h1;rw[<-bO.o.nd,U1m,iE]at h1;exact of_decide_eq_true h1
      have h8:Oi g'.srt i:=by unfold Oi;rw[bR];show sh≠0;have:=H4.o;omega
      have ex:FV own R:=by unfold FV;rw[H.o.v.oR];omega
      refine Z280 ?_;intro jp;clear cY
      go_upto_region 13 with fail
      have eQ:FX b5 n d W7.drew:=(F5.o.gr G7.o).gr (Gr.refl W7).drew;have zO:=(HE.o.gr G7.o)
      have sU:=(F6.o.gr G7.o)
      have fc:=((((HG.o.st).trans bG.o).gr G7.o))
      have vH:=U10 (O8g W7.drew R B base s _ _ _ _ x (gj.o.v).drew Ya hm (i) (ri) (iE) (h8) (tO));refine Z314 ?_;rintro e mG ⟨he,xc,eJ,SF,SG,SH,vd,rN,zP⟩;subst he;have kU:=eQ.st rN (λ e=>e z5);refine Z77 ?_;refine Z59 ?_;obtain⟨⟨c0,c1,c2,c3,c4,c5,c6⟩,c7,c8,fz⟩:=vd.cells;have rO:=(zO.gr (Gr.refl W7).drew).st rN (λ e=>e jp);have oA:=(sU.gr (Gr.refl W7).drew).st rN (λ e=>e z6);have rP:=fc.drew.trans rN;have Kx:eJ (w.heap.size+1)=0:=U1g λ h=>(zP _ h).elim (λ h=>h jp) (λ h=>by have h1:=zO.2.2.2;rw[show W7.drew.heap.size=W7.heap.size from rfl]at h;omega)
      have DW:=Ocs vd rO Kx rP (U2t _) ex L'.length (d+2);refine Z241 ?_;intro wm;have Ky:=vd.R_lt.2;have Kz:=U10 DW;have zQ:=U10 zP;obtain⟨r0,r1,rf,rl⟩:=rO;obtain⟨v0,v1,vf,vl⟩:=oA;clear DW vd rN zP rP zO sU fc c0 c1 c2 c3 c7 c8;refine Reg.on 10 ?_;refine Z298 ?_;go_wp2_with fail;obtain⟨xd,oC,sX⟩:=Kz.o;obtain⟨WF,ao⟩:=ExZ (((((mG.setCell ⟨R,4,none⟩ L'.length).setCell ⟨R,5,none⟩ (.int .i64 ((d+2:Nat):Int))).setCell ⟨R,6,none⟩ (.int .i64 ((x.many:Int)+1))).setCell (w.heap.size+1:Nat) (0:Int)).setCell ⟨w+1,1,none⟩ (0:Int))
      rw[ao]at xd oC sX;rw[show ((d+2:Nat):Int)=(d:Int)+2 from rfl]at ao;rw[ao];clear ao r0 r1 rf rl v0 v1 vf vl;obtain⟨q0,q1,qf,ql⟩:=xd;rw[<-ae];refine U11 (v:=f0) (by simp[results,results87,go_sem,q0,q1,qf,ql]) rfl ⟨rfl,xc,_,eJ,{ x with sec:=L'.length,dep:=d+2,many:=x.many+1 },rfl,rfl,⟨oC,?_,?_,rfl,by show x.many+1=g'.many+1;rw[bO.o.many]⟩,sX,λ k hk=>?_⟩
      rw[Oej _ i ri (by rw[U19 hi];exact iE),U2x,bO.o.nd];have e1:L'.length=g'.nds.length:=by rw[<-bO.o.nd,U1j]
      rw[e1];rfl;show L'.length=g'.nds.length;rw[<-bO.o.nd,U1j]
      refine Z208 ?_;intro ls;rcases zQ.o k hk with h|h
      exact (kb.o k h).imp id (λ h=>by have:=HG.o.size;omega)
      exact .inr (by rw[show W7.drew.heap.size=W7.heap.size from rfl]at h;have:=HG.o.size;omega)
     exact J84
    have s4:((sh:Int) != 4)=true:=Ye;rw[U1c h4]at ae;clear h4;have iQ:=(HE.o.gr G7.o)
    obtain⟨r0,r1,rf,rl⟩:=id iQ;go_wp2_with fail;have hF:=iQ.set (5:Int) a;have Bn:=(((HG.o.st).trans bG.o).gr G7.o)
    have sF:St (FV own) (FV own') w _:=(Bn.setCell (p:=⟨w+1,0,none⟩) (.inr Yj) (5:Int)).setCell (p:=⟨w+1,1,none⟩) (.inr Yj) a;have aF:((W7.setCell (w.heap.size+1:Nat) (5:Int)).setCell ⟨w+1,1,none⟩ a).cell? ⟨R,2,none⟩=some (.string s):=by
     exact J93
    obtain⟨WF,ao⟩:=ExZ (((W7.setCell (w.heap.size+1:Nat) (5:Int)).setCell ⟨w+1,1,none⟩ a))
    rw[ao]at hF sF aF;rw[ao];clear ao;obtain⟨q0,q1,qf,ql⟩:=hF;rw[<-ae];exact U11 (v:=fv 5 a) (by simp[results,results87,go_sem,q0,q1,qf,ql]) rfl ⟨rfl,Yd,own',sF,aF,λ k hk=>(kb.o k hk).imp id (λ h=>by have:=HG.o.size;omega)⟩
   |no =>
    have s0:((-1:Int) != -1)=false:=Yb
    simp only at ae;dsimp only [O2t];by_cases hH:256<d+2;exact J132
    have s2:decide ((256:Int)<(d:Int)+2)=false:=Ye;rw[U1c hH]at ae;by_cases cY:(V2o g' n&&Pl.room g'.nds)=true
    ·rw[U1a cY]at ae;rw[U1h]at cY;obtain⟨lc,bx⟩:=cY;unfold V2o at lc;rw[U1h]at lc;obtain⟨bh,f7⟩:=lc;have fx:=bh;unfold Pl.kind8 at fx;rw[U1h,U1x]at fx;obtain⟨sP,cI⟩:=fx;obtain⟨r,hr⟩:∃r,L'[n]?=some r:=by
      cases hr:L'[n]? with
      |some r=>exact⟨r,rfl⟩
      |none =>
       rw[<-bO.o.nd,U1m,hr]at cI;cases cI
     have qp:g'.nds[n]?=some r.nd:=by rw[<-bO.o.nd,U1m,hr];rfl
     rw[qp]at cI;simp only[U1h,U1x]at cI;obtain⟨⟨⟨_,ag⟩,aF⟩,lC⟩:=cI;have ON:n<L'.length:=(U14.1 hr).1;have aZ:(L'++[Og 7])[n]?=some r:=by rw[U19 ON];exact hr
     have oa:g'.srt.length=L'.length:=bO.o.v.sl;have cB:Oi (g'.srt++[(4,0)]) n:=by
      have h1:(g'.srt++[(4,0)]).getD n (0,0)=g'.srt.getD n (0,0):=by
       exact J85
      unfold Oi;rw[h1];intro h2;unfold Vd at f7;rw[h2]at f7;cases f7
     have ex:FV own R:=by unfold FV;rw[H.o.v.oR];omega
     refine Z280 ?_;intro jp;have SI:=G8.o.2.2.2;have oS:own' w6.heap.size=0:=U1g λ h=>by have h1:=(bO.o.v.lt _ h).2;have:=Bx.o.size;omega
     go_wp2_with fail;refine (O6k W7 R B base s 0 nv' L' own' g'.srt x gj.o.v Ya hm 7 (4,0)).mono ?_;rintro e w9 ⟨he,kO,aC,ig,iL,mJ⟩;subst he;have bD:∀k,own' k=0->k<W7.heap.size->aC k=0:=λ k h1 h2=>U1g λ h=>(mJ _ h).elim (λ h=>h h1) (λ h=>by omega)
     have x5:=(F5.o.gr G7.o).st iL (λ h=>h z5);have xS:=G8.o.st iL (λ h=>h oS);have X5:=U10 x5;have XS:=U10 xS;obtain⟨e0,e1,ef,el⟩:=x5;obtain⟨y0,y1,yf,yl⟩:=xS;have oq:=U10 (Oco w9 R B base s 0 kO (L'++[Og 7]) aC (g'.srt++[(4,0)]) x ig (by rw[U1b];simp only[U1z];omega) n r aZ cB ag aF lC ⟨wt.toArray⟩ a b L'.length);have m5:=bD b5 z5 (F5.o.gr G7.o).2.2.2;have m6:=bD b6 z6 (F6.o.gr G7.o).2.2.2;have mE:=bD (w.heap.size+1) jp (HE.o.gr G7.o).2.2.2;have zR:=U10 iL;have KA:=U10 mJ;have h9:=iL.size;clear aZ qp cB ig iL mJ bD;go_wp2_with fail;refine oq.o.mono ?_;rintro e cH ⟨he,ac,kv,sv,uv,je,dZ,sQ⟩;subst he;have bD:∀k,aC k=0->k<w9.heap.size->ac k=0:=λ k h1 h2=>U1g λ h=>(sQ _ h).elim (λ h=>h h1) (λ h=>by omega)
     have x5:=X5.o.st dZ (λ h=>h m5);have xE:=((HE.o.gr G7.o).st zR.o (λ h=>h jp)).st dZ (λ h=>h mE);have x6:=((F6.o.gr G7.o).st zR.o (λ h=>h z6)).st dZ (λ h=>h m6);have iX:=((((HG.o.st).trans bG.o).gr G7.o).trans zR.o).trans dZ;have k5:=bD b5 m5 X5.o.2.2.2;have k6:=bD b6 m6 (U13 (F6.o.gr G7.o).2.2.2 h9);have kE:=bD (w.heap.size+1) mE (U13 (HE.o.gr G7.o).2.2.2 h9);have SJ:=U10 x5;have XE:=U10 xE;have X6:=U10 x6;obtain⟨LP,Bd⟩:=ExZ ((L'++[Og 7]).set n ⟨V10 r.nd (bs ⟨wt.toArray⟩) (a,b) L'.length,kv,sv,uv⟩)
     rw[Bd]at je;have zS:LP.map (·.nd)=(V1r (V1o g' 7 (4,0)) n wt (a,b) g'.nds.length).nds:=by
      rw[<-Bd,O98 _ n r (by rw[U19 ON];exact hr),show bs (⟨wt.toArray⟩:ByteArray)=wt by simp[bs],U2x,bO.o.nd,show L'.length=g'.nds.length from by rw[<-bO.o.nd,U1j]];rfl
     have SK:LP.length<=20000002:=by rw[<-Bd];simp;omega
     have KB:=U10 (show LP.length=L'.length+1 by rw[<-Bd];simp);have iE:LP[L'.length]?=some (Og 7):=by
      rw[<-Bd,List.getElem?_set_ne Ya,U1y (U12 _),U42];rfl
     have h8:Oi (g'.srt++[(4,0)]) L'.length:=by
      unfold Oi;rw[U1i,<-oa,U1y (U12 _),U42];decide
     have aX:=U10 dZ;have KC:=U10 sQ;have da:=dZ.size;have dM:=U10 je;have SM:=je.R_lt.2;clear x5 xE x6 dZ sQ je bD Bd e0 e1 ef el y0 y1 yf yl oq
     go_upto_region 13 with fail
     have eQ:FX b5 n d cH.drew:=(SJ.o).gr (Gr.refl cH).drew;have zO:=(XE.o)
     have sU:=(X6.o)
     have fc:=(iX)
     have vH:=U10 (O8g cH.drew R B base s _ _ _ _ x (dM.o).drew (SK) hm (L'.length) (Og 7) (iE) (h8) (by simp[Og,V14]));refine Z314 ?_;rintro e mG ⟨he,xc,eJ,SF,SG,SH,vd,rN,zP⟩;subst he;have kU:=eQ.st rN (λ e=>e k5);refine Z77 ?_;refine Z59 ?_;obtain⟨⟨c0,c1,c2,c3,c4,c5,c6⟩,c7,c8,fz⟩:=vd.cells;have rO:=(zO.gr (Gr.refl cH).drew).st rN (λ e=>e kE);have oA:=(sU.gr (Gr.refl cH).drew).st rN (λ e=>e k6);have rP:=fc.drew.trans rN;have Kx:eJ (w.heap.size+1)=0:=U1g λ h=>(zP _ h).elim (λ h=>h kE) (λ h=>by have h1:=zO.2.2.2;rw[show cH.drew.heap.size=cH.heap.size from rfl]at h;omega)
     have DW:=Ocs vd rO Kx rP (U2t _) ex LP.length (d+2);refine Z241 ?_;intro wm;have Ky:=vd.R_lt.2;have Kz:=U10 DW;have zQ:=U10 zP;obtain⟨r0,r1,rf,rl⟩:=rO;obtain⟨v0,v1,vf,vl⟩:=oA;clear DW vd rN zP rP zO sU fc c0 c1 c2 c3 c7 c8;refine Reg.on 10 ?_;refine Z298 ?_;go_wp2_with fail;obtain⟨xd,oC,sX⟩:=Kz.o;obtain⟨WF,ao⟩:=ExZ (((((mG.setCell ⟨R,4,none⟩ LP.length).setCell ⟨R,5,none⟩ (.int .i64 ((d+2:Nat):Int))).setCell ⟨R,6,none⟩ (.int .i64 ((x.many:Int)+1))).setCell (w.heap.size+1:Nat) (0:Int)).setCell ⟨w+1,1,none⟩ (0:Int))
     rw[ao]at xd oC sX;rw[show ((d+2:Nat):Int)=(d:Int)+2 from rfl]at ao;rw[ao];clear ao r0 r1 rf rl v0 v1 vf vl;obtain⟨q0,q1,qf,ql⟩:=xd;rw[<-ae];refine U11 (v:=f0) (by simp[results,results87,go_sem,q0,q1,qf,ql]) rfl ⟨rfl,xc,_,eJ,{ x with sec:=LP.length,dep:=d+2,many:=x.many+1 },rfl,rfl,⟨oC,?_,?_,rfl,by show x.many+1=g'.many+1;rw[bO.o.many]⟩,sX,λ k hk=>?_⟩
     rw[Oej _ L'.length (Og 7) (by rw[U19 (by have:=KB.o;omega)];exact iE),U2x,zS];have e1:L'.length=g'.nds.length:=by rw[<-bO.o.nd,U1j]
     have e2:LP.length=(V1r (V1o g' 7 (4,0)) n wt (a,b) g'.nds.length).nds.length:=by rw[<-zS,U1j]
     rw[e1,e2];rfl;show LP.length=(V1r (V1o g' 7 (4,0)) n wt (a,b) g'.nds.length).nds.length;rw[<-zS,U1j]
     refine Z208 ?_;intro ls;have hz:=HG.o.size;rcases zQ.o k hk with h|h
     rcases KC.o k h with h|h
     rcases KA.o k h with h|h
     exact (kb.o k h).imp id (λ h=>by omega)
     exact J69
     exact J69
     exact .inr (by rw[show cH.drew.heap.size=cH.heap.size from rfl]at h;omega)
    exact J84
structure WB3(z:Nat)(a b c d e f:Value)(w:World):Prop where
 i:FX z a b w
 t:FX (z+1) c d w
 f:FX (z+1+1) e f w
theorem WB3.gr{z:Nat}{a b c d e f:Value}{w w':World}(h:WB3 z a b c d e f w)(g:Gr w w'):WB3 z a b c d e f w':=⟨h.i.gr g,h.t.gr g,h.f.gr g⟩
theorem WB3.st{z:Nat}{a b c d e f:Value}{w w':World}{F F':Nat->Prop}(h:WB3 z a b c d e f w)(g:St F F' w w')(hF:∀k,z<=k->k<=z+1+1->¬F k):WB3 z a b c d e f w' :=
 ⟨h.i.st g (hF _ Ya Ya),h.t.st g (hF _ Ya Ya),h.f.st g (hF _ Ya Ya)⟩
theorem WB3.new(w:World)(a b c d e f:Value)(T0 T1 T2:TypeId):WB3 w a b c d e f (((w.alloc (.cells #[a,b] T0)).alloc (.cells #[c,d] T1)).alloc (.cells #[e,f] T2))/\Gr w (((w.alloc (.cells #[a,b] T0)).alloc (.cells #[c,d] T1)).alloc (.cells #[e,f] T2)) /\(((w.alloc (.cells #[a,b] T0)).alloc (.cells #[c,d] T1)).alloc (.cells #[e,f] T2)).heap.size=w.heap.size+1+1+1:=by
 obtain⟨f1,g1,z1⟩:=bx2 w a b T0;obtain⟨w1,h1⟩:=ExZ (w.alloc (.cells #[a,b] T0))
 rw[h1]at f1 g1 z1⊢;obtain⟨f2,g2,z2⟩:=bx2 w1 c d T1;obtain⟨w2,h2⟩:=ExZ (w1.alloc (.cells #[c,d] T1))
 rw[h2]at f2 g2 z2⊢;obtain⟨f3,g3,z3⟩:=bx2 w2 e f T2;rw[z1]at f2 z2;rw[z2]at f3 z3;exact⟨⟨f1.gr (g2.trans g3),f2.gr g3,f3⟩,g1.trans (g2.trans g3),z3⟩
def O8h(w:World)(R B base:Nat)(s:ByteArray)(own:Nat->Nat)(iv nsv:Value)(X:V9 (Nat×Nat×Vc×Vb))(e:Ending)(w':World):Prop:=match X with
 |.non=>True
 |.bad c p=>(∃(v1 v2:Int)(o:Option Addr)(l k:Nat)(v4:Int),e=.returned (.tuple #[.agg #[v1,v2],.agg #[.slice o l k,v4],fv c p]))/\c≠0/\∃own',St (FV own) (FV own') w w'/\w'.cell? ⟨R,2,none⟩=some (.string s)/\(∀k,own' k≠0->own k≠0\/w.heap.size<=k)
 | .ok (into,root,nds,g')=>∃(dd:Int)(tv:Value)(T:List Vy)(base2:Nat)(nv':Value)(L':List Vy)(own':Nat->Nat)(x':GrX),e=.returned (.tuple #[.agg #[into,dd],.agg #[tv,root],f0])/\x'.iv=iv/\x'.nsv=nsv /\
     GM w' R B base s nv' L' own' x' g'/\St (FV own) (FV own') w w'/\(∀k,own' k≠0->own k≠0\/w.heap.size<=k)/\O8e w' base2 tv T/\T.map (·.nd)=nds/\w.heap.size<=base2/\(∀k,base2<=k->own' k=0)
def Vbw(X:V9 Vb):V9 (Nat×Nat×Vc×Vb):=match X with
 |.non => .non
 |.bad c p => .bad c p
 |.ok g1 => .ok (0,0,[],g1)
theorem V9t.open{V w2:World}{R B base:Nat}{s:ByteArray}{own:Nat->Nat}{iv nsv:Value}{Y:V9 Vb}{e:Ending}(h:V9t V R B base s own iv nsv Y e w2)(hn:Y≠.non):∃(c q:Int),e=.returned (.agg #[c,q])/\∃own',St (FV own) (FV own') V w2:=by
 cases Y with
 |non=>exact absurd rfl hn
 |bad c p =>
  obtain⟨he,_,own',aa,_⟩:=h;exact⟨c,p,he,own',aa⟩
 |ok r =>
  obtain⟨he,_,_,own',_,_,_,_,aa,_⟩:=h;exact⟨0,0,he,own',aa⟩
theorem Ofv{w w5 w6:World}{R B base:Nat}{s:ByteArray}{own:Nat->Nat}{iv nsv:Value}{X':V9 Vb}{c q:Int}(g5:Gr w w5)(hz:w.heap.size+1+1<w5.heap.size)(a9:∀k,own k≠0->k<w.heap.size)(hR:R<w.heap.size)(h:V9t w5 R B base s own iv nsv X' (.returned (.agg #[c,q])) w6):O8h w R B base s own iv nsv (Vbw X') (.returned (.tuple #[.agg #[(0:Int),(0:Int)],.agg #[.slice none 0 0,(0:Int)],.agg #[c,q]])) ((w6.setCell (w.heap.size+1+1:Nat) c).setCell ⟨w+1+1,1,none⟩ q):=by
 have hb:∀k,k≠w.heap.size+1+1->((w6.setCell (w.heap.size+1+1:Nat) c).setCell ⟨w+1+1,1,none⟩ q).heap[k]?=w6.heap[k]?:=λ k hk=>by
  show ((w6.setCell (w.heap.size+1+1:Nat) c).setCell ⟨w+1+1,1,none⟩ q).heap[k]?=_;rw[U15 _ _ _ _ hk,U15 _ _ _ _ hk]
 have iR:((w6.setCell (w.heap.size+1+1:Nat) c).setCell ⟨w+1+1,1,none⟩ q).heap.size=w6.heap.size:=by
  show ((w6.setCell (w.heap.size+1+1:Nat) c).setCell ⟨w+1+1,1,none⟩ q).heap.size=_;simp[World.setCell]
 have aa:∀own',St (FV own) (FV own') w5 w6->St (FV own) (FV own') w ((w6.setCell (w.heap.size+1+1:Nat) c).setCell ⟨w+1+1,1,none⟩ q):=λ own' h=>((((g5.st).trans h).setCell (p:=⟨w+1+1,0,none⟩) (.inr Yj) _).setCell (p:=⟨w+1+1,1,none⟩) (.inr Yj) _)
 have h5:=g5.size;cases X' with
 |non=>trivial
 |bad c' p' =>
  obtain⟨he,hc,own',h1,h2,h3⟩:=h;have e1:c=(c':Int)/\q=(p':Int):=by simpa [fv]using he
  obtain⟨rfl,rfl⟩:=e1;exact⟨⟨_,_,_,_,_,_,rfl⟩,hc,own',aa own' h1,(U1r (w:=w6) (a:=⟨R,2,none⟩) (hb R Ya)).trans h2,λ k hk=>(h3 k hk).imp id (λ h=>by omega)⟩
 |ok g' =>
  obtain⟨he,nv',L',own',x',e1,e2,cE,h1,h3⟩:=h;have e3:c=0/\q=0:=by simpa [f0]using he
  obtain⟨rfl,rfl⟩:=e3;have fI:own' (w.heap.size+1+1)=0:=U1g λ h=>(h3 _ h).elim (λ h=>by have:=a9 _ h;omega) (λ h=>by omega)
  have h6:=h1.size;refine⟨0,_,[],w6.heap.size,nv',L',own',x',rfl,e1,e2,⟨cE.v.kept (λ k hk=>hb k (λ e=>hk (by rw[e];exact fI))) (U41 iR.symm),cE.nd,cE.sec,cE.dep,cE.many⟩,aa own' h1,λ k hk=>(h3 k hk).imp id (λ h=>by omega),.inl ⟨rfl,rfl⟩,rfl,Ya,λ k hk=>U1g λ h=>by have:=(cE.v.lt k h).2;omega⟩
theorem Ocu(s:ByteArray)(n:Nat):Pl.pre ((bs s).drop n) (bs ⟨#[61]⟩)=decide (Va (bs s) n=61):=by
 show Pl.pre ((bs s).drop n) [61]=_;unfold Va;cases h:(bs s)[n]? with
 |none =>
  rw[U1t (by simpa using h)];rfl
 |some c =>
  obtain⟨hl,hc⟩:=U14.1 h;rw[U1u hl,hc];have h1:(c==61)=decide (c.toNat=61):=by
   by_cases e:c=61;subst e;rfl
   have e2:¬c.toNat=61:=λ e2=>e (by rw[<-U2d];exact e2)
   simp[e,e2]
  simp[Pl.pre,h1]
theorem V2b.keptB{W W':World}{base g:Nat}{L:List Vy}(h:V2b W base g L)(hb:∀k,base<=k->k<W.heap.size->W'.heap[k]?=W.heap[k]?)(hz:W.heap.size<=W'.heap.size):V2b W' base g L :=
 ⟨⟨h.lt.1,U13 h.lt.2 hz⟩,λ i r hr j v hv=>(U1r (w:=W) (a:=⟨g,i*7+j,none⟩) (hb g h.lt.1 h.lt.2)).trans (h.cell i r hr j v hv),λ i r hr=>by
  obtain⟨a,b,c⟩:=h.rows i r hr;exact⟨a.of_block λ k e=>hb k (a.lt k e).1 (a.lt k e).2,b.of_block λ k e=>hb k (b.lt k e).1 (b.lt k e).2,c.of_block λ k e=>hb k (c.lt k e).1 (c.lt k e).2⟩,h.tg⟩
theorem O8e.keptB{W W':World}{base:Nat}{v:Value}{L:List Vy}(h:O8e W base v L)(hb:∀k,base<=k->k<W.heap.size->W'.heap[k]?=W.heap[k]?)(hz:W.heap.size<=W'.heap.size):O8e W' base v L :=
 h.imp id λ ⟨g,e,hT⟩=>⟨g,e,hT.keptB hb hz⟩
theorem O60.open{s:ByteArray}{V w2:World}{Y:V9 (Nat×Nat×Vc)}{e:Ending}(h:O60 s V Y e w2)(hn:Y≠.non):∃(a:Option Addr)(n c:Nat)(r m c' q:Int),e=.returned (.tuple #[.agg #[.slice a n c,r],m,.agg #[c',q]])/\Gr V w2:=by
 cases Y with
 |non=>exact absurd rfl hn
 |bad c p=>exact⟨_,_,_,_,_,_,_,h.1,h.2.2⟩
 |ok r =>
  obtain⟨i,m,st⟩:=r;obtain⟨g,L,h1,_,_,_,_,h2⟩:=h;exact⟨_,_,_,_,_,_,_,h1,h2⟩
theorem Oin(E:Vv)(l:Pl.Bs)(n d:Nat):V1g E l n (min d 256)=V1g E l n d:=by
 unfold V1g;rw[show min (min d 256) 256=min d 256 by omega]
theorem Op9(l:Pl.Bs):(Lib.trimPrefix (Lib.trimPrefix l [91]) [91]).length+(if Pl.pre l [91,91] then 2 else if Pl.pre l [91] then 1 else 0)=l.length:=by
 unfold Lib.trimPrefix Lib.hasPrefix;cases l with
 |nil=>rfl
 |cons a l =>
  by_cases ha:a=91
  subst ha;cases l with
  |nil=>rfl
  |cons b l =>
   by_cases hb:b=91;subst hb;simp[Pl.pre,List.isPrefixOf]
   have j8:(b==91)=false:=by simpa using hb
   have aA:((91:UInt8)==b)=false:=by simpa using U3l hb
   simp[Pl.pre,List.isPrefixOf,j8,aA]
  have SO:(a==91)=false:=by simpa using ha
  have BU:((91:UInt8)==a)=false:=by simpa using U3l ha
  cases l <;> simp[Pl.pre,List.isPrefixOf,SO,BU]
def Vdn(z:Nat)(s:ByteArray)(w1:World)(Y:V9 (List Pl.KW×Nat))(s9 kV:Value)(w':World):Prop :=
 ∃bK:Nat,s9=.pointer (some ⟨bK,0,none⟩)/\w1.heap.size<=bK/\bK<w'.heap.size/\St (λ k=>k=z+1+1) (λ k=>k=z+1+1) w1 w'/\match Y with
  |.non=>True
  |.bad c p=>kV=.int .i64 0/\c≠0/\FX (z+1+1) c p w'
  | .ok (ws,m)=>kV=.int .i64 m/\m<=s.size/\FX (z+1+1) (0:Int) (0:Int) w'/\0<ws.length/\ws.length<=s.size+2/\∃gk gs ck cs,FX bK (.slice (some ⟨gk,0,none⟩) ws.length ck) (.slice (some ⟨gs,0,none⟩) ws.length cs) w'/\w1.heap.size<=gk/\w1.heap.size<=gs/\gk<w'.heap.size/\gs<w'.heap.size /\
      ∀(j:Nat)(t:Pl.Bs)(a b:Nat),ws[j]?=some (t,a,b)->w'.cell? ⟨gk,j,none⟩=some (V2s t)/\w'.cell? ⟨gs,j*2,none⟩=some (.int .i64 a)/\w'.cell? ⟨gs,j*2+1,none⟩=some (.int .i64 b)
theorem O6h.open{s:ByteArray}{V w2:World}{Y:V9 (List Pl.KW×Nat)}{e:Ending}(h:O6h s V Y e w2)(hn:Y≠.non):∃(ka:Option Addr)(kn kc:Nat)(sa:Option Addr)(sn sc:Nat)(m c q:Int),e=.returned (.tuple #[.agg #[.slice ka kn kc,.slice sa sn sc],m,.agg #[c,q]])/\Gr V w2:=by
 cases Y with
 |non=>exact absurd rfl hn
 |bad c p=>exact⟨_,_,_,_,_,_,_,_,_,h.1,h.2.2⟩
 |ok r =>
  obtain⟨ws,m⟩:=r;obtain⟨kv,sv,h1,_,hk,hs,_,h0,h2⟩:=h;obtain⟨gk,ck,rfl,_,_⟩:=hk.form h0;obtain⟨gs,cs,rfl,_,_⟩:=hs.form h0;exact⟨_,_,_,_,_,_,_,_,_,h1,h2⟩
theorem O9a{z:Nat}{s:ByteArray}{w1 V w2 w3:World}{Y:V9 (List Pl.KW×Nat)}{kv sv:Value}{m c q:Int}(h:O6h s V Y (.returned (.tuple #[.agg #[kv,sv],m,.agg #[c,q]])) w2)(gV:Gr w1 V)(g2:Gr V w2)(g3:Gr w2 w3){bK:Nat}(G9:w1.heap.size<=bK)(oK:bK<V.heap.size\/w2.heap.size<=bK){x y:Value}(fK:FX bK x y w3)(hz:z+1+1<w1.heap.size){x' y':Value}(ff:FX (z+1+1) x' y' w1):Vdn z s w1 Y (.pointer (some ⟨bK,0,none⟩)) m ((((w3.setCell bK kv).setCell ⟨bK,1,none⟩ sv).setCell (z+1+1:Nat) c).setCell ⟨z+1+1,1,none⟩ q):=by
 have gA:=(gV.trans g2).trans g3;have a8:bK≠z+1+1:=Ya;have s1:St (λ k=>k=z+1+1) (λ k=>k=z+1+1) w1 ((((w3.setCell bK kv).setCell ⟨bK,1,none⟩ sv).setCell (z+1+1:Nat) c).setCell ⟨z+1+1,1,none⟩ q) :=
  ((((gA.st (F:=λ k=>k=z+1+1)).setCell (p:=bK) (.inr G9) kv).setCell (p:=⟨bK,1,none⟩) (.inr G9) sv).setCell (p:=⟨z+1+1,0,none⟩) (.inl rfl) c).setCell (p:=⟨z+1+1,1,none⟩) (.inl rfl) q
 have hF:=((ff.gr gA).other a8 (o:=0) kv).other a8 (o:=1) sv |>.set c q;have hK:=((fK.set kv sv).other (U3l a8) (o:=0) c).other (U3l a8) (o:=1) q;have hb:∀k,k≠bK->k≠z+1+1->((((w3.setCell bK kv).setCell ⟨bK,1,none⟩ sv).setCell (z+1+1:Nat) c).setCell ⟨z+1+1,1,none⟩ q).heap[k]?=w3.heap[k]?:=λ k k1 k2=>by
  rw[U15 _ _ _ _ k2,U15 _ _ _ _ k2,U15 _ _ _ _ k1,U15 _ _ _ _ k1]
 refine⟨bK,rfl,G9,hK.2.2.2,s1,?_⟩;cases Y with
 |non=>trivial
 |bad c' p' =>
  obtain⟨he,hc,_⟩:=h;have h1:m=0/\c=(c':Int)/\q=(p':Int):=by simp[fv,and_assoc]at he;omega
  obtain⟨rfl,rfl,rfl⟩:=h1;exact⟨rfl,hc,hF⟩
 |ok r =>
  obtain⟨ws,m'⟩:=r;obtain⟨ot,pq,he,hm,hk,hs,hl,h0,_⟩:=h;have h1:kv=ot/\sv=pq/\m=(m':Int)/\c=0/\q=0:=by
   simp[f0,and_assoc]at he;obtain⟨a1,a2,a3,a4,a5⟩:=he;exact⟨a1,a2,Ya,a4,a5⟩
  obtain⟨rfl,rfl,rfl,rfl,rfl⟩:=h1;obtain⟨gk,gs,ck,cs,rfl,rfl,l1,l2,l3,l4,hw⟩:=O90 hk hs h0;have az:=gV.size;have iW:=g3.size;have VI:=hb;have nk:gk≠bK/\gk≠z+1+1:=⟨Ya,Ya⟩
  have ns:gs≠bK/\gs≠z+1+1:=⟨Ya,Ya⟩
  have tk:∀o,((((w3.setCell bK (.slice gk ws.length ck)).setCell ⟨bK,1,none⟩ (.slice gs ws.length cs)).setCell (z+1+1:Nat) (0:Int)).setCell ⟨z+1+1,1,none⟩ (0:Int)).cell? ⟨gk,o,none⟩=w2.cell? ⟨gk,o,none⟩:=λ o =>
   (U1r (w:=w3) (a:=⟨gk,o,none⟩) (hb gk nk.1 nk.2)).trans (g3.use.1 _ _ l3)
  have ts:∀o,((((w3.setCell bK (.slice gk ws.length ck)).setCell ⟨bK,1,none⟩ (.slice gs ws.length cs)).setCell (z+1+1:Nat) (0:Int)).setCell ⟨z+1+1,1,none⟩ (0:Int)).cell? ⟨gs,o,none⟩=w2.cell? ⟨gs,o,none⟩:=λ o =>
   (U1r (w:=w3) (a:=⟨gs,o,none⟩) (hb gs ns.1 ns.2)).trans (g3.use.1 _ _ l4)
  refine⟨rfl,hm,hF,h0,hl,gk,gs,ck,cs,hK,Ya,Ya,?_,?_,λ j t a b hj=>?_⟩;simp only[World.setCell,Array.size_modify];omega;simp only[World.setCell,Array.size_modify];omega
  obtain⟨a1,a2,a3⟩:=hw j t a b hj;exact⟨(tk _).trans a1,(ts _).trans a2,(ts _).trans a3⟩
theorem Ol7(Tb:Nat->UInt8×UInt8)(w0 w:World)(eC:Gr w0 w)(bU:RW Tb w0)(R B base:Nat)(kj:w0.heap.size<=base)(s:ByteArray)(hs:s.size<=20000000)(nv:Value)(L:List Vy)(own:Nat->Nat)(x:GrX)(g:Vb)(h:GM w R B base s nv L own x g)(hL:L.length<=20000001)(hm:x.many<=30000000)(kK:g.dep<=100000000)(n:Nat)(hn:n<s.size)(X:V9 (Nat×Nat×Vc×Vb))(hX:V2n ⟨Vi Tb,Ve⟩ (bs s) n g=X)(a8:X≠.non):Calls prog 58 #[.pointer (some ⟨R,0,none⟩),n] w (O8h w R B base s own x.iv x.nsv X):=by
 have hb:=V8 (bs s) n (by rw[O0];omega);rw[O0]at hb;obtain⟨n1,nX⟩:=ExZ (V7 (bs s) n)
 rw[nX]at hb;obtain⟨bJ,aA⟩:=hb;have ae:=hX;unfold V2n at ae;simp only at ae;rw[nX]at ae;have HX:=U10 ae;have H:=U10 h;have ow:=U10 eC;have iJ:=U10 bU;have SP:=U10 nX;have pF:=h.v.R_lt;obtain⟨⟨c0,c1,c2,c3,c4,c5,c6⟩,c7,c8,fz⟩:=h.v.cells;have i0:(0:Int)<=(n1:Int):=Ya
 have i1:(n1:Int)<=(s.size:Int):=Ya;clear h ae hX eC bU nX c0 c1 c3 c4 c5 c6 c7 c8 fz;go_enter func58,ntmps58
 go_upto_region 1 with fail
 obtain⟨W,hW⟩:=ExZ (((w.alloc (.cells #[(0:Int),(0:Int)] 67)).alloc (.cells #[.slice none 0 0,(0:Int)] 26)).alloc (.cells #[(0:Int),(0:Int)] 29))
 obtain⟨hB,gW,hz⟩:=WB3.new w (0:Int) (0:Int) (.slice none 0 0) (0:Int) (0:Int) (0:Int) 67 26 29;rw[hW]at hB gW hz⊢;clear hW;have hS:W.drew.cell? ⟨R,2,none⟩=some (.string s):=(gW.drew.use.1 R 2 pF.2).trans c2;have HB:=U10 hB;have HG:=U10 gW;have HZ:=U10 hz;clear hB gW hz c2;refine Reg.begin' (W:=λ _=>true) (S:=λ W=>W.cell? ⟨R,2,none⟩=some (.string s)) Yc ?_;refine Z307 ?_;refine Reg.ty 8 ?_;refine Reg.on 9 ?_;go_simp;refine (O9 s _ n rfl Ya Ya _).mono ?_;rw[SP.o];rintro e w1 ⟨rfl,g1⟩;have bU:=U13 pF.2 HG.o.size;have ce:w1.cell? ⟨R,2,none⟩=some (.string s):=(g1.use.1 R 2 bU).trans hS;refine Z65 ?_;refine Z61 ?_;refine Z12 ?_;have iy:Gr W w1:=(Gr.refl W).drew.trans g1;have ej:=U10 (HG.o.trans iy);have iV:=U10 (HB.o.gr iy);have BY:=U10 (show w.heap.size+1+1+1<=w1.heap.size by have:=iy.size;have:=HZ.o;omega);clear g1 iy HB HG HZ;obtain⟨⟨p0,p1,pf,pl⟩,⟨p2,p3,fG,fH⟩,⟨p4,p5,dt,db⟩⟩:=id iV.o;have k2:w1.cell? ⟨R,2,none⟩=some (.string s):=ce;have fP:R<w1.heap.size:=U13 pF.2 ej.o.size;clear hS ce bU;by_cases de:n1=s.size
 have bv:V1c ((bs s).drop n1)=true:=by rw[U1t (by rw[O0];omega)];rfl
 have ae:=HX.o;rw[bv,U1a rfl]at ae;have aG:s.extract n1 s.size=ByteArray.empty:=by
  apply U30;apply U2q.1;rw[show (s.extract n1 s.size).data.toList=(bs s).drop n1 from O4 s n1,U1t (by rw[O0];omega)];rfl
 clear bv de;exact J95
 obtain⟨rest,aG,r1,r2,r3,r0,r4⟩:=Oek s n1 Ya;have kC:V1c ((bs s).drop n1)=(bs ⟨#[35,13,10]⟩).contains (rest[0]'r0):=by
  rw[Oct,r4,O8 s n1 Ya];rfl
 have ae:=HX.o;cases bv:V1c ((bs s).drop n1) with
 |true =>
  rw[bv,U1a rfl]at ae;rw[bv]at kC;have G':=U10 kC.symm;clear bv kC r4;exact J95
 |false =>
  rw[bv,U1c Yb]at ae;rw[bv]at kC;have G':=U10 kC.symm;have bY:=U10 ae;clear bv kC r4 ae
  go_upto_region 4 with (go_at_call 85;refine (O_s ⟨#[35,13,10]⟩ _ false G'.o _).mono ?_;rintro e w3 ⟨⟨i,rfl,hi⟩,KD⟩;subst w3;have fh:decide (i<0)=true:=by (simp at hi⊢;omega))
  have qY:bs rest=(bs s).drop n1:=by rw[<-aG,O4]
  obtain⟨m,mP⟩:=ExZ ((if Pl.pre ((bs s).drop n1) [91,91] then 2 else if Pl.pre ((bs s).drop n1) [91] then 1 else 0))
  have dc:=Op9 (bs rest);rw[qY,mP]at dc;rw[U16,O0]at dc;have iZ:rest.size=s.size-n1:=by have:=O0 rest;rw[qY,U16,O0]at this;omega
  obtain⟨Be,zT⟩:∃Be:ByteArray,(⟨(Lib.trimPrefix (Lib.trimPrefix (bs rest) [91]) [91]).toArray⟩:ByteArray)=Be:=⟨_,rfl⟩
  have OO:Be.size+m=s.size-n1:=by
   rw[<-dc,<-zT,qY];simp[ByteArray.size]
  have Is:=U10 (λ W=>strings_TrimPrefix rest ⟨#[91]⟩ W);have KE:Hid (∀W,Calls prog 86 #[.string ⟨(Lib.trimPrefix rest.data.toList [91]).toArray⟩,.string ⟨#[91]⟩] W λ e w'=>e=.returned (.string Be)/\w'=W):=λ W=>by
   have h1:=strings_TrimPrefix ⟨(Lib.trimPrefix rest.data.toList [91]).toArray⟩ ⟨#[91]⟩ W;rw[<-zT];exact h1
  have et:=U10 OO;have oV:=U10 iZ;have cW:=bY.o;rw[mP]at cW;have bY:=U10 cW;have SQ:=U10 mP;clear mP dc qY zT cW OO iZ;go_wp2_with fail;refine (Is.o _).mono ?_;rintro e w3 ⟨rfl,KD⟩;subst w3;go_wp2_with fail;refine (KE.o _).mono ?_;rintro e w3 ⟨rfl,KD⟩;subst w3;obtain⟨bq,AH⟩:=ExZ (V7 (bs s) (n1+m))
  have OP:=(V8 (bs s) (n1+m) (by rw[O0];have:=et.o;omega)).2;rw[AH,O0]at OP;have vS:n1+m<=s.size:=by have:=et.o;omega
  have ST:IntKind.i64.wrap ((s.size:Int)-(Be.size:Int))=(n1:Int)+(m:Int):=by have:=et.o;rw[U1k _ ⟨Ya,Ya⟩];omega
  obtain⟨Y,hY⟩:=ExZ (V1q ⟨Vi Tb,Ve⟩ (bs s) bq)
  have cW:=bY.o;rw[AH,hY]at cW;have bP:Y≠.non:=λ e=>by rw[e]at cW;exact a8 cW.symm
  have bY:=U10 cW;have OQ:=U10 AH;have eh:=U10 (λ V (q:Gr w0 V)=>O3k Tb ⟨Vi Tb,Ve⟩ rfl s _ bq rfl OP hs Y hY bP V (iJ.o.gr q).q);have zU:=U10 (ow.o.trans ej.o);have iW:w.heap.size+1+1<w1.heap.size:=by have:=BY.o;omega
  clear AH hY cW
  go_upto_region 5 with fail
  go_cut [9,10] (λ s9 kV W'=>Vdn w.heap.size s w1 Y s9 kV W')
  case first =>
   have hS:w1.drew.cell? ⟨R,2,none⟩=some (.string s):=k2;refine Reg.begin' (W:=λ i=>i != 17&&i != 23&&i != 25) (S:=λ W=>W.cell? ⟨R,2,none⟩=some (.string s)) Yc ?_;refine Z307 ?_;refine Z42 ?_;refine Reg.tl 11 hS ?_ (hy:=by intro w ab;obtain s0:=ab;go_simp;try with_reducible rfl);refine Z47 ?_;refine Reg.ty 15 ?_;refine Z174 ?_;refine Z14 ?_;intro j hj;rcases hj with rfl|rfl
   ·skip;refine Z157 ?_;go_simp;refine (O9 s _ (n1+m) Ya Ya Ya (w1.drew)).mono ?_;rw[OQ.o];rintro e wb ⟨rfl,gb⟩;have m7:wb.cell? ⟨R,2,none⟩=some (.string s):=(gb.use.1 R 2 fP).trans k2
    first|refine (And.intro (m7) ?_:_/\Reg.anyW _ _ _ _ _ _ _ _ _ _)|refine (And.intro (λ _=>m7) ?_:_/\Reg.anyW _ _ _ _ _ _ _ _ _ _)|refine (And.intro (λ _ _=>m7) ?_:_/\Reg.anyW _ _ _ _ _ _ _ _ _ _)|skip
    refine Z2 ?_;have mQ:Gr w1 wb:=(Gr.refl w1).drew.trans gb;refine Reg.all (rs:=[17,22]) Yc Yb ?_;refine Z14 ?_;intro j hj;rcases hj with rfl|rfl
    ·skip;refine Reg.one (i:=17) rfl Yi ?_;go_simp;refine (eh.o (wb) (zU.o.trans mQ)).mono ?_;rintro e w2 aq;obtain⟨ka,kn,kc,sa,sn,sc,em,ec,eq,rfl,g2⟩:=aq.open bP;refine Z2 ?_;refine Z234 ?_;refine Reg.on 22 ?_;go_simp;have hv:=(mQ.trans g2).size;obtain⟨fK,g3,z3⟩:=bx2 w2 (.slice none 0 0) (.slice none 0 0) 42
     first|refine (And.intro (((g2.trans g3).use.1 R 2 (U13 fP mQ.size)).trans m7) ?_:_/\Reg.anyW _ _ _ _ _ _ _ _ _ _)|refine (And.intro (λ _=>((g2.trans g3).use.1 R 2 (U13 fP mQ.size)).trans m7) ?_:_/\Reg.anyW _ _ _ _ _ _ _ _ _ _)|refine (And.intro (λ _ _=>((g2.trans g3).use.1 R 2 (U13 fP mQ.size)).trans m7) ?_:_/\Reg.anyW _ _ _ _ _ _ _ _ _ _)|skip
     refine Z2 ?_;obtain⟨W3,bH⟩:=ExZ (w2.alloc (.cells #[.slice none 0 0,.slice none 0 0] 42))
     rw[bH]at fK g3 z3⊢;clear bH;have gA:=(mQ.trans g2).trans g3;refine Z308 ?_;intro xX xY xZ y8 sy sA sB sC;refine Z298 ?_;go_wp2_with fail
     go_meet
     exact O9a aq mQ g2 g3 hv (.inr (U12 _)) fK iW iV.o.f
    skip;refine Z66 ?_;obtain⟨fK,g3,z3⟩:=bx2 wb (.slice none 0 0) (.slice none 0 0) 42;have sY:=(g3.use.1 R 2 (U13 fP mQ.size)).trans m7
    first|refine (And.intro (sY) ?_:_/\Reg.anyW _ _ _ _ _ _ _ _ _ _)|refine (And.intro (λ _=>sY) ?_:_/\Reg.anyW _ _ _ _ _ _ _ _ _ _)|refine (And.intro (λ _ _=>sY) ?_:_/\Reg.anyW _ _ _ _ _ _ _ _ _ _)|skip
    refine Z2 ?_;obtain⟨W3,bH⟩:=ExZ (wb.alloc (.cells #[.slice none 0 0,.slice none 0 0] 42))
    rw[bH]at fK g3 z3⊢;clear bH sY;refine Reg.all (rs:=[17]) Yc Yb ?_;intro j hj;obtain rfl:=U20.1 hj;clear hj;have gV:=mQ.trans g3;refine Reg.one (i:=17) rfl Yi ?_;go_simp;refine (eh.o (W3) (zU.o.trans gV)).mono ?_;rintro e w2 aq;obtain⟨ka,kn,kc,sa,sn,sc,em,ec,eq,rfl,g2⟩:=aq.open bP;refine Z2 ?_;refine Z234 ?_;have hv:=mQ.size;have gA:=gV.trans g2;have fK:=fK.gr g2;refine Z308 ?_;intro xX xY xZ y8 sy sA sB sC;refine Z298 ?_;go_wp2_with fail
    go_meet
    exact O9a aq gV g2 (Gr.refl _) hv (.inl (by rw[z3];omega)) fK iW iV.o.f
   skip;refine Z66 ?_;obtain⟨fK,g3,z3⟩:=bx2 w1 (.slice none 0 0) (.slice none 0 0) 42;have sY:(w1.alloc (.cells #[.slice none 0 0,.slice none 0 0] 42)).drew.cell? ⟨R,2,none⟩=some (.string s):=((g3.drew).use.1 R 2 fP).trans k2
   first|refine (And.intro (sY) ?_:_/\Reg.anyW _ _ _ _ _ _ _ _ _ _)|refine (And.intro (λ _=>sY) ?_:_/\Reg.anyW _ _ _ _ _ _ _ _ _ _)|refine (And.intro (λ _ _=>sY) ?_:_/\Reg.anyW _ _ _ _ _ _ _ _ _ _)|skip
   refine Z2 ?_;obtain⟨W3,bH⟩:=ExZ ((w1.alloc (.cells #[.slice none 0 0,.slice none 0 0] 42)).drew)
   have fK:=fK.gr (Gr.refl _).drew;have g3:=g3.drew;have z3:W3.heap.size=w1.heap.size+1:=by rw[<-bH];exact z3
   rw[bH]at fK g3 sY⊢;clear bH;refine Reg.on 16 ?_;go_simp;refine (O9 s _ (n1+m) Ya Ya Ya (W3)).mono ?_;rw[OQ.o];rintro e wb ⟨rfl,gb⟩;have m7:wb.cell? ⟨R,2,none⟩=some (.string s):=(gb.use.1 R 2 Ya).trans sY
   first|refine (And.intro (m7) ?_:_/\Reg.anyW _ _ _ _ _ _ _ _ _ _)|refine (And.intro (λ _=>m7) ?_:_/\Reg.anyW _ _ _ _ _ _ _ _ _ _)|refine (And.intro (λ _ _=>m7) ?_:_/\Reg.anyW _ _ _ _ _ _ _ _ _ _)|skip
   refine Z2 ?_;refine Reg.all (rs:=[17]) Yc Yb ?_;intro j hj;obtain rfl:=U20.1 hj;clear hj;have gV:=g3.trans gb;refine Reg.one (i:=17) rfl Yi ?_;go_simp;refine (eh.o (wb) (zU.o.trans gV)).mono ?_;rintro e w2 aq;obtain⟨ka,kn,kc,sa,sn,sc,em,ec,eq,rfl,g2⟩:=aq.open bP;refine Z2 ?_;refine Z234 ?_;have Qe:=gb.size;have gA:=gV.trans g2;have fK:=(fK.gr gb).gr g2;refine Z308 ?_;intro xX xY xZ y8 sy sA sB sC;refine Z298 ?_;go_wp2_with fail
   go_meet
   exact O9a aq gV g2 (Gr.refl _) (U12 _) (.inl Ya) fK iW iV.o.f
  case rest =>
   obtain⟨bK,rfl,G9,SU,aa,rK⟩:=hcut;have tF:FX w (0:Int) (0:Int) wc/\FX (w.heap.size+1) (.slice none 0 0) (0:Int) wc:=⟨iV.o.i.st aa Ya,iV.o.t.st aa Ya⟩
   have wR:GM wc R B base s nv L own x g:=⟨(H.o.v.gr ej.o).kept (λ k hk=>aa.block k (U13 (H.o.v.lt k hk).2 ej.o.size) (λ e=>by have:=(H.o.v.lt k hk).2;omega)) aa.size,H.o.nd,H.o.sec,H.o.dep,H.o.many⟩
   have bM:Gr w wc:=aa.below ej.o (λ k e=>by omega);have oQ:=U10 tF;have KF:=U10 wR;have nH:=U10 bM;have yy:m<=2:=by have:=SQ.o;split at this <;> (try split at this) <;> omega
   have VJ:IntKind.i64.wrap ((rest.size:Int)-(Be.size:Int))=(m:Int):=by have:=et.o;have:=oV.o;rw[U1k _ ⟨Ya,Ya⟩];omega
   have cW:=bY.o;clear p0 p1 pf pl p2 p3 fG fH p4 p5 dt db tF wR bM k2 aa;obtain⟨⟨p0,p1,pf,pl⟩,⟨p2,p3,fG,fH⟩⟩:=id oQ.o;cases Y with
   |non=>exact absurd rfl bP
   |bad c p =>
    obtain⟨rfl,dJ,hF⟩:=rK;simp only at cW;obtain⟨v0,v1,vf,vl⟩:=id hF;have HF:=U10 hF;go_wp2_with fail;refine Z182 ?_;intro w5 g5
    go_upto_region 8 with fail
    have cL:WB3 w (0:Int) (0:Int) (.slice none 0 0) (0:Int) c p w5:=⟨oQ.o.1.gr g5,oQ.o.2.gr g5,HF.o.gr g5⟩
    have aD:=cL.gr (Gr.refl w5).drew;clear p0 p1 pf pl p2 p3 fG fH v0 v1 vf vl hF;obtain⟨⟨p0,p1,pf,pl⟩,⟨p2,p3,fG,fH⟩,⟨p4,p5,dt,db⟩⟩:=id cL;refine Reg.begin' (W:=λ _=>true) (S:=WB3 w (0:Int) (0:Int) (.slice none 0 0) (0:Int) c p) Yc ?_;refine Z4 ?_;go_wp2_with fail;obtain⟨⟨q0,q1,qf,ql⟩,⟨y0,y1,yf,yl⟩,⟨n8,n9,nh,nj⟩⟩:=aD;have gE:=(nH.o.trans g5).drew;rw[<-cW];exact U11 (v:=.tuple #[.agg #[(0:Int),(0:Int)],.agg #[.slice none 0 0,(0:Int)],fv c p]) (by simp[results,results58,go_sem,q0,q1,qf,ql,y0,y1,yf,yl,n8,n9,nh,nj]) rfl ⟨⟨_,_,_,_,_,_,rfl⟩,dJ,own,(St.refl (FV own) w).gr gE,(H.o.gr gE).v.cells.1.2.2.1,λ k hk => .inl hk⟩
   |ok r =>
    obtain⟨ws,em⟩:=r;obtain⟨rfl,OR,hF,h0,eT,gk,gs,ck,cs,hK,l1,l2,l3,l4,aE⟩:=rK;simp only at cW;obtain⟨v0,v1,vf,vl⟩:=id hF;have HF:=U10 hF;have HK:=U10 hK;have fD:w.heap.size<=w1.heap.size:=ej.o.size;have dB:own gk=0:=U1g λ h=>by have:=(H.o.v.lt gk h).2;omega
    have fT:own gs=0:=U1g λ h=>by have:=(H.o.v.lt gs h).2;omega
    have tU:m=2\/m=1\/m=0:=Ya;clear hK yy;rcases tU with rfl|rfl|rfl
    ·rw[U1a rfl]at cW;obtain⟨X',gM⟩:=ExZ (V2v g ws)
     have np:Vbw X'=X:=by rw[gM]at cW;rw[<-cW];cases X' <;> rfl
     have lE:X'≠.non:=λ e=>by rw[e]at np;exact a8 np.symm
     clear cW;go_wp2_with fail;refine Z190 ?_;intro w5 g5
     go_upto_region 10 with fail
     refine Z111 ?_;intro cL oJ aD kW;have jX:=U10 (Onl w5.drew R B base s nv L own x g (KF.o.gr kW) hL hm gk gs ck cs ws (ws.length-1) Ya Ya (U13 l3 kW.size) (U13 l4 kW.size) dB fT (λ j t a b hj=>⟨(kW.use.1 _ _ l3).trans (aE j t a b hj).1,(kW.use.1 _ _ l4).trans (aE j t a b hj).2.1,(kW.use.1 _ _ l4).trans (aE j t a b hj).2.2⟩) X' gM lE);exact J110
    ·rw[U1c Ya,U1a rfl]at cW;obtain⟨X',gM⟩:=ExZ (V2f g ws)
     have np:Vbw X'=X:=by rw[gM]at cW;rw[<-cW];cases X' <;> rfl
     have lE:X'≠.non:=λ e=>by rw[e]at np;exact a8 np.symm
     clear cW;go_wp2_with fail;refine Z190 ?_;intro w5 g5
     go_upto_region 12 with fail
     refine Z111 ?_;intro cL oJ aD kW;have jX:=U10 (Ol6 w5.drew R B base s nv L own x g (KF.o.gr kW) hL hm gk gs ck cs ws (ws.length-1) Ya Ya (U13 l3 kW.size) (U13 l4 kW.size) dB fT (λ j t a b hj=>⟨(kW.use.1 _ _ l3).trans (aE j t a b hj).1,(kW.use.1 _ _ l4).trans (aE j t a b hj).2.1,(kW.use.1 _ _ l4).trans (aE j t a b hj).2.2⟩) X' gM lE);exact J110
    rw[U1c Ya,U1c Ya]at cW;obtain⟨X',gM⟩:=ExZ (V2w g ws)
    rw[gM]at cW;have lE:X'≠.non:=λ e=>by rw[e]at cW;exact a8 cW.symm
    obtain⟨Ga,Gb,Gc,Gd⟩:=id HK.o;go_wp2_with fail;refine Z190 ?_;intro w5 g5;refine Z316 ?_;intro cL oJ;have jX:=U10 (Onm w5 R B base s nv L own x g (KF.o.gr g5) kK hL hm gk gs ck cs ws (ws.length-1) Ya Ya (U13 l3 g5.size) (U13 l4 g5.size) dB fT (λ j t a b hj=>⟨(g5.use.1 _ _ l3).trans (aE j t a b hj).1,(g5.use.1 _ _ l4).trans (aE j t a b hj).2.1,(g5.use.1 _ _ l4).trans (aE j t a b hj).2.2⟩) X' gM lE);have dN:=nH.o.trans g5;clear p0 p1 pf pl p2 p3 fG fH v0 v1 vf vl hF Ga Gb Gc Gd;obtain⟨Ga,Gb,Gc,Gd⟩:=oJ;obtain⟨⟨p0,p1,pf,pl⟩,⟨p2,p3,fG,fH⟩,⟨p4,p5,dt,db⟩⟩:=id cL;have eO:∀k,w.heap.size<=k->¬FV own k:=λ k hk e=>by have:=(H.o.v.lt k e).2;omega
    have ue:=U10 cL;have rE:=U10 dN;have bY:=U10 cW;have VK:=U10 gM;have vJ:w.heap.size+1+1<w5.heap.size:=db;obtain⟨e1,qK⟩:=ExZ (V7 (bs s) em)
    have jB:=(V8 (bs s) em (by rw[O0];omega)).2;rw[qK,O0]at jB;have we:=U10 qK;clear cL dN cW gM aE qK;go_wp2_with fail;refine jX.o.mono ?_;clear jX;cases X' with
    |non=>exact absurd rfl lE
    |bad c p =>
     rintro e w6 ⟨⟨nn,dd,he⟩,dJ,ac,st2,dX,kS⟩;subst he;have iR:=st2.size;have ik:=ue.o.st st2 (λ k h1 _=>eO k h1);have dI:=(rE.o.st).trans st2;have cD:=V63 ik.i ik.f Ya dI (U12 _) Ya nn dd c p;obtain⟨⟨a0,a1,af,al⟩,⟨a2,a3,KG,KH⟩,⟨a4,a5,zV,zX⟩⟩:=id ik;clear p0 p1 pf pl p2 p3 fG fH p4 p5 dt db Ga Gb Gc Gd;have KI:R<w6.heap.size:=Ya
     go_wp2_with fail;obtain⟨W7,pL⟩:=ExZ (((((w6.setCell w nn).setCell ⟨w,1,none⟩ dd).setCell (w.heap.size+1+1:Nat) c).setCell ⟨w+1+1,1,none⟩ p))
     rw[pL]at cD⊢;clear pL a0 a1 af al a2 a3 KG KH a4 a5 zV zX;obtain⟨uT,lY,rQ,zY,Ge⟩:=cD;have DX:=ik.t.of_block (zY _ Ya Ya) Ge;have ph:W7.cell? ⟨R,2,none⟩=some (.string s):=(U1r (w:=w6) (a:=⟨R,2,none⟩) (zY R Ya Ya)).trans dX;refine (O9 s _ em rfl OR Ya _).mono ?_;rw[we.o];rintro e w8 ⟨rfl,g8⟩;have DY:WB3 w (.int .i64 nn) dd (.slice none 0 0) (0:Int) c p w8:=⟨uT.gr g8,DX.gr g8,lY.gr g8⟩
     have bh:w8.cell? ⟨R,2,none⟩=some (.string s):=(g8.use.1 R 2 Ya).trans ph;have KJ:=U10 DY;have iF:=U10 (rQ.gr g8);have Cx:W7.heap.size<=w8.heap.size:=g8.size;obtain⟨⟨p0,p1,pf,pl⟩,⟨p2,p3,fG,fH⟩,⟨p4,p5,dt,db⟩⟩:=DY;have DQ:R<w8.heap.size:=Ya;clear uT DX lY dI ik rQ;go_wp2_with fail;refine Z182 ?_;intro w9 g9
     go_upto_region 17 with fail
     have cL:=KJ.o.gr g9;have aD:=cL.gr (Gr.refl w9).drew;clear p0 p1 pf pl p2 p3 fG fH p4 p5 dt db;obtain⟨⟨p0,p1,pf,pl⟩,⟨p2,p3,fG,fH⟩,⟨p4,p5,dt,db⟩⟩:=id cL;refine Reg.begin' (W:=λ _=>true) (S:=WB3 w nn dd (.slice none 0 0) (0:Int) c p) Yc ?_;refine Z4 ?_;go_wp2_with fail;obtain⟨⟨q0,q1,qf,ql⟩,⟨y0,y1,yf,yl⟩,⟨n8,n9,nh,nj⟩⟩:=aD;have cW:=bY.o
     try simp only at cW
     rw[<-cW];exact U11 (v:=.tuple #[.agg #[nn,dd],.agg #[.slice none 0 0,(0:Int)],fv c p]) (by simp[results,results58,go_sem,q0,q1,qf,ql,y0,y1,yf,yl,n8,n9,nh,nj]) rfl ⟨⟨_,_,_,_,_,_,rfl⟩,dJ,ac,(iF.o.gr g9).drew,(g9.drew.use.1 R 2 DQ).trans bh,λ k hk=>(kS k hk).imp id (λ h=>by omega)⟩
    |ok r =>
     obtain⟨into,dd,g1⟩:=r;rintro e w6 ⟨he,io,L2,ac,cx,st2,kS⟩;subst he;have iR:=st2.size;have dX:=cx.v.cells.1.2.2.1;have ik:=ue.o.st st2 (λ k h1 _=>eO k h1);have dI:=(rE.o.st).trans st2;have cD:=V63 ik.i ik.f Ya dI (U12 _) Ya into dd (0:Int) (0:Int);obtain⟨⟨a0,a1,af,al⟩,⟨a2,a3,KG,KH⟩,⟨a4,a5,zV,zX⟩⟩:=id ik;clear p0 p1 pf pl p2 p3 fG fH p4 p5 dt db Ga Gb Gc Gd;have KI:R<w6.heap.size:=Ya;go_wp2_with fail;obtain⟨W7,pL⟩:=ExZ (((((w6.setCell w into).setCell ⟨w,1,none⟩ dd).setCell (w.heap.size+1+1:Nat) (0:Int)).setCell ⟨w+1+1,1,none⟩ (0:Int)))
     rw[pL]at cD⊢;clear pL a0 a1 af al a2 a3 KG KH a4 a5 zV zX;obtain⟨uT,lY,rQ,zY,Ge⟩:=cD;have DX:=ik.t.of_block (zY _ Ya Ya) Ge;have ph:W7.cell? ⟨R,2,none⟩=some (.string s):=(U1r (w:=w6) (a:=⟨R,2,none⟩) (zY R Ya Ya)).trans dX;refine (O9 s _ em rfl OR Ya _).mono ?_;rw[we.o];rintro e w8 ⟨rfl,g8⟩;have DY:WB3 w (.int .i64 into) dd (.slice none 0 0) (0:Int) (0:Int) (0:Int) w8:=⟨uT.gr g8,DX.gr g8,lY.gr g8⟩
     have bh:w8.cell? ⟨R,2,none⟩=some (.string s):=(g8.use.1 R 2 Ya).trans ph;have KJ:=U10 DY;have iF:=U10 (rQ.gr g8);have Cx:W7.heap.size<=w8.heap.size:=g8.size;obtain⟨⟨p0,p1,pf,pl⟩,⟨p2,p3,fG,fH⟩,⟨p4,p5,dt,db⟩⟩:=DY;have DQ:R<w8.heap.size:=Ya;clear uT DX lY dI ik rQ;go_wp2_with fail;refine Z190 ?_;intro w9 g9;have pv:=(g9.use.1 R 2 DQ).trans bh;have OS:=U13 DQ g9.size;have VL:(0:Int)<=(e1:Int):=Ya;have VM:(e1:Int)<=(s.size:Int):=Ya;have Au:=g9.size;have Gf:=U10 (KJ.o.gr g9);have eU:=U10 (iF.o.gr g9);have bD:∀k,w.heap.size<=k->k<=w.heap.size+1+1->ac k=0:=λ k h1 h2=>U1g λ h=>(kS k h).elim (λ h=>by have:=(H.o.v.lt k h).2;omega) (λ h=>by omega)
     have ma:GM w9 R B base s io L2 ac x g1:=⟨(cx.v.kept (w':=W7) (λ k hk=>zY k (λ e=>hk (bD k Ya Ya)) (λ e=>hk (bD k Ya Ya))) Ge).gr (g8.trans g9),cx.nd,cx.sec,cx.dep,cx.many⟩
     have cy:=U10 ma;have cW:=bY.o
     try simp only at cW
     rw[we.o]at cW;clear ma cx bh p0 p1 pf pl p2 p3 fG fH p4 p5 dt db zY ph g8 dX;obtain⟨⟨p0,p1,pf,pl⟩,⟨p2,p3,fG,fH⟩,⟨p4,p5,dt,db⟩⟩:=id Gf.o;by_cases dS:Va (bs s) e1=61
     ·rw[U1a dS]at cW;have HP:=U10 (O7 s ⟨#[61]⟩ e1 true (by rw[Ocu];exact decide_eq_true dS));have IE:e1<s.size:=U1g λ aP=>by rw[O12 s e1 aP]at dS;omega
      clear dS;go_wp2_with fail;refine (HP.o _).mono ?_;rintro e cH ⟨rfl,KK⟩;subst cH;obtain⟨e2,nE⟩:=ExZ (V7 (bs s) (e1+1))
      have aA:=(V8 (bs s) (e1+1) (by rw[O0];omega)).2;rw[nE,O0]at aA;obtain⟨Xr,KL⟩:=ExZ (V1g ⟨Vi Tb,Ve⟩ (bs s) e2 dd)
      rw[nE,KL]at cW;have zZ:Xr≠.non:=λ e=>by rw[e]at cW;exact a8 cW.symm
      have BE:=U10 nE;have eh:=U10 (λ V (q:Gr w0 V)=>O97 V (iJ.o.gr q) s hs _ e2 rfl aA (dd:Int) (min dd 256) Ya Xr (by rw[Oin];exact KL) zZ);have SV:=U10 cW;have xe:Gr w0 w9:=eU.o.below ow.o (λ k e=>by have:=(H.o.v.lt k e).1;omega);have KM:=U10 xe;have VN:IntKind.i64.wrap ((e1:Int)+1)=(e1:Int)+1:=U1k _ ⟨Ya,Ya⟩;clear nE KL cW xe
      go_upto_region 16 with fail
      have hS:w9.drew.cell? ⟨R,2,none⟩=some (.string s)/\FX w into dd w9.drew:=⟨pv,Gf.o.i.gr (Gr.refl w9).drew⟩
      refine Reg.begin' (W:=λ i=>i != 13&&i != 18&&i != 19) (S:=λ W=>W.cell? ⟨R,2,none⟩=some (.string s)/\FX w into dd W) Yc ?_;refine Z32 ?_;refine Reg.tl 3 hS ?_ (hy:=by intro w ab;obtain⟨s0,⟨s1,s2,s3,s4⟩⟩:=ab;go_simp;try with_reducible rfl);refine Z83 ?_;refine Reg.tl 7 hS ?_ (hy:=by intro w ab;obtain⟨s0,⟨s1,s2,s3,s4⟩⟩:=ab;go_simp;try with_reducible rfl);refine Z313 ?_;refine Reg.ty 11 ?_;refine Reg.tl 12 hS ?_ (hy:=by intro w ab;obtain⟨s0,⟨s1,s2,s3,s4⟩⟩:=ab;go_simp;try with_reducible rfl);refine Reg.on 10 ?_;go_simp;refine (O9 s _ (e1+1) Ya Ya Ya _).mono ?_;rw[BE.o];rintro e wb ⟨rfl,gb⟩;have m7:wb.cell? ⟨R,2,none⟩=some (.string s)/\FX w into dd wb:=⟨(gb.use.1 R 2 OS).trans pv,hS.2.gr gb⟩
      first|refine (And.intro (m7) ?_:_/\Reg.anyW _ _ _ _ _ _ _ _ _ _)|refine (And.intro (λ _=>m7) ?_:_/\Reg.anyW _ _ _ _ _ _ _ _ _ _)|refine (And.intro (λ _ _=>m7) ?_:_/\Reg.anyW _ _ _ _ _ _ _ _ _ _)|skip
      refine Z2 ?_;have mQ:Gr w9 wb:=(Gr.refl w9).drew.trans gb;refine Reg.on 13 ?_;go_simp;refine (eh.o wb (KM.o.trans mQ)).mono ?_;rintro e wJ aq;obtain⟨ta,tn,tc,tr,tm,ec,eq,rfl,DZ⟩:=aq.open zZ;refine Z2 ?_;refine Z74 ?_;refine Reg.ty 17 ?_;have gA:=mQ.trans DZ;have vg:=Gf.o.gr gA;have cD:=V63 vg.t vg.f Ya (eU.o.gr gA) Ya Ya (.slice ta tn tc) tr ec eq;have D':=vg.i;clear p0 p1 pf pl p2 p3 fG fH p4 p5 dt db;obtain⟨⟨p0,p1,pf,pl⟩,⟨p2,p3,fG,fH⟩,⟨p4,p5,dt,db⟩⟩:=vg;refine Reg.on 18 ?_;go_simp;refine Z2 ?_;refine Z176 ?_;refine Z2 ?_;refine Z12 ?_;obtain⟨xg,rR⟩:=ExZ (((((wJ.setCell (w.heap.size+1:Nat) (.slice ta tn tc)).setCell ⟨w+1,1,none⟩ tr).setCell (w.heap.size+1+1:Nat) ec).setCell ⟨w+1+1,1,none⟩ eq))
      rw[rR]at cD⊢;clear rR p0 p1 pf pl p2 p3 fG fH p4 p5 dt db;obtain⟨E0,oA,xh,vh,z'⟩:=cD;have E1:=D'.of_block (vh _ Ya Ya) z';have cL:WB3 w into dd (.slice ta tn tc) tr ec eq xg:=⟨E1,E0,oA⟩
      have aD:=cL.gr (Gr.refl xg).drew;obtain⟨⟨p0,p1,pf,pl⟩,⟨p2,p3,fG,fH⟩,⟨p4,p5,dt,db⟩⟩:=id cL;have Bf:=mQ.size;have VO:=DZ.size;have lP:∀k,ac k≠0->k<w9.heap.size:=λ k h=>(cy.o.v.lt k h).2
      have E2:GrV xg.drew R B base s 0 io L2 ac g1.srt x:=((cy.o.v.gr gA).kept (w':=xg) (λ k hk=>vh k (λ e=>hk (bD k Ya Ya)) (λ e=>hk (bD k Ya Ya))) z').drew;have xj:=U10 E2;have cQ:=U10 xh.drew;have KN:=U10 vh;have SW:=U10 aq;clear E1 E0 oA D' xh vh E2 aq
      go_upto_region 17 with fail
      refine Reg.begin' (W:=λ _=>true) (S:=WB3 w into dd (.slice ta tn tc) tr ec eq) Yc ?_;refine Z4 ?_;go_wp2_with fail;obtain⟨⟨q0,q1,qf,ql⟩,⟨y0,y1,yf,yl⟩,⟨n8,n9,nh,nj⟩⟩:=aD;refine U11 (v:=.tuple #[.agg #[into,dd],.agg #[.slice ta tn tc,tr],.agg #[ec,eq]]) (by simp[results,results58,go_sem,q0,q1,qf,ql,y0,y1,yf,yl,n8,n9,nh,nj]) rfl ?_;rw[<-SV.o];have OT:=SW.o;cases Xr with
      |non=>exact absurd rfl zZ
      |bad c p =>
       obtain⟨he,dJ,_⟩:=OT;have h1:ec=(c:Int)/\eq=(p:Int):=by simp[fv,and_assoc]at he;omega
       obtain⟨rfl,rfl⟩:=h1;exact⟨⟨_,_,_,_,_,_,rfl⟩,dJ,ac,cQ.o,xj.o.cells.1.2.2.1,λ k hk=>(kS k hk).imp id (λ h=>by omega)⟩
      |ok r =>
       obtain⟨ri,rm,st⟩:=r;obtain⟨gT,LT,he,_,iE,aL,rS,_⟩:=OT;have h1:ta=some ⟨gT,0,none⟩/\tn=st.length/\tc=st.length/\tr=(ri:Int)/\ec=0/\eq=0:=by
        simp[f0,and_assoc]at he;obtain⟨a1,a2,a3,a4,_,a6,a7⟩:=he;exact⟨a1,a2,a3,a4,a6,a7⟩
       obtain⟨rfl,rfl,rfl,rfl,rfl,rfl⟩:=h1;have SX:LT.length=st.length:=by rw[<-aL,U1j]
       refine⟨dd,_,LT,wb.heap.size,io,L2,ac,x,rfl,rfl,rfl,⟨xj.o,cy.o.nd,cy.o.sec,cy.o.dep,cy.o.many⟩,cQ.o,λ k hk=>(kS k hk).imp id (λ h=>by omega),.inr ⟨gT,by rw[SX],?_⟩,aL,Ya,λ k hk=>U1g λ h=>by have:=lP k h;omega⟩;exact (rS.keptB (λ k hk _=>KN.o k Ya Ya) z').gr (Gr.refl xg).drew
     rw[U1c dS]at cW;have HP:=U10 (O7 s ⟨#[61]⟩ e1 false (by rw[Ocu];exact U48 dS));clear dS;go_wp2_with fail;refine (HP.o _).mono ?_;rintro e cH ⟨rfl,KK⟩;subst cH
     go_upto_region 17 with fail
     have cL:=Gf.o;have aD:=cL.gr (Gr.refl w9).drew;refine Reg.begin' (W:=λ _=>true) (S:=WB3 w into dd (.slice none 0 0) (0:Int) (0:Int) (0:Int)) Yc ?_;refine Z4 ?_;go_wp2_with fail;obtain⟨⟨q0,q1,qf,ql⟩,⟨y0,y1,yf,yl⟩,⟨n8,n9,nh,nj⟩⟩:=aD;rw[<-cW];have lP:∀k,ac k≠0->k<w9.drew.heap.size:=λ k h=>(cy.o.v.lt k h).2
     exact U11 (v:=.tuple #[.agg #[into,dd],.agg #[.slice none 0 0,(0:Int)],f0]) (by simp[results,results58,go_sem,q0,q1,qf,ql,y0,y1,yf,yl,n8,n9,nh,nj]) rfl ⟨dd,_,[],w9.drew.heap.size,io,L2,ac,x,rfl,rfl,rfl,cy.o.gr (Gr.refl w9).drew,eU.o.drew,λ k hk=>(kS k hk).imp id (λ h=>by omega),.inl ⟨rfl,rfl⟩,rfl,(show w.heap.size<=w9.heap.size by omega),λ k hk=>U1g λ h=>by have:=lP k h;omega⟩
