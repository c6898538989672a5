/-
 A law's walk.
-/
import Derived.Test.YtnkgknbdaiakgaaGreatDoorQ38
import Derived.Test.YtnkgknbdaiakgaaGreatDoorQ43
import Derived.Test.YtnkgknbdaiakgaaGreatDoorCards
import Derived.Test.YtnkgknbdaiakgaaGreatDoorTie
import Derived.Lib.LaidPrint
import Derived.Lib.LaidU8T
import Derived.Lay
import Derived.Deep.DeepHandedRow
set_option maxHeartbeats 16000000
set_option linter.all false
set_option maxRecDepth 100000
namespace Go.Proofs.YtnkgknbdaiakgaaGreatDoor
section
open Pl Go.Proofs.Tryz Go.RowKit Go.Shelf Go.Joins
attribute [local go_sem] U22
structure V9y(zu zt b:Nat)(xu yu xt yt e:Value)(w:World):Prop where
 u:FX zu xu yu w
 f:FX (zu+1) (0:Int) (0:Int) w
 t:FX zt xt yt w
 b6:w.cell? ⟨b,6,none⟩=some e
 bl:b<w.heap.size
theorem V9y.gr{zu zt b:Nat}{xu yu xt yt e:Value}{w w':World}(h:V9y zu zt b xu yu xt yt e w)(q:Gr w w'):V9y zu zt b xu yu xt yt e w' :=
 ⟨h.u.gr q,h.f.gr q,h.t.gr q,(q.use.1 _ _ h.bl).trans h.b6,U13 h.bl q.size⟩
theorem Ofx(T:Nat->UInt8×UInt8){s:Pl.Bs}(hs:s.length<=2000):V1e ⟨Vi T,Ve⟩ s≠.non/\(∀c p,V1e ⟨Vi T,Ve⟩ s=.bad c p->p<=s.length/\c≠0)/\∀G,V1e ⟨Vi T,Ve⟩ s=.ok G->V7x ⟨Vi T,Ve⟩ s G :=
 V88 (E:=⟨Vi T,Ve⟩) (V9b T) (V8q T) (V8r T) hs
theorem Oiq(Tb:Nat->UInt8×UInt8)(PT:Lib.PrintTabs)(w:World)(bU:RW Tb w)(th:TxW PT w)(a:Option Addr)(l:Pl.Bs)(c:Nat)(hb:V95 w a l)(mB:l.length<=c):Calls prog 3 #[.slice a l.length c] w λ e w'=>e=.returned (.bool true)/\Gr w w':=by
 have iJ:=U10 bU;have sZ:=U10 th;have HB:=U10 hb;have HL:=U10 (λ W (g:Gr w W)=>Olc Tb PT W (iJ.o.gr g) (sZ.o.gr g));obtain⟨n,hn⟩:=ExZ (l.length)
 rw[hn]at mB⊢;have HN:=U10 hn;clear bU th hb hn;by_cases nM:2000<n
 ·have d1:decide ((2000:Int)<(n:Int))=true:=by simp;omega
  have H:=U10 (HL.o w (Gr.refl w));clear nM;go_enter func3,ntmps3;go_wp2_with fail;refine H.o.mono ?_;rintro e w1 ⟨rfl,g1⟩;go_wp2_with fail;exact U11 (v:=.bool true) (by simp[results,results3,go_sem]) rfl ⟨rfl,g1⟩
 have d1:decide ((2000:Int)<(n:Int))=false:=Ye;have Ab:n<=2000:=Ya;clear nM;obtain⟨s,hs⟩:∃s:ByteArray,(⟨l.toArray⟩:ByteArray)=s:=⟨_,rfl⟩
 have qx:bs s=l:=by rw[<-hs]
 have dc:s.size=n:=by rw[<-O0,qx];exact HN.o
 have Ac:∀W,Gr w W->(convert 22 9 (.slice a n c)).run prog W=.ok (.string s) W:=λ W q=>by
  have:=Oip HB.o l.length c (U12 _) W q;rw[List.take_length,hs,HN.o]at this;exact this
 have tz:=U10 Ac;obtain⟨X,hX⟩:=ExZ (V1e ⟨Vi Tb,Ve⟩ l)
 have rW:=Ofx Tb (s:=l) (by rw[HN.o];exact Ab);rw[hX]at rW;have HT:=U10 rW;have gM:V1e ⟨Vi Tb,Ve⟩ (bs s)=X:=by rw[qx];exact hX
 have HP:=U10 (O7j Tb w iJ.o s Ya a n c tz.o X gM HT.o.1);have HX:=U10 gM;have FK:=U10 qx;have dO:=Ac w (Gr.refl w);clear rW hX gM hs qx Ac;go_enter func3,ntmps3;go_wp2_with fail;clear dO;refine HP.o.mono ?_;cases X with
 |non=>exact absurd rfl HT.o.1
 |bad c' p =>
  obtain⟨TN,_⟩:=HT.o.2.1 c' p rfl;rw[HN.o]at TN;rintro e w1 ⟨he,hc,g1⟩;subst he;have lp:¬(c':Int)=0:=Ya;have q1:decide ((0:Int)<=(p:Int))=true:=Yb;have q2:decide ((p:Int)<=(n:Int))=true:=Ye;have Wa:decide (p<=n)=true:=Ye;have HG:=U10 ((g1.alloc (.cells #[Vo,(0:Int)] 26)).alloc (.cells #[c',p] 29));clear g1 HP;go_wp2_with fail;refine (HL.o _ HG.o).mono ?_;rintro e w2 ⟨rfl,g2⟩;have cb:=HG.o.trans g2;clear g2;go_wp2_with fail;exact U11 (v:=.bool true) (by simp[results,results3,go_sem]) rfl ⟨rfl,cb⟩
 |ok G =>
  have px:=U10 (HT.o.2.2 G rfl);rintro e w1 ⟨gn,L,he,oL,rS,g1,cA⟩;subst he;obtain⟨hA,gA,zA⟩:=bx2 w1 (.slice gn L.length L.length) (0:Int) 26;obtain⟨W0,aI⟩:=ExZ (w1.alloc (.cells #[.slice gn L.length L.length,(0:Int)] 26))
  rw[aI]at hA gA zA;refine Z102 ?_;intro W1 aR gB hB zB;have xr:=gA.trans gB;have jg:=U10 (g1.trans xr);have HA:=U10 (hA.gr gB);have mM:=U10 (rS.gr xr);have Ey:=U10 oL;have yH:L.length<=4001:=by
   have h1:=px.o.gr.len;rw[<-oL,U1j,HN.o]at h1;omega
  have Po:0<L.length:=by
   have h1:0<G.nds.length:=px.o.gr.gi.lt px.o.gr.gi.root;rw[<-oL,U1j]at h1;exact h1
  have oy:=U10 (Oid W1 w.heap.size gn L mM.o Po Ya cA G.nds oL px.o.gr.gp px.o.gr.gi.wf px.o.pt);have TO:=U10 (λ W (q:Gr W1 W)=>Ol9 Tb W (iJ.o.gr (jg.o.trans q)) s Ya a n c (λ V q'=>tz.o V ((jg.o.trans q).trans q')) G HX.o);have mq:=U10 (show (w1.alloc (.cells #[.slice gn L.length L.length,(0:Int)] 26)).alloc (.cells #[(0:Int),(0:Int)] 29)=W1 by rw[aI,aR]);obtain⟨p0,p1,pf,pl⟩:=hB;obtain⟨r0,r1,rf,rl⟩:=hA.gr gB;clear HP hA gA zA gB xr aI aR g1 oL rS zB cA
  go_upto_region 5 with fail
  rw[show (w1.alloc (.cells #[.slice gn L.length L.length,(0:Int)] 26)).alloc (.cells #[(0:Int),(0:Int)] 29)=W1 from mq.o];go_wp2_with fail;refine oy.o.mono ?_;rintro e w2 ⟨rfl,g2⟩;have nH:=U10 g2;clear g2 oy p0 p1 pf pl r0 r1 rf rl;obtain⟨N,LH⟩:=ExZ (L.length)
  have Bi:=U10 LH;go_wp2_with fail;rw[LH]at yH Po;clear LH;have ud:=U10 (HA.o.gr nH.o);rw[Bi.o]at ud
  go_loopw [6] (λ v6 wr=>∃i:Nat,v6=.int .i64 i/\i<=N/\Gr w2 wr) (λ v6 _=>N-(intOf v6).toNat)
  case atStart=>exact⟨0,rfl,Ya,Gr.refl _⟩
  case round =>
   obtain⟨i,rfl,hi,hg⟩:=hrel;have Gy:=U10 (nH.o.trans hg);have Pp:=U10 hg;obtain⟨r0,r1,rf,rl⟩:=ud.o.gr hg;clear hg;by_cases Wb:i<N
   ·have e1:decide ((i:Int)<(N:Int))=true:=by simp;omega
    have NJ:decide (i<N)=true:=Ye;have i1:(0:Int)<=(i:Int):=Ya;have i2:(i:Int)<(N:Int):=Ya;have wi:IntKind.i64.wrap ((i:Int)+1)=(i:Int)+1:=U1k _ ⟨Ya,Ya⟩;obtain⟨r,hr⟩:∃r,L[i]?=some r:=⟨_,U1e (by have:=Bi.o;omega)⟩
    have rX:G.nds[i]?=some r.nd:=by rw[<-Ey.o,U1m,hr];rfl
    have hT:=mM.o.gr Gy.o;obtain⟨c0,c1,c2,c3,c4,c5,c6⟩:=hT.cells i r hr;obtain⟨sV,uU,B5⟩:=hT.rows i r hr;obtain⟨aK,cK,hK,sH,AN⟩:=O1m sV;obtain⟨aS,cS,mh,ce,br⟩:=O1m uU;obtain⟨aU,cU,wU,_⟩:=O1m B5;have Hw:gn<wr.heap.size:=hT.lt.2;obtain⟨mz,kT⟩:=px.o.spot i r.nd rX;have mS:=U10 (px.o.node i r.nd rX);obtain⟨nd,aL⟩:=ExZ (r.nd)
    obtain⟨nK,qI⟩:=ExZ (nd.keys.length)
    rw[aL]at mz kT hK mh wU c0 c1 c5 c6 mS sV uU rX sH ce;rw[qI]at mz hK sV sH;rw[<-mz]at mh uU ce;have TP:nK<=9223372036854775807:=by
     rcases Oo sV with⟨_,h⟩|⟨_,_,_,h1,h2⟩ <;> omega
    rw[hK]at c2 sV AN;rw[mh]at c3 uU br;rw[wU]at c4;have rY:=U10 kT;have HK:=U10 (And.intro sV (And.intro sH AN));have HS:=U10 (And.intro uU (And.intro ce br));have TQ:=U10 rX;have LI:=U10 qI;clear hT hr sV uU B5 hK mh wU sH ce AN br kT mz rX aL qI
    go_upto_region 13 with fail
    obtain⟨W3,bH⟩:=ExZ (wr.alloc (.cells #[.int .u8 nd.kind,V2s nd.text,.slice aK nK cK,.slice aS nK cS,.slice aU nd.subs.length cU,nd.sp.1,nd.sp.2] 40))
    have g3:Gr wr W3:=by rw[<-bH];exact (Gr.refl _).alloc _
    have Gz:W3.heap[wr.heap.size]?=some (.cells #[.int .u8 nd.kind,V2s nd.text,.slice aK nK cK,.slice aS nK cS,.slice aU nd.subs.length cU,nd.sp.1,nd.sp.2] 40 (0,0)):=by
     rw[<-bH];exact U1w wr _
    rw[bH];obtain⟨bn,FL⟩:=ExZ (wr.heap.size)
    rw[FL]at Gz⊢;have l7:=(U18.1 Gz).1;have Pq:=U10 Gz;have kX:=U10 (Gy.o.trans g3);have LJ:=U10 (Pp.o.trans g3);have jK:=U10 (And.intro (HK.o.1.of_block λ q e=>g3.block (HK.o.1.lt q e).2) HK.o.2);have jh:=U10 (And.intro (HS.o.1.of_block λ q e=>g3.block (HS.o.1.lt q e).2) HS.o.2);clear bH Gz g3 c0 c1 c2 c3 c4 c5 c6 HK HS r0 r1 rf rl Hw FL;go_wp2_with fail
    go_loopw [8] (λ v8 wv=>∃k:Nat,v8=.int .i64 k/\k<=nK/\Gr W3 wv) (λ v8 _=>nK-(intOf v8).toNat)
    case atStart=>exact⟨0,rfl,Ya,Gr.refl _⟩
    case round =>
     obtain⟨k,rfl,hk,LK⟩:=hrel;have jO:=(LK.block l7).trans Pq.o;have n0:wr.cell? bn=some (.int .u8 nd.kind):=by rw[cell_of_block jO];rfl
     have n2:wr.cell? ⟨bn,2,none⟩=some (.slice aK nK cK):=by rw[cell_of_block jO];rfl
     have n3:wr.cell? ⟨bn,3,none⟩=some (.slice aS nK cS):=by rw[cell_of_block jO];rfl
     have n5:wr.cell? ⟨bn,5,none⟩=some (.int .i64 nd.sp.1):=by rw[cell_of_block jO];rfl
     have n6:wr.cell? ⟨bn,6,none⟩=some (.int .i64 nd.sp.2):=by rw[cell_of_block jO];rfl
     have nl:bn<wr.heap.size:=(U18.1 jO).1;have dM:=U10 LK;clear jO LK;by_cases xU:k<nK
     ·as_aux_lemma =>
      have f1:decide ((k:Int)<(nK:Int))=true:=Ye;have LM:decide (k<nK)=true:=Ye;have j1:(0:Int)<=(k:Int):=Ya;have j2:(k:Int)<(nK:Int):=Ya;refine Z264 ?_;intro wk;obtain⟨z,hz⟩:∃z,nd.keys[k]?=some z:=⟨_,U1e (by have:=LI.o;omega)⟩
      obtain⟨sp,cg,o1,o2,o3⟩:=rY.o k z hz;obtain⟨qa,Pr⟩:=ExZ (sp.1)
      obtain⟨qb,Ps⟩:=ExZ (sp.2)
      obtain⟨s1,s2⟩:=O3h _ _ _ cg;rw[Pr]at o1 o3 s1;rw[Ps]at o1 o2 o3 s2;rw[HN.o]at o2;obtain⟨gk,rfl,ey⟩:∃g,aK=some ⟨g,0,none⟩/\(Value.slice aK nK cK).ownBlock=some g:=by
       cases aK with
       |none=>have:=(jK.o.2.1 rfl).1;omega
       |some q=>obtain⟨g,rfl,h⟩:=jK.o.2.2 q rfl;exact⟨g,rfl,h⟩
      obtain⟨gs,rfl,cM⟩:∃g,aS=some ⟨g,0,none⟩/\(Value.slice aS nK cS).ownBlock=some g:=by
       cases aS with
       |none=>have:=(jh.o.2.1 rfl).1;omega
       |some q=>obtain⟨g,rfl,h⟩:=jh.o.2.2 q rfl;exact⟨g,rfl,h⟩
      have kc:=jK.o.1.cells ey k (V2s z) (by unfold Oh;rw[U1m,hz];rfl);have Pv:=jh.o.1.cells cM _ _ s1;have Pw:=jh.o.1.cells cM _ _ s2;have lL:=(jK.o.1.lt gk ey).2;have kF:=(jh.o.1.lt gs cM).2;have uc:=dM.o.use.1;have TR:=(uc gk _ lL).trans kc;have LN:=(uc gs _ kF).trans Pv;have LO:=(uc gs _ kF).trans Pw;have LQ:=U13 lL dM.o.size;have LR:=U13 kF dM.o.size;obtain⟨LS,cw⟩:=ExZ (s.extract qa qb)
      have hX:V1q ⟨Vi Tb,Ve⟩ (bs LS) 0=.ok ([(z,0,qb-qa)],qb-qa):=by
       rw[<-cw,Onw,FK.o,<-List.drop_take];exact o3
      have Px:LS.size<=20000000:=by rw[<-cw];simp;omega
      have eh:=U10 (λ W (q:Gr w W)=>O3k Tb ⟨Vi Tb,Ve⟩ rfl LS 0 0 rfl (U2u _) Px _ hX Yb W (iJ.o.gr q).q);have fO:=U10 (And.intro kc lL);have p1:(0:Int)<=(qa:Int):=Ya;have p2:(qa:Int)<=(qb:Int):=Ya;have p3:(qb:Int)<=(n:Int):=Ya;have Wc:(qb:Int)<=(s.size:Int):=Ya;have t1:decide ((qa:Int)<0)=false:=Yb;have t2:decide ((qb:Int)<(qa:Int))=false:=Ye;have S9:decide (qb<qa)=false:=Ye;have t3:decide ((n:Int)<(qb:Int))=false:=Ye;have Sa:decide (n<qb)=false:=Ye;clear hz cg s1 s2 o1 o2 o3 ey cM kc Pv Pw lL kF uc hX Px Pr Ps n0 n5 n6
      go_upto_region 17 with fail
      obtain⟨V4,LU⟩:=ExZ (wr.alloc (.cells #[qa,qb] 38))
      have hF:=FX.new wr qa qb 38;have g4:Gr wr V4:=by rw[<-LU];exact (Gr.refl _).alloc _
      rw[LU]at hF⊢;have AJ:=U10 (kX.o.trans (dM.o.trans g4));have TS:=U10 (dM.o.trans g4);obtain⟨f0,qG,ff,fl⟩:=hF;clear LU g4 n2 n3 TR LN LO LQ LR nl;go_wp2_with fail
      try rw[cw]
      refine (eh.o V4 (jg.o.trans AJ.o)).mono ?_;rintro e w5 ⟨ot,pq,he,_,gY,iZ,_,_,g5⟩;subst he;obtain⟨GA,GB,jN,_⟩:=O1m iZ;simp only[U1d,U1q,U1v]at jN;subst jN;clear iZ;obtain⟨ak,ck,oM,Ad,bX⟩:=O1m gY;simp only[U1d,U1q,U1v]at oM Ad;obtain⟨g',rfl,kA⟩:∃g,ak=some ⟨g,0,none⟩/\ot.ownBlock=some g:=by
       cases ak with
       |none=>have:=(Ad rfl).1;omega
       |some q=>obtain⟨g,rfl,h⟩:=bX q rfl;exact⟨g,rfl,h⟩
      have w0:=gY.cells kA 0 (V2s z) rfl;have uO:=(gY.lt g' kA).2;subst oM;obtain⟨hC,gC,zC⟩:=bx2 w5 (.slice g' 1 ck) (.slice GA 1 GB) 42;obtain⟨W5,fw⟩:=ExZ (w5.alloc (.cells #[.slice g' 1 ck,.slice GA 1 GB] 42))
      rw[fw]at hC gC zC;refine Z287 ?_;intro W6 lm gD hD zD;have LV:=U10 (show (w5.alloc (.cells #[.slice g' 1 ck,.slice GA 1 GB] 42)).alloc (.cells #[(0:Int),(0:Int)] 29)=W6 by rw[fw,lm]);have fZ:=g5.trans (gC.trans gD);have mA:=U10 (TS.o.trans fZ);obtain⟨x0,x1,xf,xl⟩:=hC.gr gD;obtain⟨y0,y1,yf,yl⟩:=hD;have Wd:=((gC.trans gD).use.1 g' 0 uO).trans w0;have DL:=U13 uO (gC.trans gD).size;have yD:=(mA.o.use.1 gk k fO.o.2).trans fO.o.1;have jm:=(mA.o.block l7).trans Pq.o;have m2:W6.cell? ⟨bn,2,none⟩=some (.slice gk nK cK):=by rw[cell_of_block jm];rfl
      have ml:bn<W6.heap.size:=(U18.1 jm).1;have TT:=U13 fO.o.2 mA.o.size;have u0:(0:Int)<=0:=Ya;have u1:(0:Int)<1:=Ya;clear Ad bX kA w0 uO fw lm zC zD gC gD fZ jm gY f0 qG ff fl
      go_upto_region 20 with fail
      rw[show (w5.alloc (.cells #[.slice g' 1 ck,.slice GA 1 GB] 42)).alloc (.cells #[(0:Int),(0:Int)] 29)=W6 from LV.o]
      go_quiet (fail)
      go_wp2_with fail
      go_roundw
      case rel=>first|exact⟨k+1,by go_num,Ya,mA.o.drewN _⟩|((repeat apply Exists.intro);exact⟨⟨k+1,rfl,Ya,mA.o.drewN _⟩,rfl⟩)
      case measure=>simp[intOf];omega
     have f1:decide ((k:Int)<(nK:Int))=false:=Ye;have LM:decide (k<nK)=false:=Ye;have vo:=U10 (LJ.o.trans dM.o);have AJ:=U10 (kX.o.trans dM.o);obtain⟨x0,x1,xf,xl⟩:=ud.o.gr vo.o;cases mS.o with
     |dot cg lT =>
      rw[cg]at n5 n6;clear jK jh rY mS;have k7:(nd.kind=8/\((nd.kind:Int) != 8)=false)\/(nd.kind=7/\((nd.kind:Int) != 8)=true/\((nd.kind:Int) != 7)=false):=by
       rcases lT with e|e <;> rw[e] <;> simp
      rcases k7 with⟨bh,k7⟩|⟨bh,k7,k8⟩
      all_goals
       rw[bh]at n0;clear lT cg k7;go_wp2_with fail
       go_roundw
       case rel=>first|exact⟨i+1,by go_num,Ya,vo.o⟩|((repeat apply Exists.intro);exact⟨⟨i+1,rfl,Ya,vo.o⟩,rfl⟩)
       case measure=>simp[intOf];omega
     |val na ne nr st cg ET eF CR Ez Py =>
      as_aux_lemma =>
      rw[cg]at n5 n6;simp only at n5 n6;rw[HN.o]at ET;have k1:((na:Int) == -1)=false:=Yf
      obtain⟨F,hF⟩:=px.o.txt (V5a PT) 1000602 (λ l hl=>Old PT l hl);obtain⟨tt,uh,wB⟩:=hF i (by have h1:=Bi.o;rw[<-Ey.o,U1j];omega);have EA:tt.length<=1000000000000000000:=Ya;have hX:V1g ⟨Vi Tb,Ve⟩ (bs s) na 0=.ok (nr,ne,st):=by rw[FK.o];exact eF
      have aO:=U10 (λ W (q:Gr w W)=>O97 W (iJ.o.gr q) s Ya na na rfl Ya 0 0 Yd _ hX Yb);have EB:=U10 (And.intro uh (And.intro EA (Py (V5a PT) F)));have TU:=U10 CR;have EC:=U10 Ez;clear jK jh rY mS hF uh wB EA CR Ez Py hX eF;have AS:=U10 (And.intro n6 nl);go_wp2_with fail;refine (aO.o _ (jg.o.trans AJ.o)).mono ?_;rintro e w5 ⟨gu,Lu,he,Mn,TV,LW,CU,g5⟩;subst he;obtain⟨hC,gC,zC⟩:=bx2 w5 (.slice gu st.length st.length) nr 26;obtain⟨W5,fw⟩:=ExZ (w5.alloc (.cells #[.slice gu st.length st.length,nr] 26))
      rw[fw]at hC gC zC;refine Z287 ?_;intro W6 lm gD hD zD;have LV:=U10 (show (w5.alloc (.cells #[.slice gu st.length st.length,nr] 26)).alloc (.cells #[(0:Int),(0:Int)] 29)=W6 by rw[fw,lm]);have fZ:=g5.trans (gC.trans gD);have LX:Lu.length=st.length:=by rw[<-LW,U1j]
      have ED:=U10 (vo.o.trans fZ);have mA:=U10 (AJ.o.trans fZ);have Iu:=U10 (CU.gr (gC.trans gD));have KT:=U10 (mM.o.gr mA.o);have bj:V9y w5.heap.size w1.heap.size bn (.slice gu st.length st.length) nr (.slice gn N N) (0:Int) ne W6 :=
       ⟨hC.gr gD,hD,ud.o.gr ED.o,(fZ.use.1 _ _ AS.o.2).trans AS.o.1,U13 AS.o.2 fZ.size⟩
      have uL:=λ V (q:Gr W6 V)=>O9c PT F nr tt V (sZ.o.gr ((jg.o.trans mA.o).trans q)) _ gu Lu (Iu.o.gr q) (by rw[LW];exact TU.o) (by rw[LX];exact EC.o) (by have:=EC.o;omega) (by rw[LW,EB.o.2.2];exact EB.o.1) EB.o.2.1 (nr:Int)
      rw[LX]at uL;have vV:=U10 uL;have wT:=λ V (q:Gr W6 V)=>O9c PT F i tt V (sZ.o.gr ((jg.o.trans mA.o).trans q)) _ gn L (KT.o.gr q) (by rw[Ey.o];exact px.o.tidy) (by have:=Bi.o;omega) Ya (by rw[Ey.o];exact EB.o.1) EB.o.2.1 0
      rw[Bi.o]at wT;have ia:=U10 wT;have hS:=bj.gr (Gr.refl W6).drew;clear hC gC zC hD gD zD fw lm fZ LX uL wT bj CU g5 x0 x1 xf xl n0 n2 n3 n5 n6 nl cg
      go_upto_region 26 with fail
      rw[show (w5.alloc (.cells #[.slice gu st.length st.length,nr] 26)).alloc (.cells #[(0:Int),(0:Int)] 29)=W6 from LV.o];refine Reg.begin' (W:=λ _=>true) (S:=V9y w5.heap.size w1.heap.size bn (.slice gu st.length st.length) nr (.slice gn N N) (0:Int) ne) Yc ?_;refine Reg.tl 0 hS ?_ (hy:=by intro w ab;obtain⟨⟨s0,s1,s2,s3⟩,⟨s4,s5,s6,s7⟩,⟨s8,s9,sa,sb⟩,sc,sd⟩:=ab;go_simp;try with_reducible rfl);refine Reg.ty 1 ?_;refine Reg.ty 2 ?_;refine Z41 ?_;refine Reg.ty 5 ?_;refine Reg.ty 6 ?_;refine Reg.tl 7 hS ?_ (hy:=by intro w ab;obtain⟨⟨s0,s1,s2,s3⟩,⟨s4,s5,s6,s7⟩,⟨s8,s9,sa,sb⟩,sc,sd⟩:=ab;go_simp;try with_reducible rfl);refine Z42 ?_;refine Reg.tl 11 hS ?_ (hy:=by intro w ab;obtain⟨⟨s0,s1,s2,s3⟩,⟨s4,s5,s6,s7⟩,⟨s8,s9,sa,sb⟩,sc,sd⟩:=ab;go_simp;try with_reducible rfl);refine Reg.ty 12 ?_;refine Reg.tl 13 hS ?_ (hy:=by intro w ab;obtain⟨⟨s0,s1,s2,s3⟩,⟨s4,s5,s6,s7⟩,⟨s8,s9,sa,sb⟩,sc,sd⟩:=ab;go_simp;try with_reducible rfl);refine Reg.tl 15 hS ?_ (hy:=by intro w ab;obtain⟨⟨s0,s1,s2,s3⟩,⟨s4,s5,s6,s7⟩,⟨s8,s9,sa,sb⟩,sc,sd⟩:=ab;go_simp;try with_reducible rfl);refine Reg.ty 16 ?_;refine Reg.on 14 ?_;go_simp;refine (vV.o _ (Gr.refl W6).drew).mono ?_;rintro e w7 ⟨q1,rfl,vK,g7⟩;have Bb:=hS.gr g7;refine⟨by first|exact Bb|exact λ _=>Bb|exact λ _ _=>Bb,?_⟩;refine Reg.pt ?_;refine Z186 ?_;refine (ia.o _ ((Gr.refl W6).drew.trans g7)).mono ?_;rintro e w8 ⟨q2,rfl,Ax,g8⟩;have zj:=Bb.gr g8;refine⟨by first|exact zj|exact λ _=>zj|exact λ _ _=>zj,?_⟩;refine Reg.pt ?_;have LC:q1=q2:=by
       have:bs q1=bs q2:=vK.trans Ax.symm;cases q1 with|mk q=>cases q2 with|mk v=>exact U2w _ (U2q.1 this)
      subst LC;refine Reg.ty 18 ?_;refine Reg.ty 19 ?_;refine Z12 ?_;have gR:=ED.o.trans (((Gr.refl W6).drew.trans g7).trans g8);clear g7 g8;go_wp2_with fail
      go_roundw
      case rel=>first|exact⟨i+1,by go_num,Ya,gR⟩|((repeat apply Exists.intro);exact⟨⟨i+1,rfl,Ya,gR⟩,rfl⟩)
      case measure=>simp[intOf];omega
   have e1:decide ((i:Int)<(N:Int))=false:=Ye;have NJ:decide (i<N)=false:=Ye;have Pz:=U10 (ud.o.gr Pp.o);go_wp2_with fail;clear r0 r1 rf rl;refine (TO.o _ Gy.o).mono ?_;rintro e w5 ⟨iv,nsv,xs,he,PA,PB,u9,g5⟩;subst he;obtain⟨ai,ci,yM,aQ⟩:=O8k PA;obtain⟨an,cn,sO,rZ⟩:=O8k u9;rw[yM,sO];have dT:=px.o.gr.its;rw[HN.o]at dT;obtain⟨M,hM⟩:=ExZ (G.its.length)
   rw[hM]at dT⊢;have rE:=U10 (Gy.o.trans g5);have TW:=U10 (Pz.o.gr g5);have se:=U10 aQ;have Ae:=U10 rZ;have Hk:=U10 PB;have HM:=U10 hM;clear PA yM aQ u9 sO rZ g5 PB hM Pz;go_wp2_with fail
   go_loopw [18] (λ LY wq=>∃j:Nat,LY=.int .i64 j/\j<=M/\Gr w5 wq) (λ LY _=>M-(intOf LY).toNat)
   case atStart=>exact⟨0,rfl,Ya,Gr.refl _⟩
   case round =>
    obtain⟨j,rfl,hj,yy⟩:=hrel;have mj:=U10 yy;have LZ:=U10 (rE.o.trans yy);obtain⟨r0,r1,rf,rl⟩:=TW.o.gr yy;clear yy;by_cases We:j<M
    ·as_aux_lemma =>
     have f1:decide ((j:Int)<(M:Int))=true:=Ye;have LM:decide (j<M)=true:=Ye;refine Z230 ?_;intro j1;have j2:(j:Int)<(M:Int):=Ya;refine Z153 ?_;intro wj;obtain⟨it,hit⟩:∃it,G.its[j]?=some it:=⟨_,U1e (by have:=HM.o;omega)⟩
     obtain⟨kk,cI,GC,xm,Bg⟩:=px.o.its.2 j it hit;obtain⟨x0,_,_,x5,x6⟩:=Hk.o.at j it hit;obtain⟨g,rfl,aW,dJ⟩:=se.o _ _ x0;obtain⟨g3,dp,_,oO⟩:=se.o _ _ x5;cases dp;obtain⟨g3,dp,_,Eu⟩:=se.o _ _ x6;cases dp;obtain⟨gx,rfl,Af,AG⟩:=Ae.o j kk (by rw[U1m,cI];rfl);have hu:=mj.o.use.1;have c0:wr.cell? ⟨g,j*9,none⟩=some (.int .u8 it.kind):=by rw[Nat.mul_comm];exact (hu g _ aW).trans dJ
     have c5:wr.cell? ⟨g,j*9+5,none⟩=some (.int .i64 it.va):=by rw[Nat.mul_comm];exact (hu g _ aW).trans oO
     have c6:wr.cell? ⟨g,j*9+6,none⟩=some (.int .i64 it.vb):=by rw[Nat.mul_comm];exact (hu g _ aW).trans Eu
     have Wg:wr.cell? ⟨gx,j,none⟩=some (.int .i64 kk):=(hu gx _ Af).trans AG;have lK:g<wr.heap.size:=U13 aW mj.o.size;have TX:gx<wr.heap.size:=U13 Af mj.o.size;clear dJ oO Eu AG x0 x5 x6 hit cI hu aW Af;obtain⟨kd,lT⟩:=ExZ (it.kind)
     rw[lT]at c0 GC xm Bg;by_cases h0:kd=0
     ·have jS:=GC h0;subst jS h0;clear GC xm Bg lT;go_wp2_with fail
      go_roundw
      case rel=>first|exact⟨j+1,by go_num,Ya,mj.o⟩|((repeat apply Exists.intro);exact⟨⟨j+1,rfl,Ya,mj.o⟩,rfl⟩)
      case measure=>simp[intOf];omega
     have d0:((kd:Int)==0)=false:=Ye;have Wh:(kd==0)=false:=Ye;have EE:∃(jn:Nat)(nd:Pl.Nd),kk=(jn:Int)/\G.nds[jn]?=some nd/\(kd=1/\nd.sp=((it.va:Int),(it.vb:Int))\/kd≠1/\nd.kind=8):=by
      by_cases h1:kd=1;obtain⟨jn,nd,z1,z2,z3⟩:=xm h1;exact⟨jn,nd,z1,z2,.inl ⟨h1,z3⟩⟩
      obtain⟨jn,nd,z1,z2,z3⟩:=Bg h0 h1;exact⟨jn,nd,z1,z2,.inr ⟨h1,z3⟩⟩
     obtain⟨jn,nd,rfl,aL,TY⟩:=EE;obtain⟨r,hr,qp⟩:∃r,L[jn]?=some r/\r.nd=nd:=by
      have h1:=aL;rw[<-Ey.o,U1m]at h1;cases h2:L[jn]? with
      |none=>rw[h2]at h1;cases h1
      |some r=>rw[h2]at h1;exact⟨r,rfl,by simpa using h1⟩
     have Na:jn<N:=by have h1:=(U14.1 hr).1;have h2:=Bi.o;omega
     have hT:=mM.o.gr LZ.o;obtain⟨b0,_,_,_,_,b5,b6⟩:=hT.cells jn r hr;have TZ:gn<wr.heap.size:=hT.lt.2;rw[qp]at b0 b5 b6;have v1:decide ((jn:Int)<0)=false:=Yb;have v2:decide ((N:Int)<=(jn:Int))=false:=Ye;have Wi:decide (N<=jn)=false:=Ye;have v3:(0:Int)<=(jn:Int):=Ya;have v4:(jn:Int)<(N:Int):=Ya;clear GC xm Bg aL hr qp hT lT;rcases TY with⟨h1,h2⟩|⟨h1,h2⟩
     have d1:((kd:Int)==1)=true:=Ye;have T':(kd==1)=true:=Ye;have d2:((kd:Int) != 1)=false:=Ye;have NM:(kd != 1)=false:=Ye;rw[h2]at b5 b6;simp only at b5 b6;exact J147
     have d1:((kd:Int)==1)=false:=Ye;have T':(kd==1)=false:=Ye;have d2:((kd:Int) != 1)=true:=Ye;have NM:(kd != 1)=true:=Ye;rw[h2]at b0;exact J147
    have f1:decide ((j:Int)<(M:Int))=false:=Ye;have LM:decide (j<M)=false:=Ye;clear r0 r1 rf rl;go_wp2_with fail;refine (HL.o _ (jg.o.trans LZ.o)).mono ?_;rintro e w7 ⟨rfl,g7⟩;have nY:=(jg.o.trans LZ.o).trans g7;clear g7;go_wp2_with fail;exact U11 (v:=.bool true) (by simp[results,results3,go_sem]) rfl ⟨rfl,nY⟩
end
end Go.Proofs.YtnkgknbdaiakgaaGreatDoor
