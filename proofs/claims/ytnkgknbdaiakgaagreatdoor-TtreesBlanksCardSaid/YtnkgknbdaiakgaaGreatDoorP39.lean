/- The proof's part 39. -/
import Derived.Test.YtnkgknbdaiakgaaGreatDoorP37
set_option maxHeartbeats 16000000
set_option linter.all false
set_option maxRecDepth 100000
namespace Go.Proofs.YtnkgknbdaiakgaaGreatDoor
open Pl Go.Proofs.Tryz Go.RowKit Go.Shelf Go.Joins
attribute [local go_sem] Uy
theorem Oc7{W:World}{I:Nat}{c0 c1 c2 c3 c4 c5 c6:Value}{T:TypeId}(h:W.heap[I]?=some (.cells #[c0,c1,c2,c3,c4,c5,c6] T (0,0))) :
    (W.cell? ⟨I,0,none⟩=some c0/\W.cell? ⟨I,1,none⟩=some c1/\W.cell? ⟨I,2,none⟩=some c2/\W.cell? ⟨I,3,none⟩=some c3/\W.cell? ⟨I,4,none⟩=some c4/\W.cell? ⟨I,5,none⟩=some c5/\W.cell? ⟨I,6,none⟩=some c6)/\(∀o,W.frozen? ⟨I,o,none⟩=false)/\I<W.heap.size :=
 ⟨⟨by rw[cell_of_block h];rfl,by rw[cell_of_block h];rfl,by rw[cell_of_block h];rfl,by rw[cell_of_block h];rfl,by rw[cell_of_block h];rfl,by rw[cell_of_block h];rfl,by rw[cell_of_block h];rfl⟩,λ o=>unfrozen_of_block h o,(U8.1 h).1⟩
theorem V26.unfrozen{w:World}{base e size n g c:Nat}{xs:List Value}(h:V26 w base e size (.slice (some ⟨g,0,none⟩) n c) n xs)(hn:0<n):∀o,w.frozen? ⟨g,o,none⟩=false:=by
 obtain⟨v0,h1,h2,h3⟩:=h;rcases h1.2 with⟨rfl,h0⟩|⟨g',cap,cur,rfl,_,hb,_⟩
 simp[Value.ownBlock]at h2
 simp[Value.ownBlock]at h2;subst h2;exact λ o=>unfrozen_of_block hb o
structure V9r(R b:Nat)(nv:Value)(c0 c1 c2 c3 c4 c5 c6:Value)(w:World):Prop where
 c:w.cell? ⟨R,0,none⟩=some nv
 b0:w.cell? ⟨b,0,none⟩=some c0
 b1:w.cell? ⟨b,1,none⟩=some c1
 b2:w.cell? ⟨b,2,none⟩=some c2
 b3:w.cell? ⟨b,3,none⟩=some c3
 b4:w.cell? ⟨b,4,none⟩=some c4
 b5:w.cell? ⟨b,5,none⟩=some c5
 b6:w.cell? ⟨b,6,none⟩=some c6
theorem V9r.gr{R b:Nat}{nv c0 c1 c2 c3 c4 c5 c6:Value}{w w':World}(h:V9r R b nv c0 c1 c2 c3 c4 c5 c6 w)(g:Gr w w')(hR:R<w.heap.size)(hb:b<w.heap.size):V9r R b nv c0 c1 c2 c3 c4 c5 c6 w' :=
 ⟨(g.use.1 _ _ hR).trans h.c,(g.use.1 _ _ hb).trans h.b0,(g.use.1 _ _ hb).trans h.b1,(g.use.1 _ _ hb).trans h.b2,(g.use.1 _ _ hb).trans h.b3,(g.use.1 _ _ hb).trans h.b4,(g.use.1 _ _ hb).trans h.b5,(g.use.1 _ _ hb).trans h.b6⟩
theorem Ojw(w:World)(R B base:Nat)(s:ByteArray)(nv:Value)(L:List Vw)(own:Nat->Nat)(so:List (Nat×Nat))(x:GrX)(h:GrV w R B base s 0 nv L own so x)(tv:Value)(root base2:Nat)(T:List Vw)
    (hT:O8b w base2 tv T)(cR:base<=base2)(ho:∀k,base2<=k->own k=0)(hL:L.length+T.length<=30000000)(pX:root<=30000000)(dZ:∀(i:Nat) r,T[i]?=some r->r.nd.subs.length<=30000000/\∀u∈r.nd.subs,u<=30000000) :
    Calls prog 60 #[.pointer (some ⟨R,0,none⟩),.agg #[tv,root]] w λ e w'=>e = .returned (.int .i64 ((root+L.length:Nat):Int))/\∃nv' own',GrV w' R B base s 0 nv' (L++T.map (Ow L.length)) own' (so++List.replicate T.length (0,0)) x /\
     St (λ k=>FV own k\/TB T T.length k) (FV own') w w'/\(∀k,own' k≠0->own k≠0\/TB T T.length k\/w.heap.size<=k):=by
 have hR:=h.R_lt;have bM:base<=w.heap.size:=by omega
 obtain⟨g0,ta,Qm,Qn,GB⟩:∃g0 ta,tv = .slice ta T.length T.length/\g0<w.heap.size/\(T=[]\/(ta=some ⟨g0,0,none⟩/\V2n w base2 g0 T)):=by
  rcases hT with⟨rfl,rfl⟩|⟨g,rfl,hT⟩
  exact⟨R,none,rfl,hR.2,.inl rfl⟩
  exact⟨g,_,rfl,hT.lt.2,.inr ⟨rfl,hT⟩⟩
 subst Qm;obtain⟨na,nc,yi⟩:∃a c,nv = .slice a L.length c:=by
  rcases O15 h.nodes with⟨rfl,e⟩|⟨g,cap,rfl,_,_⟩
  exact⟨none,0,by rw[e]⟩
  exact⟨_,_,rfl⟩
 obtain⟨⟨c0,c1,c2,c3,c4,c5,c6⟩,c7,c8,fz⟩:=h.cells;rw[yi]at c0;have H:=U0 h;have HS:=U0 dZ;have HT:=U0 GB;have HO:=U0 ho;clear h hT dZ GB ho c1 c2 c3 c4 c5 c6 c7 c8 fz yi;go_enter func60,ntmps60
 go_upto_region 2 with fail
 obtain⟨W,hW⟩:=ExZ (w.alloc (.cells #[.slice ta T.length T.length,root] 26))
 obtain⟨Ah,gW,hz⟩:FX w.heap.size (.slice ta T.length T.length) root W/\Gr w W/\W.heap.size=w.heap.size+1:=by
  rw[<-hW];exact⟨FX.new w _ _ _,(Gr.refl w).alloc _,by simp⟩
 rw[hW];clear hW c0;have wH:=U0 Ah;have HG:=U0 gW;obtain⟨p0,p1,pf,pl⟩:=Ah;have er:=V3u.start (T:=T) (base2:=base2) (nv) H.o gW g0 Qn (HT.o.imp id And.right);have tL:=U0 er;clear er gW;go_wp2_with fail
 go_loopw [18] (λ v wr=>∃(j:Nat)(nv':Value)(own':Nat->Nat),v = .int .i64 j/\j<=T.length/\V3u w R B base base2 g0 s L own so x T j nv' own' wr/\FX w.heap.size (.slice ta T.length T.length) root wr) (λ v _=>T.length-(intOf v).toNat)
 case atStart=>exact⟨0,nv,own,rfl,by omega,tL.o,wH.o⟩
 case round =>
  obtain⟨j,nv',own',rfl,hj,tQ,kF⟩:=hrel;have kG:=U0 tQ;have eo:=U0 kF;by_cases vx:j<T.length
  ·have d1:decide ((j:Int)<(T.length:Int))=true:=by simp;omega
   have d2:decide (j<T.length)=true:=by simp;omega
   refine Z291 ?_;intro i1;have i2:(j:Int)<(T.length:Int):=by omega
   refine Z194 ?_;intro wj;have vz:ta=some ⟨g0,0,none⟩/\V2n w base2 g0 T:=by
    rcases HT.o with e|e
    rw[e]at vx;simp at vx
    exact e
   obtain⟨rfl,vz⟩:=vz;obtain⟨r,hr⟩:∃r,T[j]?=some r:=⟨_,Uh vx⟩
   have cX:∀i v,(ndV r)[i]?=some v->wr.cell? ⟨g0,j*7+i,none⟩=some v:=λ i v hv=>(Us (w:=w) (a:=⟨g0,j*7+i,none⟩) tQ.g0).trans (vz.cell j r hr i v hv)
   obtain⟨ka,kc,rZ⟩:∃a c,r.kv = .slice a r.nd.keys.length c:=by
    rcases Or (vz.rows j r hr).1 with⟨e,e2⟩|⟨g,c,e,_,_⟩
    exact J60
    exact⟨_,_,e⟩
   obtain⟨sa,sc,kQ⟩:∃a c,r.sv = .slice a r.nd.spots.length c:=by
    rcases Or (vz.rows j r hr).2.1 with⟨e,e2⟩|⟨g,c,e,_,_⟩
    exact J60
    exact⟨_,_,e⟩
   obtain⟨ua,uc,lQ⟩:∃a c,r.uv = .slice a r.nd.subs.length c:=by
    rcases Or (vz.rows j r hr).2.2 with⟨e,e2⟩|⟨g,c,e,_,_⟩
    exact J60
    exact⟨_,_,e⟩
   have q0:wr.cell? ⟨g0,j*7,none⟩=some (.int .u8 r.nd.kind):=cX 0 (.int .u8 r.nd.kind) rfl;refine Z162 ?_;intro q1 q2 q3 q4 q5 q6;have qJ:=U0 vz;have HR:=U0 hr;have Qo:=U0 rZ;have Qp:=U0 kQ;have Ai:=U0 lQ;clear tQ kF cX vz hr rZ kQ lQ
   go_upto_region 5 with fail
   obtain⟨W1,aQ⟩:=ExZ (wr.alloc (.cells #[.int .u8 r.nd.kind,.string ⟨r.nd.text.toArray⟩,.slice ka r.nd.keys.length kc,.slice sa r.nd.spots.length sc,.slice ua r.nd.subs.length uc,r.nd.sp.1,r.nd.sp.2] 40))
   have vA:=U10 wr (.cells #[.int .u8 r.nd.kind,.string ⟨r.nd.text.toArray⟩,.slice ka r.nd.keys.length kc,.slice sa r.nd.spots.length sc,.slice ua r.nd.subs.length uc,r.nd.sp.1,r.nd.sp.2] 40);have g1:Gr wr W1:=by rw[<-aQ];exact (Gr.refl wr).alloc _
   have z1:W1.heap.size=wr.heap.size+1:=by rw[<-aQ];simp
   rw[aQ]at vA⊢;clear aQ q0 q1 q2 q3 q4 q5 q6;obtain⟨wo,ID⟩:∃wo,wo=wr:=⟨_,rfl⟩
   subst ID;have Mk:=U0 vA;obtain⟨⟨m0,m1,m2,m3,m4,m5,m6⟩,mf,ml⟩:=Oc7 vA;have G1:=U0 g1;have Ml:w.heap.size<wo.heap.size:=eo.o.2.2.2;have Cp:∀k,(Value.slice ua r.nd.subs.length uc).ownBlock=some k->RB r k:=λ k e => .inr (.inr (by rw[Ai.o];exact e))
   have tR:∀k,(Value.slice ua r.nd.subs.length uc).ownBlock=some k->k<w.heap.size:=λ k e=>((Cp k e).lt qJ.o HR.o).2
   have vB:V26 W1 base2 3 1 (.slice ua r.nd.subs.length uc) r.nd.subs.length (O7 (V68 L.length 0 r.nd.subs)):=by
    rw[Oho];have h1:=(qJ.o.rows j r HR.o).2.2;rw[Ai.o]at h1;exact h1.of_block λ k e=>(g1.block (Nat.lt_trans (tR k e) Ml)).trans (kG.o.rest j r (U2 _) HR.o k (Cp k e))
   have Cq:=U0 vB;clear vA g1 vB;go_wp2_with fail
   go_loopw [25] (λ v W=>∃m:Nat,v = .int .i64 m/\m<=r.nd.subs.length/\St (λ k=>(Value.slice ua r.nd.subs.length uc).ownBlock=some k) (λ _=>False) W1 W/\V26 W base2 3 1 (.slice ua r.nd.subs.length uc) r.nd.subs.length (O7 (V68 L.length m r.nd.subs))) (λ v _=>r.nd.subs.length-(intOf v).toNat)
   case atStart=>exact⟨0,rfl,U1p _,⟨rfl,rfl,rfl,U2 _,λ _ _ _=>rfl,λ _ e=>e.elim⟩,Cq.o⟩
   case round =>
    obtain⟨m,rfl,hm,a9,dD⟩:=hrel;have Qq:=a9.use wo.heap.size ml (λ e=>by have:=tR _ e;omega);have Qr:=(Qq.1 4).trans m4;have bv:=U0 a9;by_cases iG:m<r.nd.subs.length
    ·obtain⟨gu,cu,qK,lZ,eL⟩:=dD.form (by omega);simp only[U33,true_and]at qK;obtain⟨rfl,rfl⟩:=qK;obtain⟨nY,ED⟩:=HS.o j r HR.o;have FJ:r.nd.subs[m]<=30000000:=ED _ (U2v iG);have hc:=dD.cells (g:=gu) rfl m (.int .i64 r.nd.subs[m]) (by simp[O7,Oju _ _ _ iG]);have Tr:=dD.unfrozen (by omega) m;obtain⟨u,hu⟩:=ExZ (r.nd.subs[m])
     rw[hu]at hc FJ;have e1:decide ((m:Int)<(r.nd.subs.length:Int))=true:=by simp;omega
     have e2:decide (m<r.nd.subs.length)=true:=by simp;omega
     refine Z247 ?_;intro k1 k2 wm;have wu:IntKind.i64.wrap ((u:Int)+(L.length:Int))=(u:Int)+(L.length:Int):=Uk _ ⟨by omega,by omega⟩;have yk:=dD.set m (by simp[O7,Ojt];omega) (.int .i64 ((u+L.length:Nat):Int));rw[Ohp,<-hu,Ojv _ _ _ iG,hu]at yk;have IE:=U0 yk;have HU:=U0 hu;clear a9 dD yk hu;go_wp2_with fail
     go_roundw
     case rel=>exact⟨m+1,rfl,by omega,bv.o.setCell (p:=⟨gu,m,none⟩) (.inl rfl) _,IE.o⟩
     case measure=>simp[intOf];omega
    have sL:m=r.nd.subs.length:=by omega
    subst sL;have e1:decide ((r.nd.subs.length:Int)<(r.nd.subs.length:Int))=false:=by simp
    have e2:decide (r.nd.subs.length<r.nd.subs.length)=false:=by simp
    rw[Ojs]at dD;have oW:=U0 dD;clear dD a9;obtain⟨W2,dU⟩:∃W2,W2=wr:=⟨_,rfl⟩
    subst dU;have tS:St (λ k=>r.uv.ownBlock=some k) (λ _=>False) wo W2:=by
     rw[Ai.o];exact (G1.o.st).trans bv.o
    have qL:=oW.o;rw[<-Ai.o]at qL;have iP:=kG.o.kept qJ.o HO.o HR.o tS;have ip:=kG.o.strange qJ.o HO.o cR HR.o tS qL;have Cr:W2.heap[wo.heap.size]?=some (.cells #[.int .u8 r.nd.kind,.string ⟨r.nd.text.toArray⟩,.slice ka r.nd.keys.length kc,.slice sa r.nd.spots.length sc,.slice ua r.nd.subs.length uc,r.nd.sp.1,r.nd.sp.2] 40 (0,0)):=(bv.o.block wo.heap.size ml (λ e=>by have:=tR _ e;omega)).trans Mk.o;obtain⟨⟨x0,x1,x2,x3,x4,x5,x6⟩,xf,xl⟩:=Oc7 Cr;obtain⟨⟨c0,_⟩,_,_,fz⟩:=iP.cells;have IF:=iP.R_lt;have bi:V9r R wo.heap.size nv' (.int .u8 r.nd.kind) (.string ⟨r.nd.text.toArray⟩) (.slice ka r.nd.keys.length kc) (.slice sa r.nd.spots.length sc) (.slice ua r.nd.subs.length uc) r.nd.sp.1 r.nd.sp.2 W2.drew:=⟨c0,x0,x1,x2,x3,x4,x5,x6⟩
    have Cs:=U0 tS;have jh:=U0 iP;have nh:=U0 ip;have zN:=fz 0;obtain⟨iN,hi,fE,ay,aJ⟩:=U2u Ob4;have HI:=U0 (And.intro hi (And.intro fE (And.intro ay aJ)));have a8:some R≠nv'.ownBlock:=O2q iP.oN (by rw[iP.oR];omega);have ym:(L++(T.take j).map (Ow L.length)).length<=30000000:=by simp;omega
    have yn:base<=W2.heap.size:=by omega
    have bP:ndV (Ow L.length r)=[.int .u8 r.nd.kind,.string ⟨r.nd.text.toArray⟩,.slice ka r.nd.keys.length kc,.slice sa r.nd.spots.length sc,.slice ua r.nd.subs.length uc,.int .i64 r.nd.sp.1,.int .i64 r.nd.sp.2]:=by
     simp only[ndV,Ow,Qo.o,Qp.o,Ai.o]
    have Qs:=U0 bP;clear tS qL iP ip Cr x0 x1 x2 x3 x4 x5 x6 xf fz hi fE ay aJ bP m0 m1 m2 m3 m4 m5 m6 mf Qr
    go_upto_region 10 with fail
    refine Reg.begin' (W:=λ i=>i != 8&&i != 12) (S:=V9r R wo.heap.size nv' (.int .u8 r.nd.kind) (.string ⟨r.nd.text.toArray⟩) (.slice ka r.nd.keys.length kc) (.slice sa r.nd.spots.length sc) (.slice ua r.nd.subs.length uc) r.nd.sp.1 r.nd.sp.2) (by kernel_rfl) ?_;obtain⟨V0,hV⟩:=ExZ (W2.drew)
    have Qt:Gr W2 V0:=by rw[<-hV];exact (Gr.refl W2).drew
    have Ct:=U0 (show V0.heap.size=W2.heap.size by rw[<-hV];rfl);rw[hV]at bi⊢;clear hV;refine Z32 ?_;refine Z42 ?_;refine Reg.tl 5 bi ?_ (hy:=by intro w ab;obtain⟨s0,s1,s2,s3,s4,s5,s6,s7⟩:=ab;go_simp;try with_reducible rfl);refine Reg.tl 6 bi ?_ (hy:=by intro w ab;obtain⟨s0,s1,s2,s3,s4,s5,s6,s7⟩:=ab;go_simp;try with_reducible rfl);refine Reg.on 7 ?_;go_simp;have Mm:=U10 V0 (.cells #[.int .u8 r.nd.kind,.string ⟨r.nd.text.toArray⟩,.slice ka r.nd.keys.length kc,.slice sa r.nd.spots.length sc,.slice ua r.nd.subs.length uc,r.nd.sp.1,r.nd.sp.2] 40);have IG:Gr V0 (V0.alloc (.cells #[.int .u8 r.nd.kind,.string ⟨r.nd.text.toArray⟩,.slice ka r.nd.keys.length kc,.slice sa r.nd.spots.length sc,.slice ua r.nd.subs.length uc,r.nd.sp.1,r.nd.sp.2] 40)):=(Gr.refl V0).alloc _;have IH:(V0.alloc (.cells #[.int .u8 r.nd.kind,.string ⟨r.nd.text.toArray⟩,.slice ka r.nd.keys.length kc,.slice sa r.nd.spots.length sc,.slice ua r.nd.subs.length uc,r.nd.sp.1,r.nd.sp.2] 40)).heap.size=V0.heap.size+1:=by simp
    obtain⟨V1,hV⟩:=ExZ (V0.alloc (.cells #[.int .u8 r.nd.kind,.string ⟨r.nd.text.toArray⟩,.slice ka r.nd.keys.length kc,.slice sa r.nd.spots.length sc,.slice ua r.nd.subs.length uc,r.nd.sp.1,r.nd.sp.2] 40))
    rw[hV]at Mm IG IH⊢;clear hV;have II:=U0 IH;have cm:=bi.gr IG (by have:=Ct.o;omega) (by have:=Ct.o;omega);clear IH;refine Z65 ?_;have gV:=Qt.trans IG;have Cu:=O1 jh.o.nodes λ k e=>gV.block (jh.o.nodes.lt k e).2
    refine Reg.all (rs:=[8]) (by kernel_rfl) (by simp) ?_;intro j' Mn;obtain rfl:=U13.1 Mn;clear Mn;refine Reg.one (i:=8) rfl (by rfl) ?_;refine U23 _ (.tmp 42) (.tmp 44) 24 (by rfl) base 40 iN _ 7 112 underlying24 HI.o.1 HI.o.2.1 HI.o.2.2.1 HI.o.2.2.2 (by rfl) (by decide) nv' (L++(T.take j).map (Ow L.length)).length (V35 (L++(T.take j).map (Ow L.length))) (by rfl) Cu _ 1 1 [.int .u8 r.nd.kind,.string ⟨r.nd.text.toArray⟩,.slice ka r.nd.keys.length kc,.slice sa r.nd.spots.length sc,.slice ua r.nd.subs.length uc,.int .i64 r.nd.sp.1,.int .i64 r.nd.sp.2] (by rfl) (by rfl) (U1e Mm) (by simp[Value.oneCell']) (by decide) (by unfold maxLen;omega) (by omega) (Uj yn gV.size) _ rfl ?_;intro gN gZ V2 bB hg ha iB;have hm:=jh.o.appended gV (Ow L.length r) nh.o gN gZ (by rw[Qs.o];exact bB) hg ha iB;have f4:V2.cell? ⟨R,0,none⟩=some nv':=(hg.cell_far ⟨R,0,none⟩ (by have:=Ct.o;have:=II.o;simp;omega) a8).trans cm.c;have f3:V2.frozen? ⟨R,0,none⟩=false:=(hg.frozen_far ⟨R,0,none⟩ (by have:=Ct.o;have:=II.o;simp;omega) a8).trans ((gV.use.2.1 R 0 IF.2).trans zN);have Qu:R<V2.heap.size:=by have:=hg.size;have:=Ct.o;have:=II.o;omega
    have HM:=U0 hm;clear bB hg ha iB hm;refine⟨λ h=>absurd h (by decide),?_⟩;refine Z2 ?_;refine Reg.ty 9 ?_;refine Z61 ?_;refine Reg.on 12 ?_;refine Z293 ?_;go_wp2_with fail
    go_roundw
    case rel =>
     have hm:=HM.o;rw[show (L++(T.take j).map (Ow L.length)).length=L.length+j by simp;omega]at hm;obtain⟨ad,tU⟩:=kG.o.more qJ.o HO.o HR.o Ml Cs.o hm;obtain⟨yo,_,kK,_⟩:=hm;refine⟨j+1,_,ad,rfl,by omega,tU,?_⟩;refine ((eo.o.st Cs.o (λ e=>by have:=tR w.heap.size (by rw[<-Ai.o];exact e);omega)).st kK (λ e=>?_));have yp:∀k,RB r k->k<w.heap.size:=λ k e=>(RB.lt qJ.o HR.o e).2
     rcases e with e|e|e|e
     rcases kG.o.on _ e with h|⟨i',r',_,h2,h3⟩|h
     have:=(H.o.lt _ h).2;omega;have:=(RB.lt qJ.o h2 h3).2;omega
     omega;have:=yp _ (.inl e);omega;have:=yp _ (.inr (.inl e));omega
     have:=yp _ (.inr (.inr e));omega
    case measure=>simp[intOf];omega
  have Qv:j=T.length:=by omega
  have d1:decide ((j:Int)<(T.length:Int))=false:=by simp;omega
  have d2:decide (j<T.length)=false:=by simp;omega
  obtain⟨Ts,Tt,fC,fD⟩:=kF;have Tu:IntKind.i64.wrap ((root:Int)+(L.length:Int))=(root:Int)+(L.length:Int):=Uk _ ⟨by omega,by omega⟩;subst Qv;clear tQ;go_wp2_with fail;have hv:=kG.o.v;rw[List.take_length]at hv;exact U1 (v := .int .i64 ((root:Int)+(L.length:Int))) (by simp[results,results60,go_sem]) rfl ⟨rfl,nv',own',hv,kG.o.st,λ k hk=>(kG.o.on k hk).imp id (λ h=>h.imp id (λ h=>by omega))⟩
theorem bx2(w:World)(a b:Value)(T:TypeId):FX w.heap.size a b (w.alloc (.cells #[a,b] T))/\Gr w (w.alloc (.cells #[a,b] T))/\(w.alloc (.cells #[a,b] T)).heap.size=w.heap.size+1 :=
 ⟨FX.new w _ _ _,(Gr.refl _).alloc _,by simp⟩
structure V6m(z:Nat)(R fo:Nat)(an d:Nat)(k1 k2:Value)(t:Nat×Nat)(w:World):Prop where
 p:FX z an d w
 k:FX (z+1) k1 k2 w
 s:FX (z+1+1) (.int .u8 t.1) t.2 w
 o:w.cell? ⟨z+1+1+1,0,none⟩=some (.func (.func fo) #[.pointer (some ⟨R,0,none⟩)] #[])
 ol:z+1+1+1<w.heap.size
 r1:FX (z+1+1+1+1) (0:Int) (0:Int) w
 r2:FX (z+1+1+1+1+1) (0:Int) (0:Int) w
 f:FX (z+1+1+1+1+1+1) (0:Int) (0:Int) w
theorem V6m.st{z R fo an d:Nat}{k1 k2:Value}{t:Nat×Nat}{w w':World}{F F':Nat->Prop}(h:V6m z R fo an d k1 k2 t w)(g:St F F' w w')(hF:∀k,z<=k->k<=z+1+1+1+1+1+1->¬F k):V6m z R fo an d k1 k2 t w' :=
 ⟨h.p.st g (hF _ (by omega) (by omega)),h.k.st g (hF _ (by omega) (by omega)),h.s.st g (hF _ (by omega) (by omega)),((g.use (z+1+1+1) h.ol (hF (z+1+1+1) (by omega) (by omega))).1 _).trans h.o,U4 h.ol g.size,
  h.r1.st g (hF _ (by omega) (by omega)),h.r2.st g (hF _ (by omega) (by omega)),h.f.st g (hF _ (by omega) (by omega))⟩
theorem V6m.stored{z R fo an d Mo d2:Nat}{k1 k2:Value}{t:Nat×Nat}{w w':World}(h:V6m z R fo an d k1 k2 t w)(hb:∀k,k≠z->k≠z+1+1+1+1+1+1->w'.heap[k]?=w.heap[k]?)(hz:w.heap.size<=w'.heap.size)
    (hp:FX z Mo d2 w')(hf:FX (z+1+1+1+1+1+1) (0:Int) (0:Int) w'):V6m z R fo Mo d2 k1 k2 t w' :=
 ⟨hp,h.k.of_block (hb _ (by omega) (by omega)) hz,h.s.of_block (hb _ (by omega) (by omega)) hz,(Us (w:=w) (a:=⟨z+1+1+1,0,none⟩) (hb (z+1+1+1) (by omega) (by omega))).trans h.o,U4 h.ol hz,
  h.r1.of_block (hb _ (by omega) (by omega)) hz,h.r2.of_block (hb _ (by omega) (by omega)) hz,hf⟩
theorem V57.stored{z bK gk gs ck cs:Nat}{ws:List Pl.KW}{w w':World}(h:V57 (z+1+1+1+1+1+1) bK gk gs ck cs ws w)(hb:∀k,k≠z->k≠z+1+1+1+1+1+1->w'.heap[k]?=w.heap[k]?)(hz:w.heap.size<=w'.heap.size)
    (hf:FX (z+1+1+1+1+1+1) (0:Int) (0:Int) w')(h1:bK≠z/\bK≠z+1+1+1+1+1+1)(h2:gk<z)(h3:gs<z):V57 (z+1+1+1+1+1+1) bK gk gs ck cs ws w' :=
 have e:∀k,k≠z->k≠z+1+1+1+1+1+1->∀o,w'.cell? ⟨k,o,none⟩=w.cell? ⟨k,o,none⟩:=λ k a b o=>Us (w:=w) (a:=⟨k,o,none⟩) (hb k a b)
 ⟨hf,(e _ h1.1 h1.2 _).trans h.k0,(e _ h1.1 h1.2 _).trans h.k1,U4 h.kl hz,U4 h.gkl hz,U4 h.gsl hz,λ j t a b hj=>by
  obtain⟨a1,a2,a3⟩:=h.w j t a b hj;exact⟨(e gk (by omega) (by omega) _).trans a1,(e gs (by omega) (by omega) _).trans a2,(e gs (by omega) (by omega) _).trans a3⟩⟩
theorem O7k{g g2:Vb}{an d n d2:Nat}{w:Pl.Bs}{a b:Nat}{t:Nat×Nat}{over:Nat->Pl.Ov}(h:V1n g an d w a b t over = .ok (n,d2,g2))(bR:∀i n' d',over i = .go n' d'->d'<=d+2)(hl:g.nds.length<=20000001) :
    g2.nds.length<=20000001/\d2<=d+2:=by
 unfold V1n at h
 split at h;cases h
 split at h;cases h
 cases h
 rename_i h1
 cases h;exact⟨hl,bR _ _ _ h1⟩
 split at h;cases h
 split at h
 rename_i h1
 cases h;rw[Uf]at h1;have h2:=h1.2;unfold Pl.room at h2;rw[Ux]at h2;refine⟨?_,by omega⟩;simp[V2r,V2l,Vo];exact h2
 cases h
theorem V6m.gr{z R fo an d:Nat}{k1 k2:Value}{t:Nat×Nat}{w w':World}(h:V6m z R fo an d k1 k2 t w)(g:Gr w w'):V6m z R fo an d k1 k2 t w' :=
 h.st (F:=λ _=>False) (F':=λ _=>False) g.st (λ _ _ _ e=>e)
theorem Ojy(w:World)(R fo an d:Nat)(k1 k2:Value)(t:Nat×Nat)(T0 T1 T2 T3 T4 T5 T6:TypeId) :
    V6m w.heap.size R fo an d k1 k2 t (((((((w.alloc (.cells #[an,d] T0)).alloc (.cells #[k1,k2] T1)).alloc (.cells #[.int .u8 t.1,t.2] T2)).alloc (.cells #[.func (.func fo) #[.pointer (some ⟨R,0,none⟩)] #[]] T3)).alloc (.cells #[(0:Int),(0:Int)] T4)).alloc (.cells #[(0:Int),(0:Int)] T5)).alloc (.cells #[(0:Int),(0:Int)] T6)) /\
    Gr w (((((((w.alloc (.cells #[an,d] T0)).alloc (.cells #[k1,k2] T1)).alloc (.cells #[.int .u8 t.1,t.2] T2)).alloc (.cells #[.func (.func fo) #[.pointer (some ⟨R,0,none⟩)] #[]] T3)).alloc (.cells #[(0:Int),(0:Int)] T4)).alloc (.cells #[(0:Int),(0:Int)] T5)).alloc (.cells #[(0:Int),(0:Int)] T6)) /\
    (((((((w.alloc (.cells #[an,d] T0)).alloc (.cells #[k1,k2] T1)).alloc (.cells #[.int .u8 t.1,t.2] T2)).alloc (.cells #[.func (.func fo) #[.pointer (some ⟨R,0,none⟩)] #[]] T3)).alloc (.cells #[(0:Int),(0:Int)] T4)).alloc (.cells #[(0:Int),(0:Int)] T5)).alloc (.cells #[(0:Int),(0:Int)] T6)).heap.size=w.heap.size+1+1+1+1+1+1+1:=by
 obtain⟨w1,h1⟩:=ExZ (w.alloc (.cells #[an,d] T0))
 obtain⟨w2,h2⟩:=ExZ (w1.alloc (.cells #[k1,k2] T1))
 obtain⟨w3,h3⟩:=ExZ (w2.alloc (.cells #[.int .u8 t.1,t.2] T2))
 obtain⟨w4,h4⟩:=ExZ (w3.alloc (.cells #[.func (.func fo) #[.pointer (some ⟨R,0,none⟩)] #[]] T3))
 obtain⟨w5,h5⟩:=ExZ (w4.alloc (.cells #[(0:Int),(0:Int)] T4))
 obtain⟨w6,h6⟩:=ExZ (w5.alloc (.cells #[(0:Int),(0:Int)] T5))
 obtain⟨w7,h7⟩:=ExZ (w6.alloc (.cells #[(0:Int),(0:Int)] T6))
 rw[h1,h2,h3,h4,h5,h6,h7];obtain⟨f0,g1,z1⟩:=bx2 w an d T0;rw[h1]at f0 g1 z1;obtain⟨f1,g2,z2⟩:=bx2 w1 k1 k2 T1;rw[h2]at f1 g2 z2;obtain⟨f2,g3,z3⟩:=bx2 w2 (.int .u8 t.1) t.2 T2;rw[h3]at f2 g3 z3;have g4:Gr w3 w4:=by rw[<-h4];exact (Gr.refl _).alloc _
 have z4:w4.heap.size=w3.heap.size+1:=by rw[<-h4];simp
 have f3:w4.cell? ⟨w3.heap.size,0,none⟩=some (.func (.func fo) #[.pointer (some ⟨R,0,none⟩)] #[]):=by rw[<-h4];simp
 obtain⟨f4,g5,z5⟩:=bx2 w4 (0:Int) (0:Int) T4;rw[h5]at f4 g5 z5;obtain⟨f5,g6,z6⟩:=bx2 w5 (0:Int) (0:Int) T5;rw[h6]at f5 g6 z6;obtain⟨f6,g7,z7⟩:=bx2 w6 (0:Int) (0:Int) T6;rw[h7]at f6 g7 z7;have k7:=g7;have k6:=g6.trans k7;have k5:=g5.trans k6;have k4:=g4.trans k5;have k3:=g3.trans k4;have k2:=g2.trans k3;rw[z1]at f1 z2;rw[z2]at f2 z3;rw[z3]at f3 z4;rw[z4]at f4 z5;rw[z5]at f5 z6;rw[z6]at f6 z7;exact⟨⟨f0.gr k2,f1.gr k3,f2.gr k4,(k5.use.1 _ _ (by omega)).trans f3,by omega,f4.gr k6,f5.gr k7,f6⟩,g1.trans k2,z7⟩
def Vhn(w:World)(z:Nat)(R B base fo:Nat)(s:ByteArray)(own:Nat->Nat)(x:GrX)(d0:Nat)(t:Nat×Nat)(over:Vb->Nat->Nat->Pl.Ov)(gk gs ck cs:Nat)(ws ks:List Pl.KW)(Y:Va (Nat×Nat×Vb))(Cv:Value)(wr:World):Prop :=
 ∃(done rest:List Pl.KW)(j an d:Nat)(nv':Value)(L':List Vw)(own':Nat->Nat)(g':Vb),Cv = .int .i64 j/\done.length=j/\ks=done++rest/\d<=d0+2*j/\GM wr R B base s nv' L' own' x g'/\L'.length<=20000001 /\
  V20 t over rest an d g'=Y/\V57 (z+1+1+1+1+1+1) (z+1) gk gs ck cs ws wr/\V6m z R fo an d (.slice (some ⟨gk,0,none⟩) ws.length ck) (.slice (some ⟨gs,0,none⟩) ws.length cs) t wr /\
  St (FV own) (FV own') w wr/\(∀k,own' k≠0->own k≠0\/z+1+1+1+1+1+1+1<=k)/\z+1+1+1+1+1+1+1<=wr.heap.size
structure Vdd(z gk gs n ck cs j:Nat)(wd:Value)(a b:Nat)(an d:Nat)(t:Nat×Nat)(w:World):Prop where
 p:FX z an d w
 k0:w.cell? ⟨z+1,0,none⟩=some (.slice (some ⟨gk,0,none⟩) n ck)
 k1:w.cell? ⟨z+1,1,none⟩=some (.slice (some ⟨gs,0,none⟩) n cs)
 w0:w.cell? ⟨gk,j,none⟩=some wd
 w1:w.cell? ⟨gs,j*2,none⟩=some (.int .i64 a)
 w2:w.cell? ⟨gs,j*2+1,none⟩=some (.int .i64 b)
 s:FX (z+1+1) (.int .u8 t.1) t.2 w
theorem Ohq(fo:Nat)(sW:∀args w,(callFunc fo args).run prog w = .ok (.enter fo args) w)(over:Vb->Nat->Nat->Pl.Ov)(oa:∀g d i n d',over g d i = .go n d'->d'<=d+2)
    (w:World)(R B base:Nat)(s:ByteArray)(nv:Value)(L:List Vw)(own:Nat->Nat)(x:GrX)(g:Vb)(h:GM w R B base s nv L own x g)
    (HO:∀W nv' L' own' g',GM W R B base s nv' L' own' x g'->L'.length<=30000000->∀(an d i:Nat),i<L'.length->d<=1000000000->over g' d i ≠ .non->Calls prog fo #[.pointer (some ⟨R,0,none⟩),.agg #[an,d],i] W λ e W'=>O1i (over g' d i) e/\Gr W W')
    (an d:Nat)(t:Nat×Nat)(hL:L.length<=20000001)(hm:x.many<=30000000)(hd:d<=100000000)(gk gs ck cs:Nat)(ws:List Pl.KW)(la:Nat)(eU:ws.length=la+1)(eA:la<=30000000)
    (fq:gk<w.heap.size)(bZ:gs<w.heap.size)(dw:own gk=0)(fN:own gs=0) 
    (aF:∀(j:Nat)(t:Pl.Bs)(a b:Nat),ws[j]?=some (t,a,b)->w.cell? ⟨gk,j,none⟩=some (V3a t)/\w.cell? ⟨gs,j*2,none⟩=some (.int .i64 a)/\w.cell? ⟨gs,j*2+1,none⟩=some (.int .i64 b))
    (Y:Va (Nat×Nat×Vb))(hY:V20 t over ws.dropLast an d g=Y)(a8:Y ≠ .non) :
    Calls prog 113 #[.pointer (some ⟨R,0,none⟩),.agg #[an,d],.agg #[.slice (some ⟨gk,0,none⟩) ws.length ck,.slice (some ⟨gs,0,none⟩) ws.length cs],.agg #[.int .u8 t.1,t.2],.func (.func fo) #[.pointer (some ⟨R,0,none⟩)] #[]] w (O40 w R B base s own x Y):=by
 have H:=U0 h;have Qw:=U0 hY;have Ch:=U0 HO;have lL:=U0 aF;clear h hY HO aF;have LU:IntKind.i64.wrap ((ws.length:Int)-1)=(la:Int):=by rw[Uk _ ⟨by omega,by omega⟩];omega
 have fI:=U0 eU;clear eU;go_enter func113,ntmps113
 go_upto_region 2 with fail
 obtain⟨W,hW⟩:=ExZ ((((((((w.alloc (.cells #[an,d] 67)).alloc (.cells #[.slice (some ⟨gk,0,none⟩) ws.length ck,.slice (some ⟨gs,0,none⟩) ws.length cs] 42)).alloc (.cells #[.int .u8 t.1,t.2] 94)).alloc (.cells #[.func (.func fo) #[.pointer (some ⟨R,0,none⟩)] #[]] 193)).alloc (.cells #[(0:Int),(0:Int)] 67)).alloc (.cells #[(0:Int),(0:Int)] 29)).alloc (.cells #[(0:Int),(0:Int)] 29)))
 have Mp:=Ojy w R fo an d (.slice (some ⟨gk,0,none⟩) ws.length ck) (.slice (some ⟨gs,0,none⟩) ws.length cs) t 67 42 94 193 67 29 29;rw[hW]at Mp;rw[hW];clear hW;obtain⟨hB,gW,hz⟩:=Mp;have hK:V57 (w.heap.size+1+1+1+1+1+1) (w.heap.size+1) gk gs ck cs ws W :=
  ⟨hB.f,hB.k.1,hB.k.2.1,hB.k.2.2.2,U4 fq gW.size,U4 bZ gW.size,λ j t a b hj=>by
   obtain⟨a1,a2,a3⟩:=lL.o j t a b hj;exact⟨(gW.use.1 _ _ fq).trans a1,(gW.use.1 _ _ bZ).trans a2,(gW.use.1 _ _ bZ).trans a3⟩⟩
 have HB:=U0 hB;have HK:=U0 hK;have HG:=U0 gW;obtain⟨k0,k1,kf,kl⟩:=hB.k;clear hB hK gW;go_wp2_with fail
 go_loopw [19] (λ Cv wr=>Vhn w w.heap.size R B base fo s own x d t over gk gs ck cs ws ws.dropLast Y Cv wr) (λ Cv _=>ws.length-(intOf Cv).toNat)
 case atStart =>
  exact⟨[],ws.dropLast,0,an,d,nv,L,own,g,rfl,rfl,rfl,by omega,H.o.gr HG.o,hL,Qw.o,HK.o,HB.o,(St.refl _ _).gr HG.o,λ k hk => .inl hk,by omega⟩
 case round =>
  obtain⟨done,rest,j,mo,d',nv',L',own',g',rfl,xR,sQ,pJ,cE,ym,jp,kD,EE,a9,bB,fE⟩:=hrel;have qH:la=j+rest.length:=by
   have h1:=U1q List.length sQ;rw[U3j,Ug,fI.o]at h1;omega
  have bG:=U0 cE;have Mq:=U0 jp;have iA:=U0 kD;have nP:=U0 EE;have bv:=U0 a9;have cn:=U0 bB;have wD:=U0 sQ;have Mr:=U0 xR;have IJ:=U0 fE;refine Z291 ?_;intro i1;have i2:(j:Int)<(ws.length:Int):=by have:=fI.o;omega
  have Qx:j<9223372036854775807:=by omega
  refine Z194 ?_;intro wj;clear xR sQ cE jp kD a9 bB;cases rest with
  |nil =>
   have i0:decide (j<la)=false:=by simp at qH;simp;omega
   clear qH EE
   go_upto_region 10 with fail
   have hS:FX w.heap.size mo d' wr.drew/\FX (w.heap.size+1+1+1+1+1+1) (0:Int) (0:Int) wr.drew:=⟨nP.o.p.gr (Gr.refl wr).drew,nP.o.f.gr (Gr.refl wr).drew⟩
   have bi:=And.intro nP.o.p nP.o.f;obtain⟨r0,r1,rf,rl⟩:=nP.o.r1;obtain⟨rn,ro,rp,rq⟩:=nP.o.r2;have Ae:w.heap.size<=w.heap.size+1+1+1+1:=by omega
   have Af:w.heap.size<=w.heap.size+1+1+1+1+1:=by omega
   refine Reg.begin' (W:=λ i=>i != 3) (S:=λ W=>FX w.heap.size mo d' W/\FX (w.heap.size+1+1+1+1+1+1) (0:Int) (0:Int) W) (by kernel_rfl) ?_;refine Z80 ?_;go_simp;refine⟨by first|exact⟨((bi.1.other (by omega) _).other (by omega) _).gr (Gr.refl _).drew,((bi.2.other (by omega) _).other (by omega) _).gr (Gr.refl _).drew⟩|exact λ _=>⟨((bi.1.other (by omega) _).other (by omega) _).gr (Gr.refl _).drew,((bi.2.other (by omega) _).other (by omega) _).gr (Gr.refl _).drew⟩|exact λ _ _=>⟨((bi.1.other (by omega) _).other (by omega) _).gr (Gr.refl _).drew,((bi.2.other (by omega) _).other (by omega) _).gr (Gr.refl _).drew⟩,?_⟩;refine Reg.pt ?_;refine Z189 ?_;refine Z2 ?_;refine Z12 ?_;go_wp2_with fail;have cC:=V67 ⟨r0,r1,rf,rl⟩ ⟨rn,ro,rp,rq⟩ (by omega) bv.o Ae Af mo d' (0:Int) (0:Int);obtain⟨WF,am⟩:=ExZ (((((wr.setCell ⟨w.heap.size+1+1+1+1,0,none⟩ mo).setCell ⟨w.heap.size+1+1+1+1,1,none⟩ d').setCell ⟨w.heap.size+1+1+1+1+1,0,none⟩ (0:Int)).setCell ⟨w.heap.size+1+1+1+1+1,1,none⟩ (0:Int)))
   rw[am]at cC;rw[am];clear am;obtain⟨df,d7,sF,bF,zF⟩:=cC;obtain⟨q0,q1,qf,ql⟩:=df.gr (Gr.refl WF).drew;obtain⟨y0,y1,yf,yl⟩:=d7.gr (Gr.refl WF).drew;have vC:∀k,own' k≠0->k≠w.heap.size+1+1+1+1/\k≠w.heap.size+1+1+1+1+1:=λ k hk=>by
    rcases cn.o k hk with h|h
    have:=(H.o.v.lt k h).2;omega
    omega
   have vy:=(bG.o.v.kept (w':=WF) (λ k hk=>bF k (vC k hk).1 (vC k hk).2) zF).drew;have Qy:Y = .ok (mo,d',g'):=by rw[<-Mq.o];rfl
   rw[Qy];refine U1 (v := .tuple #[.agg #[mo,d'],f0]) (by simp[results,results113,go_sem,q0,q1,qf,ql,y0,y1,yf,yl]) rfl ⟨rfl,nv',L',own',⟨vy,bG.o.nd,bG.o.sec,bG.o.dep,bG.o.many⟩,sF.drew,λ k hk=>?_⟩;rcases cn.o k hk with h|h
   exact .inl h
   exact J40
  |cons kw iL =>
   obtain⟨wt,a,b⟩:=kw;have i0:decide (j<la)=true:=by simp at qH;simp;omega
   have xU:ws[j]?=some (wt,a,b):=by
    have h1:ws.dropLast[j]?=some (wt,a,b):=by rw[wD.o,<-Mr.o];simp
    rw[List.getElem?_dropLast]at h1
    split at h1;exact h1
    cases h1
   obtain⟨y1,y2,y3⟩:=iA.o.w j wt a b xU;obtain⟨p0,p1,pf,pl⟩:=EE.p;have A8:=U0 xU;have mI:=U0 qH;clear EE xU qH
   go_upto_region 6 with fail
   obtain⟨WA,IK⟩:=ExZ (wr.alloc (.cells #[mo,d'] 67))
   obtain⟨tp,gA,zA⟩:=bx2 wr mo d' 67;rw[IK]at tp gA zA;rw[IK];have gD:Gr wr WA.drew:=gA.drew;have hS:Vdd w.heap.size gk gs ws.length ck cs j (V3a wt) a b mo d' t WA.drew :=
    ⟨nP.o.p.gr gD,(iA.o.gr gD).k0,(iA.o.gr gD).k1,((iA.o.gr gD).w j wt a b A8.o).1,((iA.o.gr gD).w j wt a b A8.o).2.1,((iA.o.gr gD).w j wt a b A8.o).2.2,nP.o.s.gr gD⟩
   have nQ:=U0 gD;have Qz:=U0 (tp.gr (Gr.refl WA).drew);have Iw:gk<WA.heap.size:=U4 iA.o.gkl gA.size;have Iy:gs<WA.heap.size:=U4 iA.o.gsl gA.size;clear IK tp gA gD y1 y2 y3 p0 p1 pf pl k0 k1 kf kl;refine Reg.begin' (W:=λ i=>i != 14&&i != 18&&i != 19) (S:=Vdd w.heap.size gk gs ws.length ck cs j (V3a wt) a b mo d' t) (by kernel_rfl) ?_;refine Reg.ty 0 ?_;refine Reg.tl 1 hS ?_ (hy:=by intro w ab;obtain⟨⟨s0,s1,s2,s3⟩,s4,s5,s6,s7,s8,⟨s9,ki,oq,uj⟩⟩:=ab;go_simp;try with_reducible rfl);refine Reg.ty 2 ?_;refine Reg.tl 3 hS ?_ (hy:=by intro w ab;obtain⟨⟨s0,s1,s2,s3⟩,s4,s5,s6,s7,s8,⟨s9,ki,oq,uj⟩⟩:=ab;go_simp;try with_reducible rfl);refine Z89 ?_;refine Reg.tl 6 hS ?_ (hy:=by intro w ab;obtain⟨⟨s0,s1,s2,s3⟩,s4,s5,s6,s7,s8,⟨s9,ki,oq,uj⟩⟩:=ab;go_simp;try with_reducible rfl);refine Reg.ty 7 ?_;refine Reg.tl 8 hS ?_ (hy:=by intro w ab;obtain⟨⟨s0,s1,s2,s3⟩,s4,s5,s6,s7,s8,⟨s9,ki,oq,uj⟩⟩:=ab;go_simp;try with_reducible rfl);refine Reg.ty 9 ?_;refine Reg.ty 10 ?_;refine Reg.tl 11 hS ?_ (hy:=by intro w ab;obtain⟨⟨s0,s1,s2,s3⟩,s4,s5,s6,s7,s8,⟨s9,ki,oq,uj⟩⟩:=ab;go_simp;try with_reducible rfl);refine Reg.tl 12 hS ?_ (hy:=by intro w ab;obtain⟨⟨s0,s1,s2,s3⟩,s4,s5,s6,s7,s8,⟨s9,ki,oq,uj⟩⟩:=ab;go_simp;try with_reducible rfl);refine Reg.ty 13 ?_;refine Reg.on 14 ?_;go_simp;have Aj:=Mq.o;unfold V20 at Aj;obtain⟨X',gG⟩:=ExZ (V1n g' mo d' wt a b t (over g' d'))
   rw[gG]at Aj;have Cw:X' ≠ .non:=λ e=>by rw[e]at Aj;exact a8 Aj.symm
   have fR:bs (⟨wt.toArray⟩:ByteArray)=wt:=by simp[bs]
   have vx:j<=30000000:=by have:=mI.o;omega
   have mp:=Oei 157 (λ _ _=>rfl) (.pointer (some ⟨w.heap.size+1+1+1,0,none⟩)) (.pointer (some ⟨wr.heap.size,0,none⟩)) (over g' d') WA.drew R B base s nv' L' own' x g' (bG.o.gr nQ.o)
    (λ W2 q2 i hi bR=>Omm fo sW (over g' d' i) bR W2 R (w.heap.size+1+1+1) wr.heap.size mo d' i ((q2.use.1 _ _ (nP.o.gr nQ.o).ol).trans (nP.o.gr nQ.o).o) (U4 (nP.o.gr nQ.o).ol q2.size) (Qz.o.gr q2)
     (λ W3 q3=>Ch.o W3 nv' L' own' g' (bG.o.gr (nQ.o.trans (q2.trans q3))) (by omega) mo d' i hi (by omega) bR))
    mo d' ⟨wt.toArray⟩ a b t ym hm (by omega) X' (by rw[fR];exact gG) Cw
   refine mp.mono ?_;cases X' with
   |non=>exact absurd rfl Cw
   |bad c q =>
    rintro e w3 ⟨⟨n2,d2,he⟩,dT,ad,aR,dC,ji⟩;subst he;have bN:∀k,w.heap.size<=k->k<=w.heap.size+1+1+1+1+1+1->¬FV own' k:=λ k h1 h2 e=>by
     rcases cn.o k e with h|h
     have:=(H.o.v.lt k h).2;omega
     omega
    have AO:¬FV own' gk:=λ e=>by
     rcases cn.o gk e with h|h
     exact h dw
     omega
    have AP:¬FV own' gs:=λ e=>by
     rcases cn.o gs e with h|h
     exact h fN
     omega
    refine Z263 ?_;intro aO kZ p0 p1 pf pl v0 v1 vf vl;refine Z190 ?_;refine Z2 ?_;refine Z174 ?_;refine Z2 ?_;refine Z12 ?_;have cC:=V67 aO.p aO.f (by omega) (bv.o.trans ((nQ.o.st).trans aR)) (U2 _) (by omega) n2 d2 c q;obtain⟨W4,fm⟩:=ExZ (((((w3.setCell ⟨w.heap.size,0,none⟩ n2).setCell ⟨w.heap.size,1,none⟩ d2).setCell ⟨w.heap.size+1+1+1+1+1+1,0,none⟩ c).setCell ⟨w.heap.size+1+1+1+1+1+1,1,none⟩ q))
    rw[fm]at cC;rw[fm];clear fm;obtain⟨Cx,d7,yq,Cy,yr⟩:=cC;have ig:=U0 aO;have Ms:=U0 Cx;have Ac:=U0 d7;have IL:=U0 yq;have yt:=U0 Cy;have Cz:=U0 kZ;obtain⟨sX,sY,QA,QB⟩:=d7;clear aO Cx yq Cy kZ p0 p1 pf pl v0 v1 vf vl bN;go_wp2_with fail;refine (O20 c q (by omega) W4).mono ?_;rintro e w5 ⟨rfl,g5⟩;have eF:=Ac.o.gr g5;have aU:=(ig.o.r1.of_block (yt.o _ (by omega) (by omega)) yr).gr g5;have d9:=(ig.o.r2.of_block (yt.o _ (by omega) (by omega)) yr).gr g5;have d8:=IL.o.gr g5;have eM:FX (w.heap.size+1+1+1+1+1+1) c q w5.drew:=eF.gr (Gr.refl w5).drew
    go_upto_region 8 with fail
    obtain⟨r0,r1,rf,rl⟩:=id aU;obtain⟨rn,ro,rp,rq⟩:=id d9;refine Reg.begin' (W:=λ _=>true) (S:=FX (w.heap.size+1+1+1+1+1+1) c q) (by kernel_rfl) ?_;refine Reg.ty 0 ?_;refine Reg.tl 1 eM ?_ (hy:=by intro w ab;obtain⟨s0,s1,sf,sl⟩:=ab;go_simp;try with_reducible rfl);refine Reg.on 2 ?_;go_simp;refine⟨by first|exact ((eF.other (by omega) _).other (by omega) _).gr (Gr.refl _).drew|exact λ _=>((eF.other (by omega) _).other (by omega) _).gr (Gr.refl _).drew|exact λ _ _=>((eF.other (by omega) _).other (by omega) _).gr (Gr.refl _).drew,?_⟩;refine Reg.pt ?_;refine Z189 ?_;refine⟨by first|exact ((((eF.other (by omega) _).other (by omega) _).other (by omega) _).other (by omega) _).gr (Gr.refl _).drew|exact λ _=>((((eF.other (by omega) _).other (by omega) _).other (by omega) _).other (by omega) _).gr (Gr.refl _).drew|exact λ _ _=>((((eF.other (by omega) _).other (by omega) _).other (by omega) _).other (by omega) _).gr (Gr.refl _).drew,?_⟩;refine Reg.pt ?_;refine Z12 ?_;go_wp2_with fail;have cC:=V67 aU d9 (by omega) d8 (by omega) (by omega) (0:Int) (0:Int) c q;obtain⟨WF,am⟩:=ExZ (((((w5.setCell ⟨w.heap.size+1+1+1+1,0,none⟩ (0:Int)).setCell ⟨w.heap.size+1+1+1+1,1,none⟩ (0:Int)).setCell ⟨w.heap.size+1+1+1+1+1,0,none⟩ c).setCell ⟨w.heap.size+1+1+1+1+1,1,none⟩ q))
    rw[am]at cC;rw[am];clear am;obtain⟨DL,gH,sF,bF,zF⟩:=cC;refine Z256 ?_;intro q0 q1 qf ql y0 y1 yf yl;have hR:=H.o.v.R_lt;have uu:R<w3.heap.size:=U4 hR.2 (Uj (Uj (Uj (by omega) IJ.o) nQ.o.size) aR.size);have IM:WF.drew.cell? ⟨R,2,none⟩=some (.string s):=by
     have e1:WF.cell? ⟨R,2,none⟩=w5.cell? ⟨R,2,none⟩:=Us (w:=w5) (a:=⟨R,2,none⟩) (bF R (by omega) (by omega));have e2:w5.cell? ⟨R,2,none⟩=W4.cell? ⟨R,2,none⟩:=g5.use.1 _ _ (U4 uu yr);have e3:W4.cell? ⟨R,2,none⟩=w3.cell? ⟨R,2,none⟩:=Us (w:=w3) (a:=⟨R,2,none⟩) (yt.o R (by omega) (by omega));exact e1.trans (e2.trans (e3.trans dC))
    rw[<-Aj];refine U1 (v := .tuple #[.agg #[(0:Int),(0:Int)],fv c q]) (by simp[results,results113,go_sem,q0,q1,qf,ql,y0,y1,yf,yl]) rfl ⟨⟨0,0,rfl⟩,dT,ad,sF.drew,IM,λ k hk=>?_⟩;have IN:w.heap.size+1+1+1+1+1+1+1<=WA.drew.heap.size:=Uj IJ.o nQ.o.size;rcases ji k hk with h|h
    rcases cn.o k h with h|h
    exact .inl h
    exact J40
    exact J40
   |ok r2 =>
    obtain⟨n2,d2,g2⟩:=r2;rintro e w3 ⟨he,ib,L2,ad,cq,aR,ji⟩;subst he;have bN:∀k,w.heap.size<=k->k<=w.heap.size+1+1+1+1+1+1->¬FV own' k:=λ k h1 h2 e=>by
     rcases cn.o k e with h|h
     have:=(H.o.v.lt k h).2;omega
     omega
    have AO:¬FV own' gk:=λ e=>by
     rcases cn.o gk e with h|h
     exact h dw
     omega
    have AP:¬FV own' gs:=λ e=>by
     rcases cn.o gs e with h|h
     exact h fN
     omega
    refine Z263 ?_;intro aO kZ p0 p1 pf pl v0 v1 vf vl;refine Z190 ?_;refine Z2 ?_;refine Z174 ?_;refine Z2 ?_;refine Z12 ?_;have cC:=V67 aO.p aO.f (by omega) (bv.o.trans ((nQ.o.st).trans aR)) (U2 _) (by omega) n2 d2 (0:Int) (0:Int);obtain⟨W4,fm⟩:=ExZ (((((w3.setCell ⟨w.heap.size,0,none⟩ n2).setCell ⟨w.heap.size,1,none⟩ d2).setCell ⟨w.heap.size+1+1+1+1+1+1,0,none⟩ (0:Int)).setCell ⟨w.heap.size+1+1+1+1+1+1,1,none⟩ (0:Int)))
    rw[fm]at cC;rw[fm];clear fm;obtain⟨Cx,d7,yq,Cy,yr⟩:=cC;have ig:=U0 aO;have Ms:=U0 Cx;have Ac:=U0 d7;have IL:=U0 yq;have yt:=U0 Cy;have Cz:=U0 kZ;obtain⟨sX,sY,QA,QB⟩:=d7;clear aO Cx yq Cy kZ p0 p1 pf pl v0 v1 vf vl bN;go_wp2_with fail;refine (O1n W4).mono ?_;rintro e w5 ⟨rfl,g5⟩;go_wp2_with fail
    go_roundw
    case rel =>
     have cD:=O7k gG (λ i n' LH e=>oa g' d' i n' LH e) (by rw[<-bG.o.nd,Ul];exact ym);have IN:w.heap.size+1+1+1+1+1+1+1<=WA.drew.heap.size:=Uj IJ.o nQ.o.size;have vC:∀k,ad k≠0->k≠w.heap.size/\k≠w.heap.size+1+1+1+1+1+1/\(own k≠0\/w.heap.size+1+1+1+1+1+1+1<=k):=λ k hk=>by
      rcases ji k hk with h|h
      rcases cn.o k h with h|h
      have:=(H.o.v.lt k h).2;exact⟨by omega,by omega,.inl h⟩
      exact⟨by omega,by omega,.inr h⟩
      exact⟨by omega,by omega,.inr (by omega)⟩
     have QC:=(cq.v.kept (w':=W4) (λ k hk=>yt.o k (vC k hk).1 (vC k hk).2.1) yr).gr g5;refine⟨done++[(wt,a,b)],iL,j+1,n2,d2,ib,L2,ad,g2,by simp,by simp[Mr.o],by rw[wD.o];simp,by omega,⟨QC,cq.nd,cq.sec,cq.dep,cq.many⟩,?_,Aj,
      (Cz.o.stored yt.o yr Ac.o ⟨by omega,by omega⟩ (by omega) (by omega)).gr g5,(ig.o.stored yt.o yr Ms.o Ac.o).gr g5,IL.o.gr g5,λ k hk=>(vC k hk).2.2,?_⟩
     have:=cD.1;rw[<-cq.nd,Ul]at this;exact this
     have:=aR.size;have:=g5.size;omega
    case measure =>
     have:=mI.o;have:=fI.o;simp[intOf];omega
theorem Oc9{g:Vb}{d i n d':Nat}(h:V2u g d i = .go n d'):d'<=d+2:=by
 unfold V2u at h
 split at h;cases h
 split at h
 split at h
 split at h;cases h;exact U2 _
 cases h
 cases h
 exact J38
theorem Ojz{g:Vb}{d i n d':Nat}(h:V1j g d i = .go n d'):d'<=d+2:=by
 unfold V1j at h
 split at h;exact J38
 cases h
structure V9s(R B bf bg i d sh sof:Nat)(w:World):Prop where
 p1:w.cell? ⟨bf,1,none⟩=some (.int .i64 d)
 pg:w.cell? ⟨bg,0,none⟩=some (.pointer (some ⟨R,0,none⟩))
 c3:w.cell? ⟨R,3,none⟩=some (.map (some B))
 lk:(Instr.lookup 65 (.map (some B)) i false).run prog w = .ok (.agg #[.int .u8 sh,sof]) w
theorem Omn(w:World)(R B base:Nat)(s:ByteArray)(nv:Value)(L:List Vw)(own:Nat->Nat)(x:GrX)(g:Vb)(h:GM w R B base s nv L own x g)(bf bg:Nat)(an d i:Nat)(hi:i<L.length)(hL:L.length<=30000000)(hd:d<=1000000000)
    (hF:FX bf an d w)(hg:w.cell? ⟨bg,0,none⟩=some (.pointer (some ⟨R,0,none⟩)))(aY:bg<w.heap.size) :
    Calls prog 118 #[i,.pointer (some ⟨bf,0,none⟩),.pointer (some ⟨bg,0,none⟩)] w λ e w'=>O1i (if (Vl g i).1=2 then .go i (d+1) else .no) e/\Gr w w':=by
 refine Z115 ?_;intro c0 c1 c2 c3 c4 c5 c6 c7 c8 fz hR sh sof cD hs mI;have HS:=U0 hs;obtain⟨X,hX⟩:=ExZ ((if (Vl g i).1=2 then Pl.Ov.go i (d+1) else .no))
 rw[hX];have HX:=U0 hX;clear hX;clear h hs cD fz c0 c1 c2 c4 c5 c6 c7 c8;refine Z151 ?_;intro Iq;go_enter func118,ntmps118
 go_upto_region 1 with fail
 obtain⟨W,hW⟩:=ExZ (w.alloc (.cells #[(0:Int),(0:Int)] 67))
 have gW:Gr w W:=by rw[<-hW];exact (Gr.refl w).alloc _
 have fH:FX w.heap.size (0:Int) (0:Int) W:=by rw[<-hW];exact FX.new w _ _ _
 have hS:V9s R B bf bg i d sh sof W.drew :=
  ⟨(gW.drew.use.1 bf 1 hF.2.2.2).trans hF.2.1,(gW.drew.use.1 bg 0 aY).trans hg,(gW.drew.use.1 R 3 hR.2).trans c3,mI.o W.drew gW.drew⟩
 obtain⟨r0,r1,rf,rl⟩:=fH;have HG:=U0 gW
 try rw[hW]
 clear hW gW;obtain⟨WF,am⟩:=ExZ (((W.setCell ⟨w.heap.size,0,none⟩ i).setCell ⟨w.heap.size,1,none⟩ (.int .i64 ((d:Int)+1))))
 have dY:FX w.heap.size i (.int .i64 ((d:Int)+1)) WF:=by rw[<-am];exact FX.set ⟨r0,r1,rf,rl⟩ _ _
 have gF:Gr w WF:=by rw[<-am];exact (HG.o.setCell (p:=⟨w.heap.size,0,none⟩) (U2 _) _).setCell (p:=⟨w.heap.size,1,none⟩) (U2 _) _
 have bj:V9s R B bf bg i d sh sof WF.drew :=
  ⟨(gF.drew.use.1 bf 1 hF.2.2.2).trans hF.2.1,(gF.drew.use.1 bg 0 aY).trans hg,(gF.drew.use.1 R 3 hR.2).trans c3,mI.o WF.drew gF.drew⟩
 have HF:=U0 dY;have Ad:=U0 gF;have ko:=U0 bj;have oA:=U0 am;have m7:R<W.heap.size:=U4 hR.2 HG.o.size;clear c3 hF dY gF bj am hg;have xx:∀W,(Instr.field 94 (.agg #[.int .u8 sh,sof]) 0).run prog W = .ok (.int .u8 sh) W:=λ W=>by kernel_rfl
 have gt:((sh:Int)==2)=true\/((sh:Int)==2)=false:=by cases ((sh:Int)==2) <;> simp
 rcases gt with e1|e1
 all_goals
  refine Reg.begin' (W:=λ _=>true) (S:=V9s R B bf bg i d sh sof) (by kernel_rfl) ?_;refine Z319 ?_;refine Reg.tl 5 hS ?_ (hy:=by intro w ab;obtain⟨s1,s2,s3,s4⟩:=ab;go_simp;try with_reducible rfl);refine Z141 ?_;refine Reg.on 13 ?_;go_simp;rw[oA.o];refine⟨by first|exact ko.o|exact λ _=>ko.o|exact λ _ _=>ko.o,?_⟩;refine Reg.pt ?_;refine Reg.ty 14 ?_;refine Z12 ?_;go_wp2_with fail;obtain⟨q0,q1,qf,ql⟩:=HF.o.gr (Gr.refl WF).drew;have gE:=Ad.o.drew
 ·have h2:(Vl g i).1=2:=by rw[HS.o];have h:=eq_of_beq e1;show sh=2;omega
  have hX:=HX.o;rw[Ua h2]at hX;rw[<-hX];exact U1 (v := .tuple #[.agg #[i,.int .i64 ((d:Int)+1)],.bool true]) (by simp[results,results118,go_sem,q0,q1,qf,ql]) rfl ⟨by simp[O1i],gE⟩
 have h2:¬(Vl g i).1=2:=by rw[HS.o];intro h;have h:sh=2:=h;subst h;simp at e1
 have hX:=HX.o;rw[Ud h2]at hX;rw[<-hX];exact U1 (v := .tuple #[.agg #[i,.int .i64 ((d:Int)+1)],.bool false]) (by simp[results,results118,go_sem,q0,q1,qf,ql]) rfl ⟨⟨_,_,rfl⟩,gE⟩
theorem O8c(w:World)(R B base:Nat)(s:ByteArray)(nv:Value)(L:List Vw)(own:Nat->Nat)(x:GrX)(g:Vb)(h:GM w R B base s nv L own x g)
    (an d:Nat)(t:Nat×Nat)(hL:L.length<=20000001)(hm:x.many<=30000000)(hd:d<=100000000)(gk gs ck cs:Nat)(ws:List Pl.KW)(la:Nat)(eU:ws.length=la+1)(eA:la<=30000000)
    (fq:gk<w.heap.size)(bZ:gs<w.heap.size)(dw:own gk=0)(fN:own gs=0)
    (aF:∀(j:Nat)(t:Pl.Bs)(a b:Nat),ws[j]?=some (t,a,b)->w.cell? ⟨gk,j,none⟩=some (V3a t)/\w.cell? ⟨gs,j*2,none⟩=some (.int .i64 a)/\w.cell? ⟨gs,j*2+1,none⟩=some (.int .i64 b))
    (Y:Va (Nat×Nat×Vb))(hY:V20 t V2u ws.dropLast an d g=Y)(a8:Y ≠ .non) :
    Calls prog 113 #[.pointer (some ⟨R,0,none⟩),.agg #[an,d],.agg #[.slice (some ⟨gk,0,none⟩) ws.length ck,.slice (some ⟨gs,0,none⟩) ws.length cs],.agg #[.int .u8 t.1,t.2],.func (.func 114) #[.pointer (some ⟨R,0,none⟩)] #[]] w (O40 w R B base s own x Y) :=
 Ohq 114 (λ _ _=>rfl) V2u (λ _ _ _ _ _ e=>Oc9 e) w R B base s nv L own x g h
  (λ W nv' L' own' g' mV ph an d i hi hd bR=>Oo3 W R B base s nv' L' own' x g' mV an d i hi ph hd _ rfl bR) an d t hL hm hd gk gs ck cs ws la eU eA fq bZ dw fN aF Y hY a8
theorem Oca(w:World)(R B base:Nat)(s:ByteArray)(nv:Value)(L:List Vw)(own:Nat->Nat)(x:GrX)(g:Vb)(h:GM w R B base s nv L own x g)
    (an d:Nat)(t:Nat×Nat)(hL:L.length<=20000001)(hm:x.many<=30000000)(hd:d<=100000000)(gk gs ck cs:Nat)(ws:List Pl.KW)(la:Nat)(eU:ws.length=la+1)(eA:la<=30000000)
    (fq:gk<w.heap.size)(bZ:gs<w.heap.size)(dw:own gk=0)(fN:own gs=0)
    (aF:∀(j:Nat)(t:Pl.Bs)(a b:Nat),ws[j]?=some (t,a,b)->w.cell? ⟨gk,j,none⟩=some (V3a t)/\w.cell? ⟨gs,j*2,none⟩=some (.int .i64 a)/\w.cell? ⟨gs,j*2+1,none⟩=some (.int .i64 b))
    (Y:Va (Nat×Nat×Vb))(hY:V20 t V1j ws.dropLast an d g=Y)(a8:Y ≠ .non) :
    Calls prog 113 #[.pointer (some ⟨R,0,none⟩),.agg #[an,d],.agg #[.slice (some ⟨gk,0,none⟩) ws.length ck,.slice (some ⟨gs,0,none⟩) ws.length cs],.agg #[.int .u8 t.1,t.2],.func (.func 119) #[.pointer (some ⟨R,0,none⟩)] #[]] w (O40 w R B base s own x Y) :=
 Ohq 119 (λ _ _=>rfl) V1j (λ _ _ _ _ _ e=>Ojz e) w R B base s nv L own x g h
  (λ W nv' L' own' g' mV ph an d i hi hd bR=>Ojx W R B base s nv' L' own' x g' mV an d i hi ph hd) an d t hL hm hd gk gs ck cs ws la eU eA fq bZ dw fN aF Y hY a8
