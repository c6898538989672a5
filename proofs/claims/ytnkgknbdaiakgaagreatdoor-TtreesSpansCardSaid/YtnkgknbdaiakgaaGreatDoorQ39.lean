/- The proof's part 39. -/
import Derived.Test.YtnkgknbdaiakgaaGreatDoorQ34
set_option maxHeartbeats 16000000
set_option linter.all false
set_option maxRecDepth 100000
namespace Go.Proofs.YtnkgknbdaiakgaaGreatDoor
open Pl Go.Proofs.Tryz Go.RowKit Go.Shelf Go.Joins
attribute [local go_sem] U22
theorem Ocn{W:World}{I:Nat}{c0 c1 c2 c3 c4 c5 c6:Value}{T:TypeId}(h:W.heap[I]?=some (.cells #[c0,c1,c2,c3,c4,c5,c6] T (0,0))):(W.cell? I=some c0/\W.cell? ⟨I,1,none⟩=some c1/\W.cell? ⟨I,2,none⟩=some c2/\W.cell? ⟨I,3,none⟩=some c3/\W.cell? ⟨I,4,none⟩=some c4/\W.cell? ⟨I,5,none⟩=some c5/\W.cell? ⟨I,6,none⟩=some c6)/\(∀o,W.frozen? ⟨I,o,none⟩=false)/\I<W.heap.size :=
 ⟨⟨by rw[cell_of_block h];rfl,by rw[cell_of_block h];rfl,by rw[cell_of_block h];rfl,by rw[cell_of_block h];rfl,by rw[cell_of_block h];rfl,by rw[cell_of_block h];rfl,by rw[cell_of_block h];rfl⟩,λ o=>unfrozen_of_block h o,(U18.1 h).1⟩
theorem V26.unfrozen{w:World}{base e size n g c:Nat}{xs:List Value}(h:V26 w base e size (.slice g n c) n xs)(hn:0<n):∀o,w.frozen? ⟨g,o,none⟩=false:=by
 obtain⟨v0,h1,h2,h3⟩:=h;rcases h1.2 with⟨rfl,h0⟩|⟨g',cap,cur,rfl,_,hb,_⟩
 simp[Value.ownBlock]at h2
 simp[Value.ownBlock]at h2;subst h2;exact λ o=>unfrozen_of_block hb o
structure V9r(R b:Nat)(nv:Value)(c0 c1 c2 c3 c4 c5 c6:Value)(w:World):Prop where
 c:w.cell? R=some nv
 b0:w.cell? b=some c0
 b1:w.cell? ⟨b,1,none⟩=some c1
 b2:w.cell? ⟨b,2,none⟩=some c2
 b3:w.cell? ⟨b,3,none⟩=some c3
 b4:w.cell? ⟨b,4,none⟩=some c4
 b5:w.cell? ⟨b,5,none⟩=some c5
 b6:w.cell? ⟨b,6,none⟩=some c6
theorem V9r.gr{R b:Nat}{nv c0 c1 c2 c3 c4 c5 c6:Value}{w w':World}(h:V9r R b nv c0 c1 c2 c3 c4 c5 c6 w)(g:Gr w w')(hR:R<w.heap.size)(hb:b<w.heap.size):V9r R b nv c0 c1 c2 c3 c4 c5 c6 w' :=
 ⟨(g.use.1 _ _ hR).trans h.c,(g.use.1 _ _ hb).trans h.b0,(g.use.1 _ _ hb).trans h.b1,(g.use.1 _ _ hb).trans h.b2,(g.use.1 _ _ hb).trans h.b3,(g.use.1 _ _ hb).trans h.b4,(g.use.1 _ _ hb).trans h.b5,(g.use.1 _ _ hb).trans h.b6⟩
theorem Ol2(w:World)(R B base:Nat)(s:ByteArray)(nv:Value)(L:List Vy)(own:Nat->Nat)(so:List (Nat×Nat))(x:GrX)(h:GrV w R B base s 0 nv L own so x)(tv:Value)(root base2:Nat)(T:List Vy)(hT:O8e w base2 tv T)(cr:base<=base2)(ho:∀k,base2<=k->own k=0)(hL:L.length+T.length<=30000000)(rH:root<=30000000)(cw:∀(i:Nat) r,T[i]?=some r->r.nd.subs.length<=30000000/\∀u∈r.nd.subs,u<=30000000):Calls prog 60 #[.pointer (some ⟨R,0,none⟩),.agg #[tv,root]] w λ e w'=>e=.returned (.int .i64 ((root+L.length:Nat):Int))/\∃nv' own',GrV w' R B base s 0 nv' (L++T.map (O10 L.length)) own' (so++List.replicate T.length (0,0)) x /\St (λ k=>FV own k\/TB T T.length k) (FV own') w w'/\(∀k,own' k≠0->own k≠0\/TB T T.length k\/w.heap.size<=k):=by
 have hR:=h.R_lt;have bS:base<=w.heap.size:=Ya;obtain⟨g0,ta,Sb,Sc,Im⟩:∃g0 ta,tv=.slice ta T.length T.length/\g0<w.heap.size/\(T=[]\/(ta=some ⟨g0,0,none⟩/\V2b w base2 g0 T)):=by
  rcases hT with⟨rfl,rfl⟩|⟨g,rfl,hT⟩
  exact⟨R,none,rfl,hR.2,.inl rfl⟩
  exact⟨g,_,rfl,hT.lt.2,.inr ⟨rfl,hT⟩⟩
 subst Sb;obtain⟨na,nc,sO⟩:∃a c,nv=.slice a L.length c:=by
  rcases O17 h.nodes with⟨rfl,e⟩|⟨g,cap,rfl,_,_⟩
  exact⟨none,0,by rw[e]⟩
  exact⟨_,_,rfl⟩
 obtain⟨⟨c0,c1,c2,c3,c4,c5,c6⟩,c7,c8,fz⟩:=h.cells;rw[sO]at c0;have H:=U10 h;have HS:=U10 cw;have HT:=U10 Im;have HO:=U10 ho;clear h hT cw Im ho c1 c2 c3 c4 c5 c6 c7 c8 fz sO;go_enter func60,ntmps60
 go_upto_region 2 with fail
 obtain⟨W,hW⟩:=ExZ (w.alloc (.cells #[.slice ta T.length T.length,root] 26))
 obtain⟨B8,gW,hz⟩:FX w (.slice ta T.length T.length) root W/\Gr w W/\W.heap.size=w.heap.size+1:=by
  rw[<-hW];exact⟨FX.new w _ _ _,(Gr.refl w).alloc _,Yb⟩
 rw[hW];clear hW c0;have xP:=U10 B8;have HG:=U10 gW;obtain⟨p0,p1,pf,pl⟩:=B8;have d9:=V3t.start (T:=T) (base2:=base2) (nv) H.o gW g0 Sc (HT.o.imp id And.right);have oh:=U10 d9;clear d9 gW;go_wp2_with fail
 go_loopw [18] (λ v wr=>∃(j:Nat)(nv':Value)(own':Nat->Nat),v=.int .i64 j/\j<=T.length/\V3t w R B base base2 g0 s L own so x T j nv' own' wr/\FX w (.slice ta T.length T.length) root wr) (λ v _=>T.length-(intOf v).toNat)
 case atStart=>exact⟨0,nv,own,rfl,Ya,oh.o,xP.o⟩
 case round =>
  obtain⟨j,nv',own',rfl,hj,uV,l9⟩:=hrel;have ld:=U10 uV;have eB:=U10 l9;by_cases e9:j<T.length
  ·have d1:decide ((j:Int)<(T.length:Int))=true:=by simp;omega
   have d2:decide (j<T.length)=true:=Ye;refine Z230 ?_;intro i1;have i2:(j:Int)<(T.length:Int):=Ya;refine Z153 ?_;intro wj;have wX:ta=some ⟨g0,0,none⟩/\V2b w base2 g0 T:=by
    rcases HT.o with e|e
    rw[e]at e9;simp at e9
    exact e
   obtain⟨rfl,wX⟩:=wX;obtain⟨r,hr⟩:∃r,T[j]?=some r:=⟨_,U1e e9⟩
   have cA:∀i v,(ndV r)[i]?=some v->wr.cell? ⟨g0,j*7+i,none⟩=some v:=λ i v hv=>(U1r (w:=w) (a:=⟨g0,j*7+i,none⟩) uV.g0).trans (wX.cell j r hr i v hv)
   obtain⟨ka,kc,oM⟩:∃a c,r.kv=.slice a r.nd.keys.length c:=by
    rcases Oo (wX.rows j r hr).1 with⟨e,e2⟩|⟨g,c,e,_,_⟩
    exact J83
    exact⟨_,_,e⟩
   obtain⟨sa,sc,jN⟩:∃a c,r.sv=.slice a r.nd.spots.length c:=by
    rcases Oo (wX.rows j r hr).2.1 with⟨e,e2⟩|⟨g,c,e,_,_⟩
    exact J83
    exact⟨_,_,e⟩
   obtain⟨ua,uc,mo⟩:∃a c,r.uv=.slice a r.nd.subs.length c:=by
    rcases Oo (wX.rows j r hr).2.2 with⟨e,e2⟩|⟨g,c,e,_,_⟩
    exact J83
    exact⟨_,_,e⟩
   have q0:wr.cell? ⟨g0,j*7,none⟩=some (.int .u8 r.nd.kind):=cA 0 (.int .u8 r.nd.kind) rfl;refine Z164 ?_;intro q1 q2 q3 q4 q5 q6;have mM:=U10 wX;have HR:=U10 hr;have Sd:=U10 oM;have Se:=U10 jN;have B9:=U10 mo;clear uV l9 cA wX hr oM jN mo
   go_upto_region 5 with fail
   obtain⟨W1,aR⟩:=ExZ (wr.alloc (.cells #[.int .u8 r.nd.kind,.string ⟨r.nd.text.toArray⟩,.slice ka r.nd.keys.length kc,.slice sa r.nd.spots.length sc,.slice ua r.nd.subs.length uc,r.nd.sp.1,r.nd.sp.2] 40))
   have wY:=U1w wr (.cells #[.int .u8 r.nd.kind,.string ⟨r.nd.text.toArray⟩,.slice ka r.nd.keys.length kc,.slice sa r.nd.spots.length sc,.slice ua r.nd.subs.length uc,r.nd.sp.1,r.nd.sp.2] 40);have g1:Gr wr W1:=by rw[<-aR];exact (Gr.refl wr).alloc _
   have z1:W1.heap.size=wr.heap.size+1:=by rw[<-aR];simp
   rw[aR]at wY⊢;clear aR q0 q1 q2 q3 q4 q5 q6;obtain⟨wo,Ke⟩:∃wo,wo=wr:=⟨_,rfl⟩
   subst Ke;have NV:=U10 wY;obtain⟨⟨m0,m1,m2,m3,m4,m5,m6⟩,mf,ml⟩:=Ocn wY;have G1:=U10 g1;have NW:w.heap.size<wo.heap.size:=eB.o.2.2.2;have Dz:∀k,(Value.slice ua r.nd.subs.length uc).ownBlock=some k->RB r k:=λ k e => .inr (.inr (by rw[B9.o];exact e))
   have uX:∀k,(Value.slice ua r.nd.subs.length uc).ownBlock=some k->k<w.heap.size:=λ k e=>((Dz k e).lt mM.o HR.o).2
   have wZ:V26 W1 base2 3 1 (.slice ua r.nd.subs.length uc) r.nd.subs.length (O6 (V64 L.length 0 r.nd.subs)):=by
    rw[Oik];have h1:=(mM.o.rows j r HR.o).2.2;rw[B9.o]at h1;exact h1.of_block λ k e=>(g1.block (Nat.lt_trans (uX k e) NW)).trans (ld.o.rest j r (U12 _) HR.o k (Dz k e))
   have DA:=U10 wZ;clear wY g1 wZ;go_wp2_with fail
   go_loopw [25] (λ v W=>∃m:Nat,v=.int .i64 m/\m<=r.nd.subs.length/\St (λ k=>(Value.slice ua r.nd.subs.length uc).ownBlock=some k) (λ _=>False) W1 W/\V26 W base2 3 1 (.slice ua r.nd.subs.length uc) r.nd.subs.length (O6 (V64 L.length m r.nd.subs))) (λ v _=>r.nd.subs.length-(intOf v).toNat)
   case atStart=>exact⟨0,rfl,U2u _,⟨rfl,rfl,rfl,U12 _,λ _ _ _=>rfl,λ _ e=>e.elim⟩,DA.o⟩
   case round =>
    obtain⟨m,rfl,hm,aa,dG⟩:=hrel;have Sf:=aa.use wo.heap.size ml (λ e=>by have:=uX _ e;omega);have Sg:=(Sf.1 4).trans m4;have bG:=U10 aa;by_cases i9:m<r.nd.subs.length
    ·obtain⟨gu,cu,rI,mB,eP⟩:=dG.form Ya;simp only[U3h,true_and]at rI;obtain⟨rfl,rfl⟩:=rI;obtain⟨oa,FZ⟩:=HS.o j r HR.o;have Hm:r.nd.subs[m]<=30000000:=FZ _ (U43 i9);have hc:=dG.cells (g:=gu) rfl m (.int .i64 r.nd.subs[m]) (by simp[O6,Ol0 _ _ _ i9]);have VB:=dG.unfrozen Ya m;obtain⟨u,hu⟩:=ExZ (r.nd.subs[m])
     rw[hu]at hc Hm;have e1:decide ((m:Int)<(r.nd.subs.length:Int))=true:=Ye
     have e2:decide (m<r.nd.subs.length)=true:=Ye;refine Z249 ?_;intro k1 k2 wm;have wu:IntKind.i64.wrap ((u:Int)+(L.length:Int))=(u:Int)+(L.length:Int):=U1k _ ⟨Ya,Ya⟩;have eI:=dG.set m (by simp[O6,Okz];omega) (.int .i64 ((u+L.length:Nat):Int));rw[Oil,<-hu,Ol1 _ _ _ i9,hu]at eI;have Kf:=U10 eI;have HU:=U10 hu;clear aa dG eI hu;go_wp2_with fail
     go_roundw
     case rel=>exact⟨m+1,rfl,Ya,bG.o.setCell (p:=⟨gu,m,none⟩) (.inl rfl) _,Kf.o⟩
     case measure=>simp[intOf];omega
    have tW:m=r.nd.subs.length:=Ya;subst tW;have e1:decide ((r.nd.subs.length:Int)<(r.nd.subs.length:Int))=false:=Yb;have e2:decide (r.nd.subs.length<r.nd.subs.length)=false:=Yb;rw[Oky]at dG;have pU:=U10 dG;clear dG aa;obtain⟨W2,dy⟩:∃W2,W2=wr:=⟨_,rfl⟩
    subst dy;have uY:St (λ k=>r.uv.ownBlock=some k) (λ _=>False) wo W2:=by
     rw[B9.o];exact (G1.o.st).trans bG.o
    have rJ:=pU.o;rw[<-B9.o]at rJ;have je:=ld.o.kept mM.o HO.o HR.o uY;have iC:=ld.o.strange mM.o HO.o cr HR.o uY rJ;have DB:W2.heap[wo.heap.size]?=some (.cells #[.int .u8 r.nd.kind,.string ⟨r.nd.text.toArray⟩,.slice ka r.nd.keys.length kc,.slice sa r.nd.spots.length sc,.slice ua r.nd.subs.length uc,r.nd.sp.1,r.nd.sp.2] 40 (0,0)):=(bG.o.block wo.heap.size ml (λ e=>by have:=uX _ e;omega)).trans NV.o;obtain⟨⟨x0,x1,x2,x3,x4,x5,x6⟩,xf,xl⟩:=Ocn DB;obtain⟨⟨c0,_⟩,_,_,fz⟩:=je.cells;have Kg:=je.R_lt;have bj:V9r R wo.heap.size nv' (.int .u8 r.nd.kind) (.string ⟨r.nd.text.toArray⟩) (.slice ka r.nd.keys.length kc) (.slice sa r.nd.spots.length sc) (.slice ua r.nd.subs.length uc) r.nd.sp.1 r.nd.sp.2 W2.drew:=⟨c0,x0,x1,x2,x3,x4,x5,x6⟩
    have DC:=U10 uY;have dM:=U10 je;have o8:=U10 iC;have AD:=fz 0;obtain⟨iN,hi,fI,az,aM⟩:=U3w Oc0;have HI:=U10 (And.intro hi (And.intro fI (And.intro az aM)));have a8:some R≠nv'.ownBlock:=O2u je.oN (by rw[je.oR];omega);have zv:(L++(T.take j).map (O10 L.length)).length<=30000000:=Ye;have zw:base<=W2.heap.size:=Ya;have aL:ndV (O10 L.length r)=[.int .u8 r.nd.kind,.string ⟨r.nd.text.toArray⟩,.slice ka r.nd.keys.length kc,.slice sa r.nd.spots.length sc,.slice ua r.nd.subs.length uc,.int .i64 r.nd.sp.1,.int .i64 r.nd.sp.2]:=by
     simp only[ndV,O10,Sd.o,Se.o,B9.o]
    have Ka:=U10 aL;clear uY rJ je iC DB x0 x1 x2 x3 x4 x5 x6 xf fz hi fI az aM aL m0 m1 m2 m3 m4 m5 m6 mf Sg
    go_upto_region 10 with fail
    refine Reg.begin' (W:=λ i=>i != 8&&i != 12) (S:=V9r R wo.heap.size nv' (.int .u8 r.nd.kind) (.string ⟨r.nd.text.toArray⟩) (.slice ka r.nd.keys.length kc) (.slice sa r.nd.spots.length sc) (.slice ua r.nd.subs.length uc) r.nd.sp.1 r.nd.sp.2) Yc ?_;obtain⟨V0,hV⟩:=ExZ (W2.drew)
    have Sh:Gr W2 V0:=by rw[<-hV];exact (Gr.refl W2).drew
    have DD:=U10 (show V0.heap.size=W2.heap.size by rw[<-hV];rfl);rw[hV]at bj⊢;clear hV;refine Z32 ?_;refine Z41 ?_;refine Reg.tl 5 bj ?_ (hy:=by intro w ab;obtain⟨s0,s1,s2,s3,s4,s5,s6,s7⟩:=ab;go_simp;try with_reducible rfl);refine Reg.tl 6 bj ?_ (hy:=by intro w ab;obtain⟨s0,s1,s2,s3,s4,s5,s6,s7⟩:=ab;go_simp;try with_reducible rfl);refine Reg.on 7 ?_;go_simp;have NY:=U1w V0 (.cells #[.int .u8 r.nd.kind,.string ⟨r.nd.text.toArray⟩,.slice ka r.nd.keys.length kc,.slice sa r.nd.spots.length sc,.slice ua r.nd.subs.length uc,r.nd.sp.1,r.nd.sp.2] 40);have Kh:Gr V0 (V0.alloc (.cells #[.int .u8 r.nd.kind,.string ⟨r.nd.text.toArray⟩,.slice ka r.nd.keys.length kc,.slice sa r.nd.spots.length sc,.slice ua r.nd.subs.length uc,r.nd.sp.1,r.nd.sp.2] 40)):=(Gr.refl V0).alloc _;have Ki:(V0.alloc (.cells #[.int .u8 r.nd.kind,.string ⟨r.nd.text.toArray⟩,.slice ka r.nd.keys.length kc,.slice sa r.nd.spots.length sc,.slice ua r.nd.subs.length uc,r.nd.sp.1,r.nd.sp.2] 40)).heap.size=V0.heap.size+1:=Yb;obtain⟨V1,hV⟩:=ExZ (V0.alloc (.cells #[.int .u8 r.nd.kind,.string ⟨r.nd.text.toArray⟩,.slice ka r.nd.keys.length kc,.slice sa r.nd.spots.length sc,.slice ua r.nd.subs.length uc,r.nd.sp.1,r.nd.sp.2] 40))
    rw[hV]at NY Kh Ki⊢;clear hV;have Kj:=U10 Ki;have ce:=bj.gr Kh (by have:=DD.o;omega) (by have:=DD.o;omega);clear Ki;refine Z65 ?_;have gV:=Sh.trans Kh;have DE:=O1 dM.o.nodes λ k e=>gV.block (dM.o.nodes.lt k e).2
    refine Reg.all (rs:=[8]) Yc Yb ?_;intro j' NZ;obtain rfl:=U20.1 NZ;clear NZ;refine Reg.one (i:=8) rfl Yi ?_;refine U32 _ (.tmp 42) (.tmp 44) 24 Yi base 40 iN _ 7 112 underlying24 HI.o.1 HI.o.2.1 HI.o.2.2.1 HI.o.2.2.2 Yi Yd nv' (L++(T.take j).map (O10 L.length)).length (V34 (L++(T.take j).map (O10 L.length))) Yi DE _ 1 1 [.int .u8 r.nd.kind,.string ⟨r.nd.text.toArray⟩,.slice ka r.nd.keys.length kc,.slice sa r.nd.spots.length sc,.slice ua r.nd.subs.length uc,.int .i64 r.nd.sp.1,.int .i64 r.nd.sp.2] Yi Yi (U2e NY) Ym Yd Yk Ya (U1l zw gV.size) _ rfl ?_;intro gN ij V2 bL hg ha iR;have hm:=dM.o.appended gV (O10 L.length r) o8.o gN ij (by rw[Ka.o];exact bL) hg ha iR;have f4:V2.cell? R=some nv':=(hg.cell_far ⟨R,0,none⟩ (by have:=DD.o;have:=Kj.o;simp;omega) a8).trans ce.c;have f3:V2.frozen? R=false:=(hg.frozen_far ⟨R,0,none⟩ (by have:=DD.o;have:=Kj.o;simp;omega) a8).trans ((gV.use.2.1 R 0 Kg.2).trans AD);have Si:R<V2.heap.size:=by have:=hg.size;have:=DD.o;have:=Kj.o;omega
    have HM:=U10 hm;clear bL hg ha iR hm;refine⟨λ h=>absurd h Yd,?_⟩;refine Z2 ?_;refine Reg.ty 9 ?_;refine Z61 ?_;refine Reg.on 12 ?_;refine Z298 ?_;go_wp2_with fail
    go_roundw
    case rel =>
     have hm:=HM.o;rw[show (L++(T.take j).map (O10 L.length)).length=L.length+j by simp;omega]at hm;obtain⟨ac,uZ⟩:=ld.o.more mM.o HO.o HR.o NW DC.o hm;obtain⟨zx,_,ln,_⟩:=hm;refine⟨j+1,_,ac,rfl,Ya,uZ,?_⟩;refine ((eB.o.st DC.o (λ e=>by have:=uX w.heap.size (by rw[<-B9.o];exact e);omega)).st ln (λ e=>?_));have zy:∀k,RB r k->k<w.heap.size:=λ k e=>(RB.lt mM.o HR.o e).2
     rcases e with e|e|e|e
     rcases ld.o.on _ e with h|⟨i',r',_,h2,h3⟩|h
     have:=(H.o.lt _ h).2;omega;have:=(RB.lt mM.o h2 h3).2;omega
     omega;have:=zy _ (.inl e);omega;have:=zy _ (.inr (.inl e));omega
     have:=zy _ (.inr (.inr e));omega
    case measure=>simp[intOf];omega
  have Sj:j=T.length:=Ya;have d1:decide ((j:Int)<(T.length:Int))=false:=Ye;have d2:decide (j<T.length)=false:=Ye;obtain⟨VC,VD,fG,fH⟩:=l9;have VG:IntKind.i64.wrap ((root:Int)+(L.length:Int))=(root:Int)+(L.length:Int):=U1k _ ⟨Ya,Ya⟩;subst Sj;clear uV;go_wp2_with fail;have hv:=ld.o.v;rw[List.take_length]at hv;exact U11 (v:=.int .i64 ((root:Int)+(L.length:Int))) (by simp[results,results60,go_sem]) rfl ⟨rfl,nv',own',hv,ld.o.st,λ k hk=>(ld.o.on k hk).imp id (λ h=>h.imp id (λ h=>by omega))⟩
theorem bx2(w:World)(a b:Value)(T:TypeId):FX w a b (w.alloc (.cells #[a,b] T))/\Gr w (w.alloc (.cells #[a,b] T))/\(w.alloc (.cells #[a,b] T)).heap.size=w.heap.size+1 :=
 ⟨FX.new w _ _ _,(Gr.refl _).alloc _,Yb⟩
structure V6l(z:Nat)(R fo:Nat)(an d:Nat)(k1 k2:Value)(t:Nat×Nat)(w:World):Prop where
 p:FX z an d w
 k:FX (z+1) k1 k2 w
 s:FX (z+1+1) (.int .u8 t.1) t.2 w
 o:w.cell? (z+1+1+1:Nat)=some (.func (.func fo) #[.pointer (some ⟨R,0,none⟩)] #[])
 ol:z+1+1+1<w.heap.size
 r1:FX (z+1+1+1+1) (0:Int) (0:Int) w
 r2:FX (z+1+1+1+1+1) (0:Int) (0:Int) w
 f:FX (z+1+1+1+1+1+1) (0:Int) (0:Int) w
theorem V6l.st{z R fo an d:Nat}{k1 k2:Value}{t:Nat×Nat}{w w':World}{F F':Nat->Prop}(h:V6l z R fo an d k1 k2 t w)(g:St F F' w w')(hF:∀k,z<=k->k<=z+1+1+1+1+1+1->¬F k):V6l z R fo an d k1 k2 t w' :=
 ⟨h.p.st g (hF _ Ya Ya),h.k.st g (hF _ Ya Ya),h.s.st g (hF _ Ya Ya),((g.use (z+1+1+1) h.ol (hF (z+1+1+1) Ya Ya)).1 _).trans h.o,U13 h.ol g.size,
  h.r1.st g (hF _ Ya Ya),h.r2.st g (hF _ Ya Ya),h.f.st g (hF _ Ya Ya)⟩
theorem V6l.stored{z R fo an d N' d2:Nat}{k1 k2:Value}{t:Nat×Nat}{w w':World}(h:V6l z R fo an d k1 k2 t w)(hb:∀k,k≠z->k≠z+1+1+1+1+1+1->w'.heap[k]?=w.heap[k]?)(hz:w.heap.size<=w'.heap.size)(hp:FX z N' d2 w')(hf:FX (z+1+1+1+1+1+1) (0:Int) (0:Int) w'):V6l z R fo N' d2 k1 k2 t w' :=
 ⟨hp,h.k.of_block (hb _ Ya Ya) hz,h.s.of_block (hb _ Ya Ya) hz,(U1r (w:=w) (a:=⟨z+1+1+1,0,none⟩) (hb (z+1+1+1) Ya Ya)).trans h.o,U13 h.ol hz,
  h.r1.of_block (hb _ Ya Ya) hz,h.r2.of_block (hb _ Ya Ya) hz,hf⟩
theorem V51.stored{z bK gk gs ck cs:Nat}{ws:List Pl.KW}{w w':World}(h:V51 (z+1+1+1+1+1+1) bK gk gs ck cs ws w)(hb:∀k,k≠z->k≠z+1+1+1+1+1+1->w'.heap[k]?=w.heap[k]?)(hz:w.heap.size<=w'.heap.size)(hf:FX (z+1+1+1+1+1+1) (0:Int) (0:Int) w')(h1:bK≠z/\bK≠z+1+1+1+1+1+1)(h2:gk<z)(h3:gs<z):V51 (z+1+1+1+1+1+1) bK gk gs ck cs ws w' :=
 have e:∀k,k≠z->k≠z+1+1+1+1+1+1->∀o,w'.cell? ⟨k,o,none⟩=w.cell? ⟨k,o,none⟩:=λ k a b o=>U1r (w:=w) (a:=⟨k,o,none⟩) (hb k a b)
 ⟨hf,(e _ h1.1 h1.2 _).trans h.k0,(e _ h1.1 h1.2 _).trans h.k1,U13 h.kl hz,U13 h.gkl hz,U13 h.gsl hz,λ j t a b hj=>by
  obtain⟨a1,a2,a3⟩:=h.w j t a b hj;exact⟨(e gk Ya Ya _).trans a1,(e gs Ya Ya _).trans a2,(e gs Ya Ya _).trans a3⟩⟩
theorem O7h{g g2:Vb}{an d n d2:Nat}{w:Pl.Bs}{a b:Nat}{t:Nat×Nat}{over:Nat->Pl.Ov}(h:V1p g an d w a b t over=.ok (n,d2,g2))(bV:∀i n' d',over i=.go n' d'->d'<=d+2)(hl:g.nds.length<=20000001):g2.nds.length<=20000001/\d2<=d+2:=by
 unfold V1p at h
 split at h;cases h
 split at h;cases h
 cases h
 rename_i h1
 cases h;exact⟨hl,bV _ _ _ h1⟩
 split at h;cases h
 split at h
 rename_i h1
 cases h;rw[U1h]at h1;have h2:=h1.2;unfold Pl.room at h2;rw[U1x]at h2;refine⟨?_,Ya⟩;simp[V1r,V1o,Vf];exact h2
 cases h
theorem V6l.gr{z R fo an d:Nat}{k1 k2:Value}{t:Nat×Nat}{w w':World}(h:V6l z R fo an d k1 k2 t w)(g:Gr w w'):V6l z R fo an d k1 k2 t w' :=
 h.st (F:=λ _=>False) (F':=λ _=>False) g.st (λ _ _ _ e=>e)
theorem Ol4(w:World)(R fo an d:Nat)(k1 k2:Value)(t:Nat×Nat)(T0 T1 T2 T3 T4 T5 T6:TypeId):V6l w.heap.size R fo an d k1 k2 t (((((((w.alloc (.cells #[an,d] T0)).alloc (.cells #[k1,k2] T1)).alloc (.cells #[.int .u8 t.1,t.2] T2)).alloc (.cells #[.func (.func fo) #[.pointer (some ⟨R,0,none⟩)] #[]] T3)).alloc (.cells #[(0:Int),(0:Int)] T4)).alloc (.cells #[(0:Int),(0:Int)] T5)).alloc (.cells #[(0:Int),(0:Int)] T6)) /\Gr w (((((((w.alloc (.cells #[an,d] T0)).alloc (.cells #[k1,k2] T1)).alloc (.cells #[.int .u8 t.1,t.2] T2)).alloc (.cells #[.func (.func fo) #[.pointer (some ⟨R,0,none⟩)] #[]] T3)).alloc (.cells #[(0:Int),(0:Int)] T4)).alloc (.cells #[(0:Int),(0:Int)] T5)).alloc (.cells #[(0:Int),(0:Int)] T6)) /\(((((((w.alloc (.cells #[an,d] T0)).alloc (.cells #[k1,k2] T1)).alloc (.cells #[.int .u8 t.1,t.2] T2)).alloc (.cells #[.func (.func fo) #[.pointer (some ⟨R,0,none⟩)] #[]] T3)).alloc (.cells #[(0:Int),(0:Int)] T4)).alloc (.cells #[(0:Int),(0:Int)] T5)).alloc (.cells #[(0:Int),(0:Int)] T6)).heap.size=w.heap.size+1+1+1+1+1+1+1:=by
 obtain⟨w1,h1⟩:=ExZ (w.alloc (.cells #[an,d] T0))
 obtain⟨w2,h2⟩:=ExZ (w1.alloc (.cells #[k1,k2] T1))
 obtain⟨w3,h3⟩:=ExZ (w2.alloc (.cells #[.int .u8 t.1,t.2] T2))
 obtain⟨w4,h4⟩:=ExZ (w3.alloc (.cells #[.func (.func fo) #[.pointer (some ⟨R,0,none⟩)] #[]] T3))
 obtain⟨w5,h5⟩:=ExZ (w4.alloc (.cells #[(0:Int),(0:Int)] T4))
 obtain⟨w6,h6⟩:=ExZ (w5.alloc (.cells #[(0:Int),(0:Int)] T5))
 obtain⟨w7,h7⟩:=ExZ (w6.alloc (.cells #[(0:Int),(0:Int)] T6))
 rw[h1,h2,h3,h4,h5,h6,h7];obtain⟨f0,g1,z1⟩:=bx2 w an d T0;rw[h1]at f0 g1 z1;obtain⟨f1,g2,z2⟩:=bx2 w1 k1 k2 T1;rw[h2]at f1 g2 z2;obtain⟨f2,g3,z3⟩:=bx2 w2 (.int .u8 t.1) t.2 T2;rw[h3]at f2 g3 z3;have g4:Gr w3 w4:=by rw[<-h4];exact (Gr.refl _).alloc _
 have z4:w4.heap.size=w3.heap.size+1:=by rw[<-h4];simp
 have f3:w4.cell? w3=some (.func (.func fo) #[.pointer (some ⟨R,0,none⟩)] #[]):=by rw[<-h4];simp
 obtain⟨f4,g5,z5⟩:=bx2 w4 (0:Int) (0:Int) T4;rw[h5]at f4 g5 z5;obtain⟨f5,g6,z6⟩:=bx2 w5 (0:Int) (0:Int) T5;rw[h6]at f5 g6 z6;obtain⟨f6,g7,z7⟩:=bx2 w6 (0:Int) (0:Int) T6;rw[h7]at f6 g7 z7;have k7:=g7;have k6:=g6.trans k7;have k5:=g5.trans k6;have k4:=g4.trans k5;have k3:=g3.trans k4;have k2:=g2.trans k3;rw[z1]at f1 z2;rw[z2]at f2 z3;rw[z3]at f3 z4;rw[z4]at f4 z5;rw[z5]at f5 z6;rw[z6]at f6 z7;exact⟨⟨f0.gr k2,f1.gr k3,f2.gr k4,(k5.use.1 _ _ Ya).trans f3,Ya,f4.gr k6,f5.gr k7,f6⟩,g1.trans k2,z7⟩
def Vhq(w:World)(z:Nat)(R B base fo:Nat)(s:ByteArray)(own:Nat->Nat)(x:GrX)(d0:Nat)(t:Nat×Nat)(over:Vb->Nat->Nat->Pl.Ov)(gk gs ck cs:Nat)(ws ks:List Pl.KW)(Y:V9 (Nat×Nat×Vb))(DF:Value)(wr:World):Prop :=
 ∃(done rest:List Pl.KW)(j an d:Nat)(nv':Value)(L':List Vy)(own':Nat->Nat)(g':Vb),DF=.int .i64 j/\done.length=j/\ks=done++rest/\d<=d0+2*j/\GM wr R B base s nv' L' own' x g'/\L'.length<=20000001 /\
  V24 t over rest an d g'=Y/\V51 (z+1+1+1+1+1+1) (z+1) gk gs ck cs ws wr/\V6l z R fo an d (.slice gk ws.length ck) (.slice gs ws.length cs) t wr /\
  St (FV own) (FV own') w wr/\(∀k,own' k≠0->own k≠0\/z+1+1+1+1+1+1+1<=k)/\z+1+1+1+1+1+1+1<=wr.heap.size
structure Vdl(z gk gs n ck cs j:Nat)(wd:Value)(a b:Nat)(an d:Nat)(t:Nat×Nat)(w:World):Prop where
 p:FX z an d w
 k0:w.cell? (z+1:Nat)=some (.slice gk n ck)
 k1:w.cell? ⟨z+1,1,none⟩=some (.slice gs n cs)
 w0:w.cell? ⟨gk,j,none⟩=some wd
 w1:w.cell? ⟨gs,j*2,none⟩=some (.int .i64 a)
 w2:w.cell? ⟨gs,j*2+1,none⟩=some (.int .i64 b)
 s:FX (z+1+1) (.int .u8 t.1) t.2 w
theorem Oim(fo:Nat)(um:∀args w,(callFunc fo args).run prog w=.ok (.enter fo args) w)(over:Vb->Nat->Nat->Pl.Ov)(pj:∀g d i n d',over g d i=.go n d'->d'<=d+2)(w:World)(R B base:Nat)(s:ByteArray)(nv:Value)(L:List Vy)(own:Nat->Nat)(x:GrX)(g:Vb)(h:GM w R B base s nv L own x g)(HO:∀W nv' L' own' g',GM W R B base s nv' L' own' x g'->L'.length<=30000000->∀(an d i:Nat),i<L'.length->d<=1000000000->over g' d i≠.non->Calls prog fo #[.pointer (some ⟨R,0,none⟩),.agg #[an,d],i] W λ e W'=>O1i (over g' d i) e/\Gr W W')(an d:Nat)(t:Nat×Nat)(hL:L.length<=20000001)(hm:x.many<=30000000)(hd:d<=100000000)(gk gs ck cs:Nat)(ws:List Pl.KW)(la:Nat)(eY:ws.length=la+1)(en:la<=30000000)(ey:gk<w.heap.size)(cM:gs<w.heap.size)(dB:own gk=0)(fT:own gs=0)(aE:∀(j:Nat)(t:Pl.Bs)(a b:Nat),ws[j]?=some (t,a,b)->w.cell? ⟨gk,j,none⟩=some (V2s t)/\w.cell? ⟨gs,j*2,none⟩=some (.int .i64 a)/\w.cell? ⟨gs,j*2+1,none⟩=some (.int .i64 b))(Y:V9 (Nat×Nat×Vb))(hY:V24 t over ws.dropLast an d g=Y)(a8:Y≠.non):Calls prog 113 #[.pointer (some ⟨R,0,none⟩),.agg #[an,d],.agg #[.slice gk ws.length ck,.slice gs ws.length cs],.agg #[.int .u8 t.1,t.2],.func (.func fo) #[.pointer (some ⟨R,0,none⟩)] #[]] w (O44 w R B base s own x Y):=by
 have H:=U10 h;have Sk:=U10 hY;have De:=U10 HO;have mg:=U10 aE;clear h hY HO aE;have MC:IntKind.i64.wrap ((ws.length:Int)-1)=(la:Int):=by rw[U1k _ ⟨Ya,Ya⟩];omega
 have fN:=U10 eY;clear eY;go_enter func113,ntmps113
 go_upto_region 2 with fail
 obtain⟨W,hW⟩:=ExZ ((((((((w.alloc (.cells #[an,d] 67)).alloc (.cells #[.slice gk ws.length ck,.slice gs ws.length cs] 42)).alloc (.cells #[.int .u8 t.1,t.2] 94)).alloc (.cells #[.func (.func fo) #[.pointer (some ⟨R,0,none⟩)] #[]] 193)).alloc (.cells #[(0:Int),(0:Int)] 67)).alloc (.cells #[(0:Int),(0:Int)] 29)).alloc (.cells #[(0:Int),(0:Int)] 29)))
 have OA:=Ol4 w R fo an d (.slice gk ws.length ck) (.slice gs ws.length cs) t 67 42 94 193 67 29 29;rw[hW]at OA;rw[hW];clear hW;obtain⟨hB,gW,hz⟩:=OA;have hK:V51 (w.heap.size+1+1+1+1+1+1) (w.heap.size+1) gk gs ck cs ws W :=
  ⟨hB.f,hB.k.1,hB.k.2.1,hB.k.2.2.2,U13 ey gW.size,U13 cM gW.size,λ j t a b hj=>by
   obtain⟨a1,a2,a3⟩:=mg.o j t a b hj;exact⟨(gW.use.1 _ _ ey).trans a1,(gW.use.1 _ _ cM).trans a2,(gW.use.1 _ _ cM).trans a3⟩⟩
 have HB:=U10 hB;have HK:=U10 hK;have HG:=U10 gW;obtain⟨k0,k1,kf,kl⟩:=hB.k;clear hB hK gW;go_wp2_with fail
 go_loopw [19] (λ DF wr=>Vhq w w.heap.size R B base fo s own x d t over gk gs ck cs ws ws.dropLast Y DF wr) (λ DF _=>ws.length-(intOf DF).toNat)
 case atStart =>
  exact⟨[],ws.dropLast,0,an,d,nv,L,own,g,rfl,rfl,rfl,Ya,H.o.gr HG.o,hL,Sk.o,HK.o,HB.o,(St.refl _ _).gr HG.o,λ k hk => .inl hk,Ya⟩
 case round =>
  obtain⟨done,rest,j,mN,d',nv',L',own',g',rfl,yJ,mz,qV,cE,zv,jP,l8,G0,aa,bL,fI⟩:=hrel;have rC:la=j+rest.length:=by
   have h1:=U2w List.length mz;rw[U4i,U1b,fN.o]at h1;omega
  have bO:=U10 cE;have OB:=U10 jP;have fO:=U10 l8;have oW:=U10 G0;have bG:=U10 aa;have cp:=U10 bL;have xM:=U10 mz;have OC:=U10 yJ;have Kk:=U10 fI;refine Z230 ?_;intro i1;have i2:(j:Int)<(ws.length:Int):=by have:=fN.o;omega
  have Sl:j<9223372036854775807:=Ya;refine Z153 ?_;intro wj;clear yJ mz cE jP l8 aa bL;cases rest with
  |nil =>
   have i0:decide (j<la)=false:=by simp at rC;simp;omega
   clear rC G0
   go_upto_region 10 with fail
   have hS:FX w mN d' wr.drew/\FX (w.heap.size+1+1+1+1+1+1) (0:Int) (0:Int) wr.drew:=⟨oW.o.p.gr (Gr.refl wr).drew,oW.o.f.gr (Gr.refl wr).drew⟩
   have bj:=And.intro oW.o.p oW.o.f;obtain⟨r0,r1,rf,rl⟩:=oW.o.r1;obtain⟨sy,sA,sB,sC⟩:=oW.o.r2;have AW:w.heap.size<=w.heap.size+1+1+1+1:=Ya;have AX:w.heap.size<=w.heap.size+1+1+1+1+1:=Ya;refine Reg.begin' (W:=λ i=>i != 3) (S:=λ W=>FX w mN d' W/\FX (w.heap.size+1+1+1+1+1+1) (0:Int) (0:Int) W) Yc ?_;refine Z80 ?_;go_simp;refine⟨by first|exact⟨((bj.1.other Ya _).other Ya _).gr (Gr.refl _).drew,((bj.2.other Ya _).other Ya _).gr (Gr.refl _).drew⟩|exact λ _=>⟨((bj.1.other Ya _).other Ya _).gr (Gr.refl _).drew,((bj.2.other Ya _).other Ya _).gr (Gr.refl _).drew⟩|exact λ _ _=>⟨((bj.1.other Ya _).other Ya _).gr (Gr.refl _).drew,((bj.2.other Ya _).other Ya _).gr (Gr.refl _).drew⟩,?_⟩;refine Reg.pt ?_;refine Z191 ?_;refine Z2 ?_;refine Z12 ?_;go_wp2_with fail;have cD:=V63 ⟨r0,r1,rf,rl⟩ ⟨sy,sA,sB,sC⟩ Ya bG.o AW AX mN d' (0:Int) (0:Int);obtain⟨WF,ao⟩:=ExZ (((((wr.setCell (w.heap.size+1+1+1+1:Nat) mN).setCell ⟨w+1+1+1+1,1,none⟩ d').setCell (w.heap.size+1+1+1+1+1:Nat) (0:Int)).setCell ⟨w+1+1+1+1+1,1,none⟩ (0:Int)))
   rw[ao]at cD;rw[ao];clear ao;obtain⟨df,d6,sF,bF,zF⟩:=cD;obtain⟨q0,q1,qf,ql⟩:=df.gr (Gr.refl WF).drew;obtain⟨y0,y1,yf,yl⟩:=d6.gr (Gr.refl WF).drew;have x8:∀k,own' k≠0->k≠w.heap.size+1+1+1+1/\k≠w.heap.size+1+1+1+1+1:=λ k hk=>by
    rcases cp.o k hk with h|h
    have:=(H.o.v.lt k h).2;omega
    omega
   have wQ:=(bO.o.v.kept (w':=WF) (λ k hk=>bF k (x8 k hk).1 (x8 k hk).2) zF).drew;have Sn:Y=.ok (mN,d',g'):=by rw[<-OB.o];rfl
   rw[Sn];refine U11 (v:=.tuple #[.agg #[mN,d'],f0]) (by simp[results,results113,go_sem,q0,q1,qf,ql,y0,y1,yf,yl]) rfl ⟨rfl,nv',L',own',⟨wQ,bO.o.nd,bO.o.sec,bO.o.dep,bO.o.many⟩,sF.drew,λ k hk=>?_⟩;rcases cp.o k hk with h|h
   exact .inl h
   exact J69
  |cons kw ja =>
   obtain⟨wt,a,b⟩:=kw;have i0:decide (j<la)=true:=by simp at rC;simp;omega
   have yK:ws[j]?=some (wt,a,b):=by
    have h1:ws.dropLast[j]?=some (wt,a,b):=by rw[xM.o,<-OC.o];simp
    rw[List.getElem?_dropLast]at h1
    split at h1;exact h1
    cases h1
   obtain⟨y1,y2,y3⟩:=fO.o.w j wt a b yK;obtain⟨p0,p1,pf,pl⟩:=G0.p;have AO:=U10 yK;have ny:=U10 rC;clear G0 yK rC
   go_upto_region 6 with fail
   obtain⟨WA,Kl⟩:=ExZ (wr.alloc (.cells #[mN,d'] 67))
   obtain⟨uG,gA,zA⟩:=bx2 wr mN d' 67;rw[Kl]at uG gA zA;rw[Kl];have gD:Gr wr WA.drew:=gA.drew;have hS:Vdl w.heap.size gk gs ws.length ck cs j (V2s wt) a b mN d' t WA.drew :=
    ⟨oW.o.p.gr gD,(fO.o.gr gD).k0,(fO.o.gr gD).k1,((fO.o.gr gD).w j wt a b AO.o).1,((fO.o.gr gD).w j wt a b AO.o).2.1,((fO.o.gr gD).w j wt a b AO.o).2.2,oW.o.s.gr gD⟩
   have oY:=U10 gD;have So:=U10 (uG.gr (Gr.refl WA).drew);have JQ:gk<WA.heap.size:=U13 fO.o.gkl gA.size;have JR:gs<WA.heap.size:=U13 fO.o.gsl gA.size;clear Kl uG gA gD y1 y2 y3 p0 p1 pf pl k0 k1 kf kl;refine Reg.begin' (W:=λ i=>i != 14&&i != 18&&i != 19) (S:=Vdl w.heap.size gk gs ws.length ck cs j (V2s wt) a b mN d' t) Yc ?_;refine Reg.ty 0 ?_;refine Reg.tl 1 hS ?_ (hy:=by intro w ab;obtain⟨⟨s0,s1,s2,s3⟩,s4,s5,s6,s7,s8,⟨s9,kV,pz,vr⟩⟩:=ab;go_simp;try with_reducible rfl);refine Reg.ty 2 ?_;refine Reg.tl 3 hS ?_ (hy:=by intro w ab;obtain⟨⟨s0,s1,s2,s3⟩,s4,s5,s6,s7,s8,⟨s9,kV,pz,vr⟩⟩:=ab;go_simp;try with_reducible rfl);refine Reg.ty 4 ?_;refine Reg.ty 5 ?_;refine Reg.tl 6 hS ?_ (hy:=by intro w ab;obtain⟨⟨s0,s1,s2,s3⟩,s4,s5,s6,s7,s8,⟨s9,kV,pz,vr⟩⟩:=ab;go_simp;try with_reducible rfl);refine Reg.ty 7 ?_;refine Reg.tl 8 hS ?_ (hy:=by intro w ab;obtain⟨⟨s0,s1,s2,s3⟩,s4,s5,s6,s7,s8,⟨s9,kV,pz,vr⟩⟩:=ab;go_simp;try with_reducible rfl);refine Reg.ty 9 ?_;refine Reg.ty 10 ?_;refine Reg.tl 11 hS ?_ (hy:=by intro w ab;obtain⟨⟨s0,s1,s2,s3⟩,s4,s5,s6,s7,s8,⟨s9,kV,pz,vr⟩⟩:=ab;go_simp;try with_reducible rfl);refine Reg.tl 12 hS ?_ (hy:=by intro w ab;obtain⟨⟨s0,s1,s2,s3⟩,s4,s5,s6,s7,s8,⟨s9,kV,pz,vr⟩⟩:=ab;go_simp;try with_reducible rfl);refine Reg.ty 13 ?_;refine Reg.on 14 ?_;go_simp;have Ba:=OB.o;unfold V24 at Ba;obtain⟨X',gM⟩:=ExZ (V1p g' mN d' wt a b t (over g' d'))
   rw[gM]at Ba;have DG:X'≠.non:=λ e=>by rw[e]at Ba;exact a8 Ba.symm
   have iD:bs (⟨wt.toArray⟩:ByteArray)=wt:=by simp[bs]
   have e9:j<=30000000:=by have:=ny.o;omega
   have mO:=Oeh 157 (λ _ _=>rfl) (.pointer (some ⟨w+1+1+1,0,none⟩)) (.pointer (some ⟨wr,0,none⟩)) (over g' d') WA.drew R B base s nv' L' own' x g' (bO.o.gr oY.o)
    (λ W2 q2 i hi bV=>Onj fo um (over g' d' i) bV W2 R (w.heap.size+1+1+1) wr.heap.size mN d' i ((q2.use.1 _ _ (oW.o.gr oY.o).ol).trans (oW.o.gr oY.o).o) (U13 (oW.o.gr oY.o).ol q2.size) (So.o.gr q2)
     (λ W3 q3=>De.o W3 nv' L' own' g' (bO.o.gr (oY.o.trans (q2.trans q3))) Ya mN d' i hi Ya bV))
    mN d' ⟨wt.toArray⟩ a b t zv hm Ya X' (by rw[iD];exact gM) DG
   refine mO.mono ?_;cases X' with
   |non=>exact absurd rfl DG
   |bad c q =>
    rintro e w3 ⟨⟨n2,d2,he⟩,dJ,ac,aX,dX,jG⟩;subst he;have bT:∀k,w.heap.size<=k->k<=w.heap.size+1+1+1+1+1+1->¬FV own' k:=λ k h1 h2 e=>by
     rcases cp.o k e with h|h
     have:=(H.o.v.lt k h).2;omega
     omega
    have BI:¬FV own' gk:=λ e=>by
     rcases cp.o gk e with h|h
     exact h dB
     omega
    have BJ:¬FV own' gs:=λ e=>by
     rcases cp.o gs e with h|h
     exact h fT
     omega
    refine Z266 ?_;intro aV lB p0 p1 pf pl v0 v1 vf vl;refine Z192 ?_;refine Z2 ?_;refine Z176 ?_;refine Z2 ?_;refine Z12 ?_;have cD:=V63 aV.p aV.f Ya (bG.o.trans ((oY.o.st).trans aX)) (U12 _) Ya n2 d2 c q;obtain⟨W4,j9⟩:=ExZ (((((w3.setCell w n2).setCell ⟨w,1,none⟩ d2).setCell (w.heap.size+1+1+1+1+1+1:Nat) c).setCell ⟨w+1+1+1+1+1+1,1,none⟩ q))
    rw[j9]at cD;rw[j9];clear j9;obtain⟨DH,d6,zE,DI,zH⟩:=cD;have ir:=U10 aV;have OD:=U10 DH;have AT:=U10 d6;have Km:=U10 zE;have zJ:=U10 DI;have DJ:=U10 lB;obtain⟨uo,qG,Sq,Sr⟩:=d6;clear aV DH zE DI lB p0 p1 pf pl v0 v1 vf vl bT;go_wp2_with fail;refine (O21 c q Ya W4).mono ?_;rintro e w5 ⟨rfl,g5⟩;have eL:=AT.o.gr g5;have aZ:=(ir.o.r1.of_block (zJ.o _ Ya Ya) zH).gr g5;have d8:=(ir.o.r2.of_block (zJ.o _ Ya Ya) zH).gr g5;have d7:=Km.o.gr g5;have eQ:FX (w.heap.size+1+1+1+1+1+1) c q w5.drew:=eL.gr (Gr.refl w5).drew
    go_upto_region 8 with fail
    obtain⟨r0,r1,rf,rl⟩:=id aZ;obtain⟨sy,sA,sB,sC⟩:=id d8;refine Reg.begin' (W:=λ _=>true) (S:=FX (w.heap.size+1+1+1+1+1+1) c q) Yc ?_;refine Reg.ty 0 ?_;refine Reg.tl 1 eQ ?_ (hy:=by intro w ab;obtain⟨s0,s1,sf,sl⟩:=ab;go_simp;try with_reducible rfl);refine Reg.on 2 ?_;go_simp;refine⟨by first|exact ((eL.other Ya _).other Ya _).gr (Gr.refl _).drew|exact λ _=>((eL.other Ya _).other Ya _).gr (Gr.refl _).drew|exact λ _ _=>((eL.other Ya _).other Ya _).gr (Gr.refl _).drew,?_⟩;refine Reg.pt ?_;refine Z191 ?_;refine⟨by first|exact ((((eL.other Ya _).other Ya _).other Ya _).other Ya _).gr (Gr.refl _).drew|exact λ _=>((((eL.other Ya _).other Ya _).other Ya _).other Ya _).gr (Gr.refl _).drew|exact λ _ _=>((((eL.other Ya _).other Ya _).other Ya _).other Ya _).gr (Gr.refl _).drew,?_⟩;refine Reg.pt ?_;refine Z12 ?_;go_wp2_with fail;have cD:=V63 aZ d8 Ya d7 Ya Ya (0:Int) (0:Int) c q;obtain⟨WF,ao⟩:=ExZ (((((w5.setCell (w.heap.size+1+1+1+1:Nat) (0:Int)).setCell ⟨w+1+1+1+1,1,none⟩ (0:Int)).setCell (w.heap.size+1+1+1+1+1:Nat) c).setCell ⟨w+1+1+1+1+1,1,none⟩ q))
    rw[ao]at cD;rw[ao];clear ao;obtain⟨ES,gO,sF,bF,zF⟩:=cD;refine Z258 ?_;intro q0 q1 qf ql y0 y1 yf yl;have hR:=H.o.v.R_lt;have vA:R<w3.heap.size:=U13 hR.2 (U1l (U1l (U1l Ya Kk.o) oY.o.size) aX.size);have Kn:WF.drew.cell? ⟨R,2,none⟩=some (.string s):=by
     have e1:WF.cell? ⟨R,2,none⟩=w5.cell? ⟨R,2,none⟩:=U1r (w:=w5) (a:=⟨R,2,none⟩) (bF R Ya Ya);have e2:w5.cell? ⟨R,2,none⟩=W4.cell? ⟨R,2,none⟩:=g5.use.1 _ _ (U13 vA zH);have e3:W4.cell? ⟨R,2,none⟩=w3.cell? ⟨R,2,none⟩:=U1r (w:=w3) (a:=⟨R,2,none⟩) (zJ.o R Ya Ya);exact e1.trans (e2.trans (e3.trans dX))
    rw[<-Ba];refine U11 (v:=.tuple #[.agg #[(0:Int),(0:Int)],fv c q]) (by simp[results,results113,go_sem,q0,q1,qf,ql,y0,y1,yf,yl]) rfl ⟨⟨0,0,rfl⟩,dJ,ac,sF.drew,Kn,λ k hk=>?_⟩;have JY:w.heap.size+1+1+1+1+1+1+1<=WA.drew.heap.size:=U1l Kk.o oY.o.size;rcases jG k hk with h|h
    rcases cp.o k h with h|h
    exact .inl h
    exact J69
    exact J69
   |ok r2 =>
    obtain⟨n2,d2,g2⟩:=r2;rintro e w3 ⟨he,io,L2,ac,cx,aX,jG⟩;subst he;have bT:∀k,w.heap.size<=k->k<=w.heap.size+1+1+1+1+1+1->¬FV own' k:=λ k h1 h2 e=>by
     rcases cp.o k e with h|h
     have:=(H.o.v.lt k h).2;omega
     omega
    have BI:¬FV own' gk:=λ e=>by
     rcases cp.o gk e with h|h
     exact h dB
     omega
    have BJ:¬FV own' gs:=λ e=>by
     rcases cp.o gs e with h|h
     exact h fT
     omega
    refine Z266 ?_;intro aV lB p0 p1 pf pl v0 v1 vf vl;refine Z192 ?_;refine Z2 ?_;refine Z176 ?_;refine Z2 ?_;refine Z12 ?_;have cD:=V63 aV.p aV.f Ya (bG.o.trans ((oY.o.st).trans aX)) (U12 _) Ya n2 d2 (0:Int) (0:Int);obtain⟨W4,j9⟩:=ExZ (((((w3.setCell w n2).setCell ⟨w,1,none⟩ d2).setCell (w.heap.size+1+1+1+1+1+1:Nat) (0:Int)).setCell ⟨w+1+1+1+1+1+1,1,none⟩ (0:Int)))
    rw[j9]at cD;rw[j9];clear j9;obtain⟨DH,d6,zE,DI,zH⟩:=cD;have ir:=U10 aV;have OD:=U10 DH;have AT:=U10 d6;have Km:=U10 zE;have zJ:=U10 DI;have DJ:=U10 lB;obtain⟨uo,qG,Sq,Sr⟩:=d6;clear aV DH zE DI lB p0 p1 pf pl v0 v1 vf vl bT;go_wp2_with fail;refine (O1n W4).mono ?_;rintro e w5 ⟨rfl,g5⟩;go_wp2_with fail
    go_roundw
    case rel =>
     have bR:=O7h gM (λ i n' M' e=>pj g' d' i n' M' e) (by rw[<-bO.o.nd,U1j];exact zv);have JY:w.heap.size+1+1+1+1+1+1+1<=WA.drew.heap.size:=U1l Kk.o oY.o.size;have x8:∀k,ac k≠0->k≠w.heap.size/\k≠w.heap.size+1+1+1+1+1+1/\(own k≠0\/w.heap.size+1+1+1+1+1+1+1<=k):=λ k hk=>by
      rcases jG k hk with h|h
      rcases cp.o k h with h|h
      have:=(H.o.v.lt k h).2;exact⟨Ya,Ya,.inl h⟩
      exact⟨Ya,Ya,.inr h⟩
      exact⟨Ya,Ya,.inr Ya⟩
     have Ss:=(cx.v.kept (w':=W4) (λ k hk=>zJ.o k (x8 k hk).1 (x8 k hk).2.1) zH).gr g5;refine⟨done++[(wt,a,b)],ja,j+1,n2,d2,io,L2,ac,g2,Yb,by simp[OC.o],by rw[xM.o];simp,Ya,⟨Ss,cx.nd,cx.sec,cx.dep,cx.many⟩,?_,Ba,
      (DJ.o.stored zJ.o zH AT.o ⟨Ya,Ya⟩ Ya Ya).gr g5,(ir.o.stored zJ.o zH OD.o AT.o).gr g5,Km.o.gr g5,λ k hk=>(x8 k hk).2.2,?_⟩
     have:=bR.1;rw[<-cx.nd,U1j]at this;exact this
     have:=aX.size;have:=g5.size;omega
    case measure =>
     have:=ny.o;have:=fN.o;simp[intOf];omega
theorem Ocp{g:Vb}{d i n d':Nat}(h:V37 g d i=.go n d'):d'<=d+2:=by
 unfold V37 at h
 split at h;cases h
 split at h
 split at h
 split at h;cases h;exact U12 _
 cases h
 cases h
 exact J1
theorem Ol5{g:Vb}{d i n d':Nat}(h:V27 g d i=.go n d'):d'<=d+2:=by
 unfold V27 at h
 split at h;exact J1
 cases h
structure V9s(R B bf bg i d sh sof:Nat)(w:World):Prop where
 p1:w.cell? ⟨bf,1,none⟩=some (.int .i64 d)
 pg:w.cell? bg=some (.pointer (some ⟨R,0,none⟩))
 c3:w.cell? ⟨R,3,none⟩=some (.map (some B))
 lk:(Instr.lookup 65 (.map (some B)) i false).run prog w=.ok (.agg #[.int .u8 sh,sof]) w
theorem Onk(w:World)(R B base:Nat)(s:ByteArray)(nv:Value)(L:List Vy)(own:Nat->Nat)(x:GrX)(g:Vb)(h:GM w R B base s nv L own x g)(bf bg:Nat)(an d i:Nat)(hi:i<L.length)(hL:L.length<=30000000)(hd:d<=1000000000)(hF:FX bf an d w)(hg:w.cell? bg=some (.pointer (some ⟨R,0,none⟩)))(aW:bg<w.heap.size):Calls prog 118 #[i,.pointer (some ⟨bf,0,none⟩),.pointer (some ⟨bg,0,none⟩)] w λ e w'=>O1i (if (Vd g i).1=2 then .go i (d+1) else .no) e/\Gr w w':=by
 refine Z115 ?_;intro c0 c1 c2 c3 c4 c5 c6 c7 c8 fz hR sh sof bR hs ny;have HS:=U10 hs;obtain⟨X,hX⟩:=ExZ ((if (Vd g i).1=2 then Pl.Ov.go i (d+1) else .no))
 rw[hX];have HX:=U10 hX;clear hX;clear h hs bR fz c0 c1 c2 c4 c5 c6 c7 c8;refine Z152 ?_;intro JL;go_enter func118,ntmps118
 go_upto_region 1 with fail
 obtain⟨W,hW⟩:=ExZ (w.alloc (.cells #[(0:Int),(0:Int)] 67))
 have gW:Gr w W:=by rw[<-hW];exact (Gr.refl w).alloc _
 have fM:FX w (0:Int) (0:Int) W:=by rw[<-hW];exact FX.new w _ _ _
 have hS:V9s R B bf bg i d sh sof W.drew :=
  ⟨(gW.drew.use.1 bf 1 hF.2.2.2).trans hF.2.1,(gW.drew.use.1 bg 0 aW).trans hg,(gW.drew.use.1 R 3 hR.2).trans c3,ny.o W.drew gW.drew⟩
 obtain⟨r0,r1,rf,rl⟩:=fM;have HG:=U10 gW
 try rw[hW]
 clear hW gW;obtain⟨WF,ao⟩:=ExZ (((W.setCell w i).setCell ⟨w,1,none⟩ (.int .i64 ((d:Int)+1))))
 have eo:FX w i (.int .i64 ((d:Int)+1)) WF:=by rw[<-ao];exact FX.set ⟨r0,r1,rf,rl⟩ _ _
 have gF:Gr w WF:=by rw[<-ao];exact (HG.o.setCell (p:=w) (U12 _) _).setCell (p:=⟨w,1,none⟩) (U12 _) _
 have br:V9s R B bf bg i d sh sof WF.drew :=
  ⟨(gF.drew.use.1 bf 1 hF.2.2.2).trans hF.2.1,(gF.drew.use.1 bg 0 aW).trans hg,(gF.drew.use.1 R 3 hR.2).trans c3,ny.o WF.drew gF.drew⟩
 have HF:=U10 eo;have AV:=U10 gF;have jo:=U10 br;have mY:=U10 ao;have my:R<W.heap.size:=U13 hR.2 HG.o.size;clear c3 hF eo gF br ao hg;have yG:∀W,(Instr.field 94 (.agg #[.int .u8 sh,sof]) 0).run prog W=.ok (.int .u8 sh) W:=λ W=>by kernel_rfl
 have gy:((sh:Int)==2)=true\/((sh:Int)==2)=false:=by cases ((sh:Int)==2) <;> simp
 rcases gy with e1|e1
 all_goals
  refine Reg.begin' (W:=λ _=>true) (S:=V9s R B bf bg i d sh sof) Yc ?_;refine Z322 ?_;refine Reg.tl 5 hS ?_ (hy:=by intro w ab;obtain⟨s1,s2,s3,s4⟩:=ab;go_simp;try with_reducible rfl);refine Z142 ?_;refine Reg.on 13 ?_;go_simp;rw[mY.o];refine⟨by first|exact jo.o|exact λ _=>jo.o|exact λ _ _=>jo.o,?_⟩;refine Reg.pt ?_;refine Reg.ty 14 ?_;refine Z12 ?_;go_wp2_with fail;obtain⟨q0,q1,qf,ql⟩:=HF.o.gr (Gr.refl WF).drew;have gE:=AV.o.drew
 ·have h2:(Vd g i).1=2:=by rw[HS.o];have h:=eq_of_beq e1;show sh=2;omega
  have hX:=HX.o;rw[U1a h2]at hX;rw[<-hX];exact U11 (v:=.tuple #[.agg #[i,.int .i64 ((d:Int)+1)],.bool true]) (by simp[results,results118,go_sem,q0,q1,qf,ql]) rfl ⟨by simp[O1i],gE⟩
 have h2:¬(Vd g i).1=2:=by rw[HS.o];intro h;have h:sh=2:=h;subst h;simp at e1
 have hX:=HX.o;rw[U1c h2]at hX;rw[<-hX];exact U11 (v:=.tuple #[.agg #[i,.int .i64 ((d:Int)+1)],.bool false]) (by simp[results,results118,go_sem,q0,q1,qf,ql]) rfl ⟨⟨_,_,rfl⟩,gE⟩
theorem O8f(w:World)(R B base:Nat)(s:ByteArray)(nv:Value)(L:List Vy)(own:Nat->Nat)(x:GrX)(g:Vb)(h:GM w R B base s nv L own x g)(an d:Nat)(t:Nat×Nat)(hL:L.length<=20000001)(hm:x.many<=30000000)(hd:d<=100000000)(gk gs ck cs:Nat)(ws:List Pl.KW)(la:Nat)(eY:ws.length=la+1)(en:la<=30000000)(ey:gk<w.heap.size)(cM:gs<w.heap.size)(dB:own gk=0)(fT:own gs=0)(aE:∀(j:Nat)(t:Pl.Bs)(a b:Nat),ws[j]?=some (t,a,b)->w.cell? ⟨gk,j,none⟩=some (V2s t)/\w.cell? ⟨gs,j*2,none⟩=some (.int .i64 a)/\w.cell? ⟨gs,j*2+1,none⟩=some (.int .i64 b))(Y:V9 (Nat×Nat×Vb))(hY:V24 t V37 ws.dropLast an d g=Y)(a8:Y≠.non):Calls prog 113 #[.pointer (some ⟨R,0,none⟩),.agg #[an,d],.agg #[.slice gk ws.length ck,.slice gs ws.length cs],.agg #[.int .u8 t.1,t.2],.func (.func 114) #[.pointer (some ⟨R,0,none⟩)] #[]] w (O44 w R B base s own x Y) :=
 Oim 114 (λ _ _=>rfl) V37 (λ _ _ _ _ _ e=>Ocp e) w R B base s nv L own x g h
  (λ W nv' L' own' g' kA kx an d i hi hd bV=>Ook W R B base s nv' L' own' x g' kA an d i hi kx hd _ rfl bV) an d t hL hm hd gk gs ck cs ws la eY en ey cM dB fT aE Y hY a8
theorem Ocq(w:World)(R B base:Nat)(s:ByteArray)(nv:Value)(L:List Vy)(own:Nat->Nat)(x:GrX)(g:Vb)(h:GM w R B base s nv L own x g)(an d:Nat)(t:Nat×Nat)(hL:L.length<=20000001)(hm:x.many<=30000000)(hd:d<=100000000)(gk gs ck cs:Nat)(ws:List Pl.KW)(la:Nat)(eY:ws.length=la+1)(en:la<=30000000)(ey:gk<w.heap.size)(cM:gs<w.heap.size)(dB:own gk=0)(fT:own gs=0)(aE:∀(j:Nat)(t:Pl.Bs)(a b:Nat),ws[j]?=some (t,a,b)->w.cell? ⟨gk,j,none⟩=some (V2s t)/\w.cell? ⟨gs,j*2,none⟩=some (.int .i64 a)/\w.cell? ⟨gs,j*2+1,none⟩=some (.int .i64 b))(Y:V9 (Nat×Nat×Vb))(hY:V24 t V27 ws.dropLast an d g=Y)(a8:Y≠.non):Calls prog 113 #[.pointer (some ⟨R,0,none⟩),.agg #[an,d],.agg #[.slice gk ws.length ck,.slice gs ws.length cs],.agg #[.int .u8 t.1,t.2],.func (.func 119) #[.pointer (some ⟨R,0,none⟩)] #[]] w (O44 w R B base s own x Y) :=
 Oim 119 (λ _ _=>rfl) V27 (λ _ _ _ _ _ e=>Ol5 e) w R B base s nv L own x g h
  (λ W nv' L' own' g' kA kx an d i hi hd bV=>Ol3 W R B base s nv' L' own' x g' kA an d i hi kx hd) an d t hL hm hd gk gs ck cs ws la eY en ey cM dB fT aE Y hY a8
def V9t(w:World)(R B base:Nat)(s:ByteArray)(own:Nat->Nat)(iv nsv:Value)(X:V9 Vb)(e:Ending)(w':World):Prop:=match X with
 |.non=>True
 |.bad c p=>e=.returned (fv c p)/\c≠0/\∃own',St (FV own) (FV own') w w'/\w'.cell? ⟨R,2,none⟩=some (.string s)/\(∀k,own' k≠0->own k≠0\/w.heap.size<=k)
 |.ok g'=>e=.returned f0/\∃nv' L' own' x',x'.iv=iv/\x'.nsv=nsv/\GM w' R B base s nv' L' own' x' g'/\St (FV own) (FV own') w w'/\(∀k,own' k≠0->own k≠0\/w.heap.size<=k)
def Vat(w:World)(R B base:Nat)(s:ByteArray)(own:Nat->Nat)(x:GrX)(Y:V9 (Nat×Nat×Vb))(s5 s6:Value)(w':World):Prop :=
 ∃b5 b6:Nat,s5=.pointer (some ⟨b5,0,none⟩)/\s6=.pointer (some ⟨b6,0,none⟩)/\b5≠b6/\w.heap.size<=b5/\w.heap.size<=b6/\match Y with
  |.non=>True
  |.bad c p=>(∃n d:Int,FX b5 n d w')/\FX b6 c p w'/\c≠0/\∃own',St (FV own) (FV own') w w'/\w'.cell? ⟨R,2,none⟩=some (.string s)/\(∀k,own' k≠0->own k≠0\/w.heap.size<=k)
  |.ok (n,d,g')=>FX b5 n d w'/\FX b6 (0:Int) (0:Int) w'/\∃nv' L' own',own' b5=0/\own' b6=0/\GM w' R B base s nv' L' own' x g'/\St (FV own) (FV own') w w'/\(∀k,own' k≠0->own k≠0\/w.heap.size<=k)
theorem O44.open{V w2:World}{R B base:Nat}{s:ByteArray}{own:Nat->Nat}{x:GrX}{Y:V9 (Nat×Nat×Vb)}{e:Ending}(h:O44 V R B base s own x Y e w2)(hn:Y≠.non):∃(n d c q:Int),e=.returned (.tuple #[.agg #[n,d],.agg #[c,q]])/\∃own',St (FV own) (FV own') V w2:=by
 cases Y with
 |non=>exact absurd rfl hn
 |bad c p =>
  obtain⟨⟨n,d,he⟩,_,own',aa,_⟩:=h;exact⟨n,d,c,p,he,own',aa⟩
 |ok r =>
  obtain⟨n,d,g'⟩:=r;obtain⟨he,_,_,own',_,aa,_⟩:=h;exact⟨n,d,0,0,he,own',aa⟩
theorem O4o{W V w2 w3:World}{R B base:Nat}{s:ByteArray}{own:Nat->Nat}{x:GrX}{Y:V9 (Nat×Nat×Vb)}{n d c q:Int}(h:O44 V R B base s own x Y (.returned (.tuple #[.agg #[n,d],.agg #[c,q]])) w2)(gV:Gr W V)(g3:Gr w2 w3)(a9:∀k,own k≠0->k<W.heap.size)(hR:R<W.heap.size){b5 b6:Nat}(a8:b5≠b6)(h5:W.heap.size<=b5)(h6:W.heap.size<=b6)(o5:b5<V.heap.size\/w2.heap.size<=b5)(o6:b6<V.heap.size\/w2.heap.size<=b6){x5 y5 x6 y6:Value} (f5:FX b5 x5 y5 w3) (f6:FX b6 x6 y6 w3):Vat W R B base s own x Y (.pointer (some ⟨b5,0,none⟩)) (.pointer (some ⟨b6,0,none⟩)) ((((w3.setCell b5 n).setCell ⟨b5,1,none⟩ d).setCell b6 c).setCell ⟨b6,1,none⟩ q):=by
 refine⟨b5,b6,rfl,rfl,a8,h5,h6,?_⟩;cases Y with
 |non=>trivial
 |bad c' p' =>
  obtain⟨⟨n',d',he⟩,hc,own',aa,hs,mn⟩:=h;have h1:n=n'/\d=d'/\c=(c':Int)/\q=(p':Int):=by simpa [fv,and_assoc]using he
  obtain⟨rfl,rfl,rfl,rfl⟩:=h1;have hz:=gV.size;obtain⟨a1,a2,a3,a4,a5⟩:=V63 f5 f6 a8 ((gV.st).trans (aa.gr g3)) h5 h6 n d c' p';refine⟨⟨n,d,a1⟩,a2,hc,own',a3,?_,λ k hk=>(mn k hk).imp id (λ h=>by omega)⟩;have aM:=aa.size;exact (U1r (w:=w3) (a:=⟨R,2,none⟩) (a4 R Ya Ya)).trans ((g3.use.1 _ _ Ya).trans hs)
 |ok r =>
  obtain⟨n',d',g'⟩:=r;obtain⟨he,nv',L',own',cE,aa,mn⟩:=h;have h1:n=(n':Int)/\d=(d':Int)/\c=0/\q=0:=by simpa [f0,and_assoc]using he
  obtain⟨rfl,rfl,rfl,rfl⟩:=h1;have hz:=gV.size;obtain⟨a1,a2,a3,a4,a5⟩:=V63 f5 f6 a8 ((gV.st).trans (aa.gr g3)) h5 h6 n' d' (0:Int) (0:Int);have hz:∀b,W.heap.size<=b->(b<V.heap.size\/w2.heap.size<=b)->own' b=0:=λ b hb ho=>U1g λ hk=>by
   rcases ho with ho|ho
   rcases mn b hk with h|h
   have:=a9 b h;omega
   omega
   have:=(cE.v.lt b hk).2;omega
  have z5:=hz b5 h5 o5;have z6:=hz b6 h6 o6;refine⟨a1,a2,nv',L',own',z5,z6,⟨(cE.v.gr g3).kept (λ k hk=>a4 k (λ e=>hk (by rw[e];exact z5)) (λ e=>hk (by rw[e];exact z6))) a5,cE.nd,cE.sec,cE.dep,cE.many⟩,a3,λ k hk=>(mn k hk).imp id (λ h=>?_)⟩;have:=gV.size;omega
theorem O99(t:Nat×Nat)(over:Vb->Nat->Nat->Pl.Ov)(pj:∀g d i n d',over g d i=.go n d'->d'<=d+2):∀(ks:List Pl.KW)(an d:Nat)(g:Vb)(n d2:Nat)(g2:Vb),V24 t over ks an d g=.ok (n,d2,g2)->g.nds.length<=20000001->g2.nds.length<=20000001/\d2<=d+2*ks.length
 | [],an,d,g,n,d2,g2,h,hl=>by
  unfold V24 at h;cases h;exact⟨hl,Ya⟩
 | (w,a,b)::ks,an,d,g,n,d2,g2,h,hl=>by
  unfold V24 at h
  split at h;cases h
  cases h
  rename_i n1 d1 g1 hs
  obtain⟨h1,h2⟩:=O7h hs (λ i n' d' e=>pj g d i n' d' e) hl;obtain⟨h3,h4⟩:=O99 t over pj ks n1 d1 g1 n d2 g2 h h1;refine⟨h3,?_⟩;rw[U1d];omega
theorem Odn{g g2:Vb}{an d n d2:Nat}{w:Pl.Bs}{a b:Nat}{t:Nat×Nat}{over:Nat->Pl.Ov}(h:V1p g an d w a b t over=.ok (n,d2,g2))(ht:t.1≠0)(bV:∀i n' d',over i=.go n' d'->Oi g.srt n')(hl:g.srt.length=g.nds.length):Oi g2.srt n:=by
 unfold V1p at h
 split at h;cases h
 split at h;cases h
 cases h
 rename_i h1
 cases h;exact bV _ _ _ h1
 split at h;cases h
 split at h;cases h;unfold Oi;show ((g.srt++[t]).getD g.nds.length (0,0)).1≠0;rw[<-hl,U1i,U1y (U12 _),U42];exact ht
 cases h
structure TbS(R B z t:Nat)(n:Nat)(w:World):Prop where
 g:w.cell? z=some (.pointer (some ⟨R,0,none⟩))
 c3:w.cell? ⟨R,3,none⟩=some (.map (some B))
 t:w.cell? t=some (.int .i64 n)
structure V9u(z R:Nat)(k1 k2:Value)(w:World):Prop where
 g:w.cell? z=some (.pointer (some ⟨R,0,none⟩))
 k:FX (z+1) k1 k2 w
 r:w.cell? ⟨R,1,none⟩=some (.int .i64 0)
 zl:z<w.heap.size
 rl:R<w.heap.size
theorem V9u.gr{z R:Nat}{k1 k2:Value}{w w':World}(h:V9u z R k1 k2 w)(g:Gr w w'):V9u z R k1 k2 w' :=
 ⟨(g.use.1 _ _ h.zl).trans h.g,h.k.gr g,(g.use.1 _ _ h.rl).trans h.r,U13 h.zl g.size,U13 h.rl g.size⟩
theorem Ol6(w:World)(R B base:Nat)(s:ByteArray)(nv:Value)(L:List Vy)(own:Nat->Nat)(x:GrX)(g:Vb)(h:GM w R B base s nv L own x g)(hL:L.length<=20000001)(hm:x.many<=30000000)(gk gs ck cs:Nat)(ws:List Pl.KW)(la:Nat)(eY:ws.length=la+1)(en:la<=30000000)(ey:gk<w.heap.size)(cM:gs<w.heap.size)(dB:own gk=0)(fT:own gs=0)(aE:∀(j:Nat)(t:Pl.Bs)(a b:Nat),ws[j]?=some (t,a,b)->w.cell? ⟨gk,j,none⟩=some (V2s t)/\w.cell? ⟨gs,j*2,none⟩=some (.int .i64 a)/\w.cell? ⟨gs,j*2+1,none⟩=some (.int .i64 b))(X:V9 Vb)(hX:V2f g ws=X)(a8:X≠.non):Calls prog 88 #[.pointer (some ⟨R,0,none⟩),.agg #[.slice gk ws.length ck,.slice gs ws.length cs]] w (V9t w R B base s own x.iv x.nsv X):=by
 have H:=U10 h;have HX:=U10 hX;have mg:=U10 aE;clear h hX aE;have fN:=U10 eY;clear eY;go_enter func88,ntmps88
 go_upto_region 1 with fail
 obtain⟨W,hW⟩:=ExZ (((w.alloc (.cells #[.pointer (some ⟨R,0,none⟩)] 61)).alloc (.cells #[.slice gk ws.length ck,.slice gs ws.length cs] 42)).alloc (.cells #[(0:Int),(0:Int)] 29))
 obtain⟨bj,jp,gW,hz⟩:V9u w.heap.size R (.slice gk ws.length ck) (.slice gs ws.length cs) W/\FX (w.heap.size+1+1) (0:Int) (0:Int) W/\Gr w W/\W.heap.size=w.heap.size+1+1+1:=by
  obtain⟨w1,h1⟩:=ExZ (w.alloc (.cells #[.pointer (some ⟨R,0,none⟩)] 61))
  rw[h1]at hW;have g1:Gr w w1:=by rw[<-h1];exact (Gr.refl _).alloc _
  have z1:w1.heap.size=w.heap.size+1:=by rw[<-h1];simp
  have c1:w1.cell? w=some (.pointer (some ⟨R,0,none⟩)):=by rw[<-h1];simp
  obtain⟨f1,g2,z2⟩:=bx2 w1 (.slice gk ws.length ck) (.slice gs ws.length cs) 42;obtain⟨w2,h2⟩:=ExZ (w1.alloc (.cells #[.slice gk ws.length ck,.slice gs ws.length cs] 42))
  rw[h2]at hW f1 g2 z2;refine Z127 ?_;intro f2 g3 z3;rw[hW]at f2 g3 z3;rw[z1]at f1 z2;rw[z2]at f2 z3;have hR:=H.o.v.R_lt;refine⟨⟨((g2.trans g3).use.1 _ _ Ya).trans c1,f1.gr g3,((g1.trans (g2.trans g3)).use.1 _ _ hR.2).trans H.o.v.cells.1.2.1,Ya,Ya⟩,f2,g1.trans (g2.trans g3),z3⟩
 rw[hW];clear hW;have eu:=U10 bj;have sN:=U10 jp;have HG:=U10 gW;clear bj jp gW;obtain⟨Y,hY⟩:=ExZ (V24 (2,0) V37 ws.dropLast 0 1 g)
 have HY:=U10 hY;have bP:Y≠.non:=λ e=>by
  have:=HX.o;unfold V2f at this;rw[HY.o,e]at this;exact a8 this.symm
 clear hY;have jk:=U10 (λ V (q:Gr w V)=>O8f V R B base s nv L own x g (H.o.gr q) 0 1 (2,0) hL hm Ya gk gs ck cs ws la fN.o en (U13 ey q.size) (U13 cM q.size) dB fT
  (λ j t a b hj=>⟨(q.use.1 _ _ ey).trans (mg.o j t a b hj).1,(q.use.1 _ _ cM).trans (mg.o j t a b hj).2.1,(q.use.1 _ _ cM).trans (mg.o j t a b hj).2.2⟩) Y HY.o bP)
 refine Z211 ?_;intro a9 HZ;clear hz
 go_cut [5,6] (λ s5 s6 W'=>Vat W R B base s own x Y s5 s6 W')
 case first =>
  have hS:=eu.o.gr (Gr.refl W).drew;refine Reg.begin' (W:=λ i=>i != 11&&i != 17&&i != 18) (S:=V9u w.heap.size R (.slice gk ws.length ck) (.slice gs ws.length cs)) Yc ?_;refine Reg.tl 0 hS ?_ (hy:=by intro w ab;obtain⟨s1,⟨s2,s3,s4,s5⟩,s6,s7,s8⟩:=ab;go_simp;try with_reducible rfl);refine Reg.tl 1 hS ?_ (hy:=by intro w ab;obtain⟨s1,⟨s2,s3,s4,s5⟩,s6,s7,s8⟩:=ab;go_simp;try with_reducible rfl);refine Reg.ty 2 ?_;refine Z41 ?_;refine Reg.tl 5 hS ?_ (hy:=by intro w ab;obtain⟨s1,⟨s2,s3,s4,s5⟩,s6,s7,s8⟩:=ab;go_simp;try with_reducible rfl);refine Reg.ty 6 ?_;refine Reg.tl 7 hS ?_ (hy:=by intro w ab;obtain⟨s1,⟨s2,s3,s4,s5⟩,s6,s7,s8⟩:=ab;go_simp;try with_reducible rfl);refine Reg.ty 8 ?_;refine Reg.tl 9 hS ?_ (hy:=by intro w ab;obtain⟨s1,⟨s2,s3,s4,s5⟩,s6,s7,s8⟩:=ab;go_simp;try with_reducible rfl);refine Reg.ty 10 ?_;exact J105
 case rest =>
  obtain⟨b5,b6,rfl,rfl,x9,h5,h6,rK⟩:=hcut;have ae:=HX.o;unfold V2f at ae;rw[HY.o]at ae;have pF:=H.o.v.R_lt;cases Y with
  |non=>exact absurd rfl bP
  |bad c p =>
   simp only at ae;obtain⟨⟨n,d,f5⟩,f6,dJ,ac,st2,dX,kS⟩:=rK;have hE:=sN.o.st st2 (λ e=>by have:=(H.o.v.lt _ e).2;omega);obtain⟨k0,k1,kf,kl⟩:=id f6;have Ko:=U10 hE;have F6:=U10 f6;have dZ:=U10 st2;clear hE f5 f6;go_wp2_with fail;refine (O21 c p Ya wc).mono ?_;rintro e w5 ⟨rfl,g5⟩;have oP:=F6.o.gr g5;have iQ:=Ko.o.gr g5;obtain⟨v0,v1,vf,vl⟩:=id oP;obtain⟨r0,r1,rf,rl⟩:=id iQ;clear k0 k1 kf kl;go_wp2_with fail;have hF:=iQ.set c p;have sF:St (FV own) (FV ac) w _:=((((HG.o.st).trans dZ.o).gr g5).setCell (p:=⟨w+1+1,0,none⟩) (.inr Yj) c).setCell (p:=⟨w+1+1,1,none⟩) (.inr Yj) p;have aF:((w5.setCell (w.heap.size+1+1:Nat) c).setCell ⟨w+1+1,1,none⟩ p).cell? ⟨R,2,none⟩=some (.string s):=by
    exact J87
   obtain⟨WF,ao⟩:=ExZ (((w5.setCell (w.heap.size+1+1:Nat) c).setCell ⟨w+1+1,1,none⟩ p))
   rw[ao]at hF sF aF;rw[ao];clear ao;obtain⟨q0,q1,qf,ql⟩:=hF;rw[<-ae];exact U11 (v:=fv c p) (by simp[results,results88,go_sem,q0,q1,qf,ql]) rfl ⟨rfl,dJ,ac,sF,aF,λ k hk=>(kS k hk).imp id (λ h=>by have:=HG.o.size;omega)⟩
  |ok r =>
   obtain⟨n,d,g'⟩:=r;simp only at ae;obtain⟨f5,f6,nv',L',own',z5,z6,cE,aa,mn⟩:=rK;have bz:∀k,w.heap.size<=k->k<W.heap.size->¬FV own k:=λ k h1 h2 e=>by have:=(H.o.v.lt k e).2;omega
   have hz:=HZ.o;have hE:=sN.o.st aa (bz _ Ya Ya);have xa:=eu.o.k.st aa (bz _ Ya Ya);have qe:wc.cell? w=some (.pointer (some ⟨R,0,none⟩)):=((aa.use _ eu.o.zl (bz _ Ya Ya)).1 _).trans eu.o.g;have lZ:w.heap.size<wc.heap.size:=U13 eu.o.zl aa.size;have HE:=U10 hE;have DK:=U10 xa;have xb:=U10 qe;refine Z132 ?_;intro F5 F6 bG bO kb k0 k1 kf kl wt a b eT;have aW:ws.getLast?=some (wt,a,b):=by rw[U3i,fN.o];exact eT
   rw[aW]at ae;simp only at ae;have bY:=U10 ae;have GF:=U10 eT;clear hE xa qe f5 f6 aa cE mn eT aW ae hz bz;go_wp2_with fail;refine (O1n wc).mono ?_;rintro e w5 ⟨rfl,g5⟩;obtain⟨x0,x1,xf,xl⟩:=DK.o.gr g5;clear k0 k1 kf kl;go_wp2_with fail;have ji:=U13 ey HG.o.size;have jj:=U13 cM HG.o.size;have V3e:∀o,w5.cell? ⟨gk,o,none⟩=w.cell? ⟨gk,o,none⟩:=λ o=>(g5.use.1 _ _ (U13 ji bG.o.size)).trans (((bG.o.use gk ji (λ e=>e dB)).1 _).trans (HG.o.use.1 _ _ ey))
   have xI:∀o,w5.cell? ⟨gs,o,none⟩=w.cell? ⟨gs,o,none⟩:=λ o=>(g5.use.1 _ _ (U13 jj bG.o.size)).trans (((bG.o.use gs jj (λ e=>e fT)).1 _).trans (HG.o.use.1 _ _ cM))
   refine Z64 ?_;intro r1 r2 r3 w6 g6 fZ cP;obtain⟨e0,e1,ef,el⟩:=F5.o.gr fZ;have Fg:=(fZ.use.1 _ _ lZ).trans xb.o;have DL:=U13 lZ fZ.size;have Bx:=U10 fZ;clear x0 x1 xf xl V3e xI r1 r2 r3 cP g5 g6 fZ;have zL:=O99 _ _ (λ _ _ _ _ _ e=>Ocp e) _ _ _ _ _ _ _ HY.o (by rw[<-H.o.nd,U1j];exact hL);have zv:L'.length<=20000001:=by have:=zL.1;rw[<-bO.o.nd,U1j]at this;exact this
   have qV:d<=100000000:=by have:=zL.2;rw[U4i,fN.o]at this;omega
   clear zL;obtain⟨X',gM⟩:=ExZ (V1p g' n d wt a b (1,0) (λ i=>if (Vd g' i).1=2 then .go i (d+1) else .no))
   have DM:=bY.o;rw[gM]at DM;have DG:X'≠.non:=λ e=>by rw[e]at DM;exact a8 DM.symm
   have iD:bs (⟨wt.toArray⟩:ByteArray)=wt:=by simp[bs]
   refine Z140 ?_;intro W7 pL G7 cg g7 z7;have Bb:∀o,W7.cell? ⟨b5,o,none⟩=wc.cell? ⟨b5,o,none⟩:=λ o=>G7.o.use.1 _ _ F5.o.2.2.2
   have mO:=Oeh 118 (λ _ _=>rfl) (.pointer (some ⟨b5,0,none⟩)) (.pointer (some ⟨w,0,none⟩)) (λ i=>if (Vd g' i).1=2 then .go i (d+1) else .no) W7 R B base s nv' L' own' x g' (bO.o.gr G7.o)
    (λ W2 q2 i hi _=>Onk W2 R B base s nv' L' own' x g' (bO.o.gr (G7.o.trans q2)) b5 w.heap.size n d i hi Ya Ya (F5.o.gr (G7.o.trans q2)) (((G7.o.trans q2).use.1 _ _ lZ).trans xb.o) (U13 lZ (G7.o.trans q2).size))
    n d ⟨wt.toArray⟩ a b (1,0) zv hm Ya X' (by rw[iD];exact gM) DG
   have ky:=U10 mO;have DN:=U10 DM;have OE:=U10 gM;clear mO DM gM Bb g7 e0 e1 ef el Fg DL;obtain⟨e0,e1,ef,el⟩:=F5.o.gr G7.o;have nY:=(G7.o.use.1 _ _ lZ).trans xb.o;obtain⟨y0,y1,yf,yl⟩:=cg;go_wp2_with fail;refine ky.o.mono ?_;clear ky;cases X' with
   |non=>exact absurd rfl DG
   |bad c q =>
    rintro e w8 ⟨⟨n2,d2,he⟩,dJ,ac,aX,dX,jG⟩;subst he;refine Z194 ?_;intro oP EO iQ k0 k1 kf kl jm;have DO:w.heap.size<=b6:=by have:=HG.o.size;omega
    have pO:=oP.set c q;have pP:St (FV own) (FV ac) w _:=(((((HG.o.st).trans bG.o).gr G7.o).trans aX).setCell (p:=b6) (.inr DO) c).setCell (p:=⟨b6,1,none⟩) (.inr DO) q;have vE:∀k,k≠b6->((w8.setCell b6 c).setCell ⟨b6,1,none⟩ q).heap[k]?=w8.heap[k]?:=λ k hk=>by rw[U15 _ _ _ _ hk,U15 _ _ _ _ hk]
    have z8:((w8.setCell b6 c).setCell ⟨b6,1,none⟩ q).heap.size=w8.heap.size:=by simp[World.setCell]
    clear y0 y1 yf yl e0 e1 ef el nY;go_wp2_with fail;obtain⟨W8,mL⟩:=ExZ ((w8.setCell b6 c).setCell ⟨b6,1,none⟩ q)
    rw[mL]at pO pP vE z8⊢;clear mL k0 k1 kf kl;refine Z166 ?_;intro W9 Ao Ap Aq g9 ss z9;refine (O21 c q Ya W9).mono ?_;rintro e cH ⟨rfl,fS⟩;have DP:=Ao.gr fS;have Bc:=Aq.gr fS;have u':=Ap.gr fS;have Kn:cH.cell? ⟨R,2,none⟩=some (.string s):=by
     have DQ:R<w8.heap.size:=U13 (bO.o.gr G7.o).v.R_lt.2 aX.size;have Kr:R≠b6:=λ e=>by have h1:=bO.o.v.oR;rw[e,z6]at h1;omega
     exact ((g9.trans fS).use.1 _ _ Ya).trans ((U1r (w:=w8) (a:=⟨R,2,none⟩) (vE R Kr)).trans dX)
    obtain⟨v0,v1,vf,vl⟩:=id DP;obtain⟨r0,r1,rf,rl⟩:=id Bc;go_wp2_with fail;have hF:=Bc.set c q;have sF:St (FV own) (FV ac) w _:=(u'.setCell (p:=⟨w+1+1,0,none⟩) (.inr Yj) c).setCell (p:=⟨w+1+1,1,none⟩) (.inr Yj) q;have aF:((cH.setCell (w.heap.size+1+1:Nat) c).setCell ⟨w+1+1,1,none⟩ q).cell? ⟨R,2,none⟩=some (.string s):=by
     refine Z88 ?_;exact Kn
    obtain⟨WF,ao⟩:=ExZ (((cH.setCell (w.heap.size+1+1:Nat) c).setCell ⟨w+1+1,1,none⟩ q))
    rw[ao]at hF sF aF;rw[ao];clear ao;obtain⟨q0,q1,qf,ql⟩:=hF;have ae:=DN.o
    try simp only at ae
    rw[<-ae];refine U11 (v:=fv c q) (by simp[results,results88,go_sem,q0,q1,qf,ql]) rfl ⟨rfl,dJ,ac,sF,aF,λ k hk=>?_⟩;refine Z208 ?_;intro ls;rcases jG k hk with h|h
    exact (kb.o k h).imp id (λ h=>by have:=HG.o.size;omega)
    exact .inr (by have:=HG.o.size;omega)
   |ok r2 =>
    obtain⟨n2,d2,g2⟩:=r2;rintro e w8 ⟨he,io,L2,ac,cx,aX,jG⟩;subst he;refine Z194 ?_;intro oP EO iQ k0 k1 kf kl jm;have DO:w.heap.size<=b6:=by have:=HG.o.size;omega
    have pO:=oP.set (0:Int) (0:Int);have pP:St (FV own) (FV ac) w _:=(((((HG.o.st).trans bG.o).gr G7.o).trans aX).setCell (p:=b6) (.inr DO) (0:Int)).setCell (p:=⟨b6,1,none⟩) (.inr DO) (0:Int);have vE:∀k,k≠b6->((w8.setCell b6 (0:Int)).setCell ⟨b6,1,none⟩ (0:Int)).heap[k]?=w8.heap[k]?:=λ k hk=>by rw[U15 _ _ _ _ hk,U15 _ _ _ _ hk]
    have z8:((w8.setCell b6 (0:Int)).setCell ⟨b6,1,none⟩ (0:Int)).heap.size=w8.heap.size:=by simp[World.setCell]
    clear y0 y1 yf yl e0 e1 ef el nY;go_wp2_with fail;obtain⟨W8,mL⟩:=ExZ ((w8.setCell b6 (0:Int)).setCell ⟨b6,1,none⟩ (0:Int))
    rw[mL]at pO pP vE z8⊢;clear mL k0 k1 kf kl;refine Z166 ?_;intro W9 Ao Ap Aq g9 ss z9;refine (O1n W9).mono ?_;rintro e cH ⟨rfl,fS⟩;have bR:=O7h OE.o (λ i n' d' e=>by
     split at e;cases e;omega
     cases e) (by rw[<-bO.o.nd,U1j];exact zv)
    have DR:Oi g2.srt n2:=Odn OE.o Yd (λ i n' d' e=>by
     split at e
     rename_i h2
     cases e;unfold Oi;have h3:(Vd g' i).1=2:=h2;unfold Vd at h3;rw[h3];decide
     cases e) (by rw[<-bO.o.nd,U1j];exact bO.o.v.sl)
    have o6:ac b6=0:=U1g λ hk=>(jG b6 hk).elim (λ h=>h z6) (λ h=>by have h1:=(F6.o.gr G7.o).2.2.2;omega)
    have rL:=(((cx.v.kept (w':=W8) (λ k hk=>vE k (λ e=>hk (by rw[e];exact o6))) (U41 z8.symm)).gr g9).gr fS)
    have vI:g2.srt.length<=20000001:=by have h1:=bR.1;rw[<-cx.nd,U1j]at h1;rw[cx.v.sl];exact h1
    have oU:=DR.lt;have vc:=ss.gr fS;have DP:=Ao.gr fS;have Bc:=Aq.gr fS;have x8:¬FV own' w.heap.size:=λ e=>(kb.o _ e).elim (λ h=>by have:=(H.o.v.lt _ h).2;omega) (λ h=>by have:=HZ.o;omega)
    have DS:=U13 lZ G7.o.size;have lc:w8.cell? w=some (.pointer (some ⟨R,0,none⟩)):=((aX.use w.heap.size DS x8).1 0).trans ((G7.o.use.1 _ _ lZ).trans xb.o);have Su:w.heap.size<w8.heap.size:=U13 DS aX.size;have zM:cH.cell? w=some (.pointer (some ⟨R,0,none⟩)):=((g9.trans fS).use.1 _ _ Ya).trans ((U1r (w:=w8) (a:=w) (vE w.heap.size (by have:=HG.o.size;have:=HZ.o;omega))).trans lc);have u':=(Ap.gr fS).drew;obtain⟨⟨c0,c1,c2,c3,c4,c5,c6⟩,c7,c8,fz⟩:=rL.cells;have hS:TbS R B w.heap.size w8.heap.size n2 cH.drew:=⟨zM,c3,vc.1⟩
    obtain⟨D,vZ,sJ⟩:=rL.map;have jM:cH.drew.ownsMap prog 3 sortR B (g2.srt.length+x.many) D:=Oe vZ rfl;obtain⟨w3,zh,tU,dp⟩:=jM.update (Maps.int_keyed underlying3) underlying65 Yk (key:=.int .i64 (n2:Int)) (kl:=.int .i64 (n2:Int)) (U4d underlying3 (by simp[Lit.wf,IntKind.min,IntKind.max,IntKind.signed,IntKind.bits];omega)) (O7f (1,0));have wQ:=rL.drew.sectioned n2 DR sJ tU dp n2 d2;have mI:FV own B:=by unfold FV;rw[H.o.v.oB];omega
    have ex:FV own R:=by unfold FV;rw[H.o.v.oR];omega
    have OF:=u'.grown dp (λ k e=>by cases e;exact .inl mI);have aV:∀k,k<cH.heap.size->k≠B->w3.heap[k]?=cH.heap[k]?:=λ k hk a8=>dp.block k hk (λ e=>a8 (U2m e))
    have iW:cH.heap.size<=w3.heap.size:=dp.size;have vO:R≠B:=λ e=>by have h1:=H.o.v.oR;rw[e,H.o.v.oB]at h1;omega
    have VH:B<w.heap.size:=H.o.v.B_lt.2;have rM:R<cH.heap.size:=rL.R_lt.2;have DT:∀k,k<cH.heap.size->k≠B->∀o,w3.cell? ⟨k,o,none⟩=cH.cell? ⟨k,o,none⟩:=λ k hk a8 o=>U1r (w:=cH) (a:=⟨k,o,none⟩) (aV k hk a8)
    have OG:∀k,k<cH.heap.size->k≠B->∀o,w3.frozen? ⟨k,o,none⟩=cH.frozen? ⟨k,o,none⟩:=λ k hk a8 o=>U33 (w:=cH) (a:=⟨k,o,none⟩) (aV k hk a8)
    have j4:=(DT R rM vO 4).trans c4;have j5:=(DT R rM vO 5).trans c5;have j6:=(DT R rM vO 6).trans c6;have jf:∀o,w3.frozen? ⟨R,o,none⟩=false:=λ o=>(OG R rM vO o).trans (fz o)
    have Sv:=(DT w.heap.size (by have:=g9.size;have:=fS.size;omega) Ya 0).trans zM;have Sw:=vc.of_block (aV _ vc.2.2.2 Ya) iW;have f63:=DP.of_block (aV _ DP.2.2.2 Ya) iW;have OH:=Bc.of_block (aV _ Bc.2.2.2 Ya) iW;refine Z241 ?_;intro wm;have Ks:=U10 wQ;have Kt:=U10 OF;have DU:=U10 cx;have Ku:=U10 jG;have Sx:=U10 OH;have Sy:R<w3.heap.size:=U13 rM iW;have Sz:w.heap.size<w3.heap.size:=by have:=g9.size;have:=fS.size;omega
    rw[show O20 (1,0)=.agg #[.int .u8 1,(0:Int)] from rfl]at zh;clear wQ OF cx jG aX u' rL vZ sJ jM tU dp DT OG c0 c1 c2 c3 c4 c5 c6 c7 c8 fz zM lc Bc DP vc ss Ao Aq Ap pP pO oP iQ vE
    go_upto_region 7 with fail
    refine Reg.begin' (W:=λ i=>i != 7) (S:=TbS R B w.heap.size w8.heap.size n2) Yc ?_;refine Reg.tl 0 hS ?_ (hy:=by intro w ab;obtain⟨s1,s2,s3⟩:=ab;go_simp;try with_reducible rfl);refine Reg.ty 1 ?_;refine Reg.ty 2 ?_;refine Reg.tl 3 hS ?_ (hy:=by intro w ab;obtain⟨s1,s2,s3⟩:=ab;go_simp;try with_reducible rfl);refine Reg.ty 4 ?_;refine Reg.tl 5 hS ?_ (hy:=by intro w ab;obtain⟨s1,s2,s3⟩:=ab;go_simp;try with_reducible rfl);refine Reg.ty 6 ?_;refine Reg.on 7 ?_;refine Z298 ?_;obtain⟨t0,t1,tf,tl⟩:=Sw;obtain⟨v0,v1,vf,vl⟩:=f63;obtain⟨r0,r1,rf,rl⟩:=OH;go_wp2_with fail;obtain⟨W4,j9⟩:=ExZ (((w3.setCell ⟨R,4,none⟩ n2).setCell ⟨R,5,none⟩ d2).setCell ⟨R,6,none⟩ (.int .i64 ((x.many:Int)+1)))
    have Kv:GrV W4 R B base s 0 io L2 ac (g2.srt.set n2 (1,0)) { x with sec:=n2,dep:=d2,many:=x.many+1 }:=by rw[<-j9];exact Ks.o
    have zN:R≠w.heap.size+1+1:=Ya;have G6:FX (w.heap.size+1+1) (0:Int) (0:Int) W4:=by rw[<-j9];exact ((Sx.o.other zN _).other zN _).other zN _
    have zE:St (FV own) (FV ac) w W4:=by rw[<-j9];exact ((Kt.o.setCell (p:=⟨R,4,none⟩) (.inl ex) _).setCell (p:=⟨R,5,none⟩) (.inl ex) _).setCell (p:=⟨R,6,none⟩) (.inl ex) _
    rw[j9];clear j9;have hF:=G6.set (0:Int) (0:Int);have sF:St (FV own) (FV ac) w _:=(zE.setCell (p:=⟨w+1+1,0,none⟩) (.inr Yj) (0:Int)).setCell (p:=⟨w+1+1,1,none⟩) (.inr Yj) (0:Int);have bF:∀k,k≠w.heap.size+1+1->((W4.setCell (w.heap.size+1+1:Nat) (0:Int)).setCell ⟨w+1+1,1,none⟩ (0:Int)).heap[k]?=W4.heap[k]?:=λ k hk=>by rw[U15 _ _ _ _ hk,U15 _ _ _ _ hk]
    have zF:((W4.setCell (w.heap.size+1+1:Nat) (0:Int)).setCell ⟨w+1+1,1,none⟩ (0:Int)).heap.size=W4.heap.size:=by simp[World.setCell]
    obtain⟨WF,ao⟩:=ExZ (((W4.setCell (w.heap.size+1+1:Nat) (0:Int)).setCell ⟨w+1+1,1,none⟩ (0:Int)))
    rw[ao]at hF sF bF zF;rw[ao];clear ao;refine Z208 ?_;intro ls;have OI:∀k,ac k≠0->own k≠0\/W.heap.size<=k:=λ k hk=>by
     rcases Ku.o k hk with h|h
     exact kb.o k h
     exact .inr Ya
    have JB:ac (w.heap.size+1+1)=0:=U1g λ hk=>(OI _ hk).elim (λ h=>by have:=(H.o.v.lt _ h).2;omega) (λ h=>by have:=HZ.o;omega)
    have SA:=Kv.kept (w':=WF) (λ k hk=>bF k (λ e=>hk (by rw[e];exact JB))) (U41 zF.symm);have ae:=DN.o
    try simp only at ae
    rw[<-ae];obtain⟨q0,q1,qf,ql⟩:=hF;exact U11 (v:=f0) (by simp[results,results88,go_sem,q0,q1,qf,ql]) rfl ⟨rfl,io,L2,ac,{ x with sec:=n2,dep:=d2,many:=x.many+1 },rfl,rfl,⟨SA,DU.o.nd,rfl,rfl,by show x.many+1=g2.many+1;rw[DU.o.many]⟩,sF,λ k hk=>(OI k hk).imp id (λ h=>by have:=HG.o.size;omega)⟩
structure V9v(z R:Nat)(k1 k2:Value)(sec dep many:Nat)(w:World):Prop where
 k:FX z k1 k2 w
 c4:w.cell? ⟨R,4,none⟩=some (.int .i64 sec)
 c5:w.cell? ⟨R,5,none⟩=some (.int .i64 dep)
 c6:w.cell? ⟨R,6,none⟩=some (.int .i64 many)
 rl:R<w.heap.size
theorem V9v.gr{z R:Nat}{k1 k2:Value}{sec dep many:Nat}{w w':World}(h:V9v z R k1 k2 sec dep many w)(g:Gr w w'):V9v z R k1 k2 sec dep many w' :=
 ⟨h.k.gr g,(g.use.1 _ _ h.rl).trans h.c4,(g.use.1 _ _ h.rl).trans h.c5,(g.use.1 _ _ h.rl).trans h.c6,U13 h.rl g.size⟩
theorem Onm(w:World)(R B base:Nat)(s:ByteArray)(nv:Value)(L:List Vy)(own:Nat->Nat)(x:GrX)(g:Vb)(h:GM w R B base s nv L own x g)(kK:g.dep<=100000000)(hL:L.length<=20000001)(hm:x.many<=30000000)(gk gs ck cs:Nat)(ws:List Pl.KW)(la:Nat)(eY:ws.length=la+1)(en:la<=30000000)(ey:gk<w.heap.size)(cM:gs<w.heap.size)(dB:own gk=0)(fT:own gs=0)(aE:∀(j:Nat)(t:Pl.Bs)(a b:Nat),ws[j]?=some (t,a,b)->w.cell? ⟨gk,j,none⟩=some (V2s t)/\w.cell? ⟨gs,j*2,none⟩=some (.int .i64 a)/\w.cell? ⟨gs,j*2+1,none⟩=some (.int .i64 b))(X:V9 (Nat×Nat×Vb))(hX:V2w g ws=X)(a8:X≠.non):Calls prog 89 #[.pointer (some ⟨R,0,none⟩),.agg #[.slice gk ws.length ck,.slice gs ws.length cs]] w (O44 w R B base s own x X):=by
 have H:=U10 h;have HX:=U10 hX;have mg:=U10 aE;clear h hX aE;have fN:=U10 eY;clear eY;go_enter func89,ntmps89
 go_upto_region 1 with fail
 obtain⟨W,hW⟩:=ExZ (((w.alloc (.cells #[.slice gk ws.length ck,.slice gs ws.length cs] 42)).alloc (.cells #[(0:Int),(0:Int)] 67)).alloc (.cells #[(0:Int),(0:Int)] 29))
 obtain⟨bj,jp,OJ,gW,hz⟩:V9v w.heap.size R (.slice gk ws.length ck) (.slice gs ws.length cs) g.sec g.dep g.many W/\FX (w.heap.size+1) (0:Int) (0:Int) W/\FX (w.heap.size+1+1) (0:Int) (0:Int) W/\Gr w W/\W.heap.size=w.heap.size+1+1+1:=by
  refine Z196 ?_;intro f1 g1 z1 w1 h1;rw[h1]at hW f1 g1 z1;obtain⟨f2,g2,z2⟩:=bx2 w1 (0:Int) (0:Int) 67;obtain⟨w2,h2⟩:=ExZ (w1.alloc (.cells #[(0:Int),(0:Int)] 67))
  rw[h2]at hW f2 g2 z2;refine Z127 ?_;intro f3 g3 z3;rw[hW]at f3 g3 z3;rw[z1]at f2 z2;rw[z2]at f3 z3;have hR:=H.o.v.R_lt;obtain⟨⟨c0,c1,c2,c3,c4,c5,c6⟩,_⟩:=H.o.v.cells;have gg:=g1.trans (g2.trans g3);rw[H.o.sec]at c4;rw[H.o.dep]at c5;rw[H.o.many]at c6;exact⟨⟨f1.gr (g2.trans g3),(gg.use.1 _ _ hR.2).trans c4,(gg.use.1 _ _ hR.2).trans c5,(gg.use.1 _ _ hR.2).trans c6,Ya⟩,f2.gr g3,f3,gg,z3⟩
 rw[hW];clear hW;have eu:=U10 bj;have sN:=U10 jp;have we:=U10 OJ;have HG:=U10 gW;clear bj jp OJ gW;obtain⟨Y,hY⟩:=ExZ (V24 (3,g.many) V27 ws.dropLast g.sec g.dep g)
 have HY:=U10 hY;have bP:Y≠.non:=λ e=>by
  have:=HX.o;unfold V2w at this;rw[HY.o,e]at this;exact a8 this.symm
 clear hY;have jk:=U10 (λ V (q:Gr w V)=>Ocq V R B base s nv L own x g (H.o.gr q) g.sec g.dep (3,g.many) hL hm kK gk gs ck cs ws la fN.o en (U13 ey q.size) (U13 cM q.size) dB fT
  (λ j t a b hj=>⟨(q.use.1 _ _ ey).trans (mg.o j t a b hj).1,(q.use.1 _ _ cM).trans (mg.o j t a b hj).2.1,(q.use.1 _ _ cM).trans (mg.o j t a b hj).2.2⟩) Y HY.o bP)
 refine Z211 ?_;intro a9 HZ;clear hz
 go_cut [6,7] (λ s5 s6 W'=>Vat W R B base s own x Y s5 s6 W')
 case first =>
  have hS:=eu.o.gr (Gr.refl W).drew;refine Reg.begin' (W:=λ i=>i != 13&&i != 19&&i != 20) (S:=V9v w.heap.size R (.slice gk ws.length ck) (.slice gs ws.length cs) g.sec g.dep g.many) Yc ?_;refine Z32 ?_;refine Reg.ty 3 ?_;refine Reg.tl 4 hS ?_ (hy:=by intro w ab;obtain⟨⟨s2,s3,s4,s5⟩,s6,s7,s8,s9⟩:=ab;go_simp;try with_reducible rfl);refine Reg.tl 5 hS ?_ (hy:=by intro w ab;obtain⟨⟨s2,s3,s4,s5⟩,s6,s7,s8,s9⟩:=ab;go_simp;try with_reducible rfl);refine Reg.ty 6 ?_;refine Reg.ty 7 ?_;refine Reg.ty 8 ?_;refine Reg.tl 9 hS ?_ (hy:=by intro w ab;obtain⟨⟨s2,s3,s4,s5⟩,s6,s7,s8,s9⟩:=ab;go_simp;try with_reducible rfl);refine Z61 ?_;refine Reg.ty 12 ?_;refine Reg.all (rs:=[13,17,18]) Yc Yb ?_;refine Z14 ?_;intro j hj;rcases hj with rfl|rfl|rfl
  skip;refine Reg.one (i:=13) rfl Yi ?_;refine Z295 ?_;rintro e w2 aq;obtain⟨n,d,c,q,rfl,ac,aa⟩:=aq.open bP;dsimp only;refine Z74 ?_;refine Reg.all (rs:=[17,18]) Yc Yb ?_;refine Z14 ?_;intro j hj;rcases hj with rfl|rfl
  skip;refine Reg.one (i:=17) rfl Yi ?_;refine Z7 ?_;refine Reg.on 18 ?_;refine Z7 ?_;refine Z39 ?_;exact J189
  skip;refine Reg.one (i:=18) rfl Yi ?_;refine Z7 ?_;refine Reg.on 17 ?_;refine Z7 ?_;refine Z38 ?_;exact J189
  skip;refine Reg.one (i:=17) rfl Yi ?_;refine Z73 ?_;refine Reg.all (rs:=[13,18]) Yc Yb ?_;refine Z14 ?_;intro j hj;rcases hj with rfl|rfl
  skip;refine Reg.one (i:=13) rfl Yi ?_;refine Z147 ?_;rintro e w2 aq;obtain⟨n,d,c,q,rfl,ac,aa⟩:=aq.open bP;dsimp only;refine Z74 ?_;refine Reg.on 18 ?_;refine Z7 ?_;refine Z31 ?_;intro hv fa ga za pC sj W3 r0 r1 rf rl k0 k1 kf kl f5 f6 gb;refine Z318 ?_;exact J91
  skip;refine Reg.one (i:=18) rfl Yi ?_;refine Z54 ?_;refine Reg.on 13 ?_;refine Z94 ?_;rintro e w2 aq;obtain⟨n,d,c,q,rfl,ac,aa⟩:=aq.open bP;dsimp only;refine Z74 ?_;refine Z29 ?_;intro hv fa ga za gb f5 f6 r0 r1 rf rl k0 k1 kf kl fb zb;refine Z318 ?_;exact J90
  skip;refine Reg.one (i:=18) rfl Yi ?_;refine Z72 ?_;refine Reg.all (rs:=[13,17]) Yc Yb ?_;refine Z14 ?_;intro j hj;rcases hj with rfl|rfl
  skip;refine Reg.one (i:=13) rfl Yi ?_;refine Z146 ?_;rintro e w2 aq;obtain⟨n,d,c,q,rfl,ac,aa⟩:=aq.open bP;dsimp only;refine Z74 ?_;refine Reg.on 17 ?_;refine Z7 ?_;refine Z30 ?_;intro hv fa ga za pC sj W3 r0 r1 rf rl k0 k1 kf kl f5 f6 gb;refine Z318 ?_;exact J89
  skip;refine Reg.one (i:=17) rfl Yi ?_;refine Z53 ?_;refine Reg.on 13 ?_;refine Z93 ?_;rintro e w2 aq;obtain⟨n,d,c,q,rfl,ac,aa⟩:=aq.open bP;dsimp only;refine Z74 ?_;refine Z28 ?_;intro hv fa ga za gb f6 f5 r0 r1 rf rl k0 k1 kf kl fb zb;refine Z318 ?_;exact J88
 case rest =>
  obtain⟨b5,b6,rfl,rfl,x9,h5,h6,rK⟩:=hcut;have ae:=HX.o;unfold V2w at ae;rw[HY.o]at ae;have pF:=H.o.v.R_lt;have hz:=HZ.o;cases Y with
  |non=>exact absurd rfl bP
  |bad c p =>
   simp only at ae;obtain⟨⟨n,d,f5⟩,f6,dJ,ac,st2,dX,kS⟩:=rK;have bT:∀k,w.heap.size<=k->¬FV own k:=λ k h1 e=>by have:=(H.o.v.lt k e).2;omega
   have DV:=sN.o.st st2 (bT _ Ya);have mI:=we.o.st st2 (bT _ Ya);obtain⟨k0,k1,kf,kl⟩:=id f6;have SB:=U10 DV;have JO:=U10 mI;have F5:=U10 f5;have F6:=U10 f6;have dZ:=U10 st2;clear DV mI f5 f6;go_wp2_with fail;refine (O21 c p Ya wc).mono ?_;rintro e w5 ⟨rfl,g5⟩;have xH:=F5.o.gr g5;have vq:=F6.o.gr g5;have hA:=SB.o.gr g5;have hB:=JO.o.gr g5;have sX:=((HG.o.st).trans dZ.o).gr g5;clear k0 k1 kf kl
   go_upto_region 3 with fail
   have hS:FX b5 n d w5.drew/\FX b6 c p w5.drew:=⟨xH.gr (Gr.refl w5).drew,vq.gr (Gr.refl w5).drew⟩
   obtain⟨r0,r1,rf,rl⟩:=id hA;obtain⟨sy,sA,sB,sC⟩:=id hB;refine Reg.begin' (W:=λ i=>i != 3) (S:=λ W=>FX b5 n d W/\FX b6 c p W) Yc ?_;refine Z80 ?_;refine Z37 ?_;refine Z191 ?_;refine Z2 ?_;refine Z12 ?_;go_wp2_with fail;have cD:=V63 hA hB Ya sX Ya Ya n d c p;obtain⟨WF,ao⟩:=ExZ (((((w5.setCell (w.heap.size+1:Nat) n).setCell ⟨w+1,1,none⟩ d).setCell (w.heap.size+1+1:Nat) c).setCell ⟨w+1+1,1,none⟩ p))
   rw[ao]at cD;rw[ao];obtain⟨ES,gO,sF,bF,zF⟩:=cD;clear ao;refine Z258 ?_;intro q0 q1 qf ql y0 y1 yf yl;rw[<-ae];refine U11 (v:=.tuple #[.agg #[n,d],fv c p]) (by simp[results,results89,go_sem,q0,q1,qf,ql,y0,y1,yf,yl]) rfl ⟨⟨n,d,rfl⟩,dJ,ac,sF.drew,?_,λ k hk=>(kS k hk).imp id (λ h=>by have:=HG.o.size;omega)⟩;exact (U1r (w:=w5) (a:=⟨R,2,none⟩) (bF R Ya Ya)).trans ((g5.use.1 _ _ (U13 eu.o.rl dZ.o.size)).trans dX)
  |ok r =>
   obtain⟨n,d,g'⟩:=r;simp only at ae;obtain⟨f5,f6,nv',L',own',z5,z6,cE,aa,mn⟩:=rK;have bz:∀k,w.heap.size<=k->k<W.heap.size->¬FV own k:=λ k h1 h2 e=>by have:=(H.o.v.lt k e).2;omega
   have hE:=sN.o.st aa (bz _ Ya Ya);have iQ:=we.o.st aa (bz _ Ya Ya);have xa:=eu.o.k.st aa (bz _ Ya Ya);have HE:=U10 hE;have SC:=U10 iQ;have DK:=U10 xa;refine Z132 ?_;intro F5 F6 bG bO kb k0 k1 kf kl wt a b eT;have aW:ws.getLast?=some (wt,a,b):=by rw[U3i,fN.o];exact eT
   rw[aW]at ae;simp only at ae;have bY:=U10 ae;have GF:=U10 eT;clear hE iQ xa f5 f6 aa cE mn eT aW ae bz;go_wp2_with fail;refine (O1n wc).mono ?_;rintro e w5 ⟨rfl,g5⟩;obtain⟨x0,x1,xf,xl⟩:=DK.o.gr g5;clear k0 k1 kf kl;go_wp2_with fail;have ji:=U13 ey HG.o.size;have jj:=U13 cM HG.o.size;have V3e:∀o,w5.cell? ⟨gk,o,none⟩=w.cell? ⟨gk,o,none⟩:=λ o=>(g5.use.1 _ _ (U13 ji bG.o.size)).trans (((bG.o.use gk ji (λ e=>e dB)).1 _).trans (HG.o.use.1 _ _ ey))
   have xI:∀o,w5.cell? ⟨gs,o,none⟩=w.cell? ⟨gs,o,none⟩:=λ o=>(g5.use.1 _ _ (U13 jj bG.o.size)).trans (((bG.o.use gs jj (λ e=>e fT)).1 _).trans (HG.o.use.1 _ _ cM))
   refine Z64 ?_;intro r1 r2 r3 w6 g6 fZ cP;have Bx:=U10 fZ;clear x0 x1 xf xl V3e xI r1 r2 r3 cP g5 g6 fZ;obtain⟨XS,oo⟩:=ExZ (V1a g'.nds n wt)
   have ae:=bY.o;rw[oo]at ae;have kQ:XS≠.non:=λ e=>by rw[e]at ae;exact a8 ae.symm
   refine Z140 ?_;intro W7 pL G7 cg g7 z7;have gj:=U10 (bO.o.gr G7.o);have lX:=U10 (Ock W7 R B base s 0 nv' L' own' g'.srt x gj.o.v n ⟨wt.toArray⟩ XS (by rw[bO.o.nd,show bs (⟨wt.toArray⟩:ByteArray)=wt by simp[bs]];exact oo) kQ);have G8:=U10 cg;obtain⟨e0,e1,ef,el⟩:=F5.o.gr G7.o;obtain⟨y0,y1,yf,yl⟩:=cg;clear oo;go_wp2_with fail;refine lX.o.mono ?_;refine Z48 ?_;clear lX e0 e1 ef el y0 y1 yf yl;have xH:=F5.o.gr G7.o;have vq:=F6.o.gr G7.o;have hA:=HE.o.gr G7.o;have hB:=SC.o.gr G7.o;have OK:=G8.o;have sX:=(((HG.o.st).trans bG.o).gr G7.o)
   have NE:own' (w.heap.size+1)=0:=U1g λ h=>(kb.o _ h).elim (λ h=>by have:=(H.o.v.lt _ h).2;omega) (λ h=>by omega)
   have BT:own' (w.heap.size+1+1)=0:=U1g λ h=>(kb.o _ h).elim (λ h=>by have:=(H.o.v.lt _ h).2;omega) (λ h=>by omega)
   have JY:=HG.o.size;refine Z208 ?_;intro ls;have SD:w6.heap.size≠w.heap.size+1/\w6.heap.size≠w.heap.size+1+1:=by have:=bG.o.size;have:=Bx.o.size;omega
   cases XS with
   |non=>exact absurd rfl kQ
   |yes i =>
    have s0:((i:Int) != -1)=true:=Yb
    simp only at ae;dsimp only [O2t]
    go_upto_region 6 with fail
    have hS:FX b5 n d W7.drew/\FX w6 a b W7.drew:=⟨xH.gr (Gr.refl W7).drew,OK.gr (Gr.refl W7).drew⟩
    obtain⟨r0,r1,rf,rl⟩:=id hA;obtain⟨sy,sA,sB,sC⟩:=id hB;refine Reg.begin' (W:=λ i=>i != 5) (S:=λ W=>FX b5 n d W/\FX w6 a b W) Yc ?_;refine Z324 ?_;refine Reg.ty 1 ?_;refine Reg.tl 2 hS ?_ (hy:=by intro w ab;obtain⟨⟨s0,s1,sf,sl⟩,⟨s2,s3,Ma,Mb⟩⟩:=ab;go_simp;try with_reducible rfl);refine Reg.ty 3 ?_;have Kw:=OK;clear vq;have vq:=Kw;refine Reg.on 4 ?_;refine Z37 ?_;refine Reg.on 5 ?_;refine Z298 ?_;go_wp2_with fail;have cD:=V63 hA hB Ya sX Ya Ya n d (5:Int) a;obtain⟨WF,ao⟩:=ExZ (((((W7.setCell (w.heap.size+1:Nat) n).setCell ⟨w+1,1,none⟩ d).setCell (w.heap.size+1+1:Nat) (5:Int)).setCell ⟨w+1+1,1,none⟩ a))
    rw[ao]at cD;rw[ao];obtain⟨ES,gO,sF,bF,zF⟩:=cD;clear ao;refine Z258 ?_;intro q0 q1 qf ql y0 y1 yf yl;rw[<-ae];refine U11 (v:=.tuple #[.agg #[n,d],fv 5 a]) (by simp[results,results89,go_sem,q0,q1,qf,ql,y0,y1,yf,yl]) rfl ⟨⟨n,d,rfl⟩,Yd,own',sF.drew,?_,λ k hk=>(kb.o k hk).imp id (λ h=>by omega)⟩;exact (U1r (w:=W7) (a:=⟨R,2,none⟩) (bF R Ya Ya)).trans gj.o.v.cells.1.2.2.1
   |no =>
    have s0:((-1:Int) != -1)=false:=Yb
    simp only at ae;dsimp only [O2t]
    go_upto_region 7 with fail
    have hS:FX b5 n d W7.drew/\FX b6 (0:Int) (0:Int) W7.drew:=⟨xH.gr (Gr.refl W7).drew,vq.gr (Gr.refl W7).drew⟩
    obtain⟨r0,r1,rf,rl⟩:=id hA;obtain⟨sy,sA,sB,sC⟩:=id hB;refine Reg.begin' (W:=λ i=>i != 3) (S:=λ W=>FX b5 n d W/\FX b6 (0:Int) (0:Int) W) Yc ?_;refine Z80 ?_;refine Z37 ?_;refine Z191 ?_;refine Z2 ?_;refine Z12 ?_;go_wp2_with fail;have cD:=V63 hA hB Ya sX Ya Ya n d (0:Int) (0:Int);obtain⟨WF,ao⟩:=ExZ (((((W7.setCell (w.heap.size+1:Nat) n).setCell ⟨w+1,1,none⟩ d).setCell (w.heap.size+1+1:Nat) (0:Int)).setCell ⟨w+1+1,1,none⟩ (0:Int)))
    rw[ao]at cD;rw[ao];obtain⟨ES,gO,sF,bF,zF⟩:=cD;clear ao;refine Z258 ?_;intro q0 q1 qf ql y0 y1 yf yl;rw[<-ae];have wQ:=(gj.o.v.kept (w':=WF) (λ k hk=>bF k (λ e=>hk (by rw[e];exact NE)) (λ e=>hk (by rw[e];exact BT))) zF).drew;exact U11 (v:=.tuple #[.agg #[n,d],f0]) (by simp[results,results89,go_sem,q0,q1,qf,ql,y0,y1,yf,yl]) rfl ⟨rfl,nv',L',own',⟨wQ,bO.o.nd,bO.o.sec,bO.o.dep,bO.o.many⟩,sF.drew,λ k hk=>(kb.o k hk).imp id (λ h=>by omega)⟩
