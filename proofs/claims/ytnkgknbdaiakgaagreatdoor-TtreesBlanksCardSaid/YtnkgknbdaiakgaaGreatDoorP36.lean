/- The proof's part 36. -/
import Derived.Test.YtnkgknbdaiakgaaGreatDoorP35
set_option maxHeartbeats 16000000
set_option linter.all false
set_option maxRecDepth 100000
namespace Go.Proofs.YtnkgknbdaiakgaaGreatDoor
open Pl Go.Proofs.Tryz Go.RowKit Go.Shelf Go.Joins
attribute [local go_sem] Uy
variable {Tb:Nat->UInt8×UInt8}
structure RW(Tb:Nat->UInt8×UInt8)(w:World):Prop where
 int:V3z w
 q:QW Tb w
theorem RW.gr{w w':World}(h:RW Tb w)(g:Gr w w'):RW Tb w':=⟨h.int.gr g,h.q.gr g⟩
theorem GW.of{w:World}(h:V3z w)(hq:QW Tb w):GW Tb w.heap.size w:=by
 obtain⟨ev,pk,_⟩:=hq.es;obtain⟨m,hm⟩:=h.max;obtain⟨ep,he⟩:=h.err;refine⟨h,hq,Lib.lt_of_cell pk,Lib.lt_of_cell (hq.sh 0 _ rfl),?_,Lib.lt_of_cell hm,Lib.lt_of_cell he,?_⟩
 obtain⟨v0,nG⟩:∃v0,V56[0]?=some v0:=⟨_,rfl⟩
 exact Lib.lt_of_cell (h.rad 0 v0 nG)
 have hp:=h.pow;have lc:prog.globalNamed "internal/strconv.uint64pow10" = some 2:=by kernel_rfl
 unfold Lib.TabIs World.var? at hp;rw[lc]at hp;simp only[Option.bind_some]at hp;exact J37
theorem Oc5{w:World}{base e size n:Nat}{v:Value}{xs:List Value}(h:w.ownsRow base e size v n xs):∃a k,O4 v = .slice a k k:=by
 rcases O15 h with⟨rfl,_⟩|⟨g,cap,rfl,_,_⟩
 exact⟨_,_,rfl⟩
 exact⟨_,_,rfl⟩
theorem O3y{w:World}{base e size n:Nat}{v:Value}{xs:List Value}(h:V26 w base e size v n xs):∃a k,O4 v = .slice a k k:=by
 rcases Or h with⟨rfl,_⟩|⟨g,cap,rfl,_,_⟩
 exact⟨_,_,rfl⟩
 exact⟨_,_,rfl⟩
def O54(g i:Nat)(r:Vw)(w:World):Prop:=w.cell? ⟨g,i*7+2,none⟩=some r.kv/\w.cell? ⟨g,i*7+3,none⟩=some r.sv/\w.cell? ⟨g,i*7+4,none⟩=some r.uv/\(∀o,w.frozen? ⟨g,o,none⟩=false)
theorem FX.other{b:Nat}{x y:Value}{w:World}(h:FX b x y w){b2 o:Nat}(hb:b2≠b)(v:Value):FX b x y (w.setCell ⟨b2,o,none⟩ v):=by
 obtain⟨h0,h1,hf,hl⟩:=h;refine⟨?_,?_,λ o=>by simp[hf],by simpa using hl⟩
 ·rw[Um _ _ _ _ (by first|(simp;done)|(simp;omega))];exact h0
 rw[Um _ _ _ _ (by first|(simp;done)|(simp;omega))];exact h1
theorem V5t.gr{w w7 wr:World}{R base g cap n:Nat}{L:List Vw}(h:V5t w7 R base g cap L n wr)(k:Gr w w7)(hg:w.heap.size<=g):Gr w wr :=
 Below.trans k ⟨h.2.2.2.1,h.2.2.2.2.1,h.2.2.2.2.2,h.2.2.1,λ i hi=>h.2.1 i (U4 hi k.size) (by omega)⟩
theorem V5t.cells{w7 wr:World}{R base g cap n:Nat}{L:List Vw}(h:V5t w7 R base g cap L n wr)(r:Vw)(hr:L[n]?=some r):O54 g n r wr:=by
 have hc:=h.1.cells (g:=g) rfl;have hj:∀j u,j<7->(ndV r)[j]?=some u->wr.cell? ⟨g,n*7+j,none⟩=some u:=by
  intro j u hj hu;have:=hc (n*7+j) u (by rw[O78 _ _ _ hj,Oc2 L n r hr];exact hu)
  rwa [U3b,Uu]at this
 refine⟨hj 2 _ (by omega) rfl,hj 3 _ (by omega) rfl,hj 4 _ (by omega) rfl,λ o=>?_⟩;rcases h.1.2 with⟨e,_⟩|⟨g',pd,cur,e,_,hb,_⟩
 cases e
 cases e;exact unfrozen_of_block hb o
theorem V5t.tree{w7 wr wF:World}{R B base g cap:Nat}{s:ByteArray}{root:Int}{L:List Vw}{own:Nat->Nat}(h:V5t w7 R base g cap L L.length wr)(hr:RdV w7 R B base s root (.slice (some ⟨g,0,none⟩) L.length cap) L own)
    (hb:∀k,own k≠0->own k≠1->wF.heap[k]?=wr.heap[k]?)(hz:wr.heap.size<=wF.heap.size):V2n wF base g (L.map O1a):=by
 have dM:own g=3:=hr.oN g rfl;have aY:=hr.lt g (by omega);have e:(L.take L.length).map O1a++L.drop L.length=L.map O1a:=by simp
 have h1:=h.1;rw[e]at h1;refine⟨⟨aY.1,U4 aY.2 (Uj h.2.2.1 hz)⟩,λ i r hi j v hv=>?_,λ i r hi=>?_,own,dM,λ i r hi=>?_⟩;exact J57
 rw[Uq]at hi;cases hx:L[i]? with
 |none=>rw[hx]at hi;cases hi
 |some x =>
  rw[hx]at hi;cases hi;have hR:=hr.rows i x hx;have hb:∀k t,own k=t->4<=t->wF.heap[k]?=w7.heap[k]?:=λ k t e h4=>(hb k (by omega) (by omega)).trans (h.2.1 k (hr.lt k (by omega)).2 (λ e2=>by subst e2;omega))
  exact⟨O2c (O1 hR.k λ k e=>hb k _ (hR.tk k e) (by omega)),O2c (O1 hR.s λ k e=>hb k _ (hR.ts k e) (by omega)),O36 (hR.u.of_block λ k e=>hb k _ (hR.tu k e) (by omega))⟩
 exact J141
theorem FX.of_block{b:Nat}{x y:Value}{w w':World}(h:FX b x y w)(hb:w'.heap[b]?=w.heap[b]?)(hz:w.heap.size<=w'.heap.size):FX b x y w' :=
 ⟨(Us (w:=w) (a:=⟨b,0,none⟩) hb).trans h.1,(Us (w:=w) (a:=⟨b,1,none⟩) hb).trans h.2.1,λ o=>(U25 (w:=w) (a:=⟨b,o,none⟩) hb).trans (h.2.2.1 o),U4 h.2.2.2 hz⟩
def Van(R F:Nat)(a b:Value)(w:World):Prop:=w.cell? ⟨R,0,none⟩=some a/\w.cell? ⟨R,1,none⟩=some b/\FX F (0:Int) (0:Int) w
theorem Oeh(w:World)(hw:RW Tb w)(s:ByteArray)(hs:s.size<=20000000)(i:Int)(n:Nat)(hi:i=n)(hn:n<=s.size)(j0:Int)(k:Nat)(hk:(min (max j0 0) 256:Int)=k)(X:Va (Nat×Nat×Vc))(hX:V1l ⟨Vj Tb,Vd⟩ (bs s) n k=X)(a8:X ≠ .non) :
    Calls prog 10 #[.string s,i,j0] w (O5z s w X):=by
 subst hi;have Mc:k<=256:=by omega
 unfold V1l at hX;rw[show min k 256+1=k+1 from by omega]at hX;have HX:=U0 hX;have HN:=U0 a8;have HG:=U0 (GW.of hw.int hw.q);have t0:decide ((n:Int)<0)=false:=by simp
 have t1:decide ((s.size:Int)<(n:Int))=false:=by simp;omega
 have t2:decide (s.size<n)=false:=by simp;omega
 have wk:IntKind.i64.wrap ((k:Int)+1)=(k:Int)+1:=Uk _ ⟨by omega,by omega⟩;have PV := @run_makeMap prog;clear hX a8 hw;go_enter func10,ntmps10;go_wp2_with fail;have bL:=RdV.start w ((w.alloc (.cells #[Vn,(0:Int)] 26)).alloc (.cells #[(0:Int),(0:Int)] 29)) s (by simp;omega);simp only[Uv]at bL;obtain⟨W0,aM⟩:=ExZ (((((w.alloc (.cells #[Vn,(0:Int)] 26)).alloc (.cells #[(0:Int),(0:Int)] 29)).alloc (.map #[] 0)).alloc (.cells #[Vn,(0:Int),.string s,.map (some (w.heap.size+1+1))] 80)))
 have et:Gr w W0:=by subst aM;exact ((((Gr.refl w).alloc _).alloc _).alloc _).alloc _
 have Ey:FX w.heap.size Vn (0:Int) W0:=by
  subst aM;exact (((FX.new w Vn (0:Int) _).gr ((Gr.refl _).alloc _)).gr ((Gr.refl _).alloc _)).gr ((Gr.refl _).alloc _)
 have jT:FX (w.heap.size+1) (0:Int) (0:Int) W0:=by
  subst aM;have:=FX.new (w.alloc (.cells #[Vn,(0:Int)] 26)) (0:Int) (0:Int) 29;simp only[Uv]at this;exact (this.gr ((Gr.refl _).alloc _)).gr ((Gr.refl _).alloc _)
 have fE:w.heap.size+4<=W0.heap.size:=by subst aM;simp
 rw[aM]at bL⊢;obtain⟨tM,qC⟩:∃o:Nat->Nat,(λ k=>if k=w.heap.size+1+1+1 then 1 else if k=w.heap.size+1+1 then 2 else 0)=o:=⟨_,rfl⟩
 have aB:∀k,tM k≠0->w.heap.size+2<=k:=by
  subst qC;intro k hk;by_cases h1:k=w.heap.size+1+1+1;omega
  simp only[h1,U1d]at hk;by_cases h2:k=w.heap.size+1+1;omega
  simp only[h2,U1d]at hk;exact absurd rfl hk
 rw[qC]at bL;obtain⟨R,zD⟩:=ExZ (w.heap.size+1+1+1)
 obtain⟨B,Md⟩:=ExZ (w.heap.size+1+1)
 rw[zD]at bL⊢;rw[Md]at bL⊢;have To:w.heap.size+3=R:=by omega
 clear aM qC zD Md;have iF:¬FV tM w.heap.size:=λ h=>by have:=aB _ h;omega
 have mY:¬FV tM (w.heap.size+1):=λ h=>by have:=aB _ h;omega
 refine (show Calls prog 24 #[.pointer (some ⟨R,0,none⟩),.int .i64 (n:Int),.int .i64 ((k:Int)+1)] W0 _ from Ojq ⟨Vj Tb,Vd⟩ rfl rfl s hs R B w.heap.size 0 258 W0 Vn [] tM bL (HG.o.gr et) n (k+1) hn (by omega) X HX.o HN.o).mono ?_;cases X with
 |non=>exact absurd rfl HN.o
 |bad c p =>
  rintro e w1 ⟨rfl,hc,F',a9,x0,x1,x2,x3,nx⟩;have r1:w1.cell? ⟨R,1,none⟩=some x1:=by rw[cell_of_block nx];rfl
  have Ih:∀o,w1.frozen? ⟨R,o,none⟩=false:=λ o=>unfrozen_of_block nx o
  have rI:=Ey.st a9 iF;have dl:=jT.st a9 mY;have tH:=U0 ((dl.other (b2:=R) (o:=1) (by omega) (0:Int)).set c p);have jr:=U0 (((rI.other (b2:=R) (o:=1) (by omega) (0:Int)).other (b2:=w.heap.size+1) (o:=0) (by omega) c).other (b2:=w.heap.size+1) (o:=1) (by omega) p);have qD:Gr w w1:=a9.below et (λ k hk=>by have:=aB k hk;omega);have km:=U0 qD;obtain⟨sX,sY,ff,fl⟩:=dl;have kL:¬(c:Int)=0:=by omega
  have HC:=U0 hc;clear a9 rI nx qD hc bL Ey jT;go_wp2_with fail;refine Z230 ?_;intro w2 g2;obtain⟨u0,u1,uf,ul⟩:=tH.o.gr g2;obtain⟨v0,v1,vf,vl⟩:=jr.o.gr g2;refine Z158 ?_;intro oM;clear g2 sX sY ff fl r1 Ih;have PW:=oM.o;go_wp2_with fail
  go_region
  all_goals go_wp2_with fail
  all_goals exact U1 (v := .tuple #[.agg #[Vn,(0:Int)],(0:Int),fv c p]) (by simp[results,results10,go_sem,u0,u1,uf,ul,v0,v1,vf,vl]) rfl ⟨rfl,HC.o,Gr.auto⟩
 |ok r =>
  obtain⟨i,m,st⟩:=r;rintro e w1 ⟨rfl,hm,hi,jZ,L1,aC,aU,rfl,a9,bB⟩;rw[Ul]at hi;have mj:∀k,aC k≠0->w.heap.size+2<=k:=λ k hk=>by
   rcases bB k hk with e|e
   exact aB k e
   omega
  have H9:¬FV aC w.heap.size:=λ h=>by have:=mj _ h;omega
  have ry:¬FV aC (w.heap.size+1):=λ h=>by have:=mj _ h;omega
  have rI:=Ey.st a9 iF;have dl:=jT.st a9 mY;obtain⟨r0,r1,r2,r3,Ih⟩:=aU.cells;have tH:=U0 ((dl.other (b2:=R) (o:=1) (by omega) i).set (0:Int) (0:Int));have jr:=U0 (((rI.other (b2:=R) (o:=1) (by omega) i).other (b2:=w.heap.size+1) (o:=0) (by omega) (0:Int)).other (b2:=w.heap.size+1) (o:=1) (by omega) (0:Int));have aP:=U0 (((aU.setRoot i).setCell (p:=⟨w.heap.size+1,0,none⟩) ry (0:Int)).setCell (p:=⟨w.heap.size+1,1,none⟩) ry (0:Int));have qD:Gr w w1:=a9.below et (λ k hk=>by have:=aB k hk;omega);have km:=U0 qD;obtain⟨sX,sY,ff,fl⟩:=dl;have Cc:=U0 mj;clear a9 rI qD bB bL Ey jT r0 r2 r3 mj aB aU;go_wp2_with fail;refine Z153 ?_;intro w2 g2;have Ez:=U0 (tH.o.gr g2);have Me:=U0 (jr.o.gr g2);have oD:=aP.o.gr g2;refine Z158 ?_;intro oM;obtain⟨g,cap,cur,rfl,lW,aY,dM,nR,sB,ld,bZ,tN,cE,zJ⟩:=oD.form (by omega);obtain⟨s0,s1,s2,s3,sz⟩:=oD.cells;have k9:V5t w2 R w.heap.size g cap L1 0 w2:=by
   refine⟨?_,λ _ _ _=>rfl,U2 _,rfl,rfl,rfl⟩
   simpa using oD.nodes
  have qE:=U0 k9;have aW:=U0 oD;have lc:w.heap.size+2<=g:=Cc.o g (by omega);have PX:L1.length<=9223372036854775807:=by unfold maxLen at cE;omega
  have qF:=U0 (show L1.length<=cap/\cap<=9223372036854775807 from ⟨tN,by unfold maxLen at cE;omega⟩);clear g2 sX sY ff fl r1 Ih ld bZ zJ k9 oD tH jr aP km tN cE;go_wp2_with fail
  go_loopw [52] (λ v wr=>∃j:Nat,v = .int .i64 j/\j<=L1.length/\V5t w2 R w.heap.size g cap L1 j wr) (λ v _=>L1.length-(intOf v).toNat)
  case atStart=>exact⟨0,rfl,by omega,qE.o⟩
  case round =>
   obtain⟨j,rfl,hj,hcut⟩:=hrel;have dq:=U0 hcut;have EA:R≠g:=U2k nR;have xj:=aW.o.R_lt.2;have nx:=hcut.2.1 R xj EA;have q0:wr.cell? ⟨R,0,none⟩=some (.slice (some ⟨g,0,none⟩) L1.length cap):=(Us (w:=w2) (a:=⟨R,0,none⟩) nx).trans s0;have q1:wr.cell? ⟨R,1,none⟩=some (.int .i64 i):=(Us (w:=w2) (a:=⟨R,1,none⟩) nx).trans s1;have qz:∀o,wr.frozen? ⟨R,o,none⟩=false:=λ o=>(U25 (w:=w2) (a:=⟨R,o,none⟩) nx).trans (sz o)
   clear hcut nx;by_cases vx:j<L1.length
   ·have d1:decide ((j:Int)<(L1.length:Int))=true:=by simp;omega
    have d2:decide (j<L1.length)=true:=by simp;omega
    refine Z291 ?_;intro i1;have i2:(j:Int)<(L1.length:Int):=by omega
    refine Z194 ?_;intro wj;obtain⟨rj,qG⟩:∃rj,L1[j]?=some rj:=⟨_,Uh vx⟩
    have PY:=U0 qG;have is:=U0 (aW.o.rows j rj qG);have hS:O54 g j rj wr.drew:=dq.o.cells rj qG;have cd:=dq.o.step rj qG;obtain⟨ka,kn,Cd⟩:=Oc5 is.o.k;obtain⟨sa,sn,Ce⟩:=Oc5 is.o.s;obtain⟨ua,un,Cf⟩:=O3y is.o.u;have kD:=Oat is.o.k;have yg:=O9a is.o.s;have yh:=O4i is.o.u;rw[Cd]at kD cd;rw[Ce]at yg cd;rw[Cf]at yh cd;have iA:=U0 kD;have KU:=U0 yg;have KV:=U0 yh;have jN:=U0 cd;clear qG cd Cd Ce Cf kD yg yh;go_wp2_with fail;refine Reg.begin' (W:=λ i=>i != 20&&i != 23&&i != 26) (S:=O54 g j rj) (by kernel_rfl) ?_;refine Z301 ?_;obtain⟨p1,p2,p3,pf⟩:=(show O54 g j rj wr from hS)
    exact J169
   have d1:decide ((j:Int)<(L1.length:Int))=false:=by simp;omega
   have d2:decide (j<L1.length)=false:=by simp;omega
   have Ii:j=L1.length:=by omega
   have PZ:w.heap.size≠g:=by omega
   have FS:w.heap.size+1≠g:=by omega
   have P':=U0 (Me.o.of_block (dq.o.2.1 _ Me.o.2.2.2 PZ) dq.o.2.2.1);have Ac:=U0 (Ez.o.of_block (dq.o.2.1 _ Ez.o.2.2.2 FS) dq.o.2.2.1);have Ij:=U0 (dq.o.gr oM.o (by omega));have Q0:R≠w.heap.size:=by omega
   have Q1:R≠w.heap.size+1:=by omega
   go_wp2_with fail;refine (O82 g L1.length cap qF.o.1 qF.o.2 _).mono ?_;refine Z48 ?_;go_wp2_with fail;obtain⟨wS,fA⟩:=ExZ (wr.setCell ⟨R,0,none⟩ (.slice (some ⟨g,0,none⟩) L1.length L1.length))
   have hS:Van R (w.heap.size+1) (.slice (some ⟨g,0,none⟩) L1.length L1.length) i wS.drew:=by
    subst fA;refine⟨?_,?_,Ac.o.other Q1 _⟩;show (wr.setCell ⟨R,0,none⟩ _).cell? _=_;rw[U1u _ _ _ (by rw[q0];rfl)]
    show (wr.setCell ⟨R,0,none⟩ _).cell? _=_;rw[Um _ _ _ _ (by simp)];exact q1
   have Q2:FX w.heap.size Vn (0:Int) wS.drew:=by subst fA;exact P'.o.other Q0 _
   have Ik:Hid (Gr w wS):=by subst fA;exact Ij.o.setCell (p:=⟨R,0,none⟩) (by show w.heap.size<=R;omega) _
   have Il:Hid (∀k,aC k≠0->aC k≠1->wS.drew.heap[k]?=wr.heap[k]?):=by
    subst fA;intro k h0 h1;exact U5 _ _ _ _ (λ e=>by rw[show k=R from e]at h1;exact h1 aW.o.oR)
   have DK:Hid (wr.heap.size<=wS.drew.heap.size):=by subst fA;show wr.heap.size<=(wr.setCell _ _).heap.size;simp[World.setCell]
   rw[fA];clear fA q0 q1 qz;refine Reg.begin' (W:=λ i=>i != 8) (S:=Van R (w.heap.size+1) (.slice (some ⟨g,0,none⟩) L1.length L1.length) i) (by kernel_rfl) ?_;refine Z32 ?_;refine Reg.ty 4 ?_;refine Reg.tl 3 hS ?_ (hy:=by intro w ab;obtain⟨x1,x2,x3,x4,x5,x6⟩:=ab;go_simp;try with_reducible rfl);refine Reg.tl 5 hS ?_ (hy:=by intro w ab;obtain⟨x1,x2,x3,x4,x5,x6⟩:=ab;go_simp;try with_reducible rfl);obtain⟨p1,p2,p3,p4,p5,p6⟩:=(show Van R (w.heap.size+1) (.slice (some ⟨g,0,none⟩) L1.length L1.length) i wS from hS)
   obtain⟨v0,v1,vf,vl⟩:=(show FX w.heap.size Vn (0:Int) wS from Q2)
   refine Reg.on 6 ?_;go_simp;have bj:Van R (w.heap.size+1) (.slice (some ⟨g,0,none⟩) L1.length L1.length) i ((wS.drew.setCell ⟨w.heap.size,0,none⟩ (.slice (some ⟨g,0,none⟩) L1.length L1.length)).setCell ⟨w.heap.size,1,none⟩ i):=by
    refine⟨?_,?_,(hS.2.2.other (by omega) _).other (by omega) _⟩
    ·rw[Um _ _ _ _ (by first|(simp;done)|(simp;omega)),Um _ _ _ _ (by first|(simp;done)|(simp;omega))];exact p1
    rw[Um _ _ _ _ (by first|(simp;done)|(simp;omega)),Um _ _ _ _ (by first|(simp;done)|(simp;omega))];exact p2
   refine Z237 ?_;refine Reg.ty 7 ?_;refine Reg.on 8 ?_;go_simp;refine Z12 ?_;go_wp2_with fail;refine U1 (v := .tuple #[.agg #[.slice (some ⟨g,0,none⟩) L1.length L1.length,i],m,f0]) (by simp[results,results10,go_sem,p3,p4,p5,p6,v0,v1,vf,vl]) rfl ?_;refine⟨g,L1.map O1a,by simp,hm,by simpa using hi,by simp[List.map_map,Function.comp_def,O1a],?_,?_⟩
   have Mf:=dq.o;rw[Ii]at Mf;refine Mf.tree aW.o (λ k h0 h1=>?_) ?_
   have dw:k≠w.heap.size:=λ e=>H9 (by rw[<-e];exact h0)
   have bx:k≠w.heap.size+1:=λ e=>ry (by rw[<-e];exact h0)
   show (World.setCell _ _ _).heap[k]?=_;rw[U5 _ _ _ _ bx,U5 _ _ _ _ bx,U5 _ _ _ _ dw,U5 _ _ _ _ dw];exact Il.o k h0 h1
   have:=DK.o
   simpa [World.setCell]using this
   have bZ:=Ik.o;exact Gr.auto
