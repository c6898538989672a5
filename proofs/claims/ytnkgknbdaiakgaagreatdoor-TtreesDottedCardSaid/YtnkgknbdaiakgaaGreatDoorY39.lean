/- The proof's part 39. -/
import Derived.Test.YtnkgknbdaiakgaaGreatDoorY36
set_option maxHeartbeats 16000000
set_option linter.all false
set_option maxRecDepth 100000
namespace Go.Proofs.YtnkgknbdaiakgaaGreatDoor
open Pl Go.Proofs.Tryz Go.RowKit Go.Shelf Go.Joins
attribute [local go_sem] U28
theorem bx2(w:World)(a b:Value)(T:TypeId):FX w a b (w.alloc (.cells #[a,b] T))/\Gr w (w.alloc (.cells #[a,b] T))/\(w.alloc (.cells #[a,b] T)).heap.size=w.heap.size+1 :=
 ⟨FX.new w _ _ _,(Gr.refl _).alloc _,Yb⟩
structure V7a(z:Nat)(R fo:Nat)(an d:Nat)(k1 k2:Value)(t:Nat×Nat)(w:World):Prop where
 p:FX z an d w
 k:FX (z+1) k1 k2 w
 s:FX (z+1+1) (.int .u8 t.1) t.2 w
 o:w.cell? (z+1+1+1:Nat)=some (.func (.func fo) #[.pointer (some ⟨R,0,none⟩)] #[])
 ol:z+1+1+1<w.heap.size
 r1:FX (z+1+1+1+1) (0:Int) (0:Int) w
 r2:FX (z+1+1+1+1+1) (0:Int) (0:Int) w
 f:FX (z+1+1+1+1+1+1) (0:Int) (0:Int) w
theorem V7a.st{z R fo an d:Nat}{k1 k2:Value}{t:Nat×Nat}{w w':World}{F F':Nat->Prop}(h:V7a z R fo an d k1 k2 t w)(g:St F F' w w')(hF:∀k,z<=k->k<=z+1+1+1+1+1+1->¬F k):V7a z R fo an d k1 k2 t w' :=
 ⟨h.p.st g (hF _ Ya Ya),h.k.st g (hF _ Ya Ya),h.s.st g (hF _ Ya Ya),((g.use (z+1+1+1) h.ol (hF (z+1+1+1) Ya Ya)).1 _).trans h.o,U13 h.ol g.size,
  h.r1.st g (hF _ Ya Ya),h.r2.st g (hF _ Ya Ya),h.f.st g (hF _ Ya Ya)⟩
theorem V7a.stored{z R fo an d Nn d2:Nat}{k1 k2:Value}{t:Nat×Nat}{w w':World}(h:V7a z R fo an d k1 k2 t w)(hb:∀k,k≠z->k≠z+1+1+1+1+1+1->w'.heap[k]?=w.heap[k]?)(hz:w.heap.size<=w'.heap.size)(hp:FX z Nn d2 w')(hf:FX (z+1+1+1+1+1+1) (0:Int) (0:Int) w'):V7a z R fo Nn d2 k1 k2 t w' :=
 ⟨hp,h.k.of_block (hb _ Ya Ya) hz,h.s.of_block (hb _ Ya Ya) hz,(U1r (w:=w) (a:=⟨z+1+1+1,0,none⟩) (hb (z+1+1+1) Ya Ya)).trans h.o,U13 h.ol hz,
  h.r1.of_block (hb _ Ya Ya) hz,h.r2.of_block (hb _ Ya Ya) hz,hf⟩
theorem V5i.stored{z bK gk gs ck cs:Nat}{ws:List Pl.KW}{w w':World}(h:V5i (z+1+1+1+1+1+1) bK gk gs ck cs ws w)(hb:∀k,k≠z->k≠z+1+1+1+1+1+1->w'.heap[k]?=w.heap[k]?)(hz:w.heap.size<=w'.heap.size)(hf:FX (z+1+1+1+1+1+1) (0:Int) (0:Int) w')(h1:bK≠z/\bK≠z+1+1+1+1+1+1)(h2:gk<z)(h3:gs<z):V5i (z+1+1+1+1+1+1) bK gk gs ck cs ws w' :=
 have e:∀k,k≠z->k≠z+1+1+1+1+1+1->∀o,w'.cell? ⟨k,o,none⟩=w.cell? ⟨k,o,none⟩:=λ k a b o=>U1r (w:=w) (a:=⟨k,o,none⟩) (hb k a b)
 ⟨hf,(e _ h1.1 h1.2 _).trans h.k0,(e _ h1.1 h1.2 _).trans h.k1,U13 h.kl hz,U13 h.gkl hz,U13 h.gsl hz,λ j t a b hj=>by
  obtain⟨a1,a2,a3⟩:=h.w j t a b hj;exact⟨(e gk Ya Ya _).trans a1,(e gs Ya Ya _).trans a2,(e gs Ya Ya _).trans a3⟩⟩
theorem O7y{g g2:Vc}{an d n d2:Nat}{w:Pl.Bs}{a b:Nat}{t:Nat×Nat}{over:Nat->Pl.Ov}(h:V1p g an d w a b t over=.ok (n,d2,g2))(bR:∀i n' d',over i=.go n' d'->d'<=d+2)(hl:g.nds.length<=20000001):g2.nds.length<=20000001/\d2<=d+2:=by
 unfold V1p at h
 split at h;cases h
 split at h;cases h
 cases h
 rename_i h1
 cases h;exact⟨hl,bR _ _ _ h1⟩
 split at h;cases h
 split at h
 rename_i h1
 cases h;rw[U1g]at h1;have h2:=h1.2;unfold Pl.room at h2;rw[U1x]at h2;refine⟨?_,Ya⟩;simp[V2s,V2j,Vj];exact h2
 cases h
theorem V7a.gr{z R fo an d:Nat}{k1 k2:Value}{t:Nat×Nat}{w w':World}(h:V7a z R fo an d k1 k2 t w)(g:Gr w w'):V7a z R fo an d k1 k2 t w' :=
 h.st (F:=λ _=>False) (F':=λ _=>False) g.st (λ _ _ _ e=>e)
theorem Olv(w:World)(R fo an d:Nat)(k1 k2:Value)(t:Nat×Nat)(T0 T1 T2 T3 T4 T5 T6:TypeId):V7a w.heap.size R fo an d k1 k2 t (((((((w.alloc (.cells #[an,d] T0)).alloc (.cells #[k1,k2] T1)).alloc (.cells #[.int .u8 t.1,t.2] T2)).alloc (.cells #[.func (.func fo) #[.pointer (some ⟨R,0,none⟩)] #[]] T3)).alloc (.cells #[(0:Int),(0:Int)] T4)).alloc (.cells #[(0:Int),(0:Int)] T5)).alloc (.cells #[(0:Int),(0:Int)] T6)) /\Gr w (((((((w.alloc (.cells #[an,d] T0)).alloc (.cells #[k1,k2] T1)).alloc (.cells #[.int .u8 t.1,t.2] T2)).alloc (.cells #[.func (.func fo) #[.pointer (some ⟨R,0,none⟩)] #[]] T3)).alloc (.cells #[(0:Int),(0:Int)] T4)).alloc (.cells #[(0:Int),(0:Int)] T5)).alloc (.cells #[(0:Int),(0:Int)] T6)) /\(((((((w.alloc (.cells #[an,d] T0)).alloc (.cells #[k1,k2] T1)).alloc (.cells #[.int .u8 t.1,t.2] T2)).alloc (.cells #[.func (.func fo) #[.pointer (some ⟨R,0,none⟩)] #[]] T3)).alloc (.cells #[(0:Int),(0:Int)] T4)).alloc (.cells #[(0:Int),(0:Int)] T5)).alloc (.cells #[(0:Int),(0:Int)] T6)).heap.size=w.heap.size+1+1+1+1+1+1+1:=by
 obtain⟨w1,h1⟩:=ExZ (w.alloc (.cells #[an,d] T0))
 obtain⟨w2,h2⟩:=ExZ (w1.alloc (.cells #[k1,k2] T1))
 obtain⟨w3,h3⟩:=ExZ (w2.alloc (.cells #[.int .u8 t.1,t.2] T2))
 obtain⟨w4,h4⟩:=ExZ (w3.alloc (.cells #[.func (.func fo) #[.pointer (some ⟨R,0,none⟩)] #[]] T3))
 obtain⟨w5,h5⟩:=ExZ (w4.alloc (.cells #[(0:Int),(0:Int)] T4))
 obtain⟨w6,h6⟩:=ExZ (w5.alloc (.cells #[(0:Int),(0:Int)] T5))
 obtain⟨w7,h7⟩:=ExZ (w6.alloc (.cells #[(0:Int),(0:Int)] T6))
 rw[h1,h2,h3,h4,h5,h6,h7];obtain⟨f0,g1,z1⟩:=bx2 w an d T0;rw[h1]at f0 g1 z1;obtain⟨f1,g2,z2⟩:=bx2 w1 k1 k2 T1;rw[h2]at f1 g2 z2;obtain⟨f2,g3,z3⟩:=bx2 w2 (.int .u8 t.1) t.2 T2;rw[h3]at f2 g3 z3;have g4:Gr w3 w4:=by rw[<-h4];exact (Gr.refl _).alloc _
 have z4:w4.heap.size=w3.heap.size+1:=by rw[<-h4];simp
 have f3:w4.cell? w3=some (.func (.func fo) #[.pointer (some ⟨R,0,none⟩)] #[]):=by rw[<-h4];simp
 obtain⟨f4,g5,z5⟩:=bx2 w4 (0:Int) (0:Int) T4;rw[h5]at f4 g5 z5;obtain⟨f5,g6,z6⟩:=bx2 w5 (0:Int) (0:Int) T5;rw[h6]at f5 g6 z6;obtain⟨f6,g7,z7⟩:=bx2 w6 (0:Int) (0:Int) T6;rw[h7]at f6 g7 z7;have k7:=g7;have k6:=g6.trans k7;have k5:=g5.trans k6;have k4:=g4.trans k5;have k3:=g3.trans k4;have k2:=g2.trans k3;rw[z1]at f1 z2;rw[z2]at f2 z3;rw[z3]at f3 z4;rw[z4]at f4 z5;rw[z5]at f5 z6;rw[z6]at f6 z7;exact⟨⟨f0.gr k2,f1.gr k3,f2.gr k4,(k5.use.1 _ _ Ya).trans f3,Ya,f4.gr k6,f5.gr k7,f6⟩,g1.trans k2,z7⟩
def Viw(w:World)(z:Nat)(R B base fo:Nat)(s:ByteArray)(own:Nat->Nat)(x:GrX)(d0:Nat)(t:Nat×Nat)(over:Vc->Nat->Nat->Pl.Ov)(gk gs ck cs:Nat)(ws ks:List Pl.KW)(Y:Va (Nat×Nat×Vc))(D9:Value)(wr:World):Prop :=
 ∃(done rest:List Pl.KW)(j an d:Nat)(nv':Value)(L':List NdR)(own':Nat->Nat)(g':Vc),D9=.int .i64 j/\done.length=j/\ks=done++rest/\d<=d0+2*j/\GM wr R B base s nv' L' own' x g'/\L'.length<=20000001 /\
  V2a t over rest an d g'=Y/\V5i (z+1+1+1+1+1+1) (z+1) gk gs ck cs ws wr/\V7a z R fo an d (.slice gk ws.length ck) (.slice gs ws.length cs) t wr /\
  St (FV own) (FV own') w wr/\(∀k,own' k≠0->own k≠0\/z+1+1+1+1+1+1+1<=k)/\z+1+1+1+1+1+1+1<=wr.heap.size
structure Vej(z gk gs n ck cs j:Nat)(wd:Value)(a b:Nat)(an d:Nat)(t:Nat×Nat)(w:World):Prop where
 p:FX z an d w
 k0:w.cell? (z+1:Nat)=some (.slice gk n ck)
 k1:w.cell? ⟨z+1,1,none⟩=some (.slice gs n cs)
 w0:w.cell? ⟨gk,j,none⟩=some wd
 w1:w.cell? ⟨gs,j*2,none⟩=some (.int .i64 a)
 w2:w.cell? ⟨gs,j*2+1,none⟩=some (.int .i64 b)
 s:FX (z+1+1) (.int .u8 t.1) t.2 w
theorem Ojg(fo:Nat)(tL:∀args w,(callFunc fo args).run prog w=.ok (.enter fo args) w)(over:Vc->Nat->Nat->Pl.Ov)(io:∀g d i n d',over g d i=.go n d'->d'<=d+2)(w:World)(R B base:Nat)(s:ByteArray)(nv:Value)(L:List NdR)(own:Nat->Nat)(x:GrX)(g:Vc)(h:GM w R B base s nv L own x g)(HO:∀W nv' L' own' g',GM W R B base s nv' L' own' x g'->L'.length<=30000000->∀(an d i:Nat),i<L'.length->d<=1000000000->over g' d i≠.non->Calls prog fo #[.pointer (some ⟨R,0,none⟩),.agg #[an,d],i] W λ e W'=>O1q (over g' d i) e/\Gr W W')(an d:Nat)(t:Nat×Nat)(hL:L.length<=20000001)(hm:x.many<=30000000)(hd:d<=100000000)(gk gs ck cs:Nat)(ws:List Pl.KW)(la:Nat)(eu:ws.length=la+1)(et:la<=30000000)(fp:gk<w.heap.size)(dh:gs<w.heap.size)(dp:own gk=0)(fe:own gs=0)(aD:∀(j:Nat)(t:Pl.Bs)(a b:Nat),ws[j]?=some (t,a,b)->w.cell? ⟨gk,j,none⟩=some (V3h t)/\w.cell? ⟨gs,j*2,none⟩=some (.int .i64 a)/\w.cell? ⟨gs,j*2+1,none⟩=some (.int .i64 b))(Y:Va (Nat×Nat×Vc))(hY:V2a t over ws.dropLast an d g=Y)(a8:Y≠.non):Calls prog 113 #[.pointer (some ⟨R,0,none⟩),.agg #[an,d],.agg #[.slice gk ws.length ck,.slice gs ws.length cs],.agg #[.int .u8 t.1,t.2],.func (.func fo) #[.pointer (some ⟨R,0,none⟩)] #[]] w (O4c w R B base s own x Y):=by
 have H:=U10 h;have RY:=U10 hY;have CQ:=U10 HO;have lQ:=U10 aD;clear h hY HO aD;have Ai:IntKind.i64.wrap ((ws.length:Int)-1)=(la:Int):=by rw[U1i _ ⟨Ya,Ya⟩];omega
 have eC:=U10 eu;clear eu;go_enter func113,ntmps113
 go_upto_region 2 with fail
 obtain⟨W,hW⟩:=ExZ ((((((((w.alloc (.cells #[an,d] 67)).alloc (.cells #[.slice gk ws.length ck,.slice gs ws.length cs] 42)).alloc (.cells #[.int .u8 t.1,t.2] 94)).alloc (.cells #[.func (.func fo) #[.pointer (some ⟨R,0,none⟩)] #[]] 193)).alloc (.cells #[(0:Int),(0:Int)] 67)).alloc (.cells #[(0:Int),(0:Int)] 29)).alloc (.cells #[(0:Int),(0:Int)] 29)))
 have No:=Olv w R fo an d (.slice gk ws.length ck) (.slice gs ws.length cs) t 67 42 94 193 67 29 29;rw[hW]at No;rw[hW];clear hW;obtain⟨hB,gW,hz⟩:=No;have hK:V5i (w.heap.size+1+1+1+1+1+1) (w.heap.size+1) gk gs ck cs ws W :=
  ⟨hB.f,hB.k.1,hB.k.2.1,hB.k.2.2.2,U13 fp gW.size,U13 dh gW.size,λ j t a b hj=>by
   obtain⟨a1,a2,a3⟩:=lQ.o j t a b hj;exact⟨(gW.use.1 _ _ fp).trans a1,(gW.use.1 _ _ dh).trans a2,(gW.use.1 _ _ dh).trans a3⟩⟩
 have HB:=U10 hB;have HK:=U10 hK;have HG:=U10 gW;obtain⟨k0,k1,kf,kl⟩:=hB.k;clear hB hK gW;go_wp2_with fail
 go_loopw [19] (λ D9 wr=>Viw w w.heap.size R B base fo s own x d t over gk gs ck cs ws ws.dropLast Y D9 wr) (λ D9 _=>ws.length-(intOf D9).toNat)
 case atStart =>
  exact⟨[],ws.dropLast,0,an,d,nv,L,own,g,rfl,rfl,rfl,Ya,H.o.gr HG.o,hL,RY.o,HK.o,HB.o,(St.refl _ _).gr HG.o,λ k hk => .inl hk,Ya⟩
 case round =>
  obtain⟨done,rest,j,ms,d',nv',L',own',g',rfl,yd,pK,qm,cA,yI,jx,kI,Fs,a9,bB,dL⟩:=hrel;have qM:la=j+rest.length:=by
   have h1:=U2b List.length pK;rw[U4o,U1c,eC.o]at h1;omega
  have bG:=U10 cA;have Np:=U10 jx;have iC:=U10 kI;have nV:=U10 Fs;have bv:=U10 a9;have cl:=U10 bB;have xa:=U10 pK;have Nq:=U10 yd;have JM:=U10 dL;refine Z252 ?_;intro i1;have i2:(j:Int)<(ws.length:Int):=by have:=eC.o;omega
  have RZ:j<9223372036854775807:=Ya;refine Z194 ?_;intro wj;clear yd pK cA jx kI a9 bB;cases rest with
  |nil =>
   have i0:decide (j<la)=false:=by simp at qM;simp;omega
   clear qM Fs
   go_upto_region 10 with fail
   have hS:FX w ms d' wr.drew/\FX (w.heap.size+1+1+1+1+1+1) (0:Int) (0:Int) wr.drew:=⟨nV.o.p.gr (Gr.refl wr).drew,nV.o.f.gr (Gr.refl wr).drew⟩
   have bh:=And.intro nV.o.p nV.o.f;obtain⟨r0,r1,rf,rl⟩:=nV.o.r1;obtain⟨rJ,rK,rL,rM⟩:=nV.o.r2;have Aw:w.heap.size<=w.heap.size+1+1+1+1:=Ya;have Ax:w.heap.size<=w.heap.size+1+1+1+1+1:=Ya;refine Reg.begin' (W:=λ i=>i != 3) (S:=λ W=>FX w ms d' W/\FX (w.heap.size+1+1+1+1+1+1) (0:Int) (0:Int) W) Yc ?_;refine Z78 ?_;go_simp;refine⟨by first|exact⟨((bh.1.other Ya _).other Ya _).gr (Gr.refl _).drew,((bh.2.other Ya _).other Ya _).gr (Gr.refl _).drew⟩|exact λ _=>⟨((bh.1.other Ya _).other Ya _).gr (Gr.refl _).drew,((bh.2.other Ya _).other Ya _).gr (Gr.refl _).drew⟩|exact λ _ _=>⟨((bh.1.other Ya _).other Ya _).gr (Gr.refl _).drew,((bh.2.other Ya _).other Ya _).gr (Gr.refl _).drew⟩,?_⟩;refine Reg.pt ?_;refine Z189 ?_;refine Z2 ?_;refine Z12 ?_;go_wp2_with fail;have cy:=V6q ⟨r0,r1,rf,rl⟩ ⟨rJ,rK,rL,rM⟩ Ya bv.o Aw Ax ms d' (0:Int) (0:Int);obtain⟨WF,am⟩:=ExZ (((((wr.setCell (w.heap.size+1+1+1+1:Nat) ms).setCell ⟨w+1+1+1+1,1,none⟩ d').setCell (w.heap.size+1+1+1+1+1:Nat) (0:Int)).setCell ⟨w+1+1+1+1+1,1,none⟩ (0:Int)))
   rw[am]at cy;rw[am];clear am;obtain⟨d5,cV,sF,bF,zF⟩:=cy;obtain⟨q0,q1,qf,ql⟩:=d5.gr (Gr.refl WF).drew;obtain⟨y0,y1,yf,yl⟩:=cV.gr (Gr.refl WF).drew;have mj:∀k,own' k≠0->k≠w.heap.size+1+1+1+1/\k≠w.heap.size+1+1+1+1+1:=λ k hk=>by
    rcases cl.o k hk with h|h
    have:=(H.o.v.lt k h).2;omega
    omega
   have vQ:=(bG.o.v.kept (w':=WF) (λ k hk=>bF k (mj k hk).1 (mj k hk).2) zF).drew;have R':Y=.ok (ms,d',g'):=by rw[<-Np.o];rfl
   rw[R'];refine U11 (v:=.tuple #[.agg #[ms,d'],f0]) (by simp[results,results113,go_sem,q0,q1,qf,ql,y0,y1,yf,yl]) rfl ⟨rfl,nv',L',own',⟨vQ,bG.o.nd,bG.o.sec,bG.o.dep,bG.o.many⟩,sF.drew,λ k hk=>?_⟩;rcases cl.o k hk with h|h
   exact .inl h
   exact J64
  |cons kw iR =>
   obtain⟨wt,a,b⟩:=kw;have i0:decide (j<la)=true:=by simp at qM;simp;omega
   have yg:ws[j]?=some (wt,a,b):=by
    have h1:ws.dropLast[j]?=some (wt,a,b):=by rw[xa.o,<-Nq.o];simp
    rw[List.getElem?_dropLast]at h1
    split at h1;exact h1
    cases h1
   obtain⟨y1,y2,y3⟩:=iC.o.w j wt a b yg;obtain⟨p0,p1,pf,pl⟩:=Fs.p;have Aj:=U10 yg;have mK:=U10 qM;clear Fs yg qM
   go_upto_region 6 with fail
   obtain⟨WA,JN⟩:=ExZ (wr.alloc (.cells #[ms,d'] 67))
   obtain⟨nz,gA,zA⟩:=bx2 wr ms d' 67;rw[JN]at nz gA zA;rw[JN];have gD:Gr wr WA.drew:=gA.drew;have hS:Vej w.heap.size gk gs ws.length ck cs j (V3h wt) a b ms d' t WA.drew :=
    ⟨nV.o.p.gr gD,(iC.o.gr gD).k0,(iC.o.gr gD).k1,((iC.o.gr gD).w j wt a b Aj.o).1,((iC.o.gr gD).w j wt a b Aj.o).2.1,((iC.o.gr gD).w j wt a b Aj.o).2.2,nV.o.s.gr gD⟩
   have nX:=U10 gD;have S0:=U10 (nz.gr (Gr.refl WA).drew);have Js:gk<WA.heap.size:=U13 iC.o.gkl gA.size;have Jt:gs<WA.heap.size:=U13 iC.o.gsl gA.size;clear JN nz gA gD y1 y2 y3 p0 p1 pf pl k0 k1 kf kl;refine Reg.begin' (W:=λ i=>i != 14&&i != 18&&i != 19) (S:=Vej w.heap.size gk gs ws.length ck cs j (V3h wt) a b ms d' t) Yc ?_;refine Reg.ty 0 ?_;refine Reg.tl 1 hS ?_ (hy:=by intro w ab;obtain⟨⟨s0,s1,s2,s3⟩,s4,s5,s6,s7,s8,⟨s9,ky,ox,uM⟩⟩:=ab;go_simp;try with_reducible rfl);refine Reg.ty 2 ?_;refine Reg.tl 3 hS ?_ (hy:=by intro w ab;obtain⟨⟨s0,s1,s2,s3⟩,s4,s5,s6,s7,s8,⟨s9,ky,ox,uM⟩⟩:=ab;go_simp;try with_reducible rfl);refine Reg.ty 4 ?_;refine Reg.ty 5 ?_;refine Reg.tl 6 hS ?_ (hy:=by intro w ab;obtain⟨⟨s0,s1,s2,s3⟩,s4,s5,s6,s7,s8,⟨s9,ky,ox,uM⟩⟩:=ab;go_simp;try with_reducible rfl);refine Reg.ty 7 ?_;refine Reg.tl 8 hS ?_ (hy:=by intro w ab;obtain⟨⟨s0,s1,s2,s3⟩,s4,s5,s6,s7,s8,⟨s9,ky,ox,uM⟩⟩:=ab;go_simp;try with_reducible rfl);refine Reg.ty 9 ?_;refine Reg.ty 10 ?_;refine Reg.tl 11 hS ?_ (hy:=by intro w ab;obtain⟨⟨s0,s1,s2,s3⟩,s4,s5,s6,s7,s8,⟨s9,ky,ox,uM⟩⟩:=ab;go_simp;try with_reducible rfl);refine Reg.tl 12 hS ?_ (hy:=by intro w ab;obtain⟨⟨s0,s1,s2,s3⟩,s4,s5,s6,s7,s8,⟨s9,ky,ox,uM⟩⟩:=ab;go_simp;try with_reducible rfl);refine Reg.ty 13 ?_;refine Reg.on 14 ?_;go_simp;have AG:=Np.o;unfold V2a at AG;obtain⟨X',iy⟩:=ExZ (V1p g' ms d' wt a b t (over g' d'))
   rw[iy]at AG;have Da:X'≠.non:=λ e=>by rw[e]at AG;exact a8 AG.symm
   have iu:bs (⟨wt.toArray⟩:ByteArray)=wt:=by simp[bs]
   have vP:j<=30000000:=by have:=mK.o;omega
   have mt:=Ofh 157 (λ _ _=>rfl) (.pointer (some ⟨w+1+1+1,0,none⟩)) (.pointer (some ⟨wr,0,none⟩)) (over g' d') WA.drew R B base s nv' L' own' x g' (bG.o.gr nX.o)
    (λ W2 q2 i hi bR=>Oob fo tL (over g' d' i) bR W2 R (w.heap.size+1+1+1) wr.heap.size ms d' i ((q2.use.1 _ _ (nV.o.gr nX.o).ol).trans (nV.o.gr nX.o).o) (U13 (nV.o.gr nX.o).ol q2.size) (S0.o.gr q2)
     (λ W3 q3=>CQ.o W3 nv' L' own' g' (bG.o.gr (nX.o.trans (q2.trans q3))) Ya ms d' i hi Ya bR))
    ms d' ⟨wt.toArray⟩ a b t yI hm Ya X' (by rw[iu];exact iy) Da
   refine mt.mono ?_;cases X' with
   |non=>exact absurd rfl Da
   |bad c q =>
    rintro e w3 ⟨⟨n2,d2,he⟩,dF,ac,aM,eM,jo⟩;subst he;have bO:∀k,w.heap.size<=k->k<=w.heap.size+1+1+1+1+1+1->¬FV own' k:=λ k h1 h2 e=>by
     rcases cl.o k e with h|h
     have:=(H.o.v.lt k h).2;omega
     omega
    have Be:¬FV own' gk:=λ e=>by
     rcases cl.o gk e with h|h
     exact h dp
     omega
    have Bf:¬FV own' gs:=λ e=>by
     rcases cl.o gs e with h|h
     exact h fe
     omega
    refine Z269 ?_;intro aR lc p0 p1 pf pl v0 v1 vf vl;refine Z190 ?_;refine Z2 ?_;refine Z174 ?_;refine Z2 ?_;refine Z12 ?_;have cy:=V6q aR.p aR.f Ya (bv.o.trans ((nX.o.st).trans aM)) (U12 _) Ya n2 d2 c q;obtain⟨W4,iQ⟩:=ExZ (((((w3.setCell w n2).setCell ⟨w,1,none⟩ d2).setCell (w.heap.size+1+1+1+1+1+1:Nat) c).setCell ⟨w+1+1+1+1+1+1,1,none⟩ q))
    rw[iQ]at cy;rw[iQ];clear iQ;obtain⟨Db,cV,yO,Dc,yP⟩:=cy;have ii:=U10 aR;have Nr:=U10 Db;have At:=U10 cV;have JO:=U10 yO;have yQ:=U10 Dc;have Dd:=U10 lc;obtain⟨pR,pS,S6,S7⟩:=cV;clear aR Db yO Dc lc p0 p1 pf pl v0 v1 vf vl bO;go_wp2_with fail;refine (O28 c q Ya W4).mono ?_;rintro e w5 ⟨rfl,g5⟩;have eB:=At.o.gr g5;have aS:=(ii.o.r1.of_block (yQ.o _ Ya Ya) yP).gr g5;have cL:=(ii.o.r2.of_block (yQ.o _ Ya Ya) yP).gr g5;have cW:=JO.o.gr g5;have eH:FX (w.heap.size+1+1+1+1+1+1) c q w5.drew:=eB.gr (Gr.refl w5).drew
    go_upto_region 8 with fail
    obtain⟨r0,r1,rf,rl⟩:=id aS;obtain⟨rJ,rK,rL,rM⟩:=id cL;refine Reg.begin' (W:=λ _=>true) (S:=FX (w.heap.size+1+1+1+1+1+1) c q) Yc ?_;refine Reg.ty 0 ?_;refine Reg.tl 1 eH ?_ (hy:=by intro w ab;obtain⟨s0,s1,sf,sl⟩:=ab;go_simp;try with_reducible rfl);refine Reg.on 2 ?_;go_simp;refine⟨by first|exact ((eB.other Ya _).other Ya _).gr (Gr.refl _).drew|exact λ _=>((eB.other Ya _).other Ya _).gr (Gr.refl _).drew|exact λ _ _=>((eB.other Ya _).other Ya _).gr (Gr.refl _).drew,?_⟩;refine Reg.pt ?_;refine Z189 ?_;refine⟨by first|exact ((((eB.other Ya _).other Ya _).other Ya _).other Ya _).gr (Gr.refl _).drew|exact λ _=>((((eB.other Ya _).other Ya _).other Ya _).other Ya _).gr (Gr.refl _).drew|exact λ _ _=>((((eB.other Ya _).other Ya _).other Ya _).other Ya _).gr (Gr.refl _).drew,?_⟩;refine Reg.pt ?_;refine Z12 ?_;go_wp2_with fail;have cy:=V6q aS cL Ya cW Ya Ya (0:Int) (0:Int) c q;obtain⟨WF,am⟩:=ExZ (((((w5.setCell (w.heap.size+1+1+1+1:Nat) (0:Int)).setCell ⟨w+1+1+1+1,1,none⟩ (0:Int)).setCell (w.heap.size+1+1+1+1+1:Nat) c).setCell ⟨w+1+1+1+1+1,1,none⟩ q))
    rw[am]at cy;rw[am];clear am;obtain⟨Ep,gJ,sF,bF,zF⟩:=cy;refine Z261 ?_;intro q0 q1 qf ql y0 y1 yf yl;have hR:=H.o.v.R_lt;have lU:R<w3.heap.size:=U13 hR.2 (U1k (U1k (U1k Ya JM.o) nX.o.size) aM.size);have JP:WF.drew.cell? ⟨R,2,none⟩=some (.string s):=by
     have e1:WF.cell? ⟨R,2,none⟩=w5.cell? ⟨R,2,none⟩:=U1r (w:=w5) (a:=⟨R,2,none⟩) (bF R Ya Ya);have e2:w5.cell? ⟨R,2,none⟩=W4.cell? ⟨R,2,none⟩:=g5.use.1 _ _ (U13 lU yP);have e3:W4.cell? ⟨R,2,none⟩=w3.cell? ⟨R,2,none⟩:=U1r (w:=w3) (a:=⟨R,2,none⟩) (yQ.o R Ya Ya);exact e1.trans (e2.trans (e3.trans eM))
    rw[<-AG];refine U11 (v:=.tuple #[.agg #[(0:Int),(0:Int)],fv c q]) (by simp[results,results113,go_sem,q0,q1,qf,ql,y0,y1,yf,yl]) rfl ⟨⟨0,0,rfl⟩,dF,ac,sF.drew,JP,λ k hk=>?_⟩;have JH:w.heap.size+1+1+1+1+1+1+1<=WA.drew.heap.size:=U1k JM.o nX.o.size;rcases jo k hk with h|h
    rcases cl.o k h with h|h
    exact .inl h
    exact J64
    exact J64
   |ok r2 =>
    obtain⟨n2,d2,g2⟩:=r2;rintro e w3 ⟨he,ic,L2,ac,cp,aM,jo⟩;subst he;have bO:∀k,w.heap.size<=k->k<=w.heap.size+1+1+1+1+1+1->¬FV own' k:=λ k h1 h2 e=>by
     rcases cl.o k e with h|h
     have:=(H.o.v.lt k h).2;omega
     omega
    have Be:¬FV own' gk:=λ e=>by
     rcases cl.o gk e with h|h
     exact h dp
     omega
    have Bf:¬FV own' gs:=λ e=>by
     rcases cl.o gs e with h|h
     exact h fe
     omega
    refine Z269 ?_;intro aR lc p0 p1 pf pl v0 v1 vf vl;refine Z190 ?_;refine Z2 ?_;refine Z174 ?_;refine Z2 ?_;refine Z12 ?_;have cy:=V6q aR.p aR.f Ya (bv.o.trans ((nX.o.st).trans aM)) (U12 _) Ya n2 d2 (0:Int) (0:Int);obtain⟨W4,iQ⟩:=ExZ (((((w3.setCell w n2).setCell ⟨w,1,none⟩ d2).setCell (w.heap.size+1+1+1+1+1+1:Nat) (0:Int)).setCell ⟨w+1+1+1+1+1+1,1,none⟩ (0:Int)))
    rw[iQ]at cy;rw[iQ];clear iQ;obtain⟨Db,cV,yO,Dc,yP⟩:=cy;have ii:=U10 aR;have Nr:=U10 Db;have At:=U10 cV;have JO:=U10 yO;have yQ:=U10 Dc;have Dd:=U10 lc;obtain⟨pR,pS,S6,S7⟩:=cV;clear aR Db yO Dc lc p0 p1 pf pl v0 v1 vf vl bO;go_wp2_with fail;refine (O1v W4).mono ?_;rintro e w5 ⟨rfl,g5⟩;go_wp2_with fail
    go_roundw
    case rel =>
     have cz:=O7y iy (λ i n' MB e=>io g' d' i n' MB e) (by rw[<-bG.o.nd,U1n];exact yI);have JH:w.heap.size+1+1+1+1+1+1+1<=WA.drew.heap.size:=U1k JM.o nX.o.size;have mj:∀k,ac k≠0->k≠w.heap.size/\k≠w.heap.size+1+1+1+1+1+1/\(own k≠0\/w.heap.size+1+1+1+1+1+1+1<=k):=λ k hk=>by
      rcases jo k hk with h|h
      rcases cl.o k h with h|h
      have:=(H.o.v.lt k h).2;exact⟨Ya,Ya,.inl h⟩
      exact⟨Ya,Ya,.inr h⟩
      exact⟨Ya,Ya,.inr Ya⟩
     have S8:=(cp.v.kept (w':=W4) (λ k hk=>yQ.o k (mj k hk).1 (mj k hk).2.1) yP).gr g5;refine⟨done++[(wt,a,b)],iR,j+1,n2,d2,ic,L2,ac,g2,Yb,by simp[Nq.o],by rw[xa.o];simp,Ya,⟨S8,cp.nd,cp.sec,cp.dep,cp.many⟩,?_,AG,
      (Dd.o.stored yQ.o yP At.o ⟨Ya,Ya⟩ Ya Ya).gr g5,(ii.o.stored yQ.o yP Nr.o At.o).gr g5,JO.o.gr g5,λ k hk=>(mj k hk).2.2,?_⟩
     have:=cz.1;rw[<-cp.nd,U1n]at this;exact this
     have:=aM.size;have:=g5.size;omega
    case measure =>
     have:=mK.o;have:=eC.o;simp[intOf];omega
theorem Odj{g:Vc}{d i n d':Nat}(h:V39 g d i=.go n d'):d'<=d+2:=by
 unfold V39 at h
 split at h;cases h
 split at h
 split at h
 split at h;cases h;exact U12 _
 cases h
 cases h
 exact J1
theorem Olw{g:Vc}{d i n d':Nat}(h:V1v g d i=.go n d'):d'<=d+2:=by
 unfold V1v at h
 split at h;exact J1
 cases h
structure Vao(R B bf bg i d sh sof:Nat)(w:World):Prop where
 p1:w.cell? ⟨bf,1,none⟩=some (.int .i64 d)
 pg:w.cell? bg=some (.pointer (some ⟨R,0,none⟩))
 c3:w.cell? ⟨R,3,none⟩=some (.map (some B))
 lk:(Instr.lookup 65 (.map (some B)) i false).run prog w=.ok (.agg #[.int .u8 sh,sof]) w
theorem Ooc(w:World)(R B base:Nat)(s:ByteArray)(nv:Value)(L:List NdR)(own:Nat->Nat)(x:GrX)(g:Vc)(h:GM w R B base s nv L own x g)(bf bg:Nat)(an d i:Nat)(hi:i<L.length)(hL:L.length<=30000000)(hd:d<=1000000000)(hF:FX bf an d w)(hg:w.cell? bg=some (.pointer (some ⟨R,0,none⟩)))(aZ:bg<w.heap.size):Calls prog 118 #[i,.pointer (some ⟨bf,0,none⟩),.pointer (some ⟨bg,0,none⟩)] w λ e w'=>O1q (if (Vf g i).1=2 then .go i (d+1) else .no) e/\Gr w w':=by
 refine Z115 ?_;intro c0 c1 c2 c3 c4 c5 c6 c7 c8 fz hR sh sof cz hs mK;have HS:=U10 hs;obtain⟨X,hX⟩:=ExZ ((if (Vf g i).1=2 then Pl.Ov.go i (d+1) else .no))
 rw[hX];have HX:=U10 hX;clear hX;clear h hs cz fz c0 c1 c2 c4 c5 c6 c7 c8;refine Z151 ?_;intro Jo;go_enter func118,ntmps118
 go_upto_region 1 with fail
 obtain⟨W,hW⟩:=ExZ (w.alloc (.cells #[(0:Int),(0:Int)] 67))
 have gW:Gr w W:=by rw[<-hW];exact (Gr.refl w).alloc _
 have fI:FX w (0:Int) (0:Int) W:=by rw[<-hW];exact FX.new w _ _ _
 have hS:Vao R B bf bg i d sh sof W.drew :=
  ⟨(gW.drew.use.1 bf 1 hF.2.2.2).trans hF.2.1,(gW.drew.use.1 bg 0 aZ).trans hg,(gW.drew.use.1 R 3 hR.2).trans c3,mK.o W.drew gW.drew⟩
 obtain⟨r0,r1,rf,rl⟩:=fI;have HG:=U10 gW
 try rw[hW]
 clear hW gW;obtain⟨WF,am⟩:=ExZ (((W.setCell w i).setCell ⟨w,1,none⟩ (.int .i64 ((d:Int)+1))))
 have dV:FX w i (.int .i64 ((d:Int)+1)) WF:=by rw[<-am];exact FX.set ⟨r0,r1,rf,rl⟩ _ _
 have gF:Gr w WF:=by rw[<-am];exact (HG.o.setCell (p:=w) (U12 _) _).setCell (p:=⟨w,1,none⟩) (U12 _) _
 have bi:Vao R B bf bg i d sh sof WF.drew :=
  ⟨(gF.drew.use.1 bf 1 hF.2.2.2).trans hF.2.1,(gF.drew.use.1 bg 0 aZ).trans hg,(gF.drew.use.1 R 3 hR.2).trans c3,mK.o WF.drew gF.drew⟩
 have HF:=U10 dV;have Av:=U10 gF;have kA:=U10 bi;have oE:=U10 am;have pG:R<W.heap.size:=U13 hR.2 HG.o.size;clear c3 hF dV gF bi am hg;have xZ:∀W,(Instr.field 94 (.agg #[.int .u8 sh,sof]) 0).run prog W=.ok (.int .u8 sh) W:=λ W=>by kernel_rfl
 have gv:((sh:Int)==2)=true\/((sh:Int)==2)=false:=by cases ((sh:Int)==2) <;> simp
 rcases gv with e1|e1
 all_goals
  refine Reg.begin' (W:=λ _=>true) (S:=Vao R B bf bg i d sh sof) Yc ?_;refine Z325 ?_;refine Reg.tl 5 hS ?_ (hy:=by intro w ab;obtain⟨s1,s2,s3,s4⟩:=ab;go_simp;try with_reducible rfl);refine Z140 ?_;refine Reg.on 13 ?_;go_simp;rw[oE.o];refine⟨by first|exact kA.o|exact λ _=>kA.o|exact λ _ _=>kA.o,?_⟩;refine Reg.pt ?_;refine Reg.ty 14 ?_;refine Z12 ?_;go_wp2_with fail;obtain⟨q0,q1,qf,ql⟩:=HF.o.gr (Gr.refl WF).drew;have gE:=Av.o.drew
 ·have h2:(Vf g i).1=2:=by rw[HS.o];have h:=eq_of_beq e1;show sh=2;omega
  have hX:=HX.o;rw[U18 h2]at hX;rw[<-hX];exact U11 (v:=.tuple #[.agg #[i,.int .i64 ((d:Int)+1)],.bool true]) (by simp[results,results118,go_sem,q0,q1,qf,ql]) rfl ⟨by simp[O1q],gE⟩
 have h2:¬(Vf g i).1=2:=by rw[HS.o];intro h;have h:sh=2:=h;subst h;simp at e1
 have hX:=HX.o;rw[U1b h2]at hX;rw[<-hX];exact U11 (v:=.tuple #[.agg #[i,.int .i64 ((d:Int)+1)],.bool false]) (by simp[results,results118,go_sem,q0,q1,qf,ql]) rfl ⟨⟨_,_,rfl⟩,gE⟩
theorem O91(w:World)(R B base:Nat)(s:ByteArray)(nv:Value)(L:List NdR)(own:Nat->Nat)(x:GrX)(g:Vc)(h:GM w R B base s nv L own x g)(an d:Nat)(t:Nat×Nat)(hL:L.length<=20000001)(hm:x.many<=30000000)(hd:d<=100000000)(gk gs ck cs:Nat)(ws:List Pl.KW)(la:Nat)(eu:ws.length=la+1)(et:la<=30000000)(fp:gk<w.heap.size)(dh:gs<w.heap.size)(dp:own gk=0)(fe:own gs=0)(aD:∀(j:Nat)(t:Pl.Bs)(a b:Nat),ws[j]?=some (t,a,b)->w.cell? ⟨gk,j,none⟩=some (V3h t)/\w.cell? ⟨gs,j*2,none⟩=some (.int .i64 a)/\w.cell? ⟨gs,j*2+1,none⟩=some (.int .i64 b))(Y:Va (Nat×Nat×Vc))(hY:V2a t V39 ws.dropLast an d g=Y)(a8:Y≠.non):Calls prog 113 #[.pointer (some ⟨R,0,none⟩),.agg #[an,d],.agg #[.slice gk ws.length ck,.slice gs ws.length cs],.agg #[.int .u8 t.1,t.2],.func (.func 114) #[.pointer (some ⟨R,0,none⟩)] #[]] w (O4c w R B base s own x Y) :=
 Ojg 114 (λ _ _=>rfl) V39 (λ _ _ _ _ _ e=>Odj e) w R B base s nv L own x g h
  (λ W nv' L' own' g' mX pn an d i hi hd bR=>Opj W R B base s nv' L' own' x g' mX an d i hi pn hd _ rfl bR) an d t hL hm hd gk gs ck cs ws la eu et fp dh dp fe aD Y hY a8
theorem Odk(w:World)(R B base:Nat)(s:ByteArray)(nv:Value)(L:List NdR)(own:Nat->Nat)(x:GrX)(g:Vc)(h:GM w R B base s nv L own x g)(an d:Nat)(t:Nat×Nat)(hL:L.length<=20000001)(hm:x.many<=30000000)(hd:d<=100000000)(gk gs ck cs:Nat)(ws:List Pl.KW)(la:Nat)(eu:ws.length=la+1)(et:la<=30000000)(fp:gk<w.heap.size)(dh:gs<w.heap.size)(dp:own gk=0)(fe:own gs=0)(aD:∀(j:Nat)(t:Pl.Bs)(a b:Nat),ws[j]?=some (t,a,b)->w.cell? ⟨gk,j,none⟩=some (V3h t)/\w.cell? ⟨gs,j*2,none⟩=some (.int .i64 a)/\w.cell? ⟨gs,j*2+1,none⟩=some (.int .i64 b))(Y:Va (Nat×Nat×Vc))(hY:V2a t V1v ws.dropLast an d g=Y)(a8:Y≠.non):Calls prog 113 #[.pointer (some ⟨R,0,none⟩),.agg #[an,d],.agg #[.slice gk ws.length ck,.slice gs ws.length cs],.agg #[.int .u8 t.1,t.2],.func (.func 119) #[.pointer (some ⟨R,0,none⟩)] #[]] w (O4c w R B base s own x Y) :=
 Ojg 119 (λ _ _=>rfl) V1v (λ _ _ _ _ _ e=>Olw e) w R B base s nv L own x g h
  (λ W nv' L' own' g' mX pn an d i hi hd bR=>Olu W R B base s nv' L' own' x g' mX an d i hi pn hd) an d t hL hm hd gk gs ck cs ws la eu et fp dh dp fe aD Y hY a8
def Vap(w:World)(R B base:Nat)(s:ByteArray)(own:Nat->Nat)(iv nsv:Value)(X:Va Vc)(e:Ending)(w':World):Prop:=match X with
 |.non=>True
 |.bad c p=>e=.returned (fv c p)/\c≠0/\∃own',St (FV own) (FV own') w w'/\w'.cell? ⟨R,2,none⟩=some (.string s)/\(∀k,own' k≠0->own k≠0\/w.heap.size<=k)
 |.ok g'=>e=.returned f0/\∃nv' L' own' x',x'.iv=iv/\x'.nsv=nsv/\GM w' R B base s nv' L' own' x' g'/\St (FV own) (FV own') w w'/\(∀k,own' k≠0->own k≠0\/w.heap.size<=k)
def Vbp(w:World)(R B base:Nat)(s:ByteArray)(own:Nat->Nat)(x:GrX)(Y:Va (Nat×Nat×Vc))(s5 s6:Value)(w':World):Prop :=
 ∃b5 b6:Nat,s5=.pointer (some ⟨b5,0,none⟩)/\s6=.pointer (some ⟨b6,0,none⟩)/\b5≠b6/\w.heap.size<=b5/\w.heap.size<=b6/\match Y with
  |.non=>True
  |.bad c p=>(∃n d:Int,FX b5 n d w')/\FX b6 c p w'/\c≠0/\∃own',St (FV own) (FV own') w w'/\w'.cell? ⟨R,2,none⟩=some (.string s)/\(∀k,own' k≠0->own k≠0\/w.heap.size<=k)
  |.ok (n,d,g')=>FX b5 n d w'/\FX b6 (0:Int) (0:Int) w'/\∃nv' L' own',own' b5=0/\own' b6=0/\GM w' R B base s nv' L' own' x g'/\St (FV own) (FV own') w w'/\(∀k,own' k≠0->own k≠0\/w.heap.size<=k)
theorem O4c.open{V w2:World}{R B base:Nat}{s:ByteArray}{own:Nat->Nat}{x:GrX}{Y:Va (Nat×Nat×Vc)}{e:Ending}(h:O4c V R B base s own x Y e w2)(hn:Y≠.non):∃(n d c q:Int),e=.returned (.tuple #[.agg #[n,d],.agg #[c,q]])/\∃own',St (FV own) (FV own') V w2:=by
 cases Y with
 |non=>exact absurd rfl hn
 |bad c p =>
  obtain⟨⟨n,d,he⟩,_,own',a9,_⟩:=h;exact⟨n,d,c,p,he,own',a9⟩
 |ok r =>
  obtain⟨n,d,g'⟩:=r;obtain⟨he,_,_,own',_,a9,_⟩:=h;exact⟨n,d,0,0,he,own',a9⟩
theorem O4z{W V w2 w3:World}{R B base:Nat}{s:ByteArray}{own:Nat->Nat}{x:GrX}{Y:Va (Nat×Nat×Vc)}{n d c q:Int}(h:O4c V R B base s own x Y (.returned (.tuple #[.agg #[n,d],.agg #[c,q]])) w2)(gV:Gr W V)(g3:Gr w2 w3)(aa:∀k,own k≠0->k<W.heap.size)(hR:R<W.heap.size){b5 b6:Nat}(a8:b5≠b6)(h5:W.heap.size<=b5)(h6:W.heap.size<=b6)(o5:b5<V.heap.size\/w2.heap.size<=b5)(o6:b6<V.heap.size\/w2.heap.size<=b6){x5 y5 x6 y6:Value} (f5:FX b5 x5 y5 w3) (f6:FX b6 x6 y6 w3):Vbp W R B base s own x Y (.pointer (some ⟨b5,0,none⟩)) (.pointer (some ⟨b6,0,none⟩)) ((((w3.setCell b5 n).setCell ⟨b5,1,none⟩ d).setCell b6 c).setCell ⟨b6,1,none⟩ q):=by
 refine⟨b5,b6,rfl,rfl,a8,h5,h6,?_⟩;cases Y with
 |non=>trivial
 |bad c' p' =>
  obtain⟨⟨n',d',he⟩,hc,own',a9,hs,lV⟩:=h;have h1:n=n'/\d=d'/\c=(c':Int)/\q=(p':Int):=by simpa [fv,and_assoc]using he
  obtain⟨rfl,rfl,rfl,rfl⟩:=h1;have hz:=gV.size;obtain⟨a1,a2,a3,a4,a5⟩:=V6q f5 f6 a8 ((gV.st).trans (a9.gr g3)) h5 h6 n d c' p';refine⟨⟨n,d,a1⟩,a2,hc,own',a3,?_,λ k hk=>(lV k hk).imp id (λ h=>by omega)⟩;have aL:=a9.size;exact (U1r (w:=w3) (a:=⟨R,2,none⟩) (a4 R Ya Ya)).trans ((g3.use.1 _ _ Ya).trans hs)
 |ok r =>
  obtain⟨n',d',g'⟩:=r;obtain⟨he,nv',L',own',cA,a9,lV⟩:=h;have h1:n=(n':Int)/\d=(d':Int)/\c=0/\q=0:=by simpa [f0,and_assoc]using he
  obtain⟨rfl,rfl,rfl,rfl⟩:=h1;have hz:=gV.size;obtain⟨a1,a2,a3,a4,a5⟩:=V6q f5 f6 a8 ((gV.st).trans (a9.gr g3)) h5 h6 n' d' (0:Int) (0:Int);have hz:∀b,W.heap.size<=b->(b<V.heap.size\/w2.heap.size<=b)->own' b=0:=λ b hb ho=>U1e λ hk=>by
   rcases ho with ho|ho
   rcases lV b hk with h|h
   have:=aa b h;omega
   omega
   have:=(cA.v.lt b hk).2;omega
  have z5:=hz b5 h5 o5;have z6:=hz b6 h6 o6;refine⟨a1,a2,nv',L',own',z5,z6,⟨(cA.v.gr g3).kept (λ k hk=>a4 k (λ e=>hk (by rw[e];exact z5)) (λ e=>hk (by rw[e];exact z6))) a5,cA.nd,cA.sec,cA.dep,cA.many⟩,a3,λ k hk=>(lV k hk).imp id (λ h=>?_)⟩;have:=gV.size;omega
theorem O9x(t:Nat×Nat)(over:Vc->Nat->Nat->Pl.Ov)(io:∀g d i n d',over g d i=.go n d'->d'<=d+2):∀(ks:List Pl.KW)(an d:Nat)(g:Vc)(n d2:Nat)(g2:Vc),V2a t over ks an d g=.ok (n,d2,g2)->g.nds.length<=20000001->g2.nds.length<=20000001/\d2<=d+2*ks.length
 | [],an,d,g,n,d2,g2,h,hl=>by
  unfold V2a at h;cases h;exact⟨hl,Ya⟩
 | (w,a,b)::ks,an,d,g,n,d2,g2,h,hl=>by
  unfold V2a at h
  split at h;cases h
  cases h
  rename_i n1 d1 g1 hs
  obtain⟨h1,h2⟩:=O7y hs (λ i n' d' e=>io g d i n' d' e) hl;obtain⟨h3,h4⟩:=O9x t over io ks n1 d1 g1 n d2 g2 h h1;refine⟨h3,?_⟩;rw[U17];omega
theorem Oeo{g g2:Vc}{an d n d2:Nat}{w:Pl.Bs}{a b:Nat}{t:Nat×Nat}{over:Nat->Pl.Ov}(h:V1p g an d w a b t over=.ok (n,d2,g2))(ht:t.1≠0)(bR:∀i n' d',over i=.go n' d'->Oh g.srt n')(hl:g.srt.length=g.nds.length):Oh g2.srt n:=by
 unfold V1p at h
 split at h;cases h
 split at h;cases h
 cases h
 rename_i h1
 cases h;exact bR _ _ _ h1
 split at h;cases h
 split at h;cases h;unfold Oh;show ((g.srt++[t]).getD g.nds.length (0,0)).1≠0;rw[<-hl,U1j,U21 (U12 _),U3y];exact ht
 cases h
structure TbS(R B z t:Nat)(n:Nat)(w:World):Prop where
 g:w.cell? z=some (.pointer (some ⟨R,0,none⟩))
 c3:w.cell? ⟨R,3,none⟩=some (.map (some B))
 t:w.cell? t=some (.int .i64 n)
structure Vaq(z R:Nat)(k1 k2:Value)(w:World):Prop where
 g:w.cell? z=some (.pointer (some ⟨R,0,none⟩))
 k:FX (z+1) k1 k2 w
 r:w.cell? ⟨R,1,none⟩=some (.int .i64 0)
 zl:z<w.heap.size
 rl:R<w.heap.size
theorem Vaq.gr{z R:Nat}{k1 k2:Value}{w w':World}(h:Vaq z R k1 k2 w)(g:Gr w w'):Vaq z R k1 k2 w' :=
 ⟨(g.use.1 _ _ h.zl).trans h.g,h.k.gr g,(g.use.1 _ _ h.rl).trans h.r,U13 h.zl g.size,U13 h.rl g.size⟩
theorem Olx(w:World)(R B base:Nat)(s:ByteArray)(nv:Value)(L:List NdR)(own:Nat->Nat)(x:GrX)(g:Vc)(h:GM w R B base s nv L own x g)(hL:L.length<=20000001)(hm:x.many<=30000000)(gk gs ck cs:Nat)(ws:List Pl.KW)(la:Nat)(eu:ws.length=la+1)(et:la<=30000000)(fp:gk<w.heap.size)(dh:gs<w.heap.size)(dp:own gk=0)(fe:own gs=0)(aD:∀(j:Nat)(t:Pl.Bs)(a b:Nat),ws[j]?=some (t,a,b)->w.cell? ⟨gk,j,none⟩=some (V3h t)/\w.cell? ⟨gs,j*2,none⟩=some (.int .i64 a)/\w.cell? ⟨gs,j*2+1,none⟩=some (.int .i64 b))(X:Va Vc)(hX:V27 g ws=X)(a8:X≠.non):Calls prog 88 #[.pointer (some ⟨R,0,none⟩),.agg #[.slice gk ws.length ck,.slice gs ws.length cs]] w (Vap w R B base s own x.iv x.nsv X):=by
 have H:=U10 h;have HX:=U10 hX;have lQ:=U10 aD;clear h hX aD;have eC:=U10 eu;clear eu;go_enter func88,ntmps88
 go_upto_region 1 with fail
 obtain⟨W,hW⟩:=ExZ (((w.alloc (.cells #[.pointer (some ⟨R,0,none⟩)] 61)).alloc (.cells #[.slice gk ws.length ck,.slice gs ws.length cs] 42)).alloc (.cells #[(0:Int),(0:Int)] 29))
 obtain⟨bh,j8,gW,hz⟩:Vaq w.heap.size R (.slice gk ws.length ck) (.slice gs ws.length cs) W/\FX (w.heap.size+1+1) (0:Int) (0:Int) W/\Gr w W/\W.heap.size=w.heap.size+1+1+1:=by
  obtain⟨w1,h1⟩:=ExZ (w.alloc (.cells #[.pointer (some ⟨R,0,none⟩)] 61))
  rw[h1]at hW;have g1:Gr w w1:=by rw[<-h1];exact (Gr.refl _).alloc _
  have z1:w1.heap.size=w.heap.size+1:=by rw[<-h1];simp
  have c1:w1.cell? w=some (.pointer (some ⟨R,0,none⟩)):=by rw[<-h1];simp
  obtain⟨f1,g2,z2⟩:=bx2 w1 (.slice gk ws.length ck) (.slice gs ws.length cs) 42;obtain⟨w2,h2⟩:=ExZ (w1.alloc (.cells #[.slice gk ws.length ck,.slice gs ws.length cs] 42))
  rw[h2]at hW f1 g2 z2;refine Z313 ?_;intro f2 g3 z3;rw[hW]at f2 g3 z3;rw[z1]at f1 z2;rw[z2]at f2 z3;have hR:=H.o.v.R_lt;refine⟨⟨((g2.trans g3).use.1 _ _ Ya).trans c1,f1.gr g3,((g1.trans (g2.trans g3)).use.1 _ _ hR.2).trans H.o.v.cells.1.2.1,Ya,Ya⟩,f2,g1.trans (g2.trans g3),z3⟩
 rw[hW];clear hW;have dR:=U10 bh;have sj:=U10 j8;have HG:=U10 gW;clear bh j8 gW;obtain⟨Y,hY⟩:=ExZ (V2a (2,0) V39 ws.dropLast 0 1 g)
 have HY:=U10 hY;have bH:Y≠.non:=λ e=>by
  have:=HX.o;unfold V27 at this;rw[HY.o,e]at this;exact a8 this.symm
 clear hY;have j0:=U10 (λ V (q:Gr w V)=>O91 V R B base s nv L own x g (H.o.gr q) 0 1 (2,0) hL hm Ya gk gs ck cs ws la eC.o et (U13 fp q.size) (U13 dh q.size) dp fe
  (λ j t a b hj=>⟨(q.use.1 _ _ fp).trans (lQ.o j t a b hj).1,(q.use.1 _ _ dh).trans (lQ.o j t a b hj).2.1,(q.use.1 _ _ dh).trans (lQ.o j t a b hj).2.2⟩) Y HY.o bH)
 refine Z212 ?_;intro aa HZ;clear hz
 go_cut [5,6] (λ s5 s6 W'=>Vbp W R B base s own x Y s5 s6 W')
 case first =>
  have hS:=dR.o.gr (Gr.refl W).drew;refine Reg.begin' (W:=λ i=>i != 11&&i != 17&&i != 18) (S:=Vaq w.heap.size R (.slice gk ws.length ck) (.slice gs ws.length cs)) Yc ?_;refine Reg.tl 0 hS ?_ (hy:=by intro w ab;obtain⟨s1,⟨s2,s3,s4,s5⟩,s6,s7,s8⟩:=ab;go_simp;try with_reducible rfl);refine Reg.tl 1 hS ?_ (hy:=by intro w ab;obtain⟨s1,⟨s2,s3,s4,s5⟩,s6,s7,s8⟩:=ab;go_simp;try with_reducible rfl);refine Reg.ty 2 ?_;refine Z40 ?_;refine Reg.tl 5 hS ?_ (hy:=by intro w ab;obtain⟨s1,⟨s2,s3,s4,s5⟩,s6,s7,s8⟩:=ab;go_simp;try with_reducible rfl);refine Reg.ty 6 ?_;refine Reg.tl 7 hS ?_ (hy:=by intro w ab;obtain⟨s1,⟨s2,s3,s4,s5⟩,s6,s7,s8⟩:=ab;go_simp;try with_reducible rfl);refine Reg.ty 8 ?_;refine Reg.tl 9 hS ?_ (hy:=by intro w ab;obtain⟨s1,⟨s2,s3,s4,s5⟩,s6,s7,s8⟩:=ab;go_simp;try with_reducible rfl);refine Reg.ty 10 ?_;exact J102
 case rest =>
  obtain⟨b5,b6,rfl,rfl,vV,h5,h6,qX⟩:=hcut;have ag:=HX.o;unfold V27 at ag;rw[HY.o]at ag;have rB:=H.o.v.R_lt;cases Y with
  |non=>exact absurd rfl bH
  |bad c p =>
   simp only at ag;obtain⟨⟨n,d,f5⟩,f6,dF,ac,st2,eM,ko⟩:=qX;have hE:=sj.o.st st2 (λ e=>by have:=(H.o.v.lt _ e).2;omega);obtain⟨k0,k1,kf,kl⟩:=id f6;have JQ:=U10 hE;have F6:=U10 f6;have dP:=U10 st2;clear hE f5 f6;go_wp2_with fail;refine (O28 c p Ya wc).mono ?_;rintro e w5 ⟨rfl,g5⟩;have nS:=F6.o.gr g5;have iB:=JQ.o.gr g5;obtain⟨v0,v1,vf,vl⟩:=id nS;obtain⟨r0,r1,rf,rl⟩:=id iB;clear k0 k1 kf kl;go_wp2_with fail;have hF:=iB.set c p;have sF:St (FV own) (FV ac) w _:=((((HG.o.st).trans dP.o).gr g5).setCell (p:=⟨w+1+1,0,none⟩) (.inr Yk) c).setCell (p:=⟨w+1+1,1,none⟩) (.inr Yk) p;have aE:((w5.setCell (w.heap.size+1+1:Nat) c).setCell ⟨w+1+1,1,none⟩ p).cell? ⟨R,2,none⟩=some (.string s):=by
    exact J82
   obtain⟨WF,am⟩:=ExZ (((w5.setCell (w.heap.size+1+1:Nat) c).setCell ⟨w+1+1,1,none⟩ p))
   rw[am]at hF sF aE;rw[am];clear am;obtain⟨q0,q1,qf,ql⟩:=hF;rw[<-ag];exact U11 (v:=fv c p) (by simp[results,results88,go_sem,q0,q1,qf,ql]) rfl ⟨rfl,dF,ac,sF,aE,λ k hk=>(ko k hk).imp id (λ h=>by have:=HG.o.size;omega)⟩
  |ok r =>
   obtain⟨n,d,g'⟩:=r;simp only at ag;obtain⟨f5,f6,nv',L',own',z5,z6,cA,a9,lV⟩:=qX;have bU:∀k,w.heap.size<=k->k<W.heap.size->¬FV own k:=λ k h1 h2 e=>by have:=(H.o.v.lt k e).2;omega
   have hz:=HZ.o;have hE:=sj.o.st a9 (bU _ Ya Ya);have vW:=dR.o.k.st a9 (bU _ Ya Ya);have px:wc.cell? w=some (.pointer (some ⟨R,0,none⟩)):=((a9.use _ dR.o.zl (bU _ Ya Ya)).1 _).trans dR.o.g;have lJ:w.heap.size<wc.heap.size:=U13 dR.o.zl a9.size;have HE:=U10 hE;have De:=U10 vW;have vX:=U10 px;refine Z131 ?_;intro F5 F6 bv bG jI k0 k1 kf kl wt a b ed;have aZ:ws.getLast?=some (wt,a,b):=by rw[U3m,eC.o];exact ed
   rw[aZ]at ag;simp only at ag;have bV:=U10 ag;have Gb:=U10 ed;clear hE vW px f5 f6 a9 cA lV ed aZ ag hz bU;go_wp2_with fail;refine (O1v wc).mono ?_;rintro e w5 ⟨rfl,g5⟩;obtain⟨x0,x1,xf,xl⟩:=De.o.gr g5;clear k0 k1 kf kl;go_wp2_with fail;have iY:=U13 fp HG.o.size;have iZ:=U13 dh HG.o.size;have V3m:∀o,w5.cell? ⟨gk,o,none⟩=w.cell? ⟨gk,o,none⟩:=λ o=>(g5.use.1 _ _ (U13 iY bv.o.size)).trans (((bv.o.use gk iY (λ e=>e dp)).1 _).trans (HG.o.use.1 _ _ fp))
   have wW:∀o,w5.cell? ⟨gs,o,none⟩=w.cell? ⟨gs,o,none⟩:=λ o=>(g5.use.1 _ _ (U13 iZ bv.o.size)).trans (((bv.o.use gs iZ (λ e=>e fe)).1 _).trans (HG.o.use.1 _ _ dh))
   refine Z63 ?_;intro r1 r2 r3 w6 g6 lR cI;obtain⟨e0,e1,ef,el⟩:=F5.o.gr lR;have EN:=(lR.use.1 _ _ lJ).trans vX.o;have JR:=U13 lJ lR.size;have B0:=U10 lR;clear x0 x1 xf xl V3m wW r1 r2 r3 cI g5 g6 lR;have yR:=O9x _ _ (λ _ _ _ _ _ e=>Odj e) _ _ _ _ _ _ _ HY.o (by rw[<-H.o.nd,U1n];exact hL);have yI:L'.length<=20000001:=by have:=yR.1;rw[<-bG.o.nd,U1n]at this;exact this
   have qm:d<=100000000:=by have:=yR.2;rw[U4o,eC.o]at this;omega
   clear yR;obtain⟨X',iy⟩:=ExZ (V1p g' n d wt a b (1,0) (λ i=>if (Vf g' i).1=2 then .go i (d+1) else .no))
   have Df:=bV.o;rw[iy]at Df;have Da:X'≠.non:=λ e=>by rw[e]at Df;exact a8 Df.symm
   have iu:bs (⟨wt.toArray⟩:ByteArray)=wt:=by simp[bs]
   refine Z138 ?_;intro W7 oO G7 dm g7 z7;have S9:∀o,W7.cell? ⟨b5,o,none⟩=wc.cell? ⟨b5,o,none⟩:=λ o=>G7.o.use.1 _ _ F5.o.2.2.2
   have mt:=Ofh 118 (λ _ _=>rfl) (.pointer (some ⟨b5,0,none⟩)) (.pointer (some ⟨w,0,none⟩)) (λ i=>if (Vf g' i).1=2 then .go i (d+1) else .no) W7 R B base s nv' L' own' x g' (bG.o.gr G7.o)
    (λ W2 q2 i hi _=>Ooc W2 R B base s nv' L' own' x g' (bG.o.gr (G7.o.trans q2)) b5 w.heap.size n d i hi Ya Ya (F5.o.gr (G7.o.trans q2)) (((G7.o.trans q2).use.1 _ _ lJ).trans vX.o) (U13 lJ (G7.o.trans q2).size))
    n d ⟨wt.toArray⟩ a b (1,0) yI hm Ya X' (by rw[iu];exact iy) Da
   have jO:=U10 mt;have Dg:=U10 Df;have Ns:=U10 iy;clear mt Df iy S9 g7 e0 e1 ef el EN JR;obtain⟨e0,e1,ef,el⟩:=F5.o.gr G7.o;have gt:=(G7.o.use.1 _ _ lJ).trans vX.o;obtain⟨y0,y1,yf,yl⟩:=dm;go_wp2_with fail;refine jO.o.mono ?_;clear jO;cases X' with
   |non=>exact absurd rfl Da
   |bad c q =>
    rintro e w8 ⟨⟨n2,d2,he⟩,dF,ac,aM,eM,jo⟩;subst he;refine Z192 ?_;intro nS El iB k0 k1 kf kl kU;have Dh:w.heap.size<=b6:=by have:=HG.o.size;omega
    have oU:=nS.set c q;have oV:St (FV own) (FV ac) w _:=(((((HG.o.st).trans bv.o).gr G7.o).trans aM).setCell (p:=b6) (.inr Dh) c).setCell (p:=⟨b6,1,none⟩) (.inr Dh) q;have uV:∀k,k≠b6->((w8.setCell b6 c).setCell ⟨b6,1,none⟩ q).heap[k]?=w8.heap[k]?:=λ k hk=>by rw[U14 _ _ _ _ hk,U14 _ _ _ _ hk]
    have z8:((w8.setCell b6 c).setCell ⟨b6,1,none⟩ q).heap.size=w8.heap.size:=by simp[World.setCell]
    clear y0 y1 yf yl e0 e1 ef el gt;go_wp2_with fail;obtain⟨W8,mr⟩:=ExZ ((w8.setCell b6 c).setCell ⟨b6,1,none⟩ q)
    rw[mr]at oU oV uV z8⊢;clear mr k0 k1 kf kl;refine Z164 ?_;intro W9 zT zU zV g9 rG z9;refine (O28 c q Ya W9).mono ?_;rintro e ca ⟨rfl,eR⟩;have Di:=zT.gr eR;have AH:=zV.gr eR;have uz:=zU.gr eR;have JP:ca.cell? ⟨R,2,none⟩=some (.string s):=by
     have Dj:R<w8.heap.size:=U13 (bG.o.gr G7.o).v.R_lt.2 aM.size;have JS:R≠b6:=λ e=>by have h1:=bG.o.v.oR;rw[e,z6]at h1;omega
     exact ((g9.trans eR).use.1 _ _ Ya).trans ((U1r (w:=w8) (a:=⟨R,2,none⟩) (uV R JS)).trans eM)
    obtain⟨v0,v1,vf,vl⟩:=id Di;obtain⟨r0,r1,rf,rl⟩:=id AH;go_wp2_with fail;have hF:=AH.set c q;have sF:St (FV own) (FV ac) w _:=(uz.setCell (p:=⟨w+1+1,0,none⟩) (.inr Yk) c).setCell (p:=⟨w+1+1,1,none⟩) (.inr Yk) q;have aE:((ca.setCell (w.heap.size+1+1:Nat) c).setCell ⟨w+1+1,1,none⟩ q).cell? ⟨R,2,none⟩=some (.string s):=by
     refine Z87 ?_;exact JP
    obtain⟨WF,am⟩:=ExZ (((ca.setCell (w.heap.size+1+1:Nat) c).setCell ⟨w+1+1,1,none⟩ q))
    rw[am]at hF sF aE;rw[am];clear am;obtain⟨q0,q1,qf,ql⟩:=hF;have ag:=Dg.o
    try simp only at ag
    rw[<-ag];refine U11 (v:=fv c q) (by simp[results,results88,go_sem,q0,q1,qf,ql]) rfl ⟨rfl,dF,ac,sF,aE,λ k hk=>?_⟩;refine Z209 ?_;intro fY;rcases jo k hk with h|h
    exact (jI.o k h).imp id (λ h=>by have:=HG.o.size;omega)
    exact .inr (by have:=HG.o.size;omega)
   |ok r2 =>
    obtain⟨n2,d2,g2⟩:=r2;rintro e w8 ⟨he,ic,L2,ac,cp,aM,jo⟩;subst he;refine Z192 ?_;intro nS El iB k0 k1 kf kl kU;have Dh:w.heap.size<=b6:=by have:=HG.o.size;omega
    have oU:=nS.set (0:Int) (0:Int);have oV:St (FV own) (FV ac) w _:=(((((HG.o.st).trans bv.o).gr G7.o).trans aM).setCell (p:=b6) (.inr Dh) (0:Int)).setCell (p:=⟨b6,1,none⟩) (.inr Dh) (0:Int);have uV:∀k,k≠b6->((w8.setCell b6 (0:Int)).setCell ⟨b6,1,none⟩ (0:Int)).heap[k]?=w8.heap[k]?:=λ k hk=>by rw[U14 _ _ _ _ hk,U14 _ _ _ _ hk]
    have z8:((w8.setCell b6 (0:Int)).setCell ⟨b6,1,none⟩ (0:Int)).heap.size=w8.heap.size:=by simp[World.setCell]
    clear y0 y1 yf yl e0 e1 ef el gt;go_wp2_with fail;obtain⟨W8,mr⟩:=ExZ ((w8.setCell b6 (0:Int)).setCell ⟨b6,1,none⟩ (0:Int))
    rw[mr]at oU oV uV z8⊢;clear mr k0 k1 kf kl;refine Z164 ?_;intro W9 zT zU zV g9 rG z9;refine (O1v W9).mono ?_;rintro e ca ⟨rfl,eR⟩;have cz:=O7y Ns.o (λ i n' d' e=>by
     split at e;cases e;omega
     cases e) (by rw[<-bG.o.nd,U1n];exact yI)
    have Dk:Oh g2.srt n2:=Oeo Ns.o Yd (λ i n' d' e=>by
     split at e
     rename_i h2
     cases e;unfold Oh;have h3:(Vf g' i).1=2:=h2;unfold Vf at h3;rw[h3];decide
     cases e) (by rw[<-bG.o.nd,U1n];exact bG.o.v.sl)
    have o6:ac b6=0:=U1e λ hk=>(jo b6 hk).elim (λ h=>h z6) (λ h=>by have h1:=(F6.o.gr G7.o).2.2.2;omega)
    have qY:=(((cp.v.kept (w':=W8) (λ k hk=>uV k (λ e=>hk (by rw[e];exact o6))) (U4e z8.symm)).gr g9).gr eR)
    have u':g2.srt.length<=20000001:=by have h1:=cz.1;rw[<-cp.nd,U1n]at h1;rw[cp.v.sl];exact h1
    have l0:=Dk.lt;have uA:=rG.gr eR;have Di:=zT.gr eR;have AH:=zV.gr eR;have mj:¬FV own' w.heap.size:=λ e=>(jI.o _ e).elim (λ h=>by have:=(H.o.v.lt _ h).2;omega) (λ h=>by have:=HZ.o;omega)
    have Dl:=U13 lJ G7.o.size;have kL:w8.cell? w=some (.pointer (some ⟨R,0,none⟩)):=((aM.use w.heap.size Dl mj).1 0).trans ((G7.o.use.1 _ _ lJ).trans vX.o);have Sa:w.heap.size<w8.heap.size:=U13 Dl aM.size;have yS:ca.cell? w=some (.pointer (some ⟨R,0,none⟩)):=((g9.trans eR).use.1 _ _ Ya).trans ((U1r (w:=w8) (a:=w) (uV w.heap.size (by have:=HG.o.size;have:=HZ.o;omega))).trans kL);have uz:=(zU.gr eR).drew;obtain⟨⟨c0,c1,c2,c3,c4,c5,c6⟩,c7,c8,fz⟩:=qY.cells;have hS:TbS R B w.heap.size w8.heap.size n2 ca.drew:=⟨yS,c3,uA.1⟩
    obtain⟨D,vx,rV⟩:=qY.map;have jw:ca.drew.ownsMap prog 3 sortR B (g2.srt.length+x.many) D:=Oe vx rfl;obtain⟨w3,yE,tx,dN⟩:=jw.update (Maps.int_keyed underlying3) underlying65 Yl (key:=.int .i64 (n2:Int)) (kl:=.int .i64 (n2:Int)) (U4k underlying3 (by simp[Lit.wf,IntKind.min,IntKind.max,IntKind.signed,IntKind.bits];omega)) (O7w (1,0));have vQ:=qY.drew.sectioned n2 Dk rV tx dN n2 d2;have mo:FV own B:=by unfold FV;rw[H.o.v.oB];omega
    have dM:FV own R:=by unfold FV;rw[H.o.v.oR];omega
    have Nt:=uz.grown dN (λ k e=>by cases e;exact .inl mo);have aR:∀k,k<ca.heap.size->k≠B->w3.heap[k]?=ca.heap[k]?:=λ k hk a8=>dN.block k hk (λ e=>a8 (U2u e))
    have j9:ca.heap.size<=w3.heap.size:=dN.size;have vk:R≠B:=λ e=>by have h1:=H.o.v.oR;rw[e,H.o.v.oB]at h1;omega
    have UR:B<w.heap.size:=H.o.v.B_lt.2;have qZ:R<ca.heap.size:=qY.R_lt.2;have Dm:∀k,k<ca.heap.size->k≠B->∀o,w3.cell? ⟨k,o,none⟩=ca.cell? ⟨k,o,none⟩:=λ k hk a8 o=>U1r (w:=ca) (a:=⟨k,o,none⟩) (aR k hk a8)
    have Nu:∀k,k<ca.heap.size->k≠B->∀o,w3.frozen? ⟨k,o,none⟩=ca.frozen? ⟨k,o,none⟩:=λ k hk a8 o=>U33 (w:=ca) (a:=⟨k,o,none⟩) (aR k hk a8)
    have j4:=(Dm R qZ vk 4).trans c4;have j5:=(Dm R qZ vk 5).trans c5;have j6:=(Dm R qZ vk 6).trans c6;have jf:∀o,w3.frozen? ⟨R,o,none⟩=false:=λ o=>(Nu R qZ vk o).trans (fz o)
    have Sb:=(Dm w.heap.size (by have:=g9.size;have:=eR.size;omega) Ya 0).trans yS;have Sc:=uA.of_block (aR _ uA.2.2.2 Ya) j9;have f63:=Di.of_block (aR _ Di.2.2.2 Ya) j9;have Nv:=AH.of_block (aR _ AH.2.2.2 Ya) j9;refine Z242 ?_;intro wm;have JT:=U10 vQ;have JU:=U10 Nt;have Dn:=U10 cp;have JV:=U10 jo;have Sd:=U10 Nv;have Se:R<w3.heap.size:=U13 qZ j9;have Sf:w.heap.size<w3.heap.size:=by have:=g9.size;have:=eR.size;omega
    rw[show O27 (1,0)=.agg #[.int .u8 1,(0:Int)] from rfl]at yE;clear vQ Nt cp jo aM uz qY vx rV jw tx dN Dm Nu c0 c1 c2 c3 c4 c5 c6 c7 c8 fz yS kL AH Di uA rG zT zV zU oV oU nS iB uV
    go_upto_region 7 with fail
    refine Reg.begin' (W:=λ i=>i != 7) (S:=TbS R B w.heap.size w8.heap.size n2) Yc ?_;refine Reg.tl 0 hS ?_ (hy:=by intro w ab;obtain⟨s1,s2,s3⟩:=ab;go_simp;try with_reducible rfl);refine Reg.ty 1 ?_;refine Reg.ty 2 ?_;refine Reg.tl 3 hS ?_ (hy:=by intro w ab;obtain⟨s1,s2,s3⟩:=ab;go_simp;try with_reducible rfl);refine Reg.ty 4 ?_;refine Reg.tl 5 hS ?_ (hy:=by intro w ab;obtain⟨s1,s2,s3⟩:=ab;go_simp;try with_reducible rfl);refine Reg.ty 6 ?_;refine Reg.on 7 ?_;refine Z300 ?_;obtain⟨t0,t1,tf,tl⟩:=Sc;obtain⟨v0,v1,vf,vl⟩:=f63;obtain⟨r0,r1,rf,rl⟩:=Nv;go_wp2_with fail;obtain⟨W4,iQ⟩:=ExZ (((w3.setCell ⟨R,4,none⟩ n2).setCell ⟨R,5,none⟩ d2).setCell ⟨R,6,none⟩ (.int .i64 ((x.many:Int)+1)))
    have JW:GrV W4 R B base s 0 ic L2 ac (g2.srt.set n2 (1,0)) { x with sec:=n2,dep:=d2,many:=x.many+1 }:=by rw[<-iQ];exact JT.o
    have yT:R≠w.heap.size+1+1:=Ya;have Ft:FX (w.heap.size+1+1) (0:Int) (0:Int) W4:=by rw[<-iQ];exact ((Sd.o.other yT _).other yT _).other yT _
    have yO:St (FV own) (FV ac) w W4:=by rw[<-iQ];exact ((JU.o.setCell (p:=⟨R,4,none⟩) (.inl dM) _).setCell (p:=⟨R,5,none⟩) (.inl dM) _).setCell (p:=⟨R,6,none⟩) (.inl dM) _
    rw[iQ];clear iQ;have hF:=Ft.set (0:Int) (0:Int);have sF:St (FV own) (FV ac) w _:=(yO.setCell (p:=⟨w+1+1,0,none⟩) (.inr Yk) (0:Int)).setCell (p:=⟨w+1+1,1,none⟩) (.inr Yk) (0:Int);have bF:∀k,k≠w.heap.size+1+1->((W4.setCell (w.heap.size+1+1:Nat) (0:Int)).setCell ⟨w+1+1,1,none⟩ (0:Int)).heap[k]?=W4.heap[k]?:=λ k hk=>by rw[U14 _ _ _ _ hk,U14 _ _ _ _ hk]
    have zF:((W4.setCell (w.heap.size+1+1:Nat) (0:Int)).setCell ⟨w+1+1,1,none⟩ (0:Int)).heap.size=W4.heap.size:=by simp[World.setCell]
    obtain⟨WF,am⟩:=ExZ (((W4.setCell (w.heap.size+1+1:Nat) (0:Int)).setCell ⟨w+1+1,1,none⟩ (0:Int)))
    rw[am]at hF sF bF zF;rw[am];clear am;refine Z209 ?_;intro fY;have Nx:∀k,ac k≠0->own k≠0\/W.heap.size<=k:=λ k hk=>by
     rcases JV.o k hk with h|h
     exact jI.o k h
     exact .inr Ya
    have Jd:ac (w.heap.size+1+1)=0:=U1e λ hk=>(Nx _ hk).elim (λ h=>by have:=(H.o.v.lt _ h).2;omega) (λ h=>by have:=HZ.o;omega)
    have Sg:=JW.kept (w':=WF) (λ k hk=>bF k (λ e=>hk (by rw[e];exact Jd))) (U4e zF.symm);have ag:=Dg.o
    try simp only at ag
    rw[<-ag];obtain⟨q0,q1,qf,ql⟩:=hF;exact U11 (v:=f0) (by simp[results,results88,go_sem,q0,q1,qf,ql]) rfl ⟨rfl,ic,L2,ac,{ x with sec:=n2,dep:=d2,many:=x.many+1 },rfl,rfl,⟨Sg,Dn.o.nd,rfl,rfl,by show x.many+1=g2.many+1;rw[Dn.o.many]⟩,sF,λ k hk=>(Nx k hk).imp id (λ h=>by have:=HG.o.size;omega)⟩
structure Var(z R:Nat)(k1 k2:Value)(sec dep many:Nat)(w:World):Prop where
 k:FX z k1 k2 w
 c4:w.cell? ⟨R,4,none⟩=some (.int .i64 sec)
 c5:w.cell? ⟨R,5,none⟩=some (.int .i64 dep)
 c6:w.cell? ⟨R,6,none⟩=some (.int .i64 many)
 rl:R<w.heap.size
theorem Var.gr{z R:Nat}{k1 k2:Value}{sec dep many:Nat}{w w':World}(h:Var z R k1 k2 sec dep many w)(g:Gr w w'):Var z R k1 k2 sec dep many w' :=
 ⟨h.k.gr g,(g.use.1 _ _ h.rl).trans h.c4,(g.use.1 _ _ h.rl).trans h.c5,(g.use.1 _ _ h.rl).trans h.c6,U13 h.rl g.size⟩
theorem Ooe(w:World)(R B base:Nat)(s:ByteArray)(nv:Value)(L:List NdR)(own:Nat->Nat)(x:GrX)(g:Vc)(h:GM w R B base s nv L own x g)(jY:g.dep<=100000000)(hL:L.length<=20000001)(hm:x.many<=30000000)(gk gs ck cs:Nat)(ws:List Pl.KW)(la:Nat)(eu:ws.length=la+1)(et:la<=30000000)(fp:gk<w.heap.size)(dh:gs<w.heap.size)(dp:own gk=0)(fe:own gs=0)(aD:∀(j:Nat)(t:Pl.Bs)(a b:Nat),ws[j]?=some (t,a,b)->w.cell? ⟨gk,j,none⟩=some (V3h t)/\w.cell? ⟨gs,j*2,none⟩=some (.int .i64 a)/\w.cell? ⟨gs,j*2+1,none⟩=some (.int .i64 b))(X:Va (Nat×Nat×Vc))(hX:V2z g ws=X)(a8:X≠.non):Calls prog 89 #[.pointer (some ⟨R,0,none⟩),.agg #[.slice gk ws.length ck,.slice gs ws.length cs]] w (O4c w R B base s own x X):=by
 have H:=U10 h;have HX:=U10 hX;have lQ:=U10 aD;clear h hX aD;have eC:=U10 eu;clear eu;go_enter func89,ntmps89
 go_upto_region 1 with fail
 obtain⟨W,hW⟩:=ExZ (((w.alloc (.cells #[.slice gk ws.length ck,.slice gs ws.length cs] 42)).alloc (.cells #[(0:Int),(0:Int)] 67)).alloc (.cells #[(0:Int),(0:Int)] 29))
 obtain⟨bh,j8,Ny,gW,hz⟩:Var w.heap.size R (.slice gk ws.length ck) (.slice gs ws.length cs) g.sec g.dep g.many W/\FX (w.heap.size+1) (0:Int) (0:Int) W/\FX (w.heap.size+1+1) (0:Int) (0:Int) W/\Gr w W/\W.heap.size=w.heap.size+1+1+1:=by
  refine Z195 ?_;intro f1 g1 z1 w1 h1;rw[h1]at hW f1 g1 z1;obtain⟨f2,g2,z2⟩:=bx2 w1 (0:Int) (0:Int) 67;obtain⟨w2,h2⟩:=ExZ (w1.alloc (.cells #[(0:Int),(0:Int)] 67))
  rw[h2]at hW f2 g2 z2;refine Z313 ?_;intro f3 g3 z3;rw[hW]at f3 g3 z3;rw[z1]at f2 z2;rw[z2]at f3 z3;have hR:=H.o.v.R_lt;obtain⟨⟨c0,c1,c2,c3,c4,c5,c6⟩,_⟩:=H.o.v.cells;have gg:=g1.trans (g2.trans g3);rw[H.o.sec]at c4;rw[H.o.dep]at c5;rw[H.o.many]at c6;exact⟨⟨f1.gr (g2.trans g3),(gg.use.1 _ _ hR.2).trans c4,(gg.use.1 _ _ hR.2).trans c5,(gg.use.1 _ _ hR.2).trans c6,Ya⟩,f2.gr g3,f3,gg,z3⟩
 rw[hW];clear hW;have dR:=U10 bh;have sj:=U10 j8;have vA:=U10 Ny;have HG:=U10 gW;clear bh j8 Ny gW;obtain⟨Y,hY⟩:=ExZ (V2a (3,g.many) V1v ws.dropLast g.sec g.dep g)
 have HY:=U10 hY;have bH:Y≠.non:=λ e=>by
  have:=HX.o;unfold V2z at this;rw[HY.o,e]at this;exact a8 this.symm
 clear hY;have j0:=U10 (λ V (q:Gr w V)=>Odk V R B base s nv L own x g (H.o.gr q) g.sec g.dep (3,g.many) hL hm jY gk gs ck cs ws la eC.o et (U13 fp q.size) (U13 dh q.size) dp fe
  (λ j t a b hj=>⟨(q.use.1 _ _ fp).trans (lQ.o j t a b hj).1,(q.use.1 _ _ dh).trans (lQ.o j t a b hj).2.1,(q.use.1 _ _ dh).trans (lQ.o j t a b hj).2.2⟩) Y HY.o bH)
 refine Z212 ?_;intro aa HZ;clear hz
 go_cut [6,7] (λ s5 s6 W'=>Vbp W R B base s own x Y s5 s6 W')
 case first =>
  have hS:=dR.o.gr (Gr.refl W).drew;refine Reg.begin' (W:=λ i=>i != 13&&i != 19&&i != 20) (S:=Var w.heap.size R (.slice gk ws.length ck) (.slice gs ws.length cs) g.sec g.dep g.many) Yc ?_;refine Z31 ?_;refine Reg.ty 3 ?_;refine Reg.tl 4 hS ?_ (hy:=by intro w ab;obtain⟨⟨s2,s3,s4,s5⟩,s6,s7,s8,s9⟩:=ab;go_simp;try with_reducible rfl);refine Reg.tl 5 hS ?_ (hy:=by intro w ab;obtain⟨⟨s2,s3,s4,s5⟩,s6,s7,s8,s9⟩:=ab;go_simp;try with_reducible rfl);refine Reg.ty 6 ?_;refine Reg.ty 7 ?_;refine Reg.ty 8 ?_;refine Reg.tl 9 hS ?_ (hy:=by intro w ab;obtain⟨⟨s2,s3,s4,s5⟩,s6,s7,s8,s9⟩:=ab;go_simp;try with_reducible rfl);refine Z65 ?_;refine Reg.ty 12 ?_;refine Reg.all (rs:=[13,17,18]) Yc Yb ?_;refine Z14 ?_;intro j hj;rcases hj with rfl|rfl|rfl
  skip;refine Reg.one (i:=13) rfl Yh ?_;refine Z297 ?_;rintro e w2 ao;obtain⟨n,d,c,q,rfl,ac,a9⟩:=ao.open bH;dsimp only;refine Z73 ?_;refine Reg.all (rs:=[17,18]) Yc Yb ?_;refine Z14 ?_;intro j hj;rcases hj with rfl|rfl
  skip;refine Reg.one (i:=17) rfl Yh ?_;refine Z7 ?_;refine Reg.on 18 ?_;refine Z7 ?_;refine Z38 ?_;exact J184
  skip;refine Reg.one (i:=18) rfl Yh ?_;refine Z7 ?_;refine Reg.on 17 ?_;refine Z7 ?_;refine Z37 ?_;exact J184
  skip;refine Reg.one (i:=17) rfl Yh ?_;refine Z72 ?_;refine Reg.all (rs:=[13,18]) Yc Yb ?_;refine Z14 ?_;intro j hj;rcases hj with rfl|rfl
  skip;refine Reg.one (i:=13) rfl Yh ?_;refine Z145 ?_;rintro e w2 ao;obtain⟨n,d,c,q,rfl,ac,a9⟩:=ao.open bH;dsimp only;refine Z73 ?_;refine Reg.on 18 ?_;refine Z7 ?_;refine Z30 ?_;intro hv fa ga za oC ry W3 r0 r1 rf rl k0 k1 kf kl f5 f6 gb;refine Z321 ?_;exact J86
  skip;refine Reg.one (i:=18) rfl Yh ?_;refine Z53 ?_;refine Reg.on 13 ?_;refine Z93 ?_;rintro e w2 ao;obtain⟨n,d,c,q,rfl,ac,a9⟩:=ao.open bH;dsimp only;refine Z73 ?_;refine Z28 ?_;intro hv fa ga za gb f5 f6 r0 r1 rf rl k0 k1 kf kl fb zb;refine Z321 ?_;exact J85
  skip;refine Reg.one (i:=18) rfl Yh ?_;refine Z71 ?_;refine Reg.all (rs:=[13,17]) Yc Yb ?_;refine Z14 ?_;intro j hj;rcases hj with rfl|rfl
  skip;refine Reg.one (i:=13) rfl Yh ?_;refine Z144 ?_;rintro e w2 ao;obtain⟨n,d,c,q,rfl,ac,a9⟩:=ao.open bH;dsimp only;refine Z73 ?_;refine Reg.on 17 ?_;refine Z7 ?_;refine Z29 ?_;intro hv fa ga za oC ry W3 r0 r1 rf rl k0 k1 kf kl f5 f6 gb;refine Z321 ?_;exact J84
  skip;refine Reg.one (i:=17) rfl Yh ?_;refine Z52 ?_;refine Reg.on 13 ?_;refine Z92 ?_;rintro e w2 ao;obtain⟨n,d,c,q,rfl,ac,a9⟩:=ao.open bH;dsimp only;refine Z73 ?_;refine Z27 ?_;intro hv fa ga za gb f6 f5 r0 r1 rf rl k0 k1 kf kl fb zb;refine Z321 ?_;exact J83
 case rest =>
  obtain⟨b5,b6,rfl,rfl,vV,h5,h6,qX⟩:=hcut;have ag:=HX.o;unfold V2z at ag;rw[HY.o]at ag;have rB:=H.o.v.R_lt;have hz:=HZ.o;cases Y with
  |non=>exact absurd rfl bH
  |bad c p =>
   simp only at ag;obtain⟨⟨n,d,f5⟩,f6,dF,ac,st2,eM,ko⟩:=qX;have bO:∀k,w.heap.size<=k->¬FV own k:=λ k h1 e=>by have:=(H.o.v.lt k e).2;omega
   have Do:=sj.o.st st2 (bO _ Ya);have mo:=vA.o.st st2 (bO _ Ya);obtain⟨k0,k1,kf,kl⟩:=id f6;have Sh:=U10 Do;have Ay:=U10 mo;have F5:=U10 f5;have F6:=U10 f6;have dP:=U10 st2;clear Do mo f5 f6;go_wp2_with fail;refine (O28 c p Ya wc).mono ?_;rintro e w5 ⟨rfl,g5⟩;have wV:=F5.o.gr g5;have uL:=F6.o.gr g5;have hA:=Sh.o.gr g5;have hB:=Ay.o.gr g5;have sB:=((HG.o.st).trans dP.o).gr g5;clear k0 k1 kf kl
   go_upto_region 3 with fail
   have hS:FX b5 n d w5.drew/\FX b6 c p w5.drew:=⟨wV.gr (Gr.refl w5).drew,uL.gr (Gr.refl w5).drew⟩
   obtain⟨r0,r1,rf,rl⟩:=id hA;obtain⟨rJ,rK,rL,rM⟩:=id hB;refine Reg.begin' (W:=λ i=>i != 3) (S:=λ W=>FX b5 n d W/\FX b6 c p W) Yc ?_;refine Z78 ?_;refine Z36 ?_;refine Z189 ?_;refine Z2 ?_;refine Z12 ?_;go_wp2_with fail;have cy:=V6q hA hB Ya sB Ya Ya n d c p;obtain⟨WF,am⟩:=ExZ (((((w5.setCell (w.heap.size+1:Nat) n).setCell ⟨w+1,1,none⟩ d).setCell (w.heap.size+1+1:Nat) c).setCell ⟨w+1+1,1,none⟩ p))
   rw[am]at cy;rw[am];obtain⟨Ep,gJ,sF,bF,zF⟩:=cy;clear am;refine Z261 ?_;intro q0 q1 qf ql y0 y1 yf yl;rw[<-ag];refine U11 (v:=.tuple #[.agg #[n,d],fv c p]) (by simp[results,results89,go_sem,q0,q1,qf,ql,y0,y1,yf,yl]) rfl ⟨⟨n,d,rfl⟩,dF,ac,sF.drew,?_,λ k hk=>(ko k hk).imp id (λ h=>by have:=HG.o.size;omega)⟩;exact (U1r (w:=w5) (a:=⟨R,2,none⟩) (bF R Ya Ya)).trans ((g5.use.1 _ _ (U13 dR.o.rl dP.o.size)).trans eM)
  |ok r =>
   obtain⟨n,d,g'⟩:=r;simp only at ag;obtain⟨f5,f6,nv',L',own',z5,z6,cA,a9,lV⟩:=qX;have bU:∀k,w.heap.size<=k->k<W.heap.size->¬FV own k:=λ k h1 h2 e=>by have:=(H.o.v.lt k e).2;omega
   have hE:=sj.o.st a9 (bU _ Ya Ya);have iB:=vA.o.st a9 (bU _ Ya Ya);have vW:=dR.o.k.st a9 (bU _ Ya Ya);have HE:=U10 hE;have Si:=U10 iB;have De:=U10 vW;refine Z131 ?_;intro F5 F6 bv bG jI k0 k1 kf kl wt a b ed;have aZ:ws.getLast?=some (wt,a,b):=by rw[U3m,eC.o];exact ed
   rw[aZ]at ag;simp only at ag;have bV:=U10 ag;have Gb:=U10 ed;clear hE iB vW f5 f6 a9 cA lV ed aZ ag bU;go_wp2_with fail;refine (O1v wc).mono ?_;rintro e w5 ⟨rfl,g5⟩;obtain⟨x0,x1,xf,xl⟩:=De.o.gr g5;clear k0 k1 kf kl;go_wp2_with fail;have iY:=U13 fp HG.o.size;have iZ:=U13 dh HG.o.size;have V3m:∀o,w5.cell? ⟨gk,o,none⟩=w.cell? ⟨gk,o,none⟩:=λ o=>(g5.use.1 _ _ (U13 iY bv.o.size)).trans (((bv.o.use gk iY (λ e=>e dp)).1 _).trans (HG.o.use.1 _ _ fp))
   have wW:∀o,w5.cell? ⟨gs,o,none⟩=w.cell? ⟨gs,o,none⟩:=λ o=>(g5.use.1 _ _ (U13 iZ bv.o.size)).trans (((bv.o.use gs iZ (λ e=>e fe)).1 _).trans (HG.o.use.1 _ _ dh))
   refine Z63 ?_;intro r1 r2 r3 w6 g6 lR cI;have B0:=U10 lR;clear x0 x1 xf xl V3m wW r1 r2 r3 cI g5 g6 lR;obtain⟨XS,nE⟩:=ExZ (V16 g'.nds n wt)
   have ag:=bV.o;rw[nE]at ag;have km:XS≠.non:=λ e=>by rw[e]at ag;exact a8 ag.symm
   refine Z138 ?_;intro W7 oO G7 dm g7 z7;have gc:=U10 (bG.o.gr G7.o);have lH:=U10 (Odd W7 R B base s 0 nv' L' own' g'.srt x gc.o.v n ⟨wt.toArray⟩ XS (by rw[bG.o.nd,show bs (⟨wt.toArray⟩:ByteArray)=wt by simp[bs]];exact nE) km);have Fu:=U10 dm;obtain⟨e0,e1,ef,el⟩:=F5.o.gr G7.o;obtain⟨y0,y1,yf,yl⟩:=dm;clear nE;go_wp2_with fail;refine lH.o.mono ?_;refine Z44 ?_;clear lH e0 e1 ef el y0 y1 yf yl;have wV:=F5.o.gr G7.o;have uL:=F6.o.gr G7.o;have hA:=HE.o.gr G7.o;have hB:=Si.o.gr G7.o;have Nz:=Fu.o;have sB:=(((HG.o.st).trans bv.o).gr G7.o)
   have Nj:own' (w.heap.size+1)=0:=U1e λ h=>(jI.o _ h).elim (λ h=>by have:=(H.o.v.lt _ h).2;omega) (λ h=>by omega)
   have Bp:own' (w.heap.size+1+1)=0:=U1e λ h=>(jI.o _ h).elim (λ h=>by have:=(H.o.v.lt _ h).2;omega) (λ h=>by omega)
   have JH:=HG.o.size;refine Z209 ?_;intro fY;have Sj:w6.heap.size≠w.heap.size+1/\w6.heap.size≠w.heap.size+1+1:=by have:=bv.o.size;have:=B0.o.size;omega
   cases XS with
   |non=>exact absurd rfl km
   |yes i =>
    have s0:((i:Int) != -1)=true:=Yb
    simp only at ag;dsimp only [O2y]
    go_upto_region 6 with fail
    have hS:FX b5 n d W7.drew/\FX w6 a b W7.drew:=⟨wV.gr (Gr.refl W7).drew,Nz.gr (Gr.refl W7).drew⟩
    obtain⟨r0,r1,rf,rl⟩:=id hA;obtain⟨rJ,rK,rL,rM⟩:=id hB;refine Reg.begin' (W:=λ i=>i != 5) (S:=λ W=>FX b5 n d W/\FX w6 a b W) Yc ?_;refine Z327 ?_;refine Reg.ty 1 ?_;refine Reg.tl 2 hS ?_ (hy:=by intro w ab;obtain⟨⟨s0,s1,sf,sl⟩,⟨s2,s3,LD,LF⟩⟩:=ab;go_simp;try with_reducible rfl);refine Reg.ty 3 ?_;have JX:=Nz;clear uL;have uL:=JX;refine Reg.on 4 ?_;refine Z36 ?_;refine Reg.on 5 ?_;refine Z300 ?_;go_wp2_with fail;have cy:=V6q hA hB Ya sB Ya Ya n d (5:Int) a;obtain⟨WF,am⟩:=ExZ (((((W7.setCell (w.heap.size+1:Nat) n).setCell ⟨w+1,1,none⟩ d).setCell (w.heap.size+1+1:Nat) (5:Int)).setCell ⟨w+1+1,1,none⟩ a))
    rw[am]at cy;rw[am];obtain⟨Ep,gJ,sF,bF,zF⟩:=cy;clear am;refine Z261 ?_;intro q0 q1 qf ql y0 y1 yf yl;rw[<-ag];refine U11 (v:=.tuple #[.agg #[n,d],fv 5 a]) (by simp[results,results89,go_sem,q0,q1,qf,ql,y0,y1,yf,yl]) rfl ⟨⟨n,d,rfl⟩,Yd,own',sF.drew,?_,λ k hk=>(jI.o k hk).imp id (λ h=>by omega)⟩;exact (U1r (w:=W7) (a:=⟨R,2,none⟩) (bF R Ya Ya)).trans gc.o.v.cells.1.2.2.1
   |no =>
    have s0:((-1:Int) != -1)=false:=Yb
    simp only at ag;dsimp only [O2y]
    go_upto_region 7 with fail
    have hS:FX b5 n d W7.drew/\FX b6 (0:Int) (0:Int) W7.drew:=⟨wV.gr (Gr.refl W7).drew,uL.gr (Gr.refl W7).drew⟩
    obtain⟨r0,r1,rf,rl⟩:=id hA;obtain⟨rJ,rK,rL,rM⟩:=id hB;refine Reg.begin' (W:=λ i=>i != 3) (S:=λ W=>FX b5 n d W/\FX b6 (0:Int) (0:Int) W) Yc ?_;refine Z78 ?_;refine Z36 ?_;refine Z189 ?_;refine Z2 ?_;refine Z12 ?_;go_wp2_with fail;have cy:=V6q hA hB Ya sB Ya Ya n d (0:Int) (0:Int);obtain⟨WF,am⟩:=ExZ (((((W7.setCell (w.heap.size+1:Nat) n).setCell ⟨w+1,1,none⟩ d).setCell (w.heap.size+1+1:Nat) (0:Int)).setCell ⟨w+1+1,1,none⟩ (0:Int)))
    rw[am]at cy;rw[am];obtain⟨Ep,gJ,sF,bF,zF⟩:=cy;clear am;refine Z261 ?_;intro q0 q1 qf ql y0 y1 yf yl;rw[<-ag];have vQ:=(gc.o.v.kept (w':=WF) (λ k hk=>bF k (λ e=>hk (by rw[e];exact Nj)) (λ e=>hk (by rw[e];exact Bp))) zF).drew;exact U11 (v:=.tuple #[.agg #[n,d],f0]) (by simp[results,results89,go_sem,q0,q1,qf,ql,y0,y1,yf,yl]) rfl ⟨rfl,nv',L',own',⟨vQ,bG.o.nd,bG.o.sec,bG.o.dep,bG.o.many⟩,sF.drew,λ k hk=>(jI.o k hk).imp id (λ h=>by omega)⟩
structure Vas(z R:Nat)(k1 k2:Value)(w:World):Prop where
 k:FX z k1 k2 w
 r:w.cell? ⟨R,1,none⟩=some (.int .i64 0)
 rl:R<w.heap.size
theorem Vas.gr{z R:Nat}{k1 k2:Value}{w w':World}(h:Vas z R k1 k2 w)(g:Gr w w'):Vas z R k1 k2 w' :=
 ⟨h.k.gr g,(g.use.1 _ _ h.rl).trans h.r,U13 h.rl g.size⟩
theorem Odm{w lF:World}{R B base E:Nat}{s:ByteArray}{nv:Value}{L:List NdR}{own ac:Nat->Nat}{so:List (Nat×Nat)}{x:GrX}(h:GrV lF R B base s 0 nv L ac so x)(hE:FX E (0:Int) (0:Int) lF)(j8:ac E=0)(st:St (FV own) (FV ac) w lF)(NA:w.heap.size<=E)(dM:FV own R)(sec dep:Nat) :
    let WF:=((((lF.setCell ⟨R,4,none⟩ sec).setCell ⟨R,5,none⟩ dep).setCell ⟨R,6,none⟩ (.int .i64 ((x.many:Int)+1))).setCell E (0:Int)).setCell ⟨E,1,none⟩ (0:Int)
    FX E (0:Int) (0:Int) WF/\GrV WF R B base s 0 nv L ac so { x with sec:=sec,dep:=dep,many:=x.many+1 }/\St (FV own) (FV ac) w WF:=by
 have yT:R≠E:=λ e=>by have h1:=h.oR;rw[e,j8]at h1;omega
 have g4:=h.setSec sec dep (x.many+1) (U2x _);rw[show (((x.many+1:Nat):Int))=(x.many:Int)+1 from rfl]at g4;have Ft:=((hE.other yT (o:=4) sec).other yT (o:=5) dep).other yT (o:=6) (.int .i64 ((x.many:Int)+1));have s4:St (FV own) (FV ac) w (((lF.setCell ⟨R,4,none⟩ sec).setCell ⟨R,5,none⟩ dep).setCell ⟨R,6,none⟩ (.int .i64 ((x.many:Int)+1))) :=
  ((st.setCell (p:=⟨R,4,none⟩) (.inl dM) _).setCell (p:=⟨R,5,none⟩) (.inl dM) _).setCell (p:=⟨R,6,none⟩) (.inl dM) _
 obtain⟨W4,iQ⟩:=ExZ (((lF.setCell ⟨R,4,none⟩ sec).setCell ⟨R,5,none⟩ dep).setCell ⟨R,6,none⟩ (.int .i64 ((x.many:Int)+1)))
 rw[iQ]at g4 Ft s4⊢;refine⟨Ft.set _ _,g4.kept (λ k hk=>?_) (by simp[World.setCell]),(s4.setCell (p:=E) (.inr NA) _).setCell (p:=⟨E,1,none⟩) (.inr NA) _⟩;have hk:k≠E:=λ e=>hk (by rw[e];exact j8)
 rw[U14 _ _ _ _ hk,U14 _ _ _ _ hk]
theorem Ood(w:World)(R B base:Nat)(s:ByteArray)(nv:Value)(L:List NdR)(own:Nat->Nat)(x:GrX)(g:Vc)(h:GM w R B base s nv L own x g)(hL:L.length<=20000001)(hm:x.many<=30000000)(gk gs ck cs:Nat)(ws:List Pl.KW)(la:Nat)(eu:ws.length=la+1)(et:la<=30000000)(fp:gk<w.heap.size)(dh:gs<w.heap.size)(dp:own gk=0)(fe:own gs=0)(aD:∀(j:Nat)(t:Pl.Bs)(a b:Nat),ws[j]?=some (t,a,b)->w.cell? ⟨gk,j,none⟩=some (V3h t)/\w.cell? ⟨gs,j*2,none⟩=some (.int .i64 a)/\w.cell? ⟨gs,j*2+1,none⟩=some (.int .i64 b))(X:Va Vc)(hX:V3l g ws=X)(a8:X≠.non):Calls prog 87 #[.pointer (some ⟨R,0,none⟩),.agg #[.slice gk ws.length ck,.slice gs ws.length cs]] w (Vap w R B base s own x.iv x.nsv X):=by
 have H:=U10 h;have HX:=U10 hX;have lQ:=U10 aD;clear h hX aD;have eC:=U10 eu;clear eu;go_enter func87,ntmps87
 go_upto_region 1 with fail
 obtain⟨W,hW⟩:=ExZ ((w.alloc (.cells #[.slice gk ws.length ck,.slice gs ws.length cs] 42)).alloc (.cells #[(0:Int),(0:Int)] 29))
 obtain⟨bh,j8,gW,hz⟩:Vas w.heap.size R (.slice gk ws.length ck) (.slice gs ws.length cs) W/\FX (w.heap.size+1) (0:Int) (0:Int) W/\Gr w W/\W.heap.size=w.heap.size+1+1:=by
  refine Z195 ?_;intro f1 g2 z2 w2 h2;rw[h2]at hW f1 g2 z2;refine Z313 ?_;intro f2 g3 z3;rw[hW]at f2 g3 z3;rw[z2]at f2 z3;have hR:=H.o.v.R_lt;exact⟨⟨f1.gr g3,((g2.trans g3).use.1 _ _ hR.2).trans H.o.v.cells.1.2.1,Ya⟩,f2,g2.trans g3,z3⟩
 rw[hW];clear hW;have dR:=U10 bh;have sj:=U10 j8;have HG:=U10 gW;clear bh j8 gW;obtain⟨Y,hY⟩:=ExZ (V2a (2,0) V39 ws.dropLast 0 1 g)
 have HY:=U10 hY;have bH:Y≠.non:=λ e=>by
  have:=HX.o;unfold V3l at this;rw[HY.o,e]at this;exact a8 this.symm
 clear hY;have j0:=U10 (λ V (q:Gr w V)=>O91 V R B base s nv L own x g (H.o.gr q) 0 1 (2,0) hL hm Ya gk gs ck cs ws la eC.o et (U13 fp q.size) (U13 dh q.size) dp fe
  (λ j t a b hj=>⟨(q.use.1 _ _ fp).trans (lQ.o j t a b hj).1,(q.use.1 _ _ dh).trans (lQ.o j t a b hj).2.1,(q.use.1 _ _ dh).trans (lQ.o j t a b hj).2.2⟩) Y HY.o bH)
 refine Z212 ?_;intro aa HZ;clear hz
 go_cut [5,6] (λ s5 s6 W'=>Vbp W R B base s own x Y s5 s6 W')
 case first =>
  have hS:=dR.o.gr (Gr.refl W).drew;refine Reg.begin' (W:=λ i=>i != 11&&i != 17&&i != 18) (S:=Vas w.heap.size R (.slice gk ws.length ck) (.slice gs ws.length cs)) Yc ?_;refine Z31 ?_;refine Z40 ?_;refine Reg.tl 5 hS ?_ (hy:=by intro w ab;obtain⟨⟨s2,s3,s4,s5⟩,s6,s8⟩:=ab;go_simp;try with_reducible rfl);refine Reg.ty 6 ?_;refine Reg.tl 7 hS ?_ (hy:=by intro w ab;obtain⟨⟨s2,s3,s4,s5⟩,s6,s8⟩:=ab;go_simp;try with_reducible rfl);refine Z46 ?_;exact J102
 case rest =>
  obtain⟨b5,b6,rfl,rfl,vV,h5,h6,qX⟩:=hcut;have ag:=HX.o;unfold V3l at ag;rw[HY.o]at ag;have rB:=H.o.v.R_lt;cases Y with
  |non=>exact absurd rfl bH
  |bad c p =>
   simp only at ag;obtain⟨⟨n,d,f5⟩,f6,dF,ac,st2,eM,ko⟩:=qX;have hE:=sj.o.st st2 (λ e=>by have:=(H.o.v.lt _ e).2;omega);obtain⟨k0,k1,kf,kl⟩:=id f6;have JQ:=U10 hE;have F6:=U10 f6;have dP:=U10 st2;clear hE f5 f6;go_wp2_with fail;refine (O28 c p Ya wc).mono ?_;rintro e w5 ⟨rfl,g5⟩;have nS:=F6.o.gr g5;have iB:=JQ.o.gr g5;obtain⟨v0,v1,vf,vl⟩:=id nS;obtain⟨r0,r1,rf,rl⟩:=id iB;clear k0 k1 kf kl;go_wp2_with fail;have hF:=iB.set c p;have sF:St (FV own) (FV ac) w _:=((((HG.o.st).trans dP.o).gr g5).setCell (p:=⟨w+1,0,none⟩) (.inr Yk) c).setCell (p:=⟨w+1,1,none⟩) (.inr Yk) p;have aE:((w5.setCell (w.heap.size+1:Nat) c).setCell ⟨w+1,1,none⟩ p).cell? ⟨R,2,none⟩=some (.string s):=by
    exact J82
   obtain⟨WF,am⟩:=ExZ (((w5.setCell (w.heap.size+1:Nat) c).setCell ⟨w+1,1,none⟩ p))
   rw[am]at hF sF aE;rw[am];clear am;obtain⟨q0,q1,qf,ql⟩:=hF;rw[<-ag];exact U11 (v:=fv c p) (by simp[results,results87,go_sem,q0,q1,qf,ql]) rfl ⟨rfl,dF,ac,sF,aE,λ k hk=>(ko k hk).imp id (λ h=>by have:=HG.o.size;omega)⟩
  |ok r =>
   obtain⟨n,d,g'⟩:=r;simp only at ag;obtain⟨f5,f6,nv',L',own',z5,z6,cA,a9,lV⟩:=qX;have bU:∀k,w.heap.size<=k->k<W.heap.size->¬FV own k:=λ k h1 h2 e=>by have:=(H.o.v.lt k e).2;omega
   have hz:=HZ.o;have hE:=sj.o.st a9 (bU _ Ya Ya);have vW:=dR.o.k.st a9 (bU _ Ya Ya);have HE:=U10 hE;have De:=U10 vW;refine Z131 ?_;intro F5 F6 bv bG jI k0 k1 kf kl wt a b ed;have aZ:ws.getLast?=some (wt,a,b):=by rw[U3m,eC.o];exact ed
   rw[aZ]at ag;simp only at ag;have bV:=U10 ag;have Gb:=U10 ed;clear hE vW f5 f6 a9 cA lV ed aZ ag hz bU;go_wp2_with fail;refine (O1v wc).mono ?_;rintro e w5 ⟨rfl,g5⟩;obtain⟨x0,x1,xf,xl⟩:=De.o.gr g5;clear k0 k1 kf kl;go_wp2_with fail;have iY:=U13 fp HG.o.size;have iZ:=U13 dh HG.o.size;have V3m:∀o,w5.cell? ⟨gk,o,none⟩=w.cell? ⟨gk,o,none⟩:=λ o=>(g5.use.1 _ _ (U13 iY bv.o.size)).trans (((bv.o.use gk iY (λ e=>e dp)).1 _).trans (HG.o.use.1 _ _ fp))
   have wW:∀o,w5.cell? ⟨gs,o,none⟩=w.cell? ⟨gs,o,none⟩:=λ o=>(g5.use.1 _ _ (U13 iZ bv.o.size)).trans (((bv.o.use gs iZ (λ e=>e fe)).1 _).trans (HG.o.use.1 _ _ dh))
   refine Z63 ?_;intro r1 r2 r3 w6 g6 lR cI;obtain⟨e0,e1,ef,el⟩:=F5.o.gr lR;have B0:=U10 lR;clear x0 x1 xf xl V3m wW r1 r2 r3 cI g5 g6 lR;have yR:=O9x _ _ (λ _ _ _ _ _ e=>Odj e) _ _ _ _ _ _ _ HY.o (by rw[<-H.o.nd,U1n];exact hL);have yI:L'.length<=20000001:=by have:=yR.1;rw[<-bG.o.nd,U1n]at this;exact this
   have qm:d<=100000000:=by have:=yR.2;rw[U4o,eC.o]at this;omega
   clear yR;have iu:bs (⟨wt.toArray⟩:ByteArray)=wt:=by simp[bs]
   obtain⟨XS,nE⟩:=ExZ (V16 g'.nds n wt)
   have ag:=bV.o;rw[nE]at ag;have km:XS≠.non:=λ e=>by rw[e]at ag;exact a8 ag.symm
   refine Z138 ?_;intro W7 oO G7 dm g7 z7;have gc:=U10 (bG.o.gr G7.o);have lH:=U10 (Odd W7 R B base s 0 nv' L' own' g'.srt x gc.o.v n ⟨wt.toArray⟩ XS (by rw[bG.o.nd,iu];exact nE) km);have CP:=U10 nE;have Jr:∀i,XS=.yes i->i<L'.length:=λ i e=>by
    have h1:=CP.o;rw[e]at h1;unfold V16 at h1
    split at h1;cases h1
    split at h1;cases h1
    split at h1;cases h1
    split at h1
    rename_i h2
    cases h1;rw[<-bG.o.nd,U1n]at h2;exact h2
    cases h1
   have Fu:=U10 dm;clear e0 e1 ef el;obtain⟨e0,e1,ef,el⟩:=F5.o.gr G7.o;obtain⟨y0,y1,yf,yl⟩:=dm;have Ro:IntKind.i64.wrap ((d:Int)+2)=(d:Int)+2:=U1i _ ⟨Ya,Ya⟩;have Sk:=gc.o.v.R_lt.2;clear nE;go_wp2_with fail;refine lH.o.mono ?_;refine Z44 ?_;clear lH;cases XS with
   |non=>exact absurd rfl km
   |yes i =>
    have hi:=Jr i rfl;have s0:((i:Int) != -1)=true:=Yb;obtain⟨⟨c0,c1,c2,c3,c4,c5,c6⟩,c7,c8,fz⟩:=gc.o.v.cells;obtain⟨sh,sof,cz⟩:∃a b,g'.srt.getD i (0,0)=(a,b):=⟨_,_,rfl⟩
    have qM:=gc.o.v.look i Ya W7 rfl;rw[cz,show O27 (sh,sof)=.agg #[.int .u8 sh,sof] from rfl]at qM;have Bb:(Vf g' i).1=sh:=by unfold Vf;rw[cz]
    have xZ:∀W,(Instr.field 94 (.agg #[.int .u8 sh,sof]) 0).run prog W=.ok (.int .u8 sh) W:=λ W=>by kernel_rfl
    have NB:=xZ W7;simp only at ag;rw[Bb]at ag;clear c0 c1 c2 c4 c5 c6 c7 c8 fz;dsimp only [O2y];by_cases h4:sh=4
    ·have s4:((sh:Int) != 4)=false:=by simp;omega
     rw[U18 h4]at ag;have H4:=U10 h4;clear h4;by_cases gQ:256<d+2;exact J129
     have s2:decide ((256:Int)<(d:Int)+2)=false:=Ye;rw[U1b gQ]at ag;obtain⟨ri,fG⟩:∃r,L'[i]?=some r:=⟨_,U1h hi⟩
     by_cases cS:(Pl.subsOk g' i&&Pl.room g'.nds)=true
     ·rw[U18 cS]at ag;rw[U1g]at cS;have tp:ri.nd.subs.length<=30000000:=by
       have h1:=cS.1;unfold Pl.subsOk at h1;rw[<-bG.o.nd,U1m,fG]at h1;exact of_decide_eq_true h1
      have h8:Oh g'.srt i:=by unfold Oh;rw[cz];show sh≠0;have:=H4.o;omega
      have dM:FV own R:=by unfold FV;rw[H.o.v.oR];omega
      refine Z282 ?_;intro j8;clear cS
      go_upto_region 13 with fail
      have eH:FX b5 n d W7.drew:=(F5.o.gr G7.o).gr (Gr.refl W7).drew;have yU:=(HE.o.gr G7.o)
      have sy:=(F6.o.gr G7.o)
      have eU:=((((HG.o.st).trans bv.o).gr G7.o))
      have uZ:=U10 (O92 W7.drew R B base s _ _ _ _ x (gc.o.v).drew Ya hm (i) (ri) (fG) (h8) (tp));refine Z317 ?_;rintro e lF ⟨he,vY,ey,Sl,Sn,So,uB,q',yV⟩;subst he;have kx:=eH.st q' (λ e=>e z5);refine Z76 ?_;refine Z59 ?_;obtain⟨⟨c0,c1,c2,c3,c4,c5,c6⟩,c7,c8,fz⟩:=uB.cells;have rc:=(yU.gr (Gr.refl W7).drew).st q' (λ e=>e j8);have nJ:=(sy.gr (Gr.refl W7).drew).st q' (λ e=>e z6);have rd:=eU.drew.trans q';have JY:ey (w.heap.size+1)=0:=U1e λ h=>(yV _ h).elim (λ h=>h j8) (λ h=>by have h1:=yU.2.2.2;rw[show W7.drew.heap.size=W7.heap.size from rfl]at h;omega)
      have Dp:=Odm uB rc JY rd (U2x _) dM L'.length (d+2);refine Z242 ?_;intro wm;have JZ:=uB.R_lt.2;have J':=U10 Dp;have yW:=U10 yV;obtain⟨r0,r1,rf,rl⟩:=rc;obtain⟨v0,v1,vf,vl⟩:=nJ;clear Dp uB q' yV rd yU sy eU c0 c1 c2 c3 c7 c8;refine Reg.on 10 ?_;refine Z300 ?_;go_wp2_with fail;obtain⟨vZ,nK,sB⟩:=J'.o;obtain⟨WF,am⟩:=ExZ (((((lF.setCell ⟨R,4,none⟩ L'.length).setCell ⟨R,5,none⟩ (.int .i64 ((d+2:Nat):Int))).setCell ⟨R,6,none⟩ (.int .i64 ((x.many:Int)+1))).setCell (w.heap.size+1:Nat) (0:Int)).setCell ⟨w+1,1,none⟩ (0:Int))
      rw[am]at vZ nK sB;rw[show ((d+2:Nat):Int)=(d:Int)+2 from rfl]at am;rw[am];clear am r0 r1 rf rl v0 v1 vf vl;obtain⟨q0,q1,qf,ql⟩:=vZ;rw[<-ag];refine U11 (v:=f0) (by simp[results,results87,go_sem,q0,q1,qf,ql]) rfl ⟨rfl,vY,_,ey,{ x with sec:=L'.length,dep:=d+2,many:=x.many+1 },rfl,rfl,⟨nK,?_,?_,rfl,by show x.many+1=g'.many+1;rw[bG.o.many]⟩,sB,λ k hk=>?_⟩
      rw[Ofj _ i ri (by rw[U1d hi];exact fG),U2o,bG.o.nd];have e1:L'.length=g'.nds.length:=by rw[<-bG.o.nd,U1n]
      rw[e1];rfl;show L'.length=g'.nds.length;rw[<-bG.o.nd,U1n]
      refine Z209 ?_;intro fY;rcases yW.o k hk with h|h
      exact (jI.o k h).imp id (λ h=>by have:=HG.o.size;omega)
      exact .inr (by rw[show W7.drew.heap.size=W7.heap.size from rfl]at h;have:=HG.o.size;omega)
     exact J79
    have s4:((sh:Int) != 4)=true:=Ye;rw[U1b h4]at ag;clear h4;have iB:=(HE.o.gr G7.o)
    obtain⟨r0,r1,rf,rl⟩:=id iB;go_wp2_with fail;have hF:=iB.set (5:Int) a;have AT:=(((HG.o.st).trans bv.o).gr G7.o)
    have sF:St (FV own) (FV own') w _:=(AT.setCell (p:=⟨w+1,0,none⟩) (.inr Yk) (5:Int)).setCell (p:=⟨w+1,1,none⟩) (.inr Yk) a;have aE:((W7.setCell (w.heap.size+1:Nat) (5:Int)).setCell ⟨w+1,1,none⟩ a).cell? ⟨R,2,none⟩=some (.string s):=by
     exact J88
    obtain⟨WF,am⟩:=ExZ (((W7.setCell (w.heap.size+1:Nat) (5:Int)).setCell ⟨w+1,1,none⟩ a))
    rw[am]at hF sF aE;rw[am];clear am;obtain⟨q0,q1,qf,ql⟩:=hF;rw[<-ag];exact U11 (v:=fv 5 a) (by simp[results,results87,go_sem,q0,q1,qf,ql]) rfl ⟨rfl,Yd,own',sF,aE,λ k hk=>(jI.o k hk).imp id (λ h=>by have:=HG.o.size;omega)⟩
   |no =>
    have s0:((-1:Int) != -1)=false:=Yb
    simp only at ag;dsimp only [O2y];by_cases gQ:256<d+2;exact J129
    have s2:decide ((256:Int)<(d:Int)+2)=false:=Ye;rw[U1b gQ]at ag;by_cases cS:(V2v g' n&&Pl.room g'.nds)=true
    ·rw[U18 cS]at ag;rw[U1g]at cS;obtain⟨kL,aB⟩:=cS;unfold V2v at kL;rw[U1g]at kL;obtain⟨aX,eT⟩:=kL;have fq:=aX;unfold Pl.kind8 at fq;rw[U1g,U1x]at fq;obtain⟨Fn,cT⟩:=fq;obtain⟨r,hr⟩:∃r,L'[n]?=some r:=by
      cases hr:L'[n]? with
      |some r=>exact⟨r,rfl⟩
      |none =>
       rw[<-bG.o.nd,U1m,hr]at cT;cases cT
     have vt:g'.nds[n]?=some r.nd:=by rw[<-bG.o.nd,U1m,hr];rfl
     rw[vt]at cT;simp only[U1g,U1x]at cT;obtain⟨⟨⟨_,ah⟩,aE⟩,kC⟩:=cT;have NC:n<L'.length:=(U16.1 hr).1;have aS:(L'++[Of 7])[n]?=some r:=by rw[U1d NC];exact hr
     have nw:g'.srt.length=L'.length:=bG.o.v.sl;have cx:Oh (g'.srt++[(4,0)]) n:=by
      have h1:(g'.srt++[(4,0)]).getD n (0,0)=g'.srt.getD n (0,0):=by
       exact J80
      unfold Oh;rw[h1];intro h2;unfold Vf at eT;rw[h2]at eT;cases eT
     have dM:FV own R:=by unfold FV;rw[H.o.v.oR];omega
     refine Z282 ?_;intro j8;have Sq:=Fu.o.2.2.2;have oS:own' w6.heap.size=0:=U1e λ h=>by have h1:=(bG.o.v.lt _ h).2;have:=B0.o.size;omega
     go_wp2_with fail;refine (O74 W7 R B base s 0 nv' L' own' g'.srt x gc.o.v Ya hm 7 (4,0)).mono ?_;rintro e w9 ⟨he,ki,aA,gY,ix,mp⟩;subst he;have bm:∀k,own' k=0->k<W7.heap.size->aA k=0:=λ k h1 h2=>U1e λ h=>(mp _ h).elim (λ h=>h h1) (λ h=>by omega)
     have x5:=(F5.o.gr G7.o).st ix (λ h=>h z5);have xS:=Fu.o.st ix (λ h=>h oS);have X5:=U10 x5;have XS:=U10 xS;obtain⟨e0,e1,ef,el⟩:=x5;obtain⟨y0,y1,yf,yl⟩:=xS;have nG:=U10 (Odi w9 R B base s 0 ki (L'++[Of 7]) aA (g'.srt++[(4,0)]) x gY (by rw[U1c];simp only[U25];omega) n r aS cx ah aE kC ⟨wt.toArray⟩ a b L'.length);have m5:=bm b5 z5 (F5.o.gr G7.o).2.2.2;have m6:=bm b6 z6 (F6.o.gr G7.o).2.2.2;have mE:=bm (w.heap.size+1) j8 (HE.o.gr G7.o).2.2.2;have yX:=U10 ix;have K8:=U10 mp;have h9:=ix.size;clear aS vt cx gY ix mp bm;go_wp2_with fail;refine nG.o.mono ?_;rintro e ca ⟨he,ac,kv,sv,uv,iX,dP,sm⟩;subst he;have bm:∀k,aA k=0->k<w9.heap.size->ac k=0:=λ k h1 h2=>U1e λ h=>(sm _ h).elim (λ h=>h h1) (λ h=>by omega)
     have x5:=X5.o.st dP (λ h=>h m5);have xE:=((HE.o.gr G7.o).st yX.o (λ h=>h j8)).st dP (λ h=>h mE);have x6:=((F6.o.gr G7.o).st yX.o (λ h=>h z6)).st dP (λ h=>h m6);have iH:=((((HG.o.st).trans bv.o).gr G7.o).trans yX.o).trans dP;have k5:=bm b5 m5 X5.o.2.2.2;have k6:=bm b6 m6 (U13 (F6.o.gr G7.o).2.2.2 h9);have kE:=bm (w.heap.size+1) mE (U13 (HE.o.gr G7.o).2.2.2 h9);have Sr:=U10 x5;have XE:=U10 xE;have X6:=U10 x6;obtain⟨LP,AI⟩:=ExZ ((L'++[Of 7]).set n ⟨V12 r.nd (bs ⟨wt.toArray⟩) (a,b) L'.length,kv,sv,uv⟩)
     rw[AI]at iX;have yY:LP.map (·.nd)=(V2s (V2j g' 7 (4,0)) n wt (a,b) g'.nds.length).nds:=by
      rw[<-AI,O9w _ n r (by rw[U1d NC];exact hr),show bs (⟨wt.toArray⟩:ByteArray)=wt by simp[bs],U2o,bG.o.nd,show L'.length=g'.nds.length from by rw[<-bG.o.nd,U1n]];rfl
     have MO:LP.length<=20000002:=by rw[<-AI];simp;omega
     have K9:=U10 (show LP.length=L'.length+1 by rw[<-AI];simp);have fG:LP[L'.length]?=some (Of 7):=by
      rw[<-AI,List.getElem?_set_ne Ya,U21 (U12 _),U3y];rfl
     have h8:Oh (g'.srt++[(4,0)]) L'.length:=by
      unfold Oh;rw[U1j,<-nw,U21 (U12 _),U3y];decide
     have aM:=U10 dP;have Ka:=U10 sm;have de:=dP.size;have jl:=U10 iX;have Ss:=iX.R_lt.2;clear x5 xE x6 dP sm iX bm AI e0 e1 ef el y0 y1 yf yl nG
     go_upto_region 13 with fail
     have eH:FX b5 n d ca.drew:=(Sr.o).gr (Gr.refl ca).drew;have yU:=(XE.o)
     have sy:=(X6.o)
     have eU:=(iH)
     have uZ:=U10 (O92 ca.drew R B base s _ _ _ _ x (jl.o).drew (MO) hm (L'.length) (Of 7) (fG) (h8) (by simp[Of,V1r]));refine Z317 ?_;rintro e lF ⟨he,vY,ey,Sl,Sn,So,uB,q',yV⟩;subst he;have kx:=eH.st q' (λ e=>e k5);refine Z76 ?_;refine Z59 ?_;obtain⟨⟨c0,c1,c2,c3,c4,c5,c6⟩,c7,c8,fz⟩:=uB.cells;have rc:=(yU.gr (Gr.refl ca).drew).st q' (λ e=>e kE);have nJ:=(sy.gr (Gr.refl ca).drew).st q' (λ e=>e k6);have rd:=eU.drew.trans q';have JY:ey (w.heap.size+1)=0:=U1e λ h=>(yV _ h).elim (λ h=>h kE) (λ h=>by have h1:=yU.2.2.2;rw[show ca.drew.heap.size=ca.heap.size from rfl]at h;omega)
     have Dp:=Odm uB rc JY rd (U2x _) dM LP.length (d+2);refine Z242 ?_;intro wm;have JZ:=uB.R_lt.2;have J':=U10 Dp;have yW:=U10 yV;obtain⟨r0,r1,rf,rl⟩:=rc;obtain⟨v0,v1,vf,vl⟩:=nJ;clear Dp uB q' yV rd yU sy eU c0 c1 c2 c3 c7 c8;refine Reg.on 10 ?_;refine Z300 ?_;go_wp2_with fail;obtain⟨vZ,nK,sB⟩:=J'.o;obtain⟨WF,am⟩:=ExZ (((((lF.setCell ⟨R,4,none⟩ LP.length).setCell ⟨R,5,none⟩ (.int .i64 ((d+2:Nat):Int))).setCell ⟨R,6,none⟩ (.int .i64 ((x.many:Int)+1))).setCell (w.heap.size+1:Nat) (0:Int)).setCell ⟨w+1,1,none⟩ (0:Int))
     rw[am]at vZ nK sB;rw[show ((d+2:Nat):Int)=(d:Int)+2 from rfl]at am;rw[am];clear am r0 r1 rf rl v0 v1 vf vl;obtain⟨q0,q1,qf,ql⟩:=vZ;rw[<-ag];refine U11 (v:=f0) (by simp[results,results87,go_sem,q0,q1,qf,ql]) rfl ⟨rfl,vY,_,ey,{ x with sec:=LP.length,dep:=d+2,many:=x.many+1 },rfl,rfl,⟨nK,?_,?_,rfl,by show x.many+1=g'.many+1;rw[bG.o.many]⟩,sB,λ k hk=>?_⟩
     rw[Ofj _ L'.length (Of 7) (by rw[U1d (by have:=K9.o;omega)];exact fG),U2o,yY];have e1:L'.length=g'.nds.length:=by rw[<-bG.o.nd,U1n]
     have e2:LP.length=(V2s (V2j g' 7 (4,0)) n wt (a,b) g'.nds.length).nds.length:=by rw[<-yY,U1n]
     rw[e1,e2];rfl;show LP.length=(V2s (V2j g' 7 (4,0)) n wt (a,b) g'.nds.length).nds.length;rw[<-yY,U1n]
     refine Z209 ?_;intro fY;have hz:=HG.o.size;rcases yW.o k hk with h|h
     rcases Ka.o k h with h|h
     rcases K8.o k h with h|h
     exact (jI.o k h).imp id (λ h=>by omega)
     exact J64
     exact J64
     exact .inr (by rw[show ca.drew.heap.size=ca.heap.size from rfl]at h;omega)
    exact J79
