/- The proof's part 37. -/
import Derived.Test.YtnkgknbdaiakgaaGreatDoorP12
import Derived.Test.YtnkgknbdaiakgaaGreatDoorP32
set_option maxHeartbeats 16000000
set_option linter.all false
set_option maxRecDepth 100000
namespace Go.Proofs.YtnkgknbdaiakgaaGreatDoor
open Pl Go.Proofs.Tryz Go.RowKit Go.Shelf Go.Joins
attribute [local go_sem] Uy
def O1i(X:Pl.Ov)(e:Ending):Prop:=match X with
 |.non=>True
 |.go n d=>e = .returned (.tuple #[.agg #[n,d],.bool true])
 |.no=>∃n d:Int,e = .returned (.tuple #[.agg #[n,d],.bool false])
structure GM(w:World)(R B base:Nat)(s:ByteArray)(nv:Value)(L:List Vw)(own:Nat->Nat)(x:GrX)(g:Vb):Prop where
 v:GrV w R B base s 0 nv L own g.srt x
 nd:L.map (·.nd)=g.nds
 sec:x.sec=g.sec
 dep:x.dep=g.dep
 many:x.many=g.many
theorem GM.gr{w w':World}{R B base:Nat}{s:ByteArray}{nv:Value}{L:List Vw}{own:Nat->Nat}{x:GrX}{g:Vb}(h:GM w R B base s nv L own x g)(q:Gr w w'):GM w' R B base s nv L own x g :=
 ⟨h.v.gr q,h.nd,h.sec,h.dep,h.many⟩
structure Vdb(b r gu m:Nat)(an d l:Nat)(w:World):Prop where
 c:w.cell? ⟨gu,m,none⟩=some (.int .i64 l)
 p:FX b an d w
 r:FX r (0:Int) (0:Int) w
theorem Oo3(w:World)(R B base:Nat)(s:ByteArray)(nv:Value)(L:List Vw)(own:Nat->Nat)(x:GrX)(g:Vb)(h:GM w R B base s nv L own x g)(an d i:Nat)(hi:i<L.length)(hL:L.length<=30000000)(hd:d<=1000000000)(X:Pl.Ov)(hX:V2u g d i=X)(a8:X ≠ .non) :
    Calls prog 114 #[.pointer (some ⟨R,0,none⟩),.agg #[an,d],i] w λ e w'=>O1i X e/\Gr w w':=by
 refine Z115 ?_;intro c0 c1 c2 c3 c4 c5 c6 c7 c8 fz hR sh sof cD hs mI;have H:=U0 h;have HX:=U0 hX;have HS:=U0 hs;clear h hX hs cD fz c1 c2 c4 c5 c6 c7 c8;go_enter func114,ntmps114
 go_upto_region 1 with fail
 obtain⟨W,hW⟩:=ExZ ((w.alloc (.cells #[an,d] 67)).alloc (.cells #[(0:Int),(0:Int)] 67))
 have gW:Gr w W:=by rw[<-hW];exact ((Gr.refl w).alloc _).alloc _
 have mm:FX w.heap.size an d W:=by rw[<-hW];exact (FX.new w _ _ 67).gr ((Gr.refl _).alloc _)
 refine Z258 ?_;intro fH;have e0:W.cell? ⟨R,0,none⟩=some nv:=(gW.use.1 R 0 hR.2).trans c0;have e3:W.cell? ⟨R,3,none⟩=some (.map (some B)):=(gW.use.1 R 3 hR.2).trans c3;have qH:(Instr.lookup 65 (.map (some B)) i false).run prog W = .ok (.agg #[.int .u8 sh,sof]) W:=mI.o W gW;obtain⟨p0,p1,pf,pl⟩:=mm;obtain⟨r0,r1,rf,rl⟩:=fH;have HG:=U0 gW;have bO:R<W.heap.size:=U4 hR.2 gW.size
 try rw[hW]
 clear hW gW c0 c3;by_cases h0:sh=0
 ·have s0:((sh:Int)==0)=true:=by simp;omega
  have Im:X = .no:=by rw[<-HX.o];unfold V2u;rw[HS.o,Ua h0]
  subst Im;go_wp2_with fail;obtain⟨WF,am⟩:=ExZ (((W.setCell ⟨w.heap.size+1,0,none⟩ (0:Int)).setCell ⟨w.heap.size+1,1,none⟩ (0:Int)))
  have hF:FX (w.heap.size+1) (0:Int) (0:Int) WF:=by rw[<-am];exact FX.set ⟨r0,r1,rf,rl⟩ _ _
  have gF:Gr w WF:=by rw[<-am];exact (HG.o.setCell (p:=⟨w.heap.size+1,0,none⟩) (U1w _) _).setCell (p:=⟨w.heap.size+1,1,none⟩) (U1w _) _
  rw[am];clear am;obtain⟨q0,q1,qf,ql⟩:=hF.gr ((Gr.refl WF).alloc (.cells #[.int .u8 0,sof] 94));have gE:=gF.alloc (.cells #[.int .u8 0,sof] 94);exact U1 (v := .tuple #[.agg #[(0:Int),(0:Int)],.bool false]) (by simp[results,results114,go_sem,q0,q1,qf,ql]) rfl ⟨⟨0,0,rfl⟩,gE⟩
 have s0:((sh:Int)==0)=false:=by simp;omega
 by_cases h4:sh=4
 ·have s4:((sh:Int)==4)=true:=by simp;omega
  obtain⟨r,hr⟩:∃r,L[i]?=some r:=⟨_,Uh hi⟩
  have bP:g.nds[i]?=some r.nd:=by rw[<-H.o.nd,Uq,hr];rfl
  have ae:=HX.o;unfold V2u at ae;rw[HS.o,Ud h0,Ua h4,bP]at ae;simp only at ae;cases hl:r.nd.subs.getLast? with
  |none=>rw[hl]at ae;exact absurd ae.symm a8
  |some l =>
   rw[hl]at ae;simp only at ae;subst ae;obtain⟨gn,cap,cur,yi,_,aY,_⟩:=H.o.v.form (by omega);obtain⟨_,_,_,_,n4,_⟩:=H.o.v.ndCells yi i r hr;have iF:0<r.nd.subs.length:=by
    cases hs:r.nd.subs with
    |nil=>rw[hs]at hl;cases hl
    |cons=>simp
   have sD:=(H.o.v.rows i r hr).u;obtain⟨gu,cu,lQ,lZ,eL⟩:=sD.form iF;have EB:r.nd.subs[r.nd.subs.length-1]?=some l:=by rw[<-U2j];exact hl
   have cX:=sD.cells (g:=gu) (by rw[lQ];rfl) (r.nd.subs.length-1) l (by simp[O7,EB]);have In:=(sD.lt gu (by rw[lQ];rfl)).2;rw[lQ]at n4;have N4:=(HG.o.use.1 _ _ aY).trans n4;have Q3:gn<W.heap.size:=U4 aY HG.o.size;have Io:gu<W.heap.size:=U4 In HG.o.size;have CL:=(HG.o.use.1 _ _ In).trans cX;obtain⟨m,hm⟩:∃m,r.nd.subs.length=m+1:=⟨r.nd.subs.length-1,by omega⟩
   rw[hm]at N4 CL lZ;simp only[U2w]at CL;refine Z140 ?_;intro j1 j2;have j3:(0:Int)<=(m:Int):=by omega
   have j4:(m:Int)<((m+1:Nat):Int):=by omega
   have j5:(m:Int)<(m:Int)+1:=by omega
   have Q4:m<9223372036854775807:=by unfold maxLen at eL;omega
   have wm:IntKind.i64.wrap (m:Int)=(m:Int):=Uk _ ⟨by omega,by omega⟩;have Q5:IntKind.i64.wrap (((m+1:Nat):Int)-1)=(m:Int):=by rw[Uk _ ⟨by omega,by omega⟩];omega
   have Q6:IntKind.i64.wrap ((d:Int)+2)=(d:Int)+2:=Uk _ ⟨by omega,by omega⟩;subst yi;clear bP hl EB iF sD lQ cX n4 aY In hr hm eL lZ
   go_upto_region 7 with fail
   obtain⟨W9,zj⟩:=ExZ (W.alloc (.cells #[.int .u8 4,sof] 94))
   have g9:Gr W W9:=by rw[<-zj];exact (Gr.refl W).alloc _
   have hS:Vdb w.heap.size (w.heap.size+1) gu m an d l W9.drew :=
    ⟨(g9.drew.use.1 _ _ Io).trans CL,FX.gr ⟨p0,p1,pf,pl⟩ g9.drew,FX.gr ⟨r0,r1,rf,rl⟩ g9.drew⟩
   obtain⟨wO,wP,wQ,wR⟩:=FX.gr ⟨r0,r1,rf,rl⟩ g9;have Q7:=U0 (HG.o.trans g9);rw[zj];clear zj g9 N4 CL p0 p1 pf pl r0 r1 rf rl e0 e3 qH;refine Reg.begin' (W:=λ i=>i != 10) (S:=Vdb w.heap.size (w.heap.size+1) gu m an d l) (by kernel_rfl) ?_;refine Z32 ?_;refine Z42 ?_;refine Reg.tl 5 hS ?_ (hy:=by intro w ab;obtain⟨s1,⟨s2,s3,s4,s5⟩,s6⟩:=ab;go_simp;try with_reducible rfl);refine Reg.ty 6 ?_;refine Reg.tl 7 hS ?_ (hy:=by intro w ab;obtain⟨s1,⟨s2,s3,s4,s5⟩,s6⟩:=ab;go_simp;try with_reducible rfl);refine Z310 ?_;refine Reg.on 10 ?_;go_simp;refine Z2 ?_;refine Reg.ty 11 ?_;refine Z12 ?_;go_wp2_with fail;obtain⟨WF,am⟩:=ExZ (((W9.setCell ⟨w.heap.size+1,0,none⟩ l).setCell ⟨w.heap.size+1,1,none⟩ (.int .i64 ((d:Int)+2))))
   have hF:FX (w.heap.size+1) l (.int .i64 ((d:Int)+2)) WF:=by rw[<-am];exact FX.set ⟨wO,wP,wQ,wR⟩ _ _
   have gF:Gr w WF:=by rw[<-am];exact (Q7.o.setCell (p:=⟨w.heap.size+1,0,none⟩) (U1w _) _).setCell (p:=⟨w.heap.size+1,1,none⟩) (U1w _) _
   rw[am];obtain⟨q0,q1,qf,ql⟩:=hF.gr (Gr.refl WF).drew;have gE:=gF.drew;clear am hF gF wO wP wQ wR hS;exact U1 (v := .tuple #[.agg #[l,.int .i64 ((d:Int)+2)],.bool true]) (by simp[results,results114,go_sem,q0,q1,qf,ql]) rfl ⟨by simp[O1i],gE⟩
 have s4:((sh:Int)==4)=false:=by simp;omega
 have Ip:X = .go i (d+1):=by rw[<-HX.o];unfold V2u;rw[HS.o,Ud h0,Ud h4]
 subst Ip;refine Z151 ?_;intro Iq;go_wp2_with fail;refine Z287 ?_;intro WF am;have hF:FX (w.heap.size+1) i (.int .i64 ((d:Int)+1)) WF:=by rw[<-am];exact FX.set ⟨r0,r1,rf,rl⟩ _ _
 have gF:Gr w WF:=by rw[<-am];exact (HG.o.setCell (p:=⟨w.heap.size+1,0,none⟩) (U1w _) _).setCell (p:=⟨w.heap.size+1,1,none⟩) (U1w _) _
 rw[am];clear am;obtain⟨q0,q1,qf,ql⟩:=hF.gr ((Gr.refl WF).alloc (.cells #[.int .u8 sh,sof] 94));have gE:=gF.alloc (.cells #[.int .u8 sh,sof] 94);exact U1 (v := .tuple #[.agg #[i,.int .i64 ((d:Int)+1)],.bool true]) (by simp[results,results114,go_sem,q0,q1,qf,ql]) rfl ⟨by simp[O1i],gE⟩
structure Vbo(R B b:Nat)(i an d many sh sof:Nat)(w:World):Prop where
 c3:w.cell? ⟨R,3,none⟩=some (.map (some B))
 c6:w.cell? ⟨R,6,none⟩=some (.int .i64 many)
 p1:w.cell? ⟨b,1,none⟩=some (.int .i64 d)
 lk:(Instr.lookup 65 (.map (some B)) i false).run prog w = .ok (.agg #[.int .u8 sh,sof]) w
theorem Ojx(w:World)(R B base:Nat)(s:ByteArray)(nv:Value)(L:List Vw)(own:Nat->Nat)(x:GrX)(g:Vb)(h:GM w R B base s nv L own x g)(an d i:Nat)(hi:i<L.length)(hL:L.length<=30000000)(hd:d<=1000000000) :
    Calls prog 119 #[.pointer (some ⟨R,0,none⟩),.agg #[an,d],i] w λ e w'=>O1i (V1j g d i) e/\Gr w w':=by
 refine Z115 ?_;intro c0 c1 c2 c3 c4 c5 c6 c7 c8 fz hR sh sof cD hs mI;have HS:=U0 hs;rw[h.many]at c6;obtain⟨many,Ir⟩:=ExZ (g.many)
 rw[Ir]at c6;have Is:=U0 Ir;clear h hs cD fz c0 c1 c2 c4 c5 c7 c8 Ir;refine Z151 ?_;intro Iq;go_enter func119,ntmps119
 go_upto_region 1 with fail
 obtain⟨W,hW⟩:=ExZ ((w.alloc (.cells #[an,d] 67)).alloc (.cells #[(0:Int),(0:Int)] 67))
 have gW:Gr w W:=by rw[<-hW];exact ((Gr.refl w).alloc _).alloc _
 have mm:FX w.heap.size an d W:=by rw[<-hW];exact (FX.new w _ _ 67).gr ((Gr.refl _).alloc _)
 refine Z258 ?_;intro fH;have hS:Vbo R B w.heap.size i an d many sh sof W.drew :=
  ⟨(gW.drew.use.1 R 3 hR.2).trans c3,(gW.drew.use.1 R 6 hR.2).trans c6,mm.2.1,mI.o W.drew gW.drew⟩
 obtain⟨r0,r1,rf,rl⟩:=fH;have HG:=U0 gW
 try rw[hW]
 clear hW gW;refine Z287 ?_;intro WF am;have hF:FX (w.heap.size+1) i (.int .i64 ((d:Int)+1)) WF:=by rw[<-am];exact FX.set ⟨r0,r1,rf,rl⟩ _ _
 have gF:Gr w WF:=by rw[<-am];exact (HG.o.setCell (p:=⟨w.heap.size+1,0,none⟩) (U1w _) _).setCell (p:=⟨w.heap.size+1,1,none⟩) (U1w _) _
 have bj:Vbo R B w.heap.size i an d many sh sof WF.drew:=by
  have p1:WF.cell? ⟨w.heap.size,1,none⟩=some (.int .i64 d):=by
   rw[<-am,Um _ _ _ _ (by simp),Um _ _ _ _ (by simp)];exact mm.2.1
  exact⟨(gF.drew.use.1 R 3 hR.2).trans c3,(gF.drew.use.1 R 6 hR.2).trans c6,p1,mI.o WF.drew gF.drew⟩
 have HF:=U0 hF;have Ad:=U0 gF;have ko:=U0 bj;have oA:=U0 am;clear c3 c6 mm hF gF bj am;have hb:(∃b,b=(((sh:Int)==3)&&((sof:Int)==(many:Int)))):=⟨_,rfl⟩
 obtain⟨bb,cR⟩:=hb;have gt:(((sh:Int)==3)=false/\bb=false)\/(((sh:Int)==3)=true/\((sof:Int)==(many:Int))=false/\bb=false)\/(((sh:Int)==3)=true/\((sof:Int)==(many:Int))=true/\bb=true):=by
  cases h1:((sh:Int)==3) <;> cases h2:((sof:Int)==(many:Int)) <;> rw[h1,h2]at cR <;> simp[cR]
 have zU:=U0 cR;clear cR;rcases gt with⟨e1,rfl⟩|⟨e1,e2,rfl⟩|⟨e1,e2,rfl⟩
 all_goals
  refine Reg.begin' (W:=λ _=>true) (S:=Vbo R B w.heap.size i an d many sh sof) (by kernel_rfl) ?_;refine Z319 ?_;refine Reg.ty 5 ?_;refine Z141 ?_;refine Reg.ty 13 ?_;refine Reg.tl 14 hS ?_ (hy:=by intro w ab;obtain⟨s1,s2,s3,s4⟩:=ab;go_simp;try with_reducible rfl);refine Reg.ty 15 ?_;refine Reg.ty 16 ?_;refine Z188 ?_;rw[oA.o];refine⟨by first|exact ko.o|exact λ _=>ko.o|exact λ _ _=>ko.o,?_⟩;refine Reg.pt ?_;refine Reg.ty 18 ?_;refine Z12 ?_;go_wp2_with fail;obtain⟨q0,q1,qf,ql⟩:=HF.o.gr (Gr.refl WF).drew;have gE:=Ad.o.drew
 have hX:V1j g d i = .no:=by
  unfold V1j;rw[HS.o,Is.o,Ud (λ h=>by cases h;simp at e1)]
 exact J159
 have hX:V1j g d i = .no:=by
  unfold V1j;rw[HS.o,Is.o,Ud (λ h=>by cases h;simp at e2)]
 exact J159
 have hX:V1j g d i = .go i (d+1):=by
  unfold V1j;rw[HS.o,Is.o,Ua (by rw[U6];exact⟨by have h:=eq_of_beq e1;omega,by have h:=eq_of_beq e2;omega⟩)]
 rw[hX];exact U1 (v := .tuple #[.agg #[i,.int .i64 ((d:Int)+1)],.bool true]) (by simp[results,results119,go_sem,q0,q1,qf,ql]) rfl ⟨by simp[O1i],gE⟩
theorem fx5(w:World)(a0 b0 a1 b1 a2 b2 a3 b3 a4 b4:Value)(T0 T1 T2 T3 T4:TypeId) :
    FX w.heap.size a0 b0 (((((w.alloc (.cells #[a0,b0] T0)).alloc (.cells #[a1,b1] T1)).alloc (.cells #[a2,b2] T2)).alloc (.cells #[a3,b3] T3)).alloc (.cells #[a4,b4] T4))/\FX (w.heap.size+1) a1 b1 (((((w.alloc (.cells #[a0,b0] T0)).alloc (.cells #[a1,b1] T1)).alloc (.cells #[a2,b2] T2)).alloc (.cells #[a3,b3] T3)).alloc (.cells #[a4,b4] T4)) /\
    FX (w.heap.size+1+1) a2 b2 (((((w.alloc (.cells #[a0,b0] T0)).alloc (.cells #[a1,b1] T1)).alloc (.cells #[a2,b2] T2)).alloc (.cells #[a3,b3] T3)).alloc (.cells #[a4,b4] T4))/\FX (w.heap.size+1+1+1) a3 b3 (((((w.alloc (.cells #[a0,b0] T0)).alloc (.cells #[a1,b1] T1)).alloc (.cells #[a2,b2] T2)).alloc (.cells #[a3,b3] T3)).alloc (.cells #[a4,b4] T4)) /\
    FX (w.heap.size+1+1+1+1) a4 b4 (((((w.alloc (.cells #[a0,b0] T0)).alloc (.cells #[a1,b1] T1)).alloc (.cells #[a2,b2] T2)).alloc (.cells #[a3,b3] T3)).alloc (.cells #[a4,b4] T4))/\Gr w (((((w.alloc (.cells #[a0,b0] T0)).alloc (.cells #[a1,b1] T1)).alloc (.cells #[a2,b2] T2)).alloc (.cells #[a3,b3] T3)).alloc (.cells #[a4,b4] T4)) /\
    (((((w.alloc (.cells #[a0,b0] T0)).alloc (.cells #[a1,b1] T1)).alloc (.cells #[a2,b2] T2)).alloc (.cells #[a3,b3] T3)).alloc (.cells #[a4,b4] T4)).heap.size=w.heap.size+1+1+1+1+1:=by
 obtain⟨w1,h1⟩:=ExZ (w.alloc (.cells #[a0,b0] T0))
 obtain⟨w2,h2⟩:=ExZ (w1.alloc (.cells #[a1,b1] T1))
 obtain⟨w3,h3⟩:=ExZ (w2.alloc (.cells #[a2,b2] T2))
 obtain⟨w4,h4⟩:=ExZ (w3.alloc (.cells #[a3,b3] T3))
 obtain⟨w5,h5⟩:=ExZ (w4.alloc (.cells #[a4,b4] T4))
 rw[h1,h2,h3,h4,h5];have z1:w1.heap.size=w.heap.size+1:=by rw[<-h1];simp
 have z2:w2.heap.size=w.heap.size+1+1:=by rw[<-h2];simp[z1]
 have z3:w3.heap.size=w.heap.size+1+1+1:=by rw[<-h3];simp[z2]
 have z4:w4.heap.size=w.heap.size+1+1+1+1:=by rw[<-h4];simp[z3]
 have z5:w5.heap.size=w.heap.size+1+1+1+1+1:=by rw[<-h5];simp[z4]
 have g1:Gr w w1:=by rw[<-h1];exact (Gr.refl _).alloc _
 have g2:Gr w1 w2:=by rw[<-h2];exact (Gr.refl _).alloc _
 have g3:Gr w2 w3:=by rw[<-h3];exact (Gr.refl _).alloc _
 have g4:Gr w3 w4:=by rw[<-h4];exact (Gr.refl _).alloc _
 have g5:Gr w4 w5:=by rw[<-h5];exact (Gr.refl _).alloc _
 have f0:FX w.heap.size a0 b0 w1:=by rw[<-h1];exact FX.new w _ _ _
 have f1:FX w1.heap.size a1 b1 w2:=by rw[<-h2];exact FX.new w1 _ _ _
 have f2:FX w2.heap.size a2 b2 w3:=by rw[<-h3];exact FX.new w2 _ _ _
 have f3:FX w3.heap.size a3 b3 w4:=by rw[<-h4];exact FX.new w3 _ _ _
 have f4:FX w4.heap.size a4 b4 w5:=by rw[<-h5];exact FX.new w4 _ _ _
 rw[z1]at f1;rw[z2]at f2;rw[z3]at f3;rw[z4]at f4;exact⟨f0.gr (g2.trans (g3.trans (g4.trans g5))),f1.gr (g3.trans (g4.trans g5)),f2.gr (g4.trans g5),f3.gr g5,f4,g1.trans (g2.trans (g3.trans (g4.trans g5))),z5⟩
def O40(w:World)(R B base:Nat)(s:ByteArray)(own:Nat->Nat)(x:GrX)(X:Va (Nat×Nat×Vb))(e:Ending)(w':World):Prop:=match X with
 |.non=>True
 |.bad c p=>(∃n d:Int,e = .returned (.tuple #[.agg #[n,d],fv c p]))/\c≠0/\∃own',St (FV own) (FV own') w w'/\w'.cell? ⟨R,2,none⟩=some (.string s)/\(∀k,own' k≠0->own k≠0\/w.heap.size<=k)
 |.ok (n,d,g')=>e = .returned (.tuple #[.agg #[n,d],f0])/\∃nv' L' own',GM w' R B base s nv' L' own' x g'/\St (FV own) (FV own') w w'/\(∀k,own' k≠0->own k≠0\/w.heap.size<=k)
theorem fx2{w W:World}{b3 b4:Nat}{x3 y3 x4 y4:Value}(h3:FX b3 x3 y3 W)(h4:FX b4 x4 y4 W)(hn:b3≠b4)(g:Gr w W)(l3:w.heap.size<=b3)(l4:w.heap.size<=b4)(p q u v:Value) :
    FX b3 p q ((((W.setCell ⟨b3,0,none⟩ p).setCell ⟨b3,1,none⟩ q).setCell ⟨b4,0,none⟩ u).setCell ⟨b4,1,none⟩ v) /\
    FX b4 u v ((((W.setCell ⟨b3,0,none⟩ p).setCell ⟨b3,1,none⟩ q).setCell ⟨b4,0,none⟩ u).setCell ⟨b4,1,none⟩ v) /\
    Gr w ((((W.setCell ⟨b3,0,none⟩ p).setCell ⟨b3,1,none⟩ q).setCell ⟨b4,0,none⟩ u).setCell ⟨b4,1,none⟩ v) :=
 ⟨((FX.set h3 _ _).other (U2k hn) _).other (U2k hn) _,FX.set ((FX.other h4 hn _).other hn _) _ _,
  (((g.setCell (p:=⟨b3,0,none⟩) l3 _).setCell (p:=⟨b3,1,none⟩) l3 _).setCell (p:=⟨b4,0,none⟩) l4 _).setCell (p:=⟨b4,1,none⟩) l4 _⟩
theorem V67{w W:World}{F F':Nat->Prop}{b3 b4:Nat}{x3 y3 x4 y4:Value}(h3:FX b3 x3 y3 W)(h4:FX b4 x4 y4 W)(hn:b3≠b4)(g:St F F' w W)(l3:w.heap.size<=b3)(l4:w.heap.size<=b4)(p q u v:Value) :
    FX b3 p q ((((W.setCell ⟨b3,0,none⟩ p).setCell ⟨b3,1,none⟩ q).setCell ⟨b4,0,none⟩ u).setCell ⟨b4,1,none⟩ v) /\
    FX b4 u v ((((W.setCell ⟨b3,0,none⟩ p).setCell ⟨b3,1,none⟩ q).setCell ⟨b4,0,none⟩ u).setCell ⟨b4,1,none⟩ v) /\
    St F F' w ((((W.setCell ⟨b3,0,none⟩ p).setCell ⟨b3,1,none⟩ q).setCell ⟨b4,0,none⟩ u).setCell ⟨b4,1,none⟩ v) /\
    (∀k,k≠b3->k≠b4->((((W.setCell ⟨b3,0,none⟩ p).setCell ⟨b3,1,none⟩ q).setCell ⟨b4,0,none⟩ u).setCell ⟨b4,1,none⟩ v).heap[k]?=W.heap[k]?) /\
    W.heap.size<=((((W.setCell ⟨b3,0,none⟩ p).setCell ⟨b3,1,none⟩ q).setCell ⟨b4,0,none⟩ u).setCell ⟨b4,1,none⟩ v).heap.size :=
 ⟨((FX.set h3 _ _).other (U2k hn) _).other (U2k hn) _,FX.set ((FX.other h4 hn _).other hn _) _ _,
  (((g.setCell (p:=⟨b3,0,none⟩) (.inr l3) _).setCell (p:=⟨b3,1,none⟩) (.inr l3) _).setCell (p:=⟨b4,0,none⟩) (.inr l4) _).setCell (p:=⟨b4,1,none⟩) (.inr l4) _,
  λ k k3 k4=>by rw[U5 _ _ _ _ k4,U5 _ _ _ _ k4,U5 _ _ _ _ k3,U5 _ _ _ _ k3],
  by simp[World.setCell]⟩
theorem O9b(L:List Vw)(an:Nat)(r:Vw)(hr:L[an]?=some r)(w:Pl.Bs)(sp:Nat×Nat)(n:Nat)(kv sv uv:Value) :
    (L.set an ⟨Vy r.nd w sp n,kv,sv,uv⟩).map (·.nd)=Vo (L.map (·.nd)) an w sp n:=by
 unfold Vo;refine U3g λ k=>?_
 rw[U2n,Uq,Uq,U1o];have hl:an<L.length:=(U7.1 hr).1;by_cases hk:an=k;subst hk;simp[hl,hr];have h2:=(U7.1 hr).2;rw[h2]
 simp[hk]
theorem Oei(fo:Nat)(sW:∀args w,(callFunc fo args).run prog w = .ok (.enter fo args) w)(p1 p2:Value)(over:Nat->Pl.Ov)(w:World)(R B base:Nat)(s:ByteArray)(nv:Value)(L:List Vw)(own:Nat->Nat)(x:GrX)(g:Vb)(h:GM w R B base s nv L own x g)
    (HO:∀W,Gr w W->∀i,i<L.length->over i ≠ .non->Calls prog fo #[i,p1,p2] W λ e W'=>O1i (over i) e/\Gr W W')
    (an d:Nat)(wd:ByteArray)(a b:Nat)(t:Nat×Nat)(hL:L.length<=20000001)(hm:x.many<=30000000)(hd:d<=1000000000)(X:Va (Nat×Nat×Vb))(hX:V1n g an d (bs wd) a b t over=X)(a8:X ≠ .non) :
    Calls prog 117 #[.pointer (some ⟨R,0,none⟩),.agg #[an,d],.string wd,.agg #[a,b],.agg #[.int .u8 t.1,t.2],.func (.func fo) #[] #[p1,p2]] w (O40 w R B base s own x X):=by
 obtain⟨XS,ny⟩:=ExZ (V12 g.nds an (bs wd))
 have kb:XS ≠ .non:=λ e=>by
  subst e;unfold V1n at hX;rw[ny]at hX;exact a8 hX.symm
 have lB:=U0 (λ W (q:Gr w W)=>Oc3 W R B base s 0 nv L own g.srt x (h.v.gr q) an wd XS (by rw[h.nd];exact ny) kb);have Ae:w.heap.size<=w.heap.size+1+1+1:=by omega
 have Af:w.heap.size<=w.heap.size+1+1+1+1:=by omega
 have H:=U0 h;have HX:=U0 hX;have Cg:=U0 ny;have Ch:=U0 HO;clear h hX ny HO;go_enter func117,ntmps117
 go_upto_region 1 with fail
 obtain⟨W,hW⟩:=ExZ (((((w.alloc (.cells #[an,d] 67)).alloc (.cells #[a,b] 38)).alloc (.cells #[.int .u8 t.1,t.2] 94)).alloc (.cells #[(0:Int),(0:Int)] 67)).alloc (.cells #[(0:Int),(0:Int)] 29))
 obtain⟨jo,bA,aA,aO,dk,gW,KY⟩:FX w.heap.size an d W/\FX (w.heap.size+1) a b W/\FX (w.heap.size+1+1) (.int .u8 t.1) t.2 W/\FX (w.heap.size+1+1+1) (0:Int) (0:Int) W/\FX (w.heap.size+1+1+1+1) (0:Int) (0:Int) W/\Gr w W/\W.heap.size=w.heap.size+1+1+1+1+1:=by
  rw[<-hW];exact fx5 w _ _ _ _ _ _ _ _ _ _ _ _ _ _ _
 try rw[hW]
 clear hW;have Iu:=U0 jo;have iD:=U0 bA;have nL:=U0 aA;have ig:=U0 aO;have uS:=U0 dk;have HG:=U0 gW;obtain⟨Ci,Cj,Ck,Cl⟩:=jo;clear bA aA aO dk gW;go_wp2_with fail;refine (lB.o W HG.o).mono ?_;refine Z48 ?_;cases XS with
 |non=>exact absurd rfl kb
 |yes i =>
  have Iv:i<L.length:=by
   have h1:=Cg.o;unfold V12 at h1
   split at h1;cases h1
   split at h1;cases h1
   split at h1;cases h1
   split at h1
   rename_i h2
   cases h1;rw[<-H.o.nd,Ul]at h2;exact h2
   cases h1
  have s0:((i:Int) != -1)=true:=by simp
  have ae:=HX.o;unfold V1n at ae;rw[Cg.o]at ae;simp only at ae;have Cm:over i ≠ .non:=λ e=>by rw[e]at ae;exact a8 ae.symm
  dsimp only [O2p];go_wp2_with fail;refine (Ch.o W HG.o i Iv Cm).mono ?_;cases bR:over i with
  |non=>exact absurd bR Cm
  |go n d' =>
   rw[bR]at ae;simp only at ae;subst ae;rintro e w2 ⟨he,g2⟩;have pK:e = .returned (.tuple #[.agg #[.int .i64 n,d'],.bool true]):=he;subst pK;have dQ:=HG.o.trans g2;obtain⟨r0,r1,rf,rl⟩:=ig.o.gr g2;obtain⟨k0,k1,kf,kl⟩:=uS.o.gr g2;have pa:=U0 dQ;clear g2 dQ Ci Cj Ck Cl;go_wp2_with fail;have cC:=fx2 ⟨r0,r1,rf,rl⟩ ⟨k0,k1,kf,kl⟩ (by omega) pa.o Ae Af n d' (0:Int) (0:Int);obtain⟨WF,am⟩:=ExZ (((((w2.setCell ⟨w.heap.size+1+1+1,0,none⟩ n).setCell ⟨w.heap.size+1+1+1,1,none⟩ d').setCell ⟨w.heap.size+1+1+1+1,0,none⟩ (0:Int)).setCell ⟨w.heap.size+1+1+1+1,1,none⟩ (0:Int)))
   rw[am]at cC;rw[am];obtain⟨df,d7,gF⟩:=cC;clear am;obtain⟨q0,q1,qf,ql⟩:=df.gr ((Gr.refl WF).alloc (.cells #[n,d'] 67));obtain⟨y0,y1,yf,yl⟩:=d7.gr ((Gr.refl WF).alloc (.cells #[n,d'] 67));have gE:=gF.alloc (.cells #[n,d'] 67);exact U1 (v := .tuple #[.agg #[n,d'],f0]) (by simp[results,results117,go_sem,q0,q1,qf,ql,y0,y1,yf,yl]) rfl ⟨rfl,_,_,_,H.o.gr gE,(St.refl (FV own) w).gr gE,λ k hk => .inl hk⟩
  |no =>
   rw[bR]at ae;simp only at ae;subst ae;rintro e w2 ⟨he,g2⟩;obtain⟨n,d',pK⟩:∃n d':Int,e = .returned (.tuple #[.agg #[n,d'],.bool false]):=he;subst pK;have dQ:=HG.o.trans g2;clear Ci Cj Ck Cl
   go_upto_region 6 with fail
   obtain⟨W5,jx⟩:=ExZ (w2.alloc (.cells #[n,d'] 67))
   have g5:Gr w2 W5:=by rw[<-jx];exact (Gr.refl _).alloc _
   have fH:=iD.o.gr (g2.trans g5);have cK:=ig.o.gr (g2.trans g5);have qI:=uS.o.gr (g2.trans g5);have lC:=U0 (dQ.trans g5);rw[jx];have hS:FX (w.heap.size+1) a b W5.drew:=fH.gr (Gr.refl W5).drew;clear jx g5 g2 dQ;obtain⟨r0,r1,rf,rl⟩:=id cK;obtain⟨k0,k1,kf,kl⟩:=id qI;refine Z41 ?_;refine Z12 ?_;go_wp2_with fail;have cC:=fx2 cK qI (by omega) lC.o Ae Af (0:Int) (0:Int) (5:Int) a;obtain⟨WF,am⟩:=ExZ (((((W5.setCell ⟨w.heap.size+1+1+1,0,none⟩ (0:Int)).setCell ⟨w.heap.size+1+1+1,1,none⟩ (0:Int)).setCell ⟨w.heap.size+1+1+1+1,0,none⟩ (5:Int)).setCell ⟨w.heap.size+1+1+1+1,1,none⟩ a))
   rw[am]at cC;rw[am];obtain⟨df,d7,gF⟩:=cC;clear am;obtain⟨q0,q1,qf,ql⟩:=df.gr (Gr.refl WF).drew;obtain⟨y0,y1,yf,yl⟩:=d7.gr (Gr.refl WF).drew;have gE:=gF.drew;have hR:=H.o.v.R_lt;exact U1 (v := .tuple #[.agg #[(0:Int),(0:Int)],fv 5 a]) (by simp[results,results117,go_sem,q0,q1,qf,ql,y0,y1,yf,yl]) rfl ⟨⟨0,0,rfl⟩,by decide,_,(St.refl (FV own) w).gr gE,(gE.use.1 R 2 hR.2).trans H.o.v.cells.1.2.2.1,λ k hk => .inl hk⟩
 |no =>
  have s0:((-1:Int) != -1)=false:=by simp
  have ae:=HX.o;unfold V1n at ae;rw[Cg.o]at ae;simp only at ae;dsimp only [O2p];refine Z151 ?_;intro Iq;by_cases gP:256<d+1
  ·have s2:decide ((256:Int)<(d:Int)+1)=true:=by simp;omega
   rw[Ua gP]at ae;subst ae
   go_upto_region 8 with fail
   have fH:=iD.o;have cK:=ig.o;have qI:=uS.o;have lC:=HG;have hS:FX (w.heap.size+1) a b W.drew:=fH.gr (Gr.refl W).drew;clear Ci Cj Ck Cl;obtain⟨r0,r1,rf,rl⟩:=id cK;obtain⟨k0,k1,kf,kl⟩:=id qI;refine Z41 ?_;refine Z12 ?_;go_wp2_with fail;have cC:=fx2 cK qI (by omega) lC.o Ae Af (0:Int) (0:Int) (4:Int) a;obtain⟨WF,am⟩:=ExZ (((((W.setCell ⟨w.heap.size+1+1+1,0,none⟩ (0:Int)).setCell ⟨w.heap.size+1+1+1,1,none⟩ (0:Int)).setCell ⟨w.heap.size+1+1+1+1,0,none⟩ (4:Int)).setCell ⟨w.heap.size+1+1+1+1,1,none⟩ a))
   rw[am]at cC;rw[am];obtain⟨df,d7,gF⟩:=cC;clear am;obtain⟨q0,q1,qf,ql⟩:=df.gr (Gr.refl WF).drew;obtain⟨y0,y1,yf,yl⟩:=d7.gr (Gr.refl WF).drew;have gE:=gF.drew;have hR:=H.o.v.R_lt;exact U1 (v := .tuple #[.agg #[(0:Int),(0:Int)],fv 4 a]) (by simp[results,results117,go_sem,q0,q1,qf,ql,y0,y1,yf,yl]) rfl ⟨⟨0,0,rfl⟩,by decide,_,(St.refl (FV own) w).gr gE,(gE.use.1 R 2 hR.2).trans H.o.v.cells.1.2.2.1,λ k hk => .inl hk⟩
  have s2:decide ((256:Int)<(d:Int)+1)=false:=by simp;omega
  rw[Ud gP]at ae;by_cases cH:(V32 g an&&Pl.room g.nds)=true
  ·rw[Ua cH]at ae;subst ae;rw[Uf]at cH;obtain⟨kC,aX⟩:=cH;unfold V32 at kC;rw[Uf]at kC;obtain⟨be,eW⟩:=kC;have Mg:=H.o.gr HG.o;have EC:∀k,own k≠0->k<w.heap.size:=λ k hk=>(H.o.v.lt k hk).2
   obtain⟨t0,t1,tf,tl⟩:=nL.o;have Mh:=U0 (show g.nds.length=L.length by rw[<-H.o.nd,Ul]);go_wp2_with fail;refine (O6n W R B base s 0 nv L own g.srt x Mg.v (by omega) hm 8 t).mono ?_;rintro e w3 ⟨AM,jZ,aC,gX,iu,mn⟩;subst AM;have n0:own w.heap.size=0:=Ue λ h=>by have:=EC _ h;omega
   have n1:own (w.heap.size+1)=0:=Ue λ h=>by have:=EC _ h;omega
   have n3:own (w.heap.size+1+1+1)=0:=Ue λ h=>by have:=EC _ h;omega
   have n4:own (w.heap.size+1+1+1+1)=0:=Ue λ h=>by have:=EC _ h;omega
   have m0:aC w.heap.size=0:=Ue λ h=>(mn _ h).elim (λ h=>h n0) (λ h=>by omega)
   have m3:aC (w.heap.size+1+1+1)=0:=Ue λ h=>(mn _ h).elim (λ h=>h n3) (λ h=>by omega)
   have m4:aC (w.heap.size+1+1+1+1)=0:=Ue λ h=>(mn _ h).elim (λ h=>h n4) (λ h=>by omega)
   have x0:=Iu.o.st iu (λ h=>h n0);have x1:=iD.o.st iu (λ h=>h n1);have x3:=ig.o.st iu (λ h=>h n3);have x4:=uS.o.st iu (λ h=>h n4);have X0:=U0 x0;have X3:=U0 x3;have X4:=U0 x4;obtain⟨Q8,Q9,Qa,Qb⟩:=x0;obtain⟨Qc,Qd,Qe,Qf⟩:=x1;clear x3 x4 Ci Cj Ck Cl t0 t1 tf tl;have fp:=be;unfold Pl.kind8 at fp;rw[Uf,Ux]at fp;obtain⟨Mi,cZ⟩:=fp;obtain⟨r,hr⟩:∃r,L[an]?=some r:=by
    cases hr:L[an]? with
    |some r=>exact⟨r,rfl⟩
    |none =>
     rw[<-H.o.nd,Uq,hr]at cZ;cases cZ
   have uQ:g.nds[an]?=some r.nd:=by rw[<-H.o.nd,Uq,hr];rfl
   rw[uQ]at cZ;simp only[Uf,Ux]at cZ;obtain⟨⟨⟨_,ah⟩,aE⟩,l0⟩:=cZ;have Cn:an<L.length:=(U7.1 hr).1;have aU:(L++[Of 8])[an]?=some r:=by rw[U9 Cn];exact hr
   have nY:g.srt.length=L.length:=H.o.v.sl;have cy:Og (g.srt++[t]) an:=by
    have h1:(g.srt++[t]).getD an (0,0)=g.srt.getD an (0,0):=by
     exact J62
    unfold Og;rw[h1];intro h2;unfold Vl at eW;rw[h2]at eW;cases eW
   have nz:=U0 (Oc8 w3 R B base s 0 jZ (L++[Of 8]) aC (g.srt++[t]) x gX (by rw[Ug];simp only[U19];omega) an r aU cy ah aE l0 wd a b L.length);have jg:=U0 iu;have yj:=U0 mn;clear aU cy uQ eW be gX iu mn ah aE l0 Mi Mg;go_wp2_with fail;refine nz.o.mono ?_;rintro e w4 ⟨Qg,ad,kv,sv,uv,iP,dS,rJ⟩;subst Qg;have y0:=X0.o.st dS (λ h=>h m0);have y3:=X3.o.st dS (λ h=>h m3);have y4:=X4.o.st dS (λ h=>h m4);obtain⟨Ci,Cj,Ck,Cl⟩:=y0;have Y3:=U0 y3;have Y4:=U0 y4;obtain⟨r0,r1,rf,rl⟩:=y3;obtain⟨k0,k1,kf,kl⟩:=y4;go_wp2_with fail;have cC:=V67 Y3.o Y4.o (by omega) ((HG.o.st).trans (jg.o.trans dS)) Ae Af L.length (.int .i64 ((d:Int)+1)) (0:Int) (0:Int);obtain⟨WF,am⟩:=ExZ (((((w4.setCell ⟨w.heap.size+1+1+1,0,none⟩ L.length).setCell ⟨w.heap.size+1+1+1,1,none⟩ (.int .i64 ((d:Int)+1))).setCell ⟨w.heap.size+1+1+1+1,0,none⟩ (0:Int)).setCell ⟨w.heap.size+1+1+1+1,1,none⟩ (0:Int)))
   rw[am]at cC;rw[am];obtain⟨df,d7,sF,bF,zF⟩:=cC;clear am;obtain⟨q0,q1,qf,ql⟩:=df;obtain⟨y0,y1,yf,yl⟩:=d7;have z3:ad (w.heap.size+1+1+1)=0:=Ue λ h=>(rJ _ h).elim (λ h=>h m3) (λ h=>by have:=X3.o.2.2.2;omega)
   have z4:ad (w.heap.size+1+1+1+1)=0:=Ue λ h=>(rJ _ h).elim (λ h=>h m4) (λ h=>by have:=X4.o.2.2.2;omega)
   have vy:=iP.kept (w':=WF) (λ k hk=>bF k (λ e=>hk (by rw[e];exact z3)) (λ e=>hk (by rw[e];exact z4))) zF;have bQ:=jg.o.size;have Qh:GM WF R B base s jZ ((L++[Of 8]).set an ⟨Vy r.nd (bs wd) (a,b) L.length,kv,sv,uv⟩) ad x (V2r (V2l g 8 t) an (bs wd) (a,b) g.nds.length):=by
    refine⟨vy,?_,H.o.sec,H.o.dep,H.o.many⟩;rw[O9b _ an r (by rw[U9 Cn];exact hr),Mh.o,U20,H.o.nd];rfl
   refine U1 (v := .tuple #[.agg #[L.length,.int .i64 ((d:Int)+1)],f0]) (by simp[results,results117,go_sem,q0,q1,qf,ql,y0,y1,yf,yl]) rfl ⟨by rw[Mh.o];rfl,_,_,_,Qh,sF,λ k hk=>?_⟩;rcases rJ k hk with h|h
   rcases yj.o k h with h|h
   exact .inl h
   exact J40
   exact J40
  exact J61
end Go.Proofs.YtnkgknbdaiakgaaGreatDoor
namespace Go.Proofs.YtnkgknbdaiakgaaGreatDoor
open Pl Go.Proofs.Tryz Go.RowKit Go.Joins
theorem V26.set{w:World}{base e size n g cap:Nat}{xs:List Value}(h:V26 w base e size (.slice (some ⟨g,0,none⟩) n cap) n xs)(j:Nat)(hj:j<xs.length)(v:Value) :
    V26 (w.setCell ⟨g,j,none⟩ v) base e size (.slice (some ⟨g,0,none⟩) n cap) n (xs.set j v):=by
 obtain⟨v0,h1,h2,h3⟩:=h;rcases h3 with rfl|⟨g',c,rfl,h4⟩
 exact O14 (Ou h1 j hj v)
 simp only[U33,Uc,Addr.mk.injEq,true_and,and_true]at h4;obtain⟨rfl,rfl⟩:=h4;exact⟨_,Ou h1 j hj v,rfl,.inr ⟨g,c,rfl,rfl⟩⟩
def Ow(n:Nat)(r:Vw):Vw:=⟨{ r.nd with subs:=r.nd.subs.map (· + n),owner:=0 },r.kv,r.sv,r.uv⟩
def V68(n m:Nat)(l:List Nat):List Nat:=(l.take m).map (· + n)++l.drop m
theorem Ojs(n:Nat)(l:List Nat):V68 n l.length l=l.map (· + n):=by simp[V68]
theorem Oho(n:Nat)(l:List Nat):V68 n 0 l=l:=by simp[V68]
theorem Ojt(n m:Nat)(l:List Nat):(V68 n m l).length=l.length:=by simp[V68];omega
theorem Oju(n m:Nat)(l:List Nat)(hm:m<l.length):(V68 n m l)[m]?=some l[m]:=by
 unfold V68;rw[U14 (by simp;omega)];simp;rw[show m-min m l.length=0 from by omega];simp[hm]
theorem Ojv(n m:Nat)(l:List Nat)(hm:m<l.length):(V68 n m l).set m (l[m]+n)=V68 n (m+1) l:=by
 unfold V68;have hl:((l.take m).map (· + n)).length=m:=by simp;omega
 rw[U3c _ _ (by omega),hl,U34,Uw hm,U26,List.take_add_one,Uh hm,U20,U2p];rfl
theorem Ohp(l:List Nat)(m k:Nat):(O7 l).set m k=O7 (l.set m k):=by
 unfold O7;rw[List.map_set]
def RB(r:Vw)(k:Nat):Prop:=r.kv.ownBlock=some k\/r.sv.ownBlock=some k\/r.uv.ownBlock=some k
def TB(T:List Vw)(j:Nat)(k:Nat):Prop:=∃(i:Nat)(r:Vw),i<j/\T[i]?=some r/\RB r k
theorem TB.mono{T:List Vw}{j j' k:Nat}(h:TB T j k)(hj:j<=j'):TB T j' k:=by
 obtain⟨i,r,h1,h2⟩:=h;exact⟨i,r,by omega,h2⟩
def O8b(w:World)(base2:Nat)(v:Value)(T:List Vw):Prop:=(v = .slice none 0 0/\T=[])\/∃g,v = .slice (some ⟨g,0,none⟩) T.length T.length/\V2n w base2 g T
theorem RB.lt{w:World}{base2 g j k:Nat}{T:List Vw}{r:Vw}(h:V2n w base2 g T)(hr:T[j]?=some r)(hb:RB r k):base2<=k/\k<w.heap.size:=by
 obtain⟨a,b,c⟩:=h.rows j r hr;rcases hb with e|e|e
 exact a.lt k e;exact b.lt k e
 exact c.lt k e
theorem V2n.apart{w:World}{base2 g:Nat}{T:List Vw}(h:V2n w base2 g T){i j k:Nat}{r r':Vw}(hr:T[i]?=some r)(eH:T[j]?=some r')(hb:RB r k)(fP:RB r' k):i=j:=by
 obtain⟨tg,_,ht⟩:=h.tg;obtain⟨a,b,c⟩:=ht i r hr;obtain⟨a',b',c'⟩:=ht j r' eH;have h1:tg k=4+3*i\/tg k=5+3*i\/tg k=6+3*i:=hb.imp (a k) (λ e=>e.imp (b k) (c k));have h2:tg k=4+3*j\/tg k=5+3*j\/tg k=6+3*j:=fP.imp (a' k) (λ e=>e.imp (b' k) (c' k));omega
theorem V2n.root_apart{w:World}{base2 g:Nat}{T:List Vw}(h:V2n w base2 g T){i k:Nat}{r:Vw}(hr:T[i]?=some r)(hb:RB r k):k≠g:=by
 obtain⟨tg,h3,ht⟩:=h.tg;obtain⟨a,b,c⟩:=ht i r hr;have h1:tg k=4+3*i\/tg k=5+3*i\/tg k=6+3*i:=hb.imp (a k) (λ e=>e.imp (b k) (c k));intro e;subst e;omega
theorem V2n.rows_apart{w:World}{base2 g:Nat}{T:List Vw}(h:V2n w base2 g T){i:Nat}{r:Vw}(hr:T[i]?=some r) :
    (∀k,r.kv.ownBlock=some k->r.sv.ownBlock≠some k)/\(∀k,r.kv.ownBlock=some k->r.uv.ownBlock≠some k)/\(∀k,r.sv.ownBlock=some k->r.uv.ownBlock≠some k):=by
 obtain⟨tg,h3,ht⟩:=h.tg;obtain⟨a,b,c⟩:=ht i r hr;exact⟨λ k e e2=>by have:=a k e;have:=b k e2;omega,λ k e e2=>by have:=a k e;have:=c k e2;omega,λ k e e2=>by have:=b k e;have:=c k e2;omega⟩
structure V3u(w:World)(R B base base2 g0:Nat)(s:ByteArray)(L:List Vw)(own:Nat->Nat)(so:List (Nat×Nat))(x:GrX)(T:List Vw)(j:Nat)(nv':Value)(own':Nat->Nat)(wr:World):Prop where
 v:GrV wr R B base s 0 nv' (L++(T.take j).map (Ow L.length)) own' (so++List.replicate (T.take j).length (0,0)) x
 st:St (λ k=>FV own k\/TB T T.length k) (FV own') w wr
 on:∀k,own' k≠0->own k≠0\/TB T j k\/w.heap.size<k
 rest:∀(i:Nat) r,j<=i->T[i]?=some r->∀k,RB r k->wr.heap[k]?=w.heap[k]?
 g0:wr.heap[g0]?=w.heap[g0]?
section
variable {w wr W2 wF:World}{R B base base2 g0:Nat}{s:ByteArray}{L:List Vw}{own:Nat->Nat}{so:List (Nat×Nat)}{x:GrX}{T:List Vw}{j:Nat}{nv':Value}{own':Nat->Nat}{r:Vw}
theorem V3u.start(nv:Value)(h:GrV w R B base s 0 nv L own so x)(q:Gr w wr)(g0:Nat)(hg:g0<w.heap.size)(hT:T=[]\/V2n w base2 g0 T):V3u w R B base base2 g0 s L own so x T 0 nv own wr :=
 ⟨by simpa using h.gr q,⟨Below.os q,Below.tape q,Below.output q,q.size,λ k hk _=>q.block hk,λ k hk => .inl (.inl hk)⟩,λ k hk => .inl hk,λ i r _ hr k hb=>by
  rcases hT with rfl|hT
  simp at hr
  exact q.block (hb.lt hT hr).2,q.block hg⟩
theorem V3u.free(h:V3u w R B base base2 g0 s L own so x T j nv' own' wr)(hT:V2n w base2 g0 T)(ho:∀k,base2<=k->own k=0){i:Nat}{r:Vw}(hi:j<=i)(hr:T[i]?=some r){k:Nat}(hb:RB r k):own' k=0 :=
 Ue λ hk=>by
  have hl:=hb.lt hT hr;rcases h.on k hk with e|⟨i',r',h1,h2,h3⟩|e
  exact e (ho k hl.1);have:=hT.apart hr h2 hb h3;omega
  omega
theorem V3u.free0(h:V3u w R B base base2 g0 s L own so x T j nv' own' wr)(hT:V2n w base2 g0 T)(ho:∀k,base2<=k->own k=0):own' g0=0 :=
 Ue λ hk=>by
  have hl:=hT.lt;rcases h.on g0 hk with e|⟨i',r',h1,h2,h3⟩|e
  exact e (ho g0 hl.1);exact hT.root_apart h2 h3 rfl
  omega
theorem V3u.strange(h:V3u w R B base base2 g0 s L own so x T j nv' own' wr)(hT:V2n w base2 g0 T)(ho:∀k,base2<=k->own k=0)(cR:base<=base2)(hr:T[j]?=some r)
    (hW:St (λ k=>r.uv.ownBlock=some k) (λ _=>False) wr W2)(hu:V26 W2 base2 3 1 r.uv r.nd.subs.length (O7 (r.nd.subs.map (· + L.length)))):V7f W2 base own' (Ow L.length r):=by
 obtain⟨a1,a2,a3⟩:=hT.rows_apart hr;obtain⟨b1,b2,_⟩:=hT.rows j r hr;have hz:∀k,RB r k->k<wr.heap.size:=λ k hb=>U4 (hb.lt hT hr).2 h.st.size
 have hk:∀k,RB r k->r.uv.ownBlock≠some k->W2.heap[k]?=w.heap[k]?:=λ k hb hn=>(hW.block k (hz k hb) hn).trans (h.rest j r (U2 _) hr k hb)
 have hf:∀k,RB r k->own' k=0/\k<W2.heap.size:=λ k hb=>⟨h.free hT ho (U2 _) hr hb,U4 (hz k hb) hW.size⟩
 exact⟨(b1.of_block λ k e=>hk k (.inl e) (a2 k e)).low cR,(b2.of_block λ k e=>hk k (.inr (.inl e)) (a3 k e)).low cR,by simpa [Ow]using hu.low cR,
  λ k e=>hf k (.inl e),λ k e=>hf k (.inr (.inl e)),λ k e=>hf k (.inr (.inr e)),a1,a2,a3⟩
theorem V3u.kept(h:V3u w R B base base2 g0 s L own so x T j nv' own' wr)(hT:V2n w base2 g0 T)(ho:∀k,base2<=k->own k=0)(hr:T[j]?=some r)
    (hW:St (λ k=>r.uv.ownBlock=some k) (λ _=>False) wr W2):GrV W2 R B base s 0 nv' (L++(T.take j).map (Ow L.length)) own' (so++List.replicate (T.take j).length (0,0)) x :=
 h.v.kept (λ k hk=>hW.block k (h.v.lt k hk).2 (λ e=>hk (h.free hT ho (U2 _) hr (.inr (.inr e))))) hW.size
theorem V3u.more(h:V3u w R B base base2 g0 s L own so x T j nv' own' wr)(hT:V2n w base2 g0 T)(ho:∀k,base2<=k->own k=0)(hr:T[j]?=some r)(hz:w.heap.size<wr.heap.size)
    (hW:St (λ k=>r.uv.ownBlock=some k) (λ _=>False) wr W2){ib:Value}
    (hm:O9y W2 wF R B base s 0 (L++(T.take j).map (Ow L.length)) own' (so++List.replicate (T.take j).length (0,0)) x (Ow L.length r) ib) :
    ∃ad,V3u w R B base base2 g0 s L own so x T (j+1) ib ad wF:=by
 obtain⟨ad,h1,h2,h3⟩:=hm;have hj:j<T.length:=(U7.1 hr).1;have dU:=hW.size;have hF:=h2.size;have hO:∀k,ad k≠0->own k≠0\/TB T (j+1) k\/w.heap.size<k:=λ k hk=>by
  rcases h3 k hk with e|e|e
  rcases h.on k e with e|e|e
  exact .inl e;exact .inr (.inl (e.mono (U1w _)))
  exact .inr (.inr e);exact .inr (.inl ⟨j,r,Nat.lt_succ_self _,hr,e⟩)
  exact .inr (.inr (by omega))
 have hB:∀k,k<wr.heap.size->¬FV own' k->¬RB r k->wF.heap[k]?=wr.heap[k]?:=λ k hk n1 n2 =>
  (h2.block k (by omega) (λ e=>e.elim n1 n2)).trans (hW.block k hk (λ e=>n2 (.inr (.inr e))))
 refine⟨ad,?_,⟨h2.os.trans (hW.os.trans h.st.os),h2.tape.trans (hW.tape.trans h.st.tape),h2.output.trans (hW.output.trans h.st.output),by omega,λ k hk hn=>?_,λ k hk=>?_⟩,hO,λ i r' hi eH k hb=>?_,?_⟩
 have e1:T.take (j+1)=T.take j++[r]:=by rw[List.take_add_one,hr];rfl
 have e2:L++(T.take (j+1)).map (Ow L.length)=(L++(T.take j).map (Ow L.length))++[Ow L.length r]:=by rw[e1];simp
 have e3:so++List.replicate (T.take (j+1)).length (0,0)=(so++List.replicate (T.take j).length (0,0))++[(0,0)]:=by
  rw[e1,Ug,U19,List.replicate_succ',U2p]
 rw[e2,e3];exact h1
 refine (hB k (by omega) (λ e=>?_) (λ e=>hn (.inr ⟨j,r,hj,hr,e⟩))).trans (h.st.block k hk hn);rcases h.on k e with e|e|e
 exact hn (.inl e);exact hn (.inr (e.mono (by omega)))
 omega
 rcases hO k hk with e|e|e
 exact .inl (.inl e);exact .inl (.inr (e.mono (by omega)))
 exact J40;refine (hB k (by have:=(hb.lt hT eH).2;omega) (λ e=>e (h.free hT ho (by omega) eH hb)) (λ e=>?_)).trans (h.rest i r' (by omega) eH k hb);have:=hT.apart eH hr hb e;omega
 exact (hB g0 (by have:=hT.lt.2;omega) (λ e=>e (h.free0 hT ho)) (λ e=>hT.root_apart hr e rfl)).trans h.g0
end
end Go.Proofs.YtnkgknbdaiakgaaGreatDoor
namespace Go.Proofs.YtnkgknbdaiakgaaGreatDoor
open Pl Go.Proofs.Tryz Go.RowKit Go.Shelf Go.Joins
attribute [local go_sem] Uy
theorem O1n(w:World) :
    Calls prog 18 #[f0] w λ e w'=>e = .returned (.bool true)/\Gr w w':=by
 go_enter func18,ntmps18;exact J154
theorem O20(c p:Nat)(hc:¬(c:Int)=0)(w:World) :
    Calls prog 18 #[fv c p] w λ e w'=>e = .returned (.bool false)/\Gr w w':=by
 go_enter func18,ntmps18;exact J154
theorem Omm(fo:Nat)(sW:∀args w,(callFunc fo args).run prog w = .ok (.enter fo args) w)(X:Pl.Ov)(a8:X ≠ .non)(w:World)(R bo bf:Nat)(an d i:Nat)
    (hO:w.cell? ⟨bo,0,none⟩=some (.func (.func fo) #[.pointer (some ⟨R,0,none⟩)] #[]))(tO:bo<w.heap.size)(hF:FX bf an d w)
    (HO:∀W,Gr w W->Calls prog fo #[.pointer (some ⟨R,0,none⟩),.agg #[an,d],i] W λ e W'=>O1i X e/\Gr W W') :
    Calls prog 157 #[i,.pointer (some ⟨bo,0,none⟩),.pointer (some ⟨bf,0,none⟩)] w λ e w'=>O1i X e/\Gr w w':=by
 have Ch:=U0 HO;clear HO;go_enter func157,ntmps157
 go_upto_region 1 with fail
 obtain⟨W,hW⟩:=ExZ (w.alloc (.cells #[(0:Int),(0:Int)] 67))
 have gW:Gr w W:=by rw[<-hW];exact (Gr.refl w).alloc _
 have hB:FX w.heap.size (0:Int) (0:Int) W:=by rw[<-hW];exact FX.new w _ _ _
 have Qi:=hF.gr gW;have Tp:=(gW.use.1 _ _ tO).trans hO;have ph:=U4 tO gW.size;rw[hW];clear hW;have HG:=U0 gW;have HB:=U0 hB;obtain⟨p0,p1,pf,pl⟩:=Qi;clear hB gW hO hF tO;go_wp2_with fail;refine (Ch.o W HG.o).mono ?_;cases X with
 |non=>exact absurd rfl a8
 |go n d' =>
  rintro e w2 ⟨he,g2⟩;have pK:e = .returned (.tuple #[.agg #[.int .i64 n,d'],.bool true]):=he;subst pK;have hb:=HB.o.gr g2;obtain⟨r0,r1,rf,rl⟩:=id hb;have dQ:=HG.o.trans g2;have wI:=U0 dQ;have Hb:=U0 hb;clear dQ g2 hb;go_wp2_with fail;refine Z120 ?_;intro WF q0 q1 qf ql gF;exact U1 (v := .tuple #[.agg #[n,d'],.bool true]) (by simp[results,results157,go_sem,q0,q1,qf,ql]) rfl ⟨by simp[O1i],gF⟩
 |no =>
  rintro e w2 ⟨he,g2⟩;obtain⟨n,d',pK⟩:∃n d':Int,e = .returned (.tuple #[.agg #[n,d'],.bool false]):=he;subst pK;have hb:=HB.o.gr g2;obtain⟨r0,r1,rf,rl⟩:=id hb;have dQ:=HG.o.trans g2;have wI:=U0 dQ;have Hb:=U0 hb;clear dQ g2 hb;go_wp2_with fail;refine Z120 ?_;intro WF q0 q1 qf ql gF;exact U1 (v := .tuple #[.agg #[n,d'],.bool false]) (by simp[results,results157,go_sem,q0,q1,qf,ql]) rfl ⟨by simp[O1i],gF⟩
structure Vb1(bK gk gs m ck cs:Nat)(wd:ByteArray)(a b:Nat)(w:World):Prop where
 k0:w.cell? ⟨bK,0,none⟩=some (.slice (some ⟨gk,0,none⟩) (m+1) ck)
 k1:w.cell? ⟨bK,1,none⟩=some (.slice (some ⟨gs,0,none⟩) (m+1) cs)
 w0:w.cell? ⟨gk,m,none⟩=some (.string wd)
 a0:w.cell? ⟨gs,m*2,none⟩=some (.int .i64 a)
 b0:w.cell? ⟨gs,m*2+1,none⟩=some (.int .i64 b)
theorem Oej(w:World)(gk gs m ck cs:Nat)(wd:ByteArray)(a b:Nat)(hm:m<=9223372036854775806)(fq:gk<w.heap.size)(bZ:gs<w.heap.size)
    (hw:w.cell? ⟨gk,m,none⟩=some (.string wd))(ha:w.cell? ⟨gs,m*2,none⟩=some (.int .i64 a))(hb:w.cell? ⟨gs,m*2+1,none⟩=some (.int .i64 b)) :
    Calls prog 61 #[.agg #[.slice (some ⟨gk,0,none⟩) (m+1) ck,.slice (some ⟨gs,0,none⟩) (m+1) cs]] w λ e w'=>e = .returned (.tuple #[.string wd,.agg #[a,b]])/\Gr w w':=by
 have j3:(0:Int)<=(m:Int):=by omega
 have j4:(m:Int)<((m+1:Nat):Int):=by omega
 have j5:(m:Int)<(m:Int)+1:=by omega
 have Q4:m<9223372036854775807:=by omega
 have wm:IntKind.i64.wrap (m:Int)=(m:Int):=Uk _ ⟨by omega,by omega⟩;have Q5:IntKind.i64.wrap (((m+1:Nat):Int)-1)=(m:Int):=by rw[Uk _ ⟨by omega,by omega⟩];omega
 go_enter func61,ntmps61
 go_upto_region 1 with fail
 obtain⟨W,hW⟩:=ExZ ((w.alloc (.cells #[.slice (some ⟨gk,0,none⟩) (m+1) ck,.slice (some ⟨gs,0,none⟩) (m+1) cs] 42)).alloc (.cells #[(0:Int),(0:Int)] 38))
 have gW:Gr w W:=by rw[<-hW];exact ((Gr.refl w).alloc _).alloc _
 have mm:FX w.heap.size (.slice (some ⟨gk,0,none⟩) (m+1) ck) (.slice (some ⟨gs,0,none⟩) (m+1) cs) W:=by rw[<-hW];exact (FX.new w _ _ 42).gr ((Gr.refl _).alloc _)
 have fH:FX (w.heap.size+1) (0:Int) (0:Int) W:=by
  rw[<-hW];have:=FX.new (w.alloc (.cells #[.slice (some ⟨gk,0,none⟩) (m+1) ck,.slice (some ⟨gs,0,none⟩) (m+1) cs] 42)) (0:Int) (0:Int) 38;exact J15
 rw[hW];clear hW;have Iw:=U4 fq gW.size;have Iy:=U4 bZ gW.size;have hS:Vb1 w.heap.size gk gs m ck cs wd a b W.drew :=
  ⟨mm.1,mm.2.1,(gW.drew.use.1 _ _ fq).trans hw,(gW.drew.use.1 _ _ bZ).trans ha,(gW.drew.use.1 _ _ bZ).trans hb⟩
 have iD:=U0 fH;have HG:=U0 gW;obtain⟨r0,r1,rf,rl⟩:=fH;clear mm gW hw ha hb;refine Reg.begin' (W:=λ i=>i != 17) (S:=Vb1 w.heap.size gk gs m ck cs wd a b) (by kernel_rfl) ?_;refine Reg.ty 0 ?_;refine Reg.tl 1 hS ?_ (hy:=by intro w ab;obtain⟨s1,s2,s3,s4,s5⟩:=ab;go_simp;try with_reducible rfl);refine Reg.ty 2 ?_;refine Reg.tl 3 hS ?_ (hy:=by intro w ab;obtain⟨s1,s2,s3,s4,s5⟩:=ab;go_simp;try with_reducible rfl);refine Z309 ?_;refine Reg.tl 7 hS ?_ (hy:=by intro w ab;obtain⟨s1,s2,s3,s4,s5⟩:=ab;go_simp;try with_reducible rfl);refine Reg.ty 8 ?_;refine Reg.tl 9 hS ?_ (hy:=by intro w ab;obtain⟨s1,s2,s3,s4,s5⟩:=ab;go_simp;try with_reducible rfl);refine Reg.ty 10 ?_;refine Reg.tl 11 hS ?_ (hy:=by intro w ab;obtain⟨s1,s2,s3,s4,s5⟩:=ab;go_simp;try with_reducible rfl);refine Z47 ?_;refine Reg.tl 15 hS ?_ (hy:=by intro w ab;obtain⟨s1,s2,s3,s4,s5⟩:=ab;go_simp;try with_reducible rfl);refine Reg.ty 16 ?_;refine Z188 ?_;refine Z2 ?_;refine Z12 ?_;go_wp2_with fail;have hF:=iD.o.set a b;have gF:Gr w _:=((HG.o).setCell (p:=⟨w.heap.size+1,0,none⟩) (U1w _) a).setCell (p:=⟨w.heap.size+1,1,none⟩) (U1w _) b;obtain⟨WF,am⟩:=ExZ (((W.setCell ⟨w.heap.size+1,0,none⟩ a).setCell ⟨w.heap.size+1,1,none⟩ b))
 rw[am]at hF gF;rw[am];clear am;obtain⟨q0,q1,qf,ql⟩:=hF.gr (Gr.refl WF).drew;exact U1 (v := .tuple #[.string wd,.agg #[a,b]]) (by simp[results,results61,go_sem,q0,q1,qf,ql]) rfl ⟨rfl,gF.drew⟩
theorem O5{w:World}{b o:Nat}{v:Value}(h:w.cell? ⟨b,o,none⟩=some v):w.setCell ⟨b,o,none⟩ v=w:=by
 unfold World.setCell;congr 1;refine Array.ext_getElem? λ k=>?_
 rw[Array.getElem?_modify]
 split
 rename_i hk
 have hk:b=k:=hk;subst hk;unfold World.cell? at h;simp only at h
 split at h
 rename_i c _ _ hb
 rw[hb];simp only[U18,Option.isSome_none,U11,U1d]at h⊢;congr 2;refine Array.ext_getElem? λ j=>?_
 rw[Array.getElem?_setIfInBounds]
 split
 rename_i hj
 subst hj
 split;exact h.symm
 rename_i h2;rw[U37 (by omega)]
 rfl
 cases h
 rfl
theorem O72{w:World}{k b n m:Nat}{D:V5s}(h:w.ownsMap prog k sortR b n D)(hm:n<=m):w.ownsMap prog k sortR b m D:=by
 obtain⟨es,oY,h1,F,hs,hD⟩:=h;exact⟨es,oY,h1,F,Uj hs hm,hD⟩
theorem Oa0{w:World}{R:Nat}{c0 c1 c2 c3 c4 c5 c6 c7 c8:Value}{T:TypeId}(h:w.heap[R]?=some (.cells #[c0,c1,c2,c3,c4,c5,c6,c7,c8] T (0,0)))(a d m:Value) :
    (((w.setCell ⟨R,4,none⟩ a).setCell ⟨R,5,none⟩ d).setCell ⟨R,6,none⟩ m).heap[R]?=some (.cells #[c0,c1,c2,c3,a,d,m,c7,c8] T (0,0)) /\
    (∀k,k≠R->(((w.setCell ⟨R,4,none⟩ a).setCell ⟨R,5,none⟩ d).setCell ⟨R,6,none⟩ m).heap[k]?=w.heap[k]?) /\
    (((w.setCell ⟨R,4,none⟩ a).setCell ⟨R,5,none⟩ d).setCell ⟨R,6,none⟩ m).heap.size=w.heap.size:=by
 have h4:(w.setCell ⟨R,4,none⟩ a).heap[R]?=some (.cells #[c0,c1,c2,c3,a,c5,c6,c7,c8] T (0,0)):=by rw[block_setCell h];rfl
 have h5:((w.setCell ⟨R,4,none⟩ a).setCell ⟨R,5,none⟩ d).heap[R]?=some (.cells #[c0,c1,c2,c3,a,d,c6,c7,c8] T (0,0)):=by rw[block_setCell h4];rfl
 exact⟨by rw[block_setCell h5];rfl,λ k hk=>by rw[U5 _ _ _ _ hk,U5 _ _ _ _ hk,U5 _ _ _ _ hk],by simp[World.setCell]⟩
theorem GrV.setSec{w:World}{R B base:Nat}{s:ByteArray}{root:Int}{nv:Value}{L:List Vw}{own:Nat->Nat}{so:List (Nat×Nat)}{x:GrX}(h:GrV w R B base s root nv L own so x)(a d m:Nat)(hm:x.many<=m) :
    GrV (((w.setCell ⟨R,4,none⟩ a).setCell ⟨R,5,none⟩ d).setCell ⟨R,6,none⟩ m) R B base s root nv L own so { x with sec:=a,dep:=d,many:=m }:=by
 obtain⟨k1,k2,k3⟩:=Oa0 h.blk a d m;obtain⟨D,h1,h2⟩:=h.map;have Ag:B≠R:=λ e=>by have h1:=h.oR;rw[<-e,h.oB]at h1;omega
 exact h.turn rfl k1 ⟨D,Oe (O72 h1 (by simp only;omega)) (k2 B Ag),h2⟩ (λ k _ hk _=>k2 k hk) (U39 k3.symm) (λ i r hr hg => .inl hg)
theorem getD_set{so:List (Nat×Nat)}{i:Nat}(hi:i<so.length)(t:Nat×Nat)(j:Nat):(so.set i t).getD j (0,0)=if j=i then t else so.getD j (0,0):=by
 rw[Ui,Ui,U1o];by_cases h:i=j;subst h;simp[hi]
 rw[Ud h,Ud (λ e=>h e.symm)]
theorem Og.lt{so:List (Nat×Nat)}{i:Nat}(h:Og so i):i<so.length:=by
 refine U2a λ aK=>h ?_
 rw[Ui,U1m aK];rfl
theorem GrV.sectioned{w w3:World}{R B base:Nat}{s:ByteArray}{root:Int}{nv:Value}{L:List Vw}{own:Nat->Nat}{so:List (Nat×Nat)}{x:GrX}(h:GrV w R B base s root nv L own so x)(i:Nat)(hi:Og so i){D:V5s}(hD:O2t D so)
    (hm:w3.ownsMap prog 3 sortR B (so.length+x.many+1) (D.put i (O2l (1,0))))(h3:w.grownBy w3 (some B))(a d:Nat) :
    GrV (((w3.setCell ⟨R,4,none⟩ a).setCell ⟨R,5,none⟩ d).setCell ⟨R,6,none⟩ (.int .i64 ((x.many+1:Nat):Int))) R B base s root nv L own (so.set i (1,0)) { x with sec:=a,dep:=d,many:=x.many+1 }:=by
 have Ag:B≠R:=λ e=>by have h1:=h.oR;rw[<-e,h.oB]at h1;omega
 have hb:∀k,k<w.heap.size->k≠B->w3.heap[k]?=w.heap[k]?:=λ k hk a8=>h3.block k hk (λ e=>a8 (U1x e))
 obtain⟨k1,k2,k3⟩:=Oa0 ((hb R h.R_lt.2 (U2k Ag)).trans h.blk) a d (.int .i64 ((x.many+1:Nat):Int));have eK:=hi.lt;have Tq:=h3.size;refine h.turn (by rw[U1i]) k1 ⟨_,Oe (O72 hm (by rw[U1i];simp only;omega)) (k2 B Ag),hD.put i (1,0) ?_ λ j hj=>?_⟩ (λ k hk AE Qj=>(k2 k AE).trans (hb k (h.lt k hk).2 Qj)) (by omega) (λ j r hr hg => .inl ?_);rw[getD_set eK,Ua rfl];rw[getD_set eK,Ud hj]
 unfold Og at hg⊢;rw[getD_set eK]at hg
 split at hg;rename_i e;subst e;exact hi
 exact hg
theorem Oek(L:List Vw)(i:Nat)(r:Vw)(hr:L[i]?=some r)(n:Nat)(kv sv uv:Value) :
    (L.set i ⟨{ r.nd with subs:=r.nd.subs++[n] },kv,sv,uv⟩).map (·.nd)=(L.map (·.nd)).modify i λ nd=>{ nd with subs:=nd.subs++[n] }:=by
 refine U3g λ k=>?_
 rw[U2n,Uq,Uq,U1o];have hl:i<L.length:=(U7.1 hr).1;by_cases hk:i=k;subst hk;simp[hl,hr];have h2:=(U7.1 hr).2;rw[h2];exact⟨rfl,rfl,rfl,rfl,rfl,rfl,rfl⟩
 simp[hk]
def Ocb(w w2:World)(R B base:Nat)(s:ByteArray)(L:List Vw)(own:Nat->Nat)(so:List (Nat×Nat))(x:GrX)(i:Nat)(nd:Pl.Nd):Prop :=
 ∃nv' own' kv sv uv,GrV w2 R B base s 0 nv' ((L++[Of 8]).set i ⟨nd,kv,sv,uv⟩) own' (so++[(1,0)]) x/\St (FV own) (FV own') w w2/\(∀k,own' k≠0->own k≠0\/w.heap.size<=k)
structure ElS(R g i:Nat)(nv uv:Value)(w:World):Prop where
 c0:w.cell? ⟨R,0,none⟩=some nv
 u:w.cell? ⟨g,i*7+4,none⟩=some uv
theorem O8d(w:World)(R B base:Nat)(s:ByteArray)(nv:Value)(L:List Vw)(own:Nat->Nat)(so:List (Nat×Nat))(x:GrX)(h:GrV w R B base s 0 nv L own so x)(hL:L.length<=20000002)(hm:x.many<=30000000)
    (i:Nat)(r:Vw)(hr:L[i]?=some r)(h8:Og so i)(sD:r.nd.subs.length<=30000000) :
    Calls prog 116 #[.pointer (some ⟨R,0,none⟩),i] w λ e w'=>e = .returned L.length/\Ocb w w' R B base s L own so x i { r.nd with subs:=r.nd.subs++[L.length] }:=by
 have Iz:=U0 (O6n w R B base s 0 nv L own so x h (by omega) hm 8 (1,0));have H:=U0 h;have nY:=h.sl;have oE:=h.R_lt;clear h;go_enter func116,ntmps116;go_wp2_with fail;refine Iz.o.mono ?_;rintro e w1 ⟨he,jZ,aC,gX,iu,mn⟩;subst he;have eK:=(U7.1 hr).1;have aU:(L++[Of 8])[i]?=some r:=by rw[U9 eK];exact hr
 have Mj:Og (so++[(1,0)]) i:=by
  unfold Og at h8⊢;rw[Ui,U9 (by omega),<-Ui];exact h8
 obtain⟨g,cap,cur,rfl,lW,aY,dM,nR,sB,ld,iY,DY,eL,lX⟩:=gX.form (by simp);obtain⟨⟨c0,c1,c2,c3,c4,c5,c6⟩,c7,c8,fz⟩:=gX.cells;obtain⟨n0,n1,n2,n3,n4,n5,n6,nf⟩:=gX.ndCells rfl i r aU;have HC:Hid (V9e w1 aC g i r):=⟨aY,dM,n2,n3,n4,nf⟩
 have hR:=gX.R_lt;have bM:base<=w1.heap.size:=by omega
 have IA:∀e0:{ r.nd with subs:=r.nd.subs++[L.length]:Pl.Nd }.subs.length=r.nd.subs.length+1,True:=λ _=>trivial
 have mN:Hid (∀V uv,V1x w1 V base (FI aC i) r.kv r.sv uv r.nd.keys.length r.nd.spots.length (r.nd.subs.length+1) (Oh r.nd.keys) (Oc r.nd.spots) (O7 r.nd.subs++[.int .i64 L.length]) ->
     Ocb w (V.setCell ⟨g,i*7+4,none⟩ uv) R B base s L own so x i { r.nd with subs:=r.nd.subs++[L.length] }):=by
  intro V uv H3;have e3:({ r.nd with subs:=r.nd.subs++[L.length] }:Pl.Nd).subs.length=r.nd.subs.length+1:=by simp
  have e6:O7 ({ r.nd with subs:=r.nd.subs++[L.length] }:Pl.Nd).subs=O7 r.nd.subs++[.int .i64 L.length]:=by simp[O7]
  have hp:=gX.putDone i r aU { r.nd with subs:=r.nd.subs++[L.length] } rfl rfl rfl (kv:=r.kv) (sv:=r.sv) (uv:=uv) (W:=V) (by rw[e3,e6];exact H3);obtain⟨f2,f3,_,_⟩:=O48 H3 HC.o;rw[O5 f2,O5 f3]at hp;obtain⟨own',pS,pT,IB,q1,q2,q3⟩:=hp;exact⟨_,own',pS,pT,IB,q1,iu.trans q2,λ k hk=>(q3 k hk).elim (λ h=>mn k h) (λ h => .inr (Uj iu.size h))⟩
 have jC:V1x w1 w1.drew base (FI aC i) r.kv r.sv r.uv r.nd.keys.length r.nd.spots.length r.nd.subs.length (Oh r.nd.keys) (Oc r.nd.spots) (O7 r.nd.subs):=gX.start3 (Gr.refl w1).drew i r aU Mj;have tP:Hid (∀V kv sv uv nk ns nu xk xs xu,V1x w1 V base (FI aC i) kv sv uv nk ns nu xk xs xu->ElS R g i (.slice (some ⟨g,0,none⟩) (L++[Of 8]).length cap) r.uv V):=by
  intro V kv sv uv nk ns nu xk xs xu H3;exact⟨((H3.st.use R hR.2 (λ e=>by have:=gX.oR;unfold FI at e;omega)).1 0).trans c0,(O48 H3 HC.o).2.2.1⟩
 obtain⟨iU,u1,u2,u3,u4⟩:=U2u O6c;have fS:=U0 (And.intro u1 (And.intro u2 (And.intro u3 u4)));have mF:(0:Int)<=(i:Int):=by omega
 have ei:(i:Int)<((L++[Of 8]).length:Int):=by rw[Ug];omega
 have bi:=tP.o _ _ _ _ _ _ _ _ _ _ jC;obtain⟨Qk,Co⟩:=ExZ ((L++[Of 8]).length)
 rw[Co]at bi ei tP;clear IA h8 Mj u1 u2 u3 u4 fz ld iY lX hr aU n0 n1 n2 n3 n4 n5 n6 nf c0 c1 c2 c3 c4 c5 c6 c7 c8 gX iu mn Co
 go_upto_region 2 with fail
 refine Reg.begin' (W:=λ i=>i != 20) (S:=ElS R g i (.slice (some ⟨g,0,none⟩) Qk cap) r.uv) (by kernel_rfl) ?_;obtain⟨V0,hV⟩:=ExZ (w1.drew)
 rw[hV]at jC bi⊢;clear hV;have iy:=U0 jC;clear jC;refine Z32 ?_;refine Reg.ty 3 ?_;refine Reg.tl 4 bi ?_ (hy:=by intro w ab;obtain⟨s0,s1⟩:=ab;go_simp;try with_reducible rfl);refine Reg.ty 5 ?_;refine Reg.ty 6 ?_;refine Z59 ?_;refine Reg.tl 10 bi ?_ (hy:=by intro w ab;obtain⟨s0,s1⟩:=ab;go_simp;try with_reducible rfl);refine Reg.ty 11 ?_;refine Reg.ty 12 ?_;refine Reg.ty 13 ?_;refine Reg.tl 14 bi ?_ (hy:=by intro w ab;obtain⟨s0,s1⟩:=ab;go_simp;try with_reducible rfl);refine Reg.ty 15 ?_;refine Reg.on 16 ?_;go_simp;have aw:=iy.o.alloc (.cells #[L.length] 3);have IC:=iy.o.newB #[L.length] 3;obtain⟨V1,hV⟩:=ExZ (V0.alloc (.cells #[L.length] 3))
 rw[hV]at aw IC⊢;clear hV;have aL:=U0 aw;have Ql:=U0 IC;clear aw IC;have cm:=tP.o _ _ _ _ _ _ _ _ _ _ aL.o;refine Z99 ?_;refine Reg.on 17 ?_;refine U23 _ (.tmp 23) (.tmp 25) 36 (by rfl) base 3 iU _ 1 8 underlying36 fS.o.1 fS.o.2.1 fS.o.2.2.1 fS.o.2.2.2 (by rfl) (by decide) r.uv r.nd.subs.length (O7 r.nd.subs) (by rfl) aL.o.u _ 1 1 [.int .i64 L.length] (by rfl) (by rfl) (U1e Ql.o.blk) (by simp[Value.oneCell']) (by decide) (by unfold maxLen;omega) (by omega) (Uj bM aL.o.size) _ rfl ?_;intro gU oo V2 ho hg ha hz;have aP:=U0 (aL.o.appU ho hg ha);clear ho hg ha hz;have bj:=tP.o _ _ _ _ _ _ _ _ _ _ aP.o;refine Z237 ?_;refine Reg.ty 18 ?_;refine Reg.ty 19 ?_;obtain⟨vS,vT,vU,Aq⟩:=O48 aP.o HC.o;refine Reg.on 20 ?_;refine Z293 ?_;go_wp2_with fail;exact U1 (v := .int .i64 L.length) (by simp[results,results116,go_sem]) rfl ⟨rfl,mN.o _ _ aP.o⟩
