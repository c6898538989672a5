/-
 The walks and plain laws that the claim rests on, part 36.
-/
import Derived.Test.YtfogfaagjpebcaaGreatDoorP00
import Derived.Test.YtfogfaagjpebcaaGreatDoorP28
import Derived.Test.YtfogfaagjpebcaaGreatDoorP30
import Derived.Test.YtfogfaagjpebcaaGreatDoorP34
import Derived.Test.YtfogfaagjpebcaaGreatDoorP35
set_option maxHeartbeats 16000000
set_option linter.all false
set_option linter.unusedVariables false
set_option linter.unusedSimpArgs false
namespace Go.Proofs.YtfogfaagjpebcaaGreatDoor
open Go.RowKit Go.Shelf Go.Joins
attribute [local go_sem] Oper.semAt_some
def OvPost (X:Pl.Ov) (e:Ending):Prop:=match X with
 | .non=>True
 | .go n d=>e = .returned (.tuple #[.agg #[.int .i64 n,.int .i64 d],.bool true])
 | .no=>∃n d:Int,e = .returned (.tuple #[.agg #[.int .i64 n,.int .i64 d],.bool false])
structure GM (w:World) (R B base:Nat) (s:ByteArray) (nv:Value) (L:List NdR) (own:Nat→Nat) (x:GrX) (g:Pl.Gst):Prop where
 v:GrV w R B base s 0 nv L own g.srt x
 nd:L.map (·.nd)=g.nds
 sec:x.sec=g.sec
 dep:x.dep=g.dep
 many:x.many=g.many
theorem GM.gr {w w':World} {R B base:Nat} {s:ByteArray} {nv:Value} {L:List NdR} {own:Nat→Nat} {x:GrX} {g:Pl.Gst} (h:GM w R B base s nv L own x g) (q:Gr w w'):GM w' R B base s nv L own x g :=
 ⟨h.v.gr q,h.nd,h.sec,h.dep,h.many⟩
structure LedS (b r gu m:Nat) (an d l:Nat) (w:World):Prop where
 c:w.cell? ⟨gu,m,none⟩=some (.int .i64 l)
 p:FX b (.int .i64 an) (.int .i64 d) w
 r:FX r (.int .i64 0) (.int .i64 0) w
set_option maxRecDepth 100000 in
theorem gr_led (w:World) (R B base:Nat) (s:ByteArray) (nv:Value) (L:List NdR) (own:Nat→Nat) (x:GrX) (g:Pl.Gst) (h:GM w R B base s nv L own x g) (an d i:Nat) (hi:i<L.length) (hL:L.length≤30000000) (hd:d≤1000000000) (X:Pl.Ov) (hX:Pl.ledG g d i=X) (hne:X ≠ .non) :
    Calls Tryz.prog 61 #[.pointer (some ⟨R,0,none⟩),.agg #[.int .i64 an,.int .i64 d],.int .i64 i] w fun e w'=>OvPost X e∧Gr w w':=by
 refine Z119 ?_;intro c0 c1 c2 c3 c4 c5 c6 c7 c8 fz hR sh sof hso hs HLK;have H:=Lib.hid h;have HX:=Lib.hid hX;have HS:=Lib.hid hs;clear h hX hs hso fz c1 c2 c4 c5 c6 c7 c8;go_enter Tryz.func61,Tryz.ntmps61
 go_upto_region 1 with fail
 obtain⟨W,hW⟩:∃W,(w.alloc (.cells #[.int .i64 an,.int .i64 d] 60)).alloc (.cells #[.int .i64 0,.int .i64 0] 60)=W:=⟨_,rfl⟩
 have gW:Gr w W:=by rw[←hW];exact ((Gr.refl w).alloc _).alloc _
 have hB0:FX w.heap.size (.int .i64 an) (.int .i64 d) W:=by rw[←hW];exact (FX.new w _ _ 60).gr ((Gr.refl _).alloc _)
 refine Z257 ?_;intro hB1;have e0:W.cell? ⟨R,0,none⟩=some nv:=(gW.use.1 R 0 hR.2).trans c0;have e3:W.cell? ⟨R,3,none⟩=some (.map (some B)):=(gW.use.1 R 3 hR.2).trans c3;have hlk:(Instr.lookup 58 (.map (some B)) (.int .i64 i) false).run Tryz.prog W = .ok (.agg #[.int .u8 sh,.int .i64 sof]) W:=HLK.out W gW;obtain⟨p0,p1,pf,pl⟩:=hB0;obtain⟨r0,r1,rf,rl⟩:=hB1;have HG:=Lib.hid gW;have hRW:R<W.heap.size:=Nat.lt_of_lt_of_le hR.2 gW.size
 try rw[hW]
 clear hW gW c0 c3;by_cases h0:sh=0
 · have s0:((sh:Int)==0)=true:=by simp;omega
   have hXno:X = .no:=by rw[←HX.out];unfold Pl.ledG;rw[HS.out,if_pos h0]
   subst hXno;go_wp2_with fail;obtain⟨WF,hWF⟩:∃W',((W.setCell ⟨w.heap.size+1,0,none⟩ (.int .i64 0)).setCell ⟨w.heap.size+1,1,none⟩ (.int .i64 0))=W':=⟨_,rfl⟩
   have hF:FX (w.heap.size+1) (.int .i64 0) (.int .i64 0) WF:=by rw[←hWF];exact FX.set ⟨r0,r1,rf,rl⟩ _ _
   have gF:Gr w WF:=by rw[←hWF];exact (HG.out.setCell (p:=⟨w.heap.size+1,0,none⟩) (Nat.le_succ _) _).setCell (p:=⟨w.heap.size+1,1,none⟩) (Nat.le_succ _) _
   rw[hWF];clear hWF;obtain⟨q0,q1,qf,ql⟩:=hF.gr ((Gr.refl WF).alloc (.cells #[.int .u8 0,.int .i64 sof] 86));have gE:=gF.alloc (.cells #[.int .u8 0,.int .i64 sof] 86);exact bodyPost_ret (v := .tuple #[.agg #[.int .i64 0,.int .i64 0],.bool false]) (by simp[results,Tryz.results61,go_sem,q0,q1,qf,ql]) rfl ⟨⟨0,0,rfl⟩,gE⟩
 have s0:((sh:Int)==0)=false:=by simp;omega
 by_cases h4:sh=4
 · have s4:((sh:Int)==4)=true:=by simp;omega
   obtain⟨r,hr⟩:∃r,L[i]?=some r:=⟨_,List.getElem?_eq_getElem hi⟩
   have hnd:g.nds[i]?=some r.nd:=by rw[←H.out.nd,List.getElem?_map,hr];rfl
   have hXX:=HX.out;unfold Pl.ledG at hXX;rw[HS.out,if_neg h0,if_pos h4,hnd]at hXX;simp only at hXX;cases hl:r.nd.subs.getLast? with
   | none=>rw[hl]at hXX;exact absurd hXX.symm hne
   | some l =>
    rw[hl]at hXX;simp only at hXX;subst hXX;obtain⟨gn,cap,cur,hnv,_,hgl,_⟩:=H.out.v.form (by omega);obtain⟨_,_,_,_,n4,_⟩:=H.out.v.ndCells hnv i r hr;have hn0:0<r.nd.subs.length:=by
     cases hs:r.nd.subs with
     | nil=>rw[hs]at hl;cases hl
     | cons=>simp
    have hru:=(H.out.v.rows i r hr).u;obtain⟨gu,cu,huv,hlc,hcm⟩:=hru.form hn0;have hll:r.nd.subs[r.nd.subs.length-1]?=some l:=by rw[←List.getLast?_eq_getElem?];exact hl
    have hcl:=hru.cells (g:=gu) (by rw[huv];rfl) (r.nd.subs.length-1) (.int .i64 l) (by simp[subsV,hll]);have hgu:=(hru.lt gu (by rw[huv];rfl)).2;rw[huv]at n4;have N4:=(HG.out.use.1 _ _ hgl).trans n4;have hgl':gn<W.heap.size:=Nat.lt_of_lt_of_le hgl HG.out.size;have hgu':gu<W.heap.size:=Nat.lt_of_lt_of_le hgu HG.out.size;have CL:=(HG.out.use.1 _ _ hgu).trans hcl;obtain⟨m,hm⟩:∃m,r.nd.subs.length=m+1:=⟨r.nd.subs.length-1,by omega⟩
    rw[hm]at N4 CL hlc;simp only[Nat.add_sub_cancel]at CL;refine Z142 ?_;intro j1 j2;have j3:(0:Int)≤(m:Int):=by omega
    have j4:(m:Int)<((m+1:Nat):Int):=by omega
    have j5:(m:Int)<(m:Int)+1:=by omega
    have hmx:m<9223372036854775807:=by unfold maxLen at hcm;omega
    refine Z288 ?_;intro wm;have wm2:IntKind.i64.wrap (((m+1:Nat):Int)-1)=(m:Int):=by rw[IntWalk.i64_in _ ⟨by omega,by omega⟩];omega
    have wd2:IntKind.i64.wrap ((d:Int)+2)=(d:Int)+2:=IntWalk.i64_in _ ⟨by omega,by omega⟩;subst hnv;clear hnd hl hll hn0 hru huv hcl n4 hgl hgu hr hm hcm hlc
    go_upto_region 7 with fail
    obtain⟨W9,hW9⟩:∃W',W.alloc (.cells #[.int .u8 4,.int .i64 sof] 86)=W':=⟨_,rfl⟩
    have g9:Gr W W9:=by rw[←hW9];exact (Gr.refl W).alloc _
    have hS:LedS w.heap.size (w.heap.size+1) gu m an d l W9.drew :=
     ⟨(g9.drew.use.1 _ _ hgu').trans CL,FX.gr ⟨p0,p1,pf,pl⟩ g9.drew,FX.gr ⟨r0,r1,rf,rl⟩ g9.drew⟩
    obtain⟨r0',r1',rf',rl'⟩:=FX.gr ⟨r0,r1,rf,rl⟩ g9;have HG9:=Lib.hid (HG.out.trans g9);rw[hW9];clear hW9 g9 N4 CL p0 p1 pf pl r0 r1 rf rl e0 e3 hlk;refine Reg.begin' (W:=fun i=>i != 10) (S:=LedS w.heap.size (w.heap.size+1) gu m an d l) (by kernel_rfl) ?_;refine Z40 ?_;refine Z42 ?_;refine Reg.tl 5 hS ?_ (hy:=by intro w hSw;obtain⟨s1,⟨s2,s3,s4,s5⟩,s6⟩:=hSw;go_simp;try with_reducible rfl);refine Reg.ty 6 ?_;refine Reg.tl 7 hS ?_ (hy:=by intro w hSw;obtain⟨s1,⟨s2,s3,s4,s5⟩,s6⟩:=hSw;go_simp;try with_reducible rfl);refine Z308 ?_;refine Reg.on 10 ?_;go_simp;refine Z2 ?_;refine Reg.ty 11 ?_;refine Z12 ?_;go_wp2_with fail;obtain⟨WF,hWF⟩:∃W',((W9.setCell ⟨w.heap.size+1,0,none⟩ (.int .i64 l)).setCell ⟨w.heap.size+1,1,none⟩ (.int .i64 ((d:Int)+2)))=W':=⟨_,rfl⟩
    have hF:FX (w.heap.size+1) (.int .i64 l) (.int .i64 ((d:Int)+2)) WF:=by rw[←hWF];exact FX.set ⟨r0',r1',rf',rl'⟩ _ _
    have gF:Gr w WF:=by rw[←hWF];exact (HG9.out.setCell (p:=⟨w.heap.size+1,0,none⟩) (Nat.le_succ _) _).setCell (p:=⟨w.heap.size+1,1,none⟩) (Nat.le_succ _) _
    rw[hWF];obtain⟨q0,q1,qf,ql⟩:=hF.gr (Gr.refl WF).drew;have gE:=gF.drew;clear hWF hF gF r0' r1' rf' rl' hS;exact bodyPost_ret (v := .tuple #[.agg #[.int .i64 l,.int .i64 ((d:Int)+2)],.bool true]) (by simp[results,Tryz.results61,go_sem,q0,q1,qf,ql]) rfl ⟨by simp[OvPost],gE⟩
 have s4:((sh:Int)==4)=false:=by simp;omega
 have hXto:X = .go i (d+1):=by rw[←HX.out];unfold Pl.ledG;rw[HS.out,if_neg h0,if_neg h4]
 subst hXto;refine Z153 ?_;intro wd1;go_wp2_with fail;refine Z284 ?_;intro WF hWF;have hF:FX (w.heap.size+1) (.int .i64 i) (.int .i64 ((d:Int)+1)) WF:=by rw[←hWF];exact FX.set ⟨r0,r1,rf,rl⟩ _ _
 have gF:Gr w WF:=by rw[←hWF];exact (HG.out.setCell (p:=⟨w.heap.size+1,0,none⟩) (Nat.le_succ _) _).setCell (p:=⟨w.heap.size+1,1,none⟩) (Nat.le_succ _) _
 rw[hWF];clear hWF;obtain⟨q0,q1,qf,ql⟩:=hF.gr ((Gr.refl WF).alloc (.cells #[.int .u8 sh,.int .i64 sof] 86));have gE:=gF.alloc (.cells #[.int .u8 sh,.int .i64 sof] 86);exact bodyPost_ret (v := .tuple #[.agg #[.int .i64 i,.int .i64 ((d:Int)+1)],.bool true]) (by simp[results,Tryz.results61,go_sem,q0,q1,qf,ql]) rfl ⟨by simp[OvPost],gE⟩
structure InnS (R B b:Nat) (i an d many sh sof:Nat) (w:World):Prop where
 c3:w.cell? ⟨R,3,none⟩=some (.map (some B))
 c6:w.cell? ⟨R,6,none⟩=some (.int .i64 many)
 p1:w.cell? ⟨b,1,none⟩=some (.int .i64 d)
 lk:(Instr.lookup 58 (.map (some B)) (.int .i64 i) false).run Tryz.prog w = .ok (.agg #[.int .u8 sh,.int .i64 sof]) w
set_option maxRecDepth 100000 in
theorem gr_inner (w:World) (R B base:Nat) (s:ByteArray) (nv:Value) (L:List NdR) (own:Nat→Nat) (x:GrX) (g:Pl.Gst) (h:GM w R B base s nv L own x g) (an d i:Nat) (hi:i<L.length) (hL:L.length≤30000000) (hd:d≤1000000000) :
    Calls Tryz.prog 66 #[.pointer (some ⟨R,0,none⟩),.agg #[.int .i64 an,.int .i64 d],.int .i64 i] w fun e w'=>OvPost (Pl.innerG g d i) e∧Gr w w':=by
 refine Z119 ?_;intro c0 c1 c2 c3 c4 c5 c6 c7 c8 fz hR sh sof hso hs HLK;have HS:=Lib.hid hs;rw[h.many]at c6;obtain⟨many,hmn⟩:∃n,g.many=n:=⟨_,rfl⟩
 rw[hmn]at c6;have HMN:=Lib.hid hmn;clear h hs hso fz c0 c1 c2 c4 c5 c7 c8 hmn;refine Z153 ?_;intro wd1;go_enter Tryz.func66,Tryz.ntmps66
 go_upto_region 1 with fail
 obtain⟨W,hW⟩:∃W,(w.alloc (.cells #[.int .i64 an,.int .i64 d] 60)).alloc (.cells #[.int .i64 0,.int .i64 0] 60)=W:=⟨_,rfl⟩
 have gW:Gr w W:=by rw[←hW];exact ((Gr.refl w).alloc _).alloc _
 have hB0:FX w.heap.size (.int .i64 an) (.int .i64 d) W:=by rw[←hW];exact (FX.new w _ _ 60).gr ((Gr.refl _).alloc _)
 refine Z257 ?_;intro hB1;have hS:InnS R B w.heap.size i an d many sh sof W.drew :=
  ⟨(gW.drew.use.1 R 3 hR.2).trans c3,(gW.drew.use.1 R 6 hR.2).trans c6,hB0.2.1,HLK.out W.drew gW.drew⟩
 obtain⟨r0,r1,rf,rl⟩:=hB1;have HG:=Lib.hid gW
 try rw[hW]
 clear hW gW;refine Z284 ?_;intro WF hWF;have hF:FX (w.heap.size+1) (.int .i64 i) (.int .i64 ((d:Int)+1)) WF:=by rw[←hWF];exact FX.set ⟨r0,r1,rf,rl⟩ _ _
 have gF:Gr w WF:=by rw[←hWF];exact (HG.out.setCell (p:=⟨w.heap.size+1,0,none⟩) (Nat.le_succ _) _).setCell (p:=⟨w.heap.size+1,1,none⟩) (Nat.le_succ _) _
 have hS2:InnS R B w.heap.size i an d many sh sof WF.drew:=by
  have p1:WF.cell? ⟨w.heap.size,1,none⟩=some (.int .i64 d):=by
   rw[←hWF,World.cell?_setCell_other _ _ _ _ (by simp),World.cell?_setCell_other _ _ _ _ (by simp)];exact hB0.2.1
  exact⟨(gF.drew.use.1 R 3 hR.2).trans c3,(gF.drew.use.1 R 6 hR.2).trans c6,p1,HLK.out WF.drew gF.drew⟩
 have HF:=Lib.hid hF;have HGF:=Lib.hid gF;have HS2:=Lib.hid hS2;have HWF:=Lib.hid hWF;clear c3 c6 hB0 hF gF hS2 hWF;have hb:(∃b,b=(((sh:Int)==3) && ((sof:Int)==(many:Int)))):=⟨_,rfl⟩
 obtain⟨bb,hbb⟩:=hb;have hcase:(((sh:Int)==3)=false∧bb=false)∨(((sh:Int)==3)=true∧((sof:Int)==(many:Int))=false∧bb=false)∨(((sh:Int)==3)=true∧((sof:Int)==(many:Int))=true∧bb=true):=by
  cases h1:((sh:Int)==3) <;> cases h2:((sof:Int)==(many:Int)) <;> rw[h1,h2]at hbb <;> simp[hbb]
 have HBB:=Lib.hid hbb;clear hbb;rcases hcase with⟨e1,rfl⟩|⟨e1,e2,rfl⟩|⟨e1,e2,rfl⟩
 all_goals
  refine Reg.begin' (W:=fun _=>true) (S:=InnS R B w.heap.size i an d many sh sof) (by kernel_rfl) ?_;refine Z317 ?_;refine Reg.ty 5 ?_;refine Z143 ?_;refine Reg.ty 13 ?_;refine Reg.tl 14 hS ?_ (hy:=by intro w hSw;obtain⟨s1,s2,s3,s4⟩:=hSw;go_simp;try with_reducible rfl);refine Reg.ty 15 ?_;refine Reg.ty 16 ?_;refine Z188 ?_;rw[HWF.out];refine⟨by first|exact HS2.out|exact fun _=>HS2.out|exact fun _ _=>HS2.out,?_⟩;refine Reg.pt ?_;refine Reg.ty 18 ?_;refine Z12 ?_;go_wp2_with fail;obtain⟨q0,q1,qf,ql⟩:=HF.out.gr (Gr.refl WF).drew;have gE:=HGF.out.drew
 · have hX:Pl.innerG g d i = .no:=by
    unfold Pl.innerG;rw[HS.out,HMN.out,if_neg (fun h=>by cases h;simp at e1)]
   exact J127
 · have hX:Pl.innerG g d i = .no:=by
    unfold Pl.innerG;rw[HS.out,HMN.out,if_neg (fun h=>by cases h;simp at e2)]
   exact J127
 have hX:Pl.innerG g d i = .go i (d+1):=by
  unfold Pl.innerG;rw[HS.out,HMN.out,if_pos (by rw[Prod.mk.injEq];exact⟨by have h:=eq_of_beq e1;omega,by have h:=eq_of_beq e2;omega⟩)]
 rw[hX];exact bodyPost_ret (v := .tuple #[.agg #[.int .i64 i,.int .i64 ((d:Int)+1)],.bool true]) (by simp[results,Tryz.results66,go_sem,q0,q1,qf,ql]) rfl ⟨by simp[OvPost],gE⟩
end Go.Proofs.YtfogfaagjpebcaaGreatDoor
namespace Go.Proofs.YtfogfaagjpebcaaGreatDoor
open Go.RowKit Go.Shelf Go.Joins
attribute [local go_sem] Oper.semAt_some
theorem fx5 (w:World) (a0 b0 a1 b1 a2 b2 a3 b3 a4 b4:Value) (T0 T1 T2 T3 T4:TypeId) :
    FX w.heap.size a0 b0 (((((w.alloc (.cells #[a0,b0] T0)).alloc (.cells #[a1,b1] T1)).alloc (.cells #[a2,b2] T2)).alloc (.cells #[a3,b3] T3)).alloc (.cells #[a4,b4] T4))∧FX (w.heap.size+1) a1 b1 (((((w.alloc (.cells #[a0,b0] T0)).alloc (.cells #[a1,b1] T1)).alloc (.cells #[a2,b2] T2)).alloc (.cells #[a3,b3] T3)).alloc (.cells #[a4,b4] T4)) ∧
    FX (w.heap.size+1+1) a2 b2 (((((w.alloc (.cells #[a0,b0] T0)).alloc (.cells #[a1,b1] T1)).alloc (.cells #[a2,b2] T2)).alloc (.cells #[a3,b3] T3)).alloc (.cells #[a4,b4] T4))∧FX (w.heap.size+1+1+1) a3 b3 (((((w.alloc (.cells #[a0,b0] T0)).alloc (.cells #[a1,b1] T1)).alloc (.cells #[a2,b2] T2)).alloc (.cells #[a3,b3] T3)).alloc (.cells #[a4,b4] T4)) ∧
    FX (w.heap.size+1+1+1+1) a4 b4 (((((w.alloc (.cells #[a0,b0] T0)).alloc (.cells #[a1,b1] T1)).alloc (.cells #[a2,b2] T2)).alloc (.cells #[a3,b3] T3)).alloc (.cells #[a4,b4] T4))∧Gr w (((((w.alloc (.cells #[a0,b0] T0)).alloc (.cells #[a1,b1] T1)).alloc (.cells #[a2,b2] T2)).alloc (.cells #[a3,b3] T3)).alloc (.cells #[a4,b4] T4)) ∧
    (((((w.alloc (.cells #[a0,b0] T0)).alloc (.cells #[a1,b1] T1)).alloc (.cells #[a2,b2] T2)).alloc (.cells #[a3,b3] T3)).alloc (.cells #[a4,b4] T4)).heap.size=w.heap.size+1+1+1+1+1:=by
 obtain⟨w1,h1⟩:∃w1,w.alloc (.cells #[a0,b0] T0)=w1:=⟨_,rfl⟩
 obtain⟨w2,h2⟩:∃w2,w1.alloc (.cells #[a1,b1] T1)=w2:=⟨_,rfl⟩
 obtain⟨w3,h3⟩:∃w3,w2.alloc (.cells #[a2,b2] T2)=w3:=⟨_,rfl⟩
 obtain⟨w4,h4⟩:∃w4,w3.alloc (.cells #[a3,b3] T3)=w4:=⟨_,rfl⟩
 obtain⟨w5,h5⟩:∃w5,w4.alloc (.cells #[a4,b4] T4)=w5:=⟨_,rfl⟩
 rw[h1,h2,h3,h4,h5];have z1:w1.heap.size=w.heap.size+1:=by rw[←h1];simp
 have z2:w2.heap.size=w.heap.size+1+1:=by rw[←h2];simp[z1]
 have z3:w3.heap.size=w.heap.size+1+1+1:=by rw[←h3];simp[z2]
 have z4:w4.heap.size=w.heap.size+1+1+1+1:=by rw[←h4];simp[z3]
 have z5:w5.heap.size=w.heap.size+1+1+1+1+1:=by rw[←h5];simp[z4]
 have g1:Gr w w1:=by rw[←h1];exact (Gr.refl _).alloc _
 have g2:Gr w1 w2:=by rw[←h2];exact (Gr.refl _).alloc _
 have g3:Gr w2 w3:=by rw[←h3];exact (Gr.refl _).alloc _
 have g4:Gr w3 w4:=by rw[←h4];exact (Gr.refl _).alloc _
 have g5:Gr w4 w5:=by rw[←h5];exact (Gr.refl _).alloc _
 have f0:FX w.heap.size a0 b0 w1:=by rw[←h1];exact FX.new w _ _ _
 have f1:FX w1.heap.size a1 b1 w2:=by rw[←h2];exact FX.new w1 _ _ _
 have f2:FX w2.heap.size a2 b2 w3:=by rw[←h3];exact FX.new w2 _ _ _
 have f3:FX w3.heap.size a3 b3 w4:=by rw[←h4];exact FX.new w3 _ _ _
 have f4:FX w4.heap.size a4 b4 w5:=by rw[←h5];exact FX.new w4 _ _ _
 rw[z1]at f1;rw[z2]at f2;rw[z3]at f3;rw[z4]at f4;exact⟨f0.gr (g2.trans (g3.trans (g4.trans g5))),f1.gr (g3.trans (g4.trans g5)),f2.gr (g4.trans g5),f3.gr g5,f4,g1.trans (g2.trans (g3.trans (g4.trans g5))),z5⟩
def StepG (w:World) (R B base:Nat) (s:ByteArray) (own:Nat→Nat) (x:GrX) (X:Pl.Res (Nat × Nat × Pl.Gst)) (e:Ending) (w':World):Prop:=match X with
 | .non=>True
 | .bad c p=>(∃n d:Int,e = .returned (.tuple #[.agg #[.int .i64 n,.int .i64 d],fv c p]))∧c≠0∧∃own',St (FV own) (FV own') w w'∧w'.cell? ⟨R,2,none⟩=some (.string s)∧(∀k,own' k≠0→own k≠0∨w.heap.size≤k)
 | .ok (n,d,g')=>e = .returned (.tuple #[.agg #[.int .i64 n,.int .i64 d],f0])∧∃nv' L' own',GM w' R B base s nv' L' own' x g'∧St (FV own) (FV own') w w'∧(∀k,own' k≠0→own k≠0∨w.heap.size≤k)
theorem fx2 {w W:World} {b3 b4:Nat} {x3 y3 x4 y4:Value} (h3:FX b3 x3 y3 W) (h4:FX b4 x4 y4 W) (hn:b3≠b4) (g:Gr w W) (l3:w.heap.size≤b3) (l4:w.heap.size≤b4) (p q u v:Value) :
    FX b3 p q ((((W.setCell ⟨b3,0,none⟩ p).setCell ⟨b3,1,none⟩ q).setCell ⟨b4,0,none⟩ u).setCell ⟨b4,1,none⟩ v) ∧
    FX b4 u v ((((W.setCell ⟨b3,0,none⟩ p).setCell ⟨b3,1,none⟩ q).setCell ⟨b4,0,none⟩ u).setCell ⟨b4,1,none⟩ v) ∧
    Gr w ((((W.setCell ⟨b3,0,none⟩ p).setCell ⟨b3,1,none⟩ q).setCell ⟨b4,0,none⟩ u).setCell ⟨b4,1,none⟩ v) :=
 ⟨((FX.set h3 _ _).other (Ne.symm hn) _).other (Ne.symm hn) _,FX.set ((FX.other h4 hn _).other hn _) _ _,
  (((g.setCell (p:=⟨b3,0,none⟩) l3 _).setCell (p:=⟨b3,1,none⟩) l3 _).setCell (p:=⟨b4,0,none⟩) l4 _).setCell (p:=⟨b4,1,none⟩) l4 _⟩
theorem fx2s {w W:World} {F F':Nat→Prop} {b3 b4:Nat} {x3 y3 x4 y4:Value} (h3:FX b3 x3 y3 W) (h4:FX b4 x4 y4 W) (hn:b3≠b4) (g:St F F' w W) (l3:w.heap.size≤b3) (l4:w.heap.size≤b4) (p q u v:Value) :
    FX b3 p q ((((W.setCell ⟨b3,0,none⟩ p).setCell ⟨b3,1,none⟩ q).setCell ⟨b4,0,none⟩ u).setCell ⟨b4,1,none⟩ v) ∧
    FX b4 u v ((((W.setCell ⟨b3,0,none⟩ p).setCell ⟨b3,1,none⟩ q).setCell ⟨b4,0,none⟩ u).setCell ⟨b4,1,none⟩ v) ∧
    St F F' w ((((W.setCell ⟨b3,0,none⟩ p).setCell ⟨b3,1,none⟩ q).setCell ⟨b4,0,none⟩ u).setCell ⟨b4,1,none⟩ v) ∧
    (∀k,k≠b3→k≠b4→((((W.setCell ⟨b3,0,none⟩ p).setCell ⟨b3,1,none⟩ q).setCell ⟨b4,0,none⟩ u).setCell ⟨b4,1,none⟩ v).heap[k]?=W.heap[k]?) ∧
    W.heap.size≤((((W.setCell ⟨b3,0,none⟩ p).setCell ⟨b3,1,none⟩ q).setCell ⟨b4,0,none⟩ u).setCell ⟨b4,1,none⟩ v).heap.size :=
 ⟨((FX.set h3 _ _).other (Ne.symm hn) _).other (Ne.symm hn) _,FX.set ((FX.other h4 hn _).other hn _) _ _,
  (((g.setCell (p:=⟨b3,0,none⟩) (.inr l3) _).setCell (p:=⟨b3,1,none⟩) (.inr l3) _).setCell (p:=⟨b4,0,none⟩) (.inr l4) _).setCell (p:=⟨b4,1,none⟩) (.inr l4) _,
  fun k k3 k4=>by rw[Below.heap_setCell _ _ _ _ k4,Below.heap_setCell _ _ _ _ k4,Below.heap_setCell _ _ _ _ k3,Below.heap_setCell _ _ _ _ k3],
  by simp[World.setCell]⟩
theorem nds_put (L:List NdR) (an:Nat) (r:NdR) (hr:L[an]?=some r) (w:Pl.Bs) (sp:Nat × Nat) (n:Nat) (kv sv uv:Value) :
    (L.set an ⟨Pl.putNd r.nd w sp n,kv,sv,uv⟩).map (·.nd)=Pl.putAt (L.map (·.nd)) an w sp n:=by
 unfold Pl.putAt;refine List.ext_getElem? fun k=>?_
 rw[List.getElem?_modify,List.getElem?_map,List.getElem?_map,List.getElem?_set];have hl:an<L.length:=(List.getElem?_eq_some_iff.1 hr).1;by_cases hk:an=k
 · subst hk;simp[hl,hr];have h2:=(List.getElem?_eq_some_iff.1 hr).2;rw[h2]
 simp[hk]
set_option maxRecDepth 100000 in
theorem gr_step (fo:Nat) (hent:∀args w,(callFunc fo args).run Tryz.prog w = .ok (.enter fo args) w) (p1 p2:Value) (over:Nat→Pl.Ov) (w:World) (R B base:Nat) (s:ByteArray) (nv:Value) (L:List NdR) (own:Nat→Nat) (x:GrX) (g:Pl.Gst) (h:GM w R B base s nv L own x g)
    (HO:∀W,Gr w W→∀i,i<L.length→over i ≠ .non→Calls Tryz.prog fo #[.int .i64 i,p1,p2] W fun e W'=>OvPost (over i) e∧Gr W W')
    (an d:Nat) (wd:ByteArray) (a b:Nat) (t:Nat × Nat) (hL:L.length≤20000001) (hm:x.many≤30000000) (hd:d≤1000000000) (X:Pl.Res (Nat × Nat × Pl.Gst)) (hX:Pl.stepG g an d (bs wd) a b t over=X) (hne:X ≠ .non) :
    Calls Tryz.prog 64 #[.pointer (some ⟨R,0,none⟩),.agg #[.int .i64 an,.int .i64 d],.string wd,.agg #[.int .i64 a,.int .i64 b],.agg #[.int .u8 t.1,.int .i64 t.2],.func (.func fo) #[] #[p1,p2]] w (StepG w R B base s own x X):=by
 obtain⟨XS,hXS⟩:∃X,Pl.subOf g.nds an (bs wd)=X:=⟨_,rfl⟩
 have hXSn:XS ≠ .non:=fun e=>by
  subst e;unfold Pl.stepG at hX;rw[hXS]at hX;exact hne hX.symm
 have HSUB:=Lib.hid (fun W (q:Gr w W)=>gr_sub W R B base s 0 nv L own g.srt x (h.v.gr q) an wd XS (by rw[h.nd];exact hXS) hXSn);have le3:w.heap.size≤w.heap.size+1+1+1:=by omega
 have le4:w.heap.size≤w.heap.size+1+1+1+1:=by omega
 have H:=Lib.hid h;have HX:=Lib.hid hX;have HXS:=Lib.hid hXS;have HOV:=Lib.hid HO;clear h hX hXS HO;go_enter Tryz.func64,Tryz.ntmps64
 go_upto_region 1 with fail
 obtain⟨W,hW⟩:∃W,((((w.alloc (.cells #[.int .i64 an,.int .i64 d] 60)).alloc (.cells #[.int .i64 a,.int .i64 b] 73)).alloc (.cells #[.int .u8 t.1,.int .i64 t.2] 86)).alloc (.cells #[.int .i64 0,.int .i64 0] 60)).alloc (.cells #[.int .i64 0,.int .i64 0] 31)=W:=⟨_,rfl⟩
 obtain⟨hb0,hb1,hb2,hb3,hb4,gW,hWs⟩:FX w.heap.size (.int .i64 an) (.int .i64 d) W∧FX (w.heap.size+1) (.int .i64 a) (.int .i64 b) W∧FX (w.heap.size+1+1) (.int .u8 t.1) (.int .i64 t.2) W∧FX (w.heap.size+1+1+1) (.int .i64 0) (.int .i64 0) W∧FX (w.heap.size+1+1+1+1) (.int .i64 0) (.int .i64 0) W∧Gr w W∧W.heap.size=w.heap.size+1+1+1+1+1:=by
  rw[←hW];exact fx5 w _ _ _ _ _ _ _ _ _ _ _ _ _ _ _
 try rw[hW]
 clear hW;have HB0:=Lib.hid hb0;have HB1:=Lib.hid hb1;have HB2:=Lib.hid hb2;have HB3:=Lib.hid hb3;have HB4:=Lib.hid hb4;have HG:=Lib.hid gW;obtain⟨p00,p01,p0f,p0l⟩:=hb0;clear hb1 hb2 hb3 hb4 gW;go_wp2_with fail;refine (HSUB.out W HG.out).mono ?_;refine Z48 ?_;cases XS with
 | non=>exact absurd rfl hXSn
 | yes i =>
  have hii:i<L.length:=by
   have h1:=HXS.out;unfold Pl.subOf at h1
   split at h1
   · cases h1
   split at h1
   · cases h1
   split at h1
   · cases h1
   split at h1
   · rename_i h2
     cases h1;rw[←H.out.nd,List.length_map]at h2;exact h2
   cases h1
  have s0:((i:Int) != -1)=true:=by simp
  have hXX:=HX.out;unfold Pl.stepG at hXX;rw[HXS.out]at hXX;simp only at hXX;have hovn:over i ≠ .non:=fun e=>by rw[e]at hXX;exact hne hXX.symm
  dsimp only [gsubRes];go_wp2_with fail;refine (HOV.out W HG.out i hii hovn).mono ?_;cases hov:over i with
  | non=>exact absurd hov hovn
  | go n d' =>
   rw[hov]at hXX;simp only at hXX;subst hXX;rintro e w2 ⟨he,g2⟩;have he':e = .returned (.tuple #[.agg #[.int .i64 n,.int .i64 d'],.bool true]):=he;subst he';have hg3:=HG.out.trans g2;obtain⟨r0,r1,rf,rl⟩:=HB3.out.gr g2;obtain⟨k0,k1,kf,kl⟩:=HB4.out.gr g2;have HG2:=Lib.hid hg3;clear g2 hg3 p00 p01 p0f p0l;go_wp2_with fail;have hXF:=fx2 ⟨r0,r1,rf,rl⟩ ⟨k0,k1,kf,kl⟩ (by omega) HG2.out le3 le4 (.int .i64 n) (.int .i64 d') (.int .i64 0) (.int .i64 0);obtain⟨WF,hWF⟩:∃W',((((w2.setCell ⟨w.heap.size+1+1+1,0,none⟩ (.int .i64 n)).setCell ⟨w.heap.size+1+1+1,1,none⟩ (.int .i64 d')).setCell ⟨w.heap.size+1+1+1+1,0,none⟩ (.int .i64 0)).setCell ⟨w.heap.size+1+1+1+1,1,none⟩ (.int .i64 0))=W':=⟨_,rfl⟩
   rw[hWF]at hXF;rw[hWF];obtain⟨hF3,hF4,gF⟩:=hXF;clear hWF;obtain⟨q0,q1,qf,ql⟩:=hF3.gr ((Gr.refl WF).alloc (.cells #[.int .i64 n,.int .i64 d'] 60));obtain⟨y0,y1,yf,yl⟩:=hF4.gr ((Gr.refl WF).alloc (.cells #[.int .i64 n,.int .i64 d'] 60));have gE:=gF.alloc (.cells #[.int .i64 n,.int .i64 d'] 60);exact bodyPost_ret (v := .tuple #[.agg #[.int .i64 n,.int .i64 d'],f0]) (by simp[results,Tryz.results64,go_sem,q0,q1,qf,ql,y0,y1,yf,yl]) rfl ⟨rfl,_,_,_,H.out.gr gE,(St.refl (FV own) w).gr gE,fun k hk => .inl hk⟩
  | no =>
   rw[hov]at hXX;simp only at hXX;subst hXX;rintro e w2 ⟨he,g2⟩;obtain⟨n,d',he'⟩:∃n d':Int,e = .returned (.tuple #[.agg #[.int .i64 n,.int .i64 d'],.bool false]):=he;subst he';have hg3:=HG.out.trans g2;clear p00 p01 p0f p0l
   go_upto_region 6 with fail
   obtain⟨W5,hW5⟩:∃W',w2.alloc (.cells #[.int .i64 n,.int .i64 d'] 60)=W':=⟨_,rfl⟩
   have g5:Gr w2 W5:=by rw[←hW5];exact (Gr.refl _).alloc _
   have hB1:=HB1.out.gr (g2.trans g5);have hB3:=HB3.out.gr (g2.trans g5);have hB4:=HB4.out.gr (g2.trans g5);have HG5:=Lib.hid (hg3.trans g5);rw[hW5];have hS:FX (w.heap.size+1) (.int .i64 a) (.int .i64 b) W5.drew:=hB1.gr (Gr.refl W5).drew;clear hW5 g5 g2 hg3;obtain⟨r0,r1,rf,rl⟩:=id hB3;obtain⟨k0,k1,kf,kl⟩:=id hB4;refine Z41 ?_;refine Z12 ?_;go_wp2_with fail;have hXF:=fx2 hB3 hB4 (by omega) HG5.out le3 le4 (.int .i64 0) (.int .i64 0) (.int .i64 5) (.int .i64 a);obtain⟨WF,hWF⟩:∃W',((((W5.setCell ⟨w.heap.size+1+1+1,0,none⟩ (.int .i64 0)).setCell ⟨w.heap.size+1+1+1,1,none⟩ (.int .i64 0)).setCell ⟨w.heap.size+1+1+1+1,0,none⟩ (.int .i64 5)).setCell ⟨w.heap.size+1+1+1+1,1,none⟩ (.int .i64 a))=W':=⟨_,rfl⟩
   rw[hWF]at hXF;rw[hWF];obtain⟨hF3,hF4,gF⟩:=hXF;clear hWF;obtain⟨q0,q1,qf,ql⟩:=hF3.gr (Gr.refl WF).drew;obtain⟨y0,y1,yf,yl⟩:=hF4.gr (Gr.refl WF).drew;have gE:=gF.drew;have hR:=H.out.v.R_lt;exact bodyPost_ret (v := .tuple #[.agg #[.int .i64 0,.int .i64 0],fv 5 a]) (by simp[results,Tryz.results64,go_sem,q0,q1,qf,ql,y0,y1,yf,yl]) rfl ⟨⟨0,0,rfl⟩,by decide,_,(St.refl (FV own) w).gr gE,(gE.use.1 R 2 hR.2).trans H.out.v.cells.1.2.2.1,fun k hk => .inl hk⟩
 | no =>
  have s0:((-1:Int) != -1)=false:=by simp
  have hXX:=HX.out;unfold Pl.stepG at hXX;rw[HXS.out]at hXX;simp only at hXX;dsimp only [gsubRes];refine Z153 ?_;intro wd1;by_cases hdp:256<d+1
  · have s2:decide ((256:Int)<(d:Int)+1)=true:=by simp;omega
    rw[if_pos hdp]at hXX;subst hXX
    go_upto_region 8 with fail
    have hB1:=HB1.out;have hB3:=HB3.out;have hB4:=HB4.out;have HG5:=HG;have hS:FX (w.heap.size+1) (.int .i64 a) (.int .i64 b) W.drew:=hB1.gr (Gr.refl W).drew;clear p00 p01 p0f p0l;obtain⟨r0,r1,rf,rl⟩:=id hB3;obtain⟨k0,k1,kf,kl⟩:=id hB4;refine Z41 ?_;refine Z12 ?_;go_wp2_with fail;have hXF:=fx2 hB3 hB4 (by omega) HG5.out le3 le4 (.int .i64 0) (.int .i64 0) (.int .i64 4) (.int .i64 a);obtain⟨WF,hWF⟩:∃W',((((W.setCell ⟨w.heap.size+1+1+1,0,none⟩ (.int .i64 0)).setCell ⟨w.heap.size+1+1+1,1,none⟩ (.int .i64 0)).setCell ⟨w.heap.size+1+1+1+1,0,none⟩ (.int .i64 4)).setCell ⟨w.heap.size+1+1+1+1,1,none⟩ (.int .i64 a))=W':=⟨_,rfl⟩
    rw[hWF]at hXF;rw[hWF];obtain⟨hF3,hF4,gF⟩:=hXF;clear hWF;obtain⟨q0,q1,qf,ql⟩:=hF3.gr (Gr.refl WF).drew;obtain⟨y0,y1,yf,yl⟩:=hF4.gr (Gr.refl WF).drew;have gE:=gF.drew;have hR:=H.out.v.R_lt;exact bodyPost_ret (v := .tuple #[.agg #[.int .i64 0,.int .i64 0],fv 4 a]) (by simp[results,Tryz.results64,go_sem,q0,q1,qf,ql,y0,y1,yf,yl]) rfl ⟨⟨0,0,rfl⟩,by decide,_,(St.refl (FV own) w).gr gE,(gE.use.1 R 2 hR.2).trans H.out.v.cells.1.2.2.1,fun k hk => .inl hk⟩
  have s2:decide ((256:Int)<(d:Int)+1)=false:=by simp;omega
  rw[if_neg hdp]at hXX;by_cases hgr:(Pl.grown8 g an && Pl.room g.nds)=true
  · rw[if_pos hgr]at hXX;subst hXX;rw[Bool.and_eq_true]at hgr;obtain⟨hg8,hroom⟩:=hgr;unfold Pl.grown8 at hg8;rw[Bool.and_eq_true]at hg8;obtain⟨hk8,hso8⟩:=hg8;have HMG:=H.out.gr HG.out;have hlW:∀k,own k≠0→k<w.heap.size:=fun k hk=>(H.out.v.lt k hk).2
    obtain⟨t0,t1,tf,tl⟩:=HB2.out;have HFG:=Lib.hid (show g.nds.length=L.length by rw[←H.out.nd,List.length_map]);go_wp2_with fail;refine (gr_grow W R B base s 0 nv L own g.srt x HMG.v (by omega) hm 8 t).mono ?_;rintro e w3 ⟨he3,nv1,own1,GV1,ST1,ON1⟩;subst he3;have n0:own w.heap.size=0:=Decidable.byContradiction fun h=>by have:=hlW _ h;omega
    have n1:own (w.heap.size+1)=0:=Decidable.byContradiction fun h=>by have:=hlW _ h;omega
    have n3:own (w.heap.size+1+1+1)=0:=Decidable.byContradiction fun h=>by have:=hlW _ h;omega
    have n4:own (w.heap.size+1+1+1+1)=0:=Decidable.byContradiction fun h=>by have:=hlW _ h;omega
    have m0:own1 w.heap.size=0:=Decidable.byContradiction fun h=>(ON1 _ h).elim (fun h=>h n0) (fun h=>by omega)
    have m3:own1 (w.heap.size+1+1+1)=0:=Decidable.byContradiction fun h=>(ON1 _ h).elim (fun h=>h n3) (fun h=>by omega)
    have m4:own1 (w.heap.size+1+1+1+1)=0:=Decidable.byContradiction fun h=>(ON1 _ h).elim (fun h=>h n4) (fun h=>by omega)
    have x0:=HB0.out.st ST1 (fun h=>h n0);have x1:=HB1.out.st ST1 (fun h=>h n1);have x3:=HB3.out.st ST1 (fun h=>h n3);have x4:=HB4.out.st ST1 (fun h=>h n4);have X0:=Lib.hid x0;have X3:=Lib.hid x3;have X4:=Lib.hid x4;obtain⟨p00',p01',p0f',p0l'⟩:=x0;obtain⟨p10',p11',p1f',p1l'⟩:=x1;clear x3 x4 p00 p01 p0f p0l t0 t1 tf tl;have hkind:=hk8;unfold Pl.kind8 at hkind;rw[Bool.and_eq_true,decide_eq_true_eq]at hkind;obtain⟨hnl,hkk⟩:=hkind;obtain⟨r,hr⟩:∃r,L[an]?=some r:=by
     cases hr:L[an]? with
     | some r=>exact⟨r,rfl⟩
     | none =>
      rw[←H.out.nd,List.getElem?_map,hr]at hkk;cases hkk
    have hrn:g.nds[an]?=some r.nd:=by rw[←H.out.nd,List.getElem?_map,hr];rfl
    rw[hrn]at hkk;simp only[Bool.and_eq_true,decide_eq_true_eq]at hkk;obtain⟨⟨⟨_,hc1⟩,hc2⟩,hc3⟩:=hkk;have hanl:an<L.length:=(List.getElem?_eq_some_iff.1 hr).1;have hr1:(L++[growR 8])[an]?=some r:=by rw[List.getElem?_append_left hanl];exact hr
    have hsl:g.srt.length=L.length:=H.out.v.sl;have hG1:Grown (g.srt++[t]) an:=by
     have h1:(g.srt++[t]).getD an (0,0)=g.srt.getD an (0,0):=by
      exact J58
     unfold Grown;rw[h1];intro h2;unfold Pl.sortOf at hso8;rw[h2]at hso8;cases hso8
    have HPUT:=Lib.hid (gr_put w3 R B base s 0 nv1 (L++[growR 8]) own1 (g.srt++[t]) x GV1 (by rw[List.length_append];simp only[List.length_singleton];omega) an r hr1 hG1 hc1 hc2 hc3 wd a b L.length);have HST1:=Lib.hid ST1;have HON1:=Lib.hid ON1;clear hr1 hG1 hrn hso8 hk8 GV1 ST1 ON1 hc1 hc2 hc3 hnl HMG;go_wp2_with fail;refine HPUT.out.mono ?_;rintro e w4 ⟨he4,own2,kv,sv,uv,GV2,ST2,ON2⟩;subst he4;have y0:=X0.out.st ST2 (fun h=>h m0);have y3:=X3.out.st ST2 (fun h=>h m3);have y4:=X4.out.st ST2 (fun h=>h m4);obtain⟨p00,p01,p0f,p0l⟩:=y0;have Y3:=Lib.hid y3;have Y4:=Lib.hid y4;obtain⟨r0,r1,rf,rl⟩:=y3;obtain⟨k0,k1,kf,kl⟩:=y4;go_wp2_with fail;have hXF:=fx2s Y3.out Y4.out (by omega) ((HG.out.st).trans (HST1.out.trans ST2)) le3 le4 (.int .i64 L.length) (.int .i64 ((d:Int)+1)) (.int .i64 0) (.int .i64 0);obtain⟨WF,hWF⟩:∃W',((((w4.setCell ⟨w.heap.size+1+1+1,0,none⟩ (.int .i64 L.length)).setCell ⟨w.heap.size+1+1+1,1,none⟩ (.int .i64 ((d:Int)+1))).setCell ⟨w.heap.size+1+1+1+1,0,none⟩ (.int .i64 0)).setCell ⟨w.heap.size+1+1+1+1,1,none⟩ (.int .i64 0))=W':=⟨_,rfl⟩
    rw[hWF]at hXF;rw[hWF];obtain⟨hF3,hF4,sF,bF,zF⟩:=hXF;clear hWF;obtain⟨q0,q1,qf,ql⟩:=hF3;obtain⟨y0,y1,yf,yl⟩:=hF4;have z3:own2 (w.heap.size+1+1+1)=0:=Decidable.byContradiction fun h=>(ON2 _ h).elim (fun h=>h m3) (fun h=>by have:=X3.out.2.2.2;omega)
    have z4:own2 (w.heap.size+1+1+1+1)=0:=Decidable.byContradiction fun h=>(ON2 _ h).elim (fun h=>h m4) (fun h=>by have:=X4.out.2.2.2;omega)
    have GVF:=GV2.kept (w':=WF) (fun k hk=>bF k (fun e=>hk (by rw[e];exact z3)) (fun e=>hk (by rw[e];exact z4))) zF;have hW3:=HST1.out.size;have hGM:GM WF R B base s nv1 ((L++[growR 8]).set an ⟨Pl.putNd r.nd (bs wd) (a,b) L.length,kv,sv,uv⟩) own2 x (Pl.putG (Pl.growG g 8 t) an (bs wd) (a,b) g.nds.length):=by
     refine⟨GVF,?_,H.out.sec,H.out.dep,H.out.many⟩;rw[nds_put _ an r (by rw[List.getElem?_append_left hanl];exact hr),HFG.out,List.map_append,H.out.nd];rfl
    refine bodyPost_ret (v := .tuple #[.agg #[.int .i64 L.length,.int .i64 ((d:Int)+1)],f0]) (by simp[results,Tryz.results64,go_sem,q0,q1,qf,ql,y0,y1,yf,yl]) rfl ⟨by rw[HFG.out];rfl,_,_,_,hGM,sF,fun k hk=>?_⟩;rcases ON2 k hk with h|h
    · rcases HON1.out k h with h|h
      · exact .inl h
      exact J38
    exact J38
  exact J57
end Go.Proofs.YtfogfaagjpebcaaGreatDoor
namespace Go.Proofs.YtfogfaagjpebcaaGreatDoor
open Go.RowKit Go.Joins
theorem RowC.set {w:World} {base e size n g cap:Nat} {xs:List Value} (h:RowC w base e size (.slice (some ⟨g,0,none⟩) n cap) n xs) (j:Nat) (hj:j<xs.length) (v:Value) :
    RowC (w.setCell ⟨g,j,none⟩ v) base e size (.slice (some ⟨g,0,none⟩) n cap) n (xs.set j v):=by
 obtain⟨v0,h1,h2,h3⟩:=h;rcases h3 with rfl|⟨g',c,rfl,h4⟩
 · exact rowC_of (ownsRow_set h1 j hj v)
 simp only[Value.slice.injEq,Option.some.injEq,Addr.mk.injEq,true_and,and_true]at h4;obtain⟨rfl,rfl⟩:=h4;exact⟨_,ownsRow_set h1 j hj v,rfl,.inr ⟨g,c,rfl,rfl⟩⟩
def shiftR (n:Nat) (r:NdR):NdR:=⟨{ r.nd with subs:=r.nd.subs.map (· + n),owner:=0 },r.kv,r.sv,r.uv⟩
def shTo (n m:Nat) (l:List Nat):List Nat:=(l.take m).map (· + n)++l.drop m
theorem shTo_all (n:Nat) (l:List Nat):shTo n l.length l=l.map (· + n):=by simp[shTo]
theorem shTo_zero (n:Nat) (l:List Nat):shTo n 0 l=l:=by simp[shTo]
theorem shTo_len (n m:Nat) (l:List Nat):(shTo n m l).length=l.length:=by simp[shTo];omega
theorem shTo_get (n m:Nat) (l:List Nat) (hm:m<l.length):(shTo n m l)[m]?=some l[m]:=by
 unfold shTo;rw[List.getElem?_append_right (by simp;omega)];simp;rw[show m-min m l.length=0 from by omega];simp[hm]
theorem shTo_set (n m:Nat) (l:List Nat) (hm:m<l.length):(shTo n m l).set m (l[m]+n)=shTo n (m+1) l:=by
 unfold shTo;have hl:((l.take m).map (· + n)).length=m:=by simp;omega
 rw[List.set_append_right _ _ (by omega),hl,Nat.sub_self,List.drop_eq_getElem_cons hm,List.set_cons_zero,List.take_add_one,List.getElem?_eq_getElem hm,List.map_append,List.append_assoc];rfl
theorem subsV_set (l:List Nat) (m k:Nat):(subsV l).set m (.int .i64 k)=subsV (l.set m k):=by
 unfold subsV;rw[List.map_set]
def RB (r:NdR) (k:Nat):Prop:=r.kv.ownBlock=some k∨r.sv.ownBlock=some k∨r.uv.ownBlock=some k
def TB (T:List NdR) (j:Nat) (k:Nat):Prop:=∃(i:Nat) (r:NdR),i<j∧T[i]?=some r∧RB r k
theorem TB.mono {T:List NdR} {j j' k:Nat} (h:TB T j k) (hj:j≤j'):TB T j' k:=by
 obtain⟨i,r,h1,h2⟩:=h;exact⟨i,r,by omega,h2⟩
def TreeA (w:World) (base2:Nat) (v:Value) (T:List NdR):Prop:=(v = .slice none 0 0∧T=[])∨∃g,v = .slice (some ⟨g,0,none⟩) T.length T.length∧TreeV w base2 g T
theorem RB.lt {w:World} {base2 g j k:Nat} {T:List NdR} {r:NdR} (h:TreeV w base2 g T) (hr:T[j]?=some r) (hb:RB r k):base2≤k∧k<w.heap.size:=by
 obtain⟨a,b,c⟩:=h.rows j r hr;rcases hb with e|e|e
 · exact a.lt k e
 · exact b.lt k e
 exact c.lt k e
theorem TreeV.apart {w:World} {base2 g:Nat} {T:List NdR} (h:TreeV w base2 g T) {i j k:Nat} {r r':NdR} (hr:T[i]?=some r) (hr':T[j]?=some r') (hb:RB r k) (hb':RB r' k):i=j:=by
 obtain⟨tg,_,ht⟩:=h.tg;obtain⟨a,b,c⟩:=ht i r hr;obtain⟨a',b',c'⟩:=ht j r' hr';have h1:tg k=4+3*i∨tg k=5+3*i∨tg k=6+3*i:=hb.imp (a k) (fun e=>e.imp (b k) (c k));have h2:tg k=4+3*j∨tg k=5+3*j∨tg k=6+3*j:=hb'.imp (a' k) (fun e=>e.imp (b' k) (c' k));omega
theorem TreeV.root_apart {w:World} {base2 g:Nat} {T:List NdR} (h:TreeV w base2 g T) {i k:Nat} {r:NdR} (hr:T[i]?=some r) (hb:RB r k):k≠g:=by
 obtain⟨tg,h3,ht⟩:=h.tg;obtain⟨a,b,c⟩:=ht i r hr;have h1:tg k=4+3*i∨tg k=5+3*i∨tg k=6+3*i:=hb.imp (a k) (fun e=>e.imp (b k) (c k));intro e;subst e;omega
theorem TreeV.rows_apart {w:World} {base2 g:Nat} {T:List NdR} (h:TreeV w base2 g T) {i:Nat} {r:NdR} (hr:T[i]?=some r) :
    (∀k,r.kv.ownBlock=some k→r.sv.ownBlock≠some k)∧(∀k,r.kv.ownBlock=some k→r.uv.ownBlock≠some k)∧(∀k,r.sv.ownBlock=some k→r.uv.ownBlock≠some k):=by
 obtain⟨tg,h3,ht⟩:=h.tg;obtain⟨a,b,c⟩:=ht i r hr;exact⟨fun k e e2=>by have:=a k e;have:=b k e2;omega,fun k e e2=>by have:=a k e;have:=c k e2;omega,fun k e e2=>by have:=b k e;have:=c k e2;omega⟩
structure GraftI (w:World) (R B base base2 g0:Nat) (s:ByteArray) (L:List NdR) (own:Nat→Nat) (so:List (Nat × Nat)) (x:GrX) (T:List NdR) (j:Nat) (nv':Value) (own':Nat→Nat) (wr:World):Prop where
 v:GrV wr R B base s 0 nv' (L++(T.take j).map (shiftR L.length)) own' (so++List.replicate (T.take j).length (0,0)) x
 st:St (fun k=>FV own k∨TB T T.length k) (FV own') w wr
 on:∀k,own' k≠0→own k≠0∨TB T j k∨w.heap.size<k
 rest:∀(i:Nat) r,j≤i→T[i]?=some r→∀k,RB r k→wr.heap[k]?=w.heap[k]?
 g0:wr.heap[g0]?=w.heap[g0]?
section
variable {w wr W2 wF:World} {R B base base2 g0:Nat} {s:ByteArray} {L:List NdR} {own:Nat→Nat} {so:List (Nat × Nat)} {x:GrX} {T:List NdR} {j:Nat} {nv':Value} {own':Nat→Nat} {r:NdR}
theorem GraftI.start (nv:Value) (h:GrV w R B base s 0 nv L own so x) (q:Gr w wr) (g0:Nat) (hg:g0<w.heap.size) (hT:T=[]∨TreeV w base2 g0 T):GraftI w R B base base2 g0 s L own so x T 0 nv own wr :=
 ⟨by simpa using h.gr q,⟨Below.os q,Below.tape q,Below.output q,q.size,fun k hk _=>q.block hk,fun k hk => .inl (.inl hk)⟩,fun k hk => .inl hk,fun i r _ hr k hb=>by
  rcases hT with rfl|hT
  · simp at hr
  exact q.block (hb.lt hT hr).2,q.block hg⟩
theorem GraftI.free (h:GraftI w R B base base2 g0 s L own so x T j nv' own' wr) (hT:TreeV w base2 g0 T) (ho:∀k,base2≤k→own k=0) {i:Nat} {r:NdR} (hi:j≤i) (hr:T[i]?=some r) {k:Nat} (hb:RB r k):own' k=0 :=
 Decidable.byContradiction fun hk=>by
  have hl:=hb.lt hT hr;rcases h.on k hk with e|⟨i',r',h1,h2,h3⟩|e
  · exact e (ho k hl.1)
  · have:=hT.apart hr h2 hb h3;omega
  omega
theorem GraftI.free0 (h:GraftI w R B base base2 g0 s L own so x T j nv' own' wr) (hT:TreeV w base2 g0 T) (ho:∀k,base2≤k→own k=0):own' g0=0 :=
 Decidable.byContradiction fun hk=>by
  have hl:=hT.lt;rcases h.on g0 hk with e|⟨i',r',h1,h2,h3⟩|e
  · exact e (ho g0 hl.1)
  · exact hT.root_apart h2 h3 rfl
  omega
theorem GraftI.strange (h:GraftI w R B base base2 g0 s L own so x T j nv' own' wr) (hT:TreeV w base2 g0 T) (ho:∀k,base2≤k→own k=0) (hbb:base≤base2) (hr:T[j]?=some r)
    (hW:St (fun k=>r.uv.ownBlock=some k) (fun _=>False) wr W2) (hu:RowC W2 base2 3 1 r.uv r.nd.subs.length (subsV (r.nd.subs.map (· + L.length)))):Strange W2 base own' (shiftR L.length r):=by
 obtain⟨a1,a2,a3⟩:=hT.rows_apart hr;obtain⟨b1,b2,_⟩:=hT.rows j r hr;have hz:∀k,RB r k→k<wr.heap.size:=fun k hb=>Nat.lt_of_lt_of_le (hb.lt hT hr).2 h.st.size
 have hk:∀k,RB r k→r.uv.ownBlock≠some k→W2.heap[k]?=w.heap[k]?:=fun k hb hn=>(hW.block k (hz k hb) hn).trans (h.rest j r (Nat.le_refl _) hr k hb)
 have hf:∀k,RB r k→own' k=0∧k<W2.heap.size:=fun k hb=>⟨h.free hT ho (Nat.le_refl _) hr hb,Nat.lt_of_lt_of_le (hz k hb) hW.size⟩
 exact⟨(b1.of_block fun k e=>hk k (.inl e) (a2 k e)).low hbb,(b2.of_block fun k e=>hk k (.inr (.inl e)) (a3 k e)).low hbb,by simpa [shiftR]using hu.low hbb,
  fun k e=>hf k (.inl e),fun k e=>hf k (.inr (.inl e)),fun k e=>hf k (.inr (.inr e)),a1,a2,a3⟩
theorem GraftI.kept (h:GraftI w R B base base2 g0 s L own so x T j nv' own' wr) (hT:TreeV w base2 g0 T) (ho:∀k,base2≤k→own k=0) (hr:T[j]?=some r)
    (hW:St (fun k=>r.uv.ownBlock=some k) (fun _=>False) wr W2):GrV W2 R B base s 0 nv' (L++(T.take j).map (shiftR L.length)) own' (so++List.replicate (T.take j).length (0,0)) x :=
 h.v.kept (fun k hk=>hW.block k (h.v.lt k hk).2 (fun e=>hk (h.free hT ho (Nat.le_refl _) hr (.inr (.inr e))))) hW.size
theorem GraftI.more (h:GraftI w R B base base2 g0 s L own so x T j nv' own' wr) (hT:TreeV w base2 g0 T) (ho:∀k,base2≤k→own k=0) (hr:T[j]?=some r) (hz:w.heap.size<wr.heap.size)
    (hW:St (fun k=>r.uv.ownBlock=some k) (fun _=>False) wr W2) {nv2:Value}
    (hm:GNodeMore W2 wF R B base s 0 (L++(T.take j).map (shiftR L.length)) own' (so++List.replicate (T.take j).length (0,0)) x (shiftR L.length r) nv2) :
    ∃own2,GraftI w R B base base2 g0 s L own so x T (j+1) nv2 own2 wF:=by
 obtain⟨own2,h1,h2,h3⟩:=hm;have hj:j<T.length:=(List.getElem?_eq_some_iff.1 hr).1;have hW2:=hW.size;have hF:=h2.size;have hO:∀k,own2 k≠0→own k≠0∨TB T (j+1) k∨w.heap.size<k:=fun k hk=>by
  rcases h3 k hk with e|e|e
  · rcases h.on k e with e|e|e
    · exact .inl e
    · exact .inr (.inl (e.mono (Nat.le_succ _)))
    exact .inr (.inr e)
  · exact .inr (.inl ⟨j,r,Nat.lt_succ_self _,hr,e⟩)
  exact .inr (.inr (by omega))
 have hB:∀k,k<wr.heap.size→¬FV own' k→¬RB r k→wF.heap[k]?=wr.heap[k]?:=fun k hk n1 n2 =>
  (h2.block k (by omega) (fun e=>e.elim n1 n2)).trans (hW.block k hk (fun e=>n2 (.inr (.inr e))))
 refine⟨own2,?_,⟨h2.os.trans (hW.os.trans h.st.os),h2.tape.trans (hW.tape.trans h.st.tape),h2.output.trans (hW.output.trans h.st.output),by omega,fun k hk hn=>?_,fun k hk=>?_⟩,hO,fun i r' hi hr' k hb=>?_,?_⟩
 · have e1:T.take (j+1)=T.take j++[r]:=by rw[List.take_add_one,hr];rfl
   have e2:L++(T.take (j+1)).map (shiftR L.length)=(L++(T.take j).map (shiftR L.length))++[shiftR L.length r]:=by rw[e1];simp
   have e3:so++List.replicate (T.take (j+1)).length (0,0)=(so++List.replicate (T.take j).length (0,0))++[(0,0)]:=by
    rw[e1,List.length_append,List.length_singleton,List.replicate_succ',List.append_assoc]
   rw[e2,e3];exact h1
 · refine (hB k (by omega) (fun e=>?_) (fun e=>hn (.inr ⟨j,r,hj,hr,e⟩))).trans (h.st.block k hk hn);rcases h.on k e with e|e|e
   · exact hn (.inl e)
   · exact hn (.inr (e.mono (by omega)))
   omega
 · rcases hO k hk with e|e|e
   · exact .inl (.inl e)
   · exact .inl (.inr (e.mono (by omega)))
   exact J38
 · refine (hB k (by have:=(hb.lt hT hr').2;omega) (fun e=>e (h.free hT ho (by omega) hr' hb)) (fun e=>?_)).trans (h.rest i r' (by omega) hr' k hb);have:=hT.apart hr' hr hb e;omega
 exact (hB g0 (by have:=hT.lt.2;omega) (fun e=>e (h.free0 hT ho)) (fun e=>hT.root_apart hr e rfl)).trans h.g0
end
end Go.Proofs.YtfogfaagjpebcaaGreatDoor
