/-
 The walks and plain laws that the claim rests on, part 49.
-/
import Derived.Test.YtkplelejagpkmaaGreatDoorP14
import Derived.Test.YtkplelejagpkmaaGreatDoorP37
import Derived.Test.YtkplelejagpkmaaGreatDoorP38
import Derived.Test.YtkplelejagpkmaaGreatDoorP39
import Derived.Test.YtkplelejagpkmaaGreatDoorP47
import Derived.Deep.DeepCutAuto
set_option maxHeartbeats 16000000
set_option linter.all false
set_option linter.unusedVariables false
set_option linter.unusedSimpArgs false
namespace Go.Proofs.YtkplelejagpkmaaGreatDoor
open Go.RowKit Go.Shelf Go.Joins
attribute [local go_sem] Oper.semAt_some
theorem rowC_slice' {w:World} {base e size n:Nat} {v:Value} {xs:List Value} (h:RowC w base e size v n xs):∃a c,v = .slice a n c:=by
 rcases rowC_form h with⟨rfl,h0⟩|⟨g,cap,rfl,_,_⟩
 · exact⟨_,_,by rw[h0]⟩
 exact⟨_,_,rfl⟩
abbrev treeV (g n:Nat) (root:Int):Value := .agg #[.slice (some ⟨g,0,none⟩) n n,.int .i64 root]
structure SameS (B4 B6 B9 B10:Nat) (g1 n1 g2 n2:Nat) (r1 r2:Int) (s1 s2:Value) (u1 u2 i:Nat) (x1 x2:Nat) (w:World):Prop where
 t0:w.cell? ⟨B4,0,none⟩=some (.slice (some ⟨g1,0,none⟩) n1 n1)
 t1:w.cell? ⟨B4,1,none⟩=some (.int .i64 r1)
 p0:w.cell? ⟨B6,0,none⟩=some (.slice (some ⟨g2,0,none⟩) n2 n2)
 p1:w.cell? ⟨B6,1,none⟩=some (.int .i64 r2)
 e4:w.cell? ⟨B9,4,none⟩=some s1
 f4:w.cell? ⟨B10,4,none⟩=some s2
 y1:w.cell? ⟨u1,i,none⟩=some (.int .i64 x1)
 y2:w.cell? ⟨u2,i,none⟩=some (.int .i64 x2)
 l4:B4<w.heap.size
 l6:B6<w.heap.size
 l9:B9<w.heap.size
 l10:B10<w.heap.size
 lu1:u1<w.heap.size
 lu2:u2<w.heap.size
theorem SameS.gr {B4 B6 B9 B10:Nat} {g1 n1 g2 n2:Nat} {r1 r2:Int} {s1 s2:Value} {u1 u2 i:Nat} {x1 x2:Nat} {w w':World} (h:SameS B4 B6 B9 B10 g1 n1 g2 n2 r1 r2 s1 s2 u1 u2 i x1 x2 w) (q:Gr w w'):SameS B4 B6 B9 B10 g1 n1 g2 n2 r1 r2 s1 s2 u1 u2 i x1 x2 w' :=
 ⟨(q.use.1 _ _ h.l4).trans h.t0,(q.use.1 _ _ h.l4).trans h.t1,(q.use.1 _ _ h.l6).trans h.p0,(q.use.1 _ _ h.l6).trans h.p1,(q.use.1 _ _ h.l9).trans h.e4,(q.use.1 _ _ h.l10).trans h.f4,(q.use.1 _ _ h.lu1).trans h.y1,(q.use.1 _ _ h.lu2).trans h.y2,
  Nat.lt_of_lt_of_le h.l4 q.size,Nat.lt_of_lt_of_le h.l6 q.size,Nat.lt_of_lt_of_le h.l9 q.size,Nat.lt_of_lt_of_le h.l10 q.size,Nat.lt_of_lt_of_le h.lu1 q.size,Nat.lt_of_lt_of_le h.lu2 q.size⟩
set_option maxRecDepth 100000 in
theorem la_tree (rk:Nat→Nat) (b:Nat) (L1 L2:List NdR) (hR:∀(j:Nat) y,L2[j]?=some y→∃x,L1[b+j]?=some x∧Pl.SN b x.nd y.nd) (hrk:∀(j:Nat) y,L2[j]?=some y→∀x∈y.nd.subs,rk x<rk j∧x<L2.length)
    (h1:L1.length≤30000000) (h2:L2.length≤30000000) (hsz:∀(j:Nat) y,L2[j]?=some y→y.nd.keys.length≤30000000∧y.nd.subs.length≤30000000) (g1 g2 b1 b2:Nat) (q1 q2:Int) :
    ∀(N k:Nat),rk k<N→k<L2.length→∀(w:World),TreeV w b1 g1 L1→TreeV w b2 g2 L2 →
     Calls Tryz.prog 9 #[treeV g1 L1.length q1,.int .i64 ((b+k:Nat):Int),treeV g2 L2.length q2,.int .i64 k] w fun e w'=>e = .returned (.bool true)∧Gr w w':=by
 intro N
 induction N with
 | zero=>intro k h;omega
 | succ N ih =>
  intro k hk hkl w hT1 hT2;have IH:=Lib.hid ih;obtain⟨y,hy⟩:∃y,L2[k]?=some y:=⟨_,List.getElem?_eq_getElem hkl⟩
  obtain⟨x,hx,hs⟩:=hR k y hy;have hbl:b+k<L1.length:=(List.getElem?_eq_some_iff.1 hx).1;obtain⟨c0,c1,c2,c3,c4,c5,c6⟩:=hT1.cells (b+k) x hx;obtain⟨d0,d1,d2,d3,d4,d5,d6⟩:=hT2.cells k y hy;obtain⟨rk1,_,ru1⟩:=hT1.rows (b+k) x hx;obtain⟨rk2,_,ru2⟩:=hT2.rows k y hy;obtain⟨z1,z2⟩:=hsz k y hy;rw[hs.kind]at c0;rw[hs.text]at c1;rw[hs.keys]at rk1;rw[hs.subs,List.length_map]at ru1;have hg1:=hT1.lt.2;have hg2:=hT2.lt.2;have hsub:=hrk k y hy;obtain⟨oK1,cK1,hK1⟩:=rowC_slice' rk1;obtain⟨oK2,cK2,hK2⟩:=rowC_slice' rk2;obtain⟨oU1,cU1,hU1⟩:=rowC_slice' ru1;obtain⟨oU2,cU2,hU2⟩:=rowC_slice' ru2;obtain⟨oS1,cS1,hS1⟩:=rowC_slice' (hT1.rows (b+k) x hx).2.1;obtain⟨oS2,cS2,hS2⟩:=rowC_slice' (hT2.rows k y hy).2.1;rw[hK1]at c2 rk1;rw[hK2]at d2 rk2;rw[hU1]at c4 ru1;rw[hU2]at d4 ru2;rw[hS1]at c3;rw[hS2]at d3;obtain⟨m,hm⟩:∃m,b+k=m:=⟨_,rfl⟩
  rw[hm]at c0 c1 c2 c3 c4 c5 c6 hbl ⊢;obtain⟨N1,hN1⟩:∃n,L1.length=n:=⟨_,rfl⟩
  obtain⟨N2,hN2⟩:∃n,L2.length=n:=⟨_,rfl⟩
  rw[hN1]at hbl h1 IH ⊢;rw[hN2]at hkl h2 IH hsub ⊢;obtain⟨nK,hnK⟩:∃n,y.nd.keys.length=n:=⟨_,rfl⟩
  obtain⟨nU,hnU⟩:∃n,y.nd.subs.length=n:=⟨_,rfl⟩
  rw[hnK]at rk1 rk2 z1 c2 d2;rw[hnU]at ru1 ru2 z2 c4 d4;have e1:decide ((m:Int)<0)=false:=by simp
  have e2:decide ((N1:Int)≤(m:Int))=false:=by simp;omega
  have e2n:decide (N1≤m)=false:=by simp;omega
  have e3:decide ((k:Int)<0)=false:=by simp
  have e4:decide ((N2:Int)≤(k:Int))=false:=by simp;omega
  have e4n:decide (N2≤k)=false:=by simp;omega
  have i1:(0:Int)≤(m:Int):=by omega
  have i2:(m:Int)<(N1:Int):=by omega
  have i3:(0:Int)≤(k:Int):=by omega
  have i4:(k:Int)<(N2:Int):=by omega
  have HT1:=Lib.hid hT1;have HT2:=Lib.hid hT2;have HK1:=Lib.hid rk1;have HK2:=Lib.hid rk2;have HU1:=Lib.hid ru1;have HU2:=Lib.hid ru2;have HSUB:=Lib.hid hsub;have HNU:=Lib.hid hnU;have HNK:=Lib.hid hnK;have HM:=Lib.hid hm;have HRK:=Lib.hid hk;clear hT1 hT2 rk1 rk2 ru1 ru2 hsub hnU hnK hm hk hR hrk hsz hs hx hy hS1 hS2 hK1 hK2 hU1 hU2 ih;go_enter Tryz.func9,Tryz.ntmps9
  go_upto_region 4 with fail
  obtain⟨W3,hW3⟩:∃W,((w.alloc (.cells #[.slice (some ⟨g1,0,none⟩) N1 N1,.int .i64 q1] 28)).alloc (.cells #[.slice (some ⟨g2,0,none⟩) N2 N2,.int .i64 q2] 28)).alloc (.cells #[.int .u8 y.nd.kind,strV y.nd.text,.slice oK1 nK cK1,.slice oS1 x.nd.spots.length cS1,.slice oU1 nU cU1,.int .i64 x.nd.sp.1,.int .i64 x.nd.sp.2] 40)=W:=⟨_,rfl⟩
  have gW3:Gr w W3:=by rw[←hW3];exact (((Gr.refl w).alloc _).alloc _).alloc _
  have hB4:FX w.heap.size (.slice (some ⟨g1,0,none⟩) N1 N1) (.int .i64 q1) W3:=by rw[←hW3];exact (FX.new w _ _ 28).gr (((Gr.refl _).alloc _).alloc _)
  have hB6:FX (w.heap.size+1) (.slice (some ⟨g2,0,none⟩) N2 N2) (.int .i64 q2) W3:=by
   rw[←hW3];have:=FX.new (w.alloc (.cells #[.slice (some ⟨g1,0,none⟩) N1 N1,.int .i64 q1] 28)) (.slice (some ⟨g2,0,none⟩) N2 N2) (.int .i64 q2) 28;simp only[World.size_alloc]at this;exact this.gr ((Gr.refl _).alloc _)
  have hB9:W3.heap[w.heap.size+1+1]?=some (.cells #[.int .u8 y.nd.kind,strV y.nd.text,.slice oK1 nK cK1,.slice oS1 x.nd.spots.length cS1,.slice oU1 nU cU1,.int .i64 x.nd.sp.1,.int .i64 x.nd.sp.2] 40 (0,0)):=by
   rw[←hW3];have:=heap_alloc_new ((w.alloc (.cells #[.slice (some ⟨g1,0,none⟩) N1 N1,.int .i64 q1] 28)).alloc (.cells #[.slice (some ⟨g2,0,none⟩) N2 N2,.int .i64 q2] 28)) (.cells #[.int .u8 y.nd.kind,strV y.nd.text,.slice oK1 nK cK1,.slice oS1 x.nd.spots.length cS1,.slice oU1 nU cU1,.int .i64 x.nd.sp.1,.int .i64 x.nd.sp.2] 40);simp only[World.size_alloc]at this;exact this
  rw[hW3];have HW3:=Lib.hid gW3;have hg1':g1<W3.heap.size:=Nat.lt_of_lt_of_le hg1 gW3.size;have hg2':g2<W3.heap.size:=Nat.lt_of_lt_of_le hg2 gW3.size;have hu:=gW3.use.1
  replace d0:=(hu g2 _ hg2).trans d0
  replace d1:=(hu g2 _ hg2).trans d1
  replace d2:=(hu g2 _ hg2).trans d2
  replace d3:=(hu g2 _ hg2).trans d3
  replace d4:=(hu g2 _ hg2).trans d4
  replace d5:=(hu g2 _ hg2).trans d5
  replace d6:=(hu g2 _ hg2).trans d6
  have HB4:=Lib.hid hB4;have HB6:=Lib.hid hB6;have HB9:=Lib.hid hB9;have l9:=(Array.getElem?_eq_some_iff.1 hB9).1;obtain⟨v0,v1,vf,vl⟩:=hB6;clear hW3 gW3 hu c0 c1 c2 c3 c4 c5 c6 hB4 hB9 v1 vf
  go_upto_region 5 with fail
  obtain⟨W4,hW4⟩:∃W,W3.alloc (.cells #[.int .u8 y.nd.kind,strV y.nd.text,.slice oK2 nK cK2,.slice oS2 y.nd.spots.length cS2,.slice oU2 nU cU2,.int .i64 y.nd.sp.1,.int .i64 y.nd.sp.2] 40)=W:=⟨_,rfl⟩
  rw[hW4];have gW4:Gr W3 W4:=by rw[←hW4];exact (Gr.refl _).alloc _
  have hB10:W4.heap[W3.heap.size]?=some (.cells #[.int .u8 y.nd.kind,strV y.nd.text,.slice oK2 nK cK2,.slice oS2 y.nd.spots.length cS2,.slice oU2 nU cU2,.int .i64 y.nd.sp.1,.int .i64 y.nd.sp.2] 40 (0,0)):=by
   rw[←hW4];exact heap_alloc_new W3 _
  have hB9:=(gW4.block l9).trans HB9.out;have l10:=(Array.getElem?_eq_some_iff.1 hB10).1;have l9':=(Array.getElem?_eq_some_iff.1 hB9).1;have c0:W4.cell? ⟨w.heap.size+1+1,0,none⟩=some (.int .u8 y.nd.kind):=by rw[cell_of_block hB9];rfl
  have c1:W4.cell? ⟨w.heap.size+1+1,1,none⟩=some (strV y.nd.text):=by rw[cell_of_block hB9];rfl
  have c2:W4.cell? ⟨w.heap.size+1+1,2,none⟩=some (.slice oK1 nK cK1):=by rw[cell_of_block hB9];rfl
  have c4:W4.cell? ⟨w.heap.size+1+1,4,none⟩=some (.slice oU1 nU cU1):=by rw[cell_of_block hB9];rfl
  have k0:W4.cell? ⟨W3.heap.size,0,none⟩=some (.int .u8 y.nd.kind):=by rw[cell_of_block hB10];rfl
  have k1:W4.cell? ⟨W3.heap.size,1,none⟩=some (strV y.nd.text):=by rw[cell_of_block hB10];rfl
  have k2:W4.cell? ⟨W3.heap.size,2,none⟩=some (.slice oK2 nK cK2):=by rw[cell_of_block hB10];rfl
  have k4:W4.cell? ⟨W3.heap.size,4,none⟩=some (.slice oU2 nU cU2):=by rw[cell_of_block hB10];rfl
  have HW4:=Lib.hid gW4;have hw34:=HW3.out.trans gW4;have HS0:=Lib.hid (la_sameK W4 (n:=nK) (ws:=y.nd.keys) HNK.out.symm (HK1.out.of_block fun q e=>hw34.block (HK1.out.lt q e).2) (HK2.out.of_block fun q e=>hw34.block (HK2.out.lt q e).2) z1);have HW34:=Lib.hid hw34;clear hW4 gW4 d0 d1 d2 d3 d4 d5 d6 v0 vl hB9 hB10 hw34;go_wp2_with fail;refine HS0.out.mono ?_;rintro e w5 ⟨rfl,g5⟩;have hu:=g5.use.1
  replace c4:=(hu _ _ l9').trans c4
  replace k4:=(hu _ _ l10).trans k4
  have l9:=Nat.lt_of_lt_of_le l9' g5.size;have l10':=Nat.lt_of_lt_of_le l10 g5.size;have HG5:=Lib.hid (HW34.out.trans g5);have hb4:=HB4.out.gr (HW4.out.trans g5);have hb6:=HB6.out.gr (HW4.out.trans g5);have HB4':=Lib.hid hb4;have HB6':=Lib.hid hb6;clear hu g5 c0 c1 c2 k0 k1 k2 hb4 hb6;go_wp2_with fail
  go_loopw [11] (fun v11 wr=>∃i:Nat,v11 = .int .i64 i∧i≤nU∧Gr w5 wr) (fun v11 _=>nU-(intOf v11).toNat)
  case atStart=>exact⟨0,rfl,by omega,Gr.refl _⟩
  case round =>
   obtain⟨i,rfl,hi,hg⟩:=hrel;have hu:=hg.use.1;have c4':=(hu _ _ l9).trans c4;have k4':=(hu _ _ l10').trans k4;by_cases hin:i<nU
   · have j1:decide ((i:Int)<(nU:Int))=true:=by simp;omega
     have j1n:decide (i<nU)=true:=by simp;omega
     have j2:(0:Int)≤(i:Int):=by omega
     have j3:(i:Int)<(nU:Int):=by omega
     have wi:IntKind.i64.wrap ((i:Int)+1)=(i:Int)+1:=IntWalk.i64_in _ ⟨by omega,by omega⟩;obtain⟨u1,_,hv1,_,_⟩:=HU1.out.form (by omega);obtain⟨u2,_,hv2,_,_⟩:=HU2.out.form (by omega);simp only[Value.slice.injEq]at hv1 hv2;obtain⟨rfl,_,rfl⟩:=hv1;obtain⟨rfl,_,rfl⟩:=hv2;obtain⟨sx,hsx⟩:∃z,y.nd.subs[i]?=some z:=⟨_,List.getElem?_eq_getElem (by have:=HNU.out;omega)⟩
     have hGr:=HG5.out.trans hg;have lu1:=(HU1.out.lt u1 rfl).2;have lu2:=(HU2.out.lt u2 rfl).2;have y1:wr.cell? ⟨u1,i,none⟩=some (.int .i64 ((b+sx:Nat):Int)):=(hGr.use.1 _ _ lu1).trans (HU1.out.cells (g:=u1) rfl i _ (by simp[subsV,hsx]));have y2:wr.cell? ⟨u2,i,none⟩=some (.int .i64 sx):=(hGr.use.1 _ _ lu2).trans (HU2.out.cells (g:=u2) rfl i _ (by simp[subsV,hsx]));obtain⟨t0,t1,_,l4⟩:=HB4'.out.gr hg;obtain⟨p0,p1,_,l6⟩:=HB6'.out.gr hg;have hS0:SameS w.heap.size (w.heap.size+1) (w.heap.size+1+1) W3.heap.size g1 N1 g2 N2 q1 q2 (.slice (some ⟨u1,0,none⟩) nU cU1) (.slice (some ⟨u2,0,none⟩) nU cU2) u1 u2 i (b+sx) sx wr :=
      ⟨t0,t1,p0,p1,c4',k4',y1,y2,l4,l6,Nat.lt_of_lt_of_le l9 hg.size,Nat.lt_of_lt_of_le l10' hg.size,Nat.lt_of_lt_of_le lu1 hGr.size,Nat.lt_of_lt_of_le lu2 hGr.size⟩
     have hS:SameS w.heap.size (w.heap.size+1) (w.heap.size+1+1) W3.heap.size g1 N1 g2 N2 q1 q2 (.slice (some ⟨u1,0,none⟩) nU cU1) (.slice (some ⟨u2,0,none⟩) nU cU2) u1 u2 i (b+sx) sx wr.drew:=hS0.gr (Gr.refl _).drew;have hsm:=HSUB.out sx (List.mem_of_getElem? hsx);have HC:=Lib.hid (IH.out sx (by have:=HRK.out;omega) hsm.2 wr.drew (HT1.out.gr hGr.drew) (HT2.out.gr hGr.drew));clear t0 t1 p0 p1 y1 y2 l4 l6 lu1 lu2 hS0 hsm hsx;go_wp2_with fail;refine Reg.begin' (W:=fun _=>true) (S:=SameS w.heap.size (w.heap.size+1) (w.heap.size+1+1) W3.heap.size g1 N1 g2 N2 q1 q2 (.slice (some ⟨u1,0,none⟩) nU cU1) (.slice (some ⟨u2,0,none⟩) nU cU2) u1 u2 i (b+sx) sx) (by kernel_rfl) ?_;refine Reg.tl 0 hS ?_ (hy:=by intro w hSw;obtain⟨t0,t1,p0,p1,e4,f4,y1,y2,l4,l6,l9,l10,lu1,lu2⟩:=hSw;go_simp;try with_reducible rfl);refine Reg.ty 1 ?_;refine Reg.tl 2 hS ?_ (hy:=by intro w hSw;obtain⟨t0,t1,p0,p1,e4,f4,y1,y2,l4,l6,l9,l10,lu1,lu2⟩:=hSw;go_simp;try with_reducible rfl);refine Reg.ty 3 ?_;refine Reg.ty 4 ?_;refine Reg.tl 5 hS ?_ (hy:=by intro w hSw;obtain⟨t0,t1,p0,p1,e4,f4,y1,y2,l4,l6,l9,l10,lu1,lu2⟩:=hSw;go_simp;try with_reducible rfl);refine Reg.tl 6 hS ?_ (hy:=by intro w hSw;obtain⟨t0,t1,p0,p1,e4,f4,y1,y2,l4,l6,l9,l10,lu1,lu2⟩:=hSw;go_simp;try with_reducible rfl);refine Reg.ty 7 ?_;refine Reg.tl 8 hS ?_ (hy:=by intro w hSw;obtain⟨t0,t1,p0,p1,e4,f4,y1,y2,l4,l6,l9,l10,lu1,lu2⟩:=hSw;go_simp;try with_reducible rfl);refine Reg.ty 9 ?_;refine Reg.ty 10 ?_;refine Reg.tl 11 hS ?_ (hy:=by intro w hSw;obtain⟨t0,t1,p0,p1,e4,f4,y1,y2,l4,l6,l9,l10,lu1,lu2⟩:=hSw;go_simp;try with_reducible rfl);refine Reg.on 12 ?_;go_simp;refine HC.out.mono ?_;rintro e w6 ⟨rfl,g6⟩;have hS6:=hS.gr g6;refine⟨by first|exact hS6|exact fun _=>hS6|exact fun _ _=>hS6,?_⟩;refine Reg.pt ?_;refine Reg.ty 13 ?_;refine Reg.done (by kernel_rfl) ?_ _;have gR:=hg.drew.trans g6;clear hS hS6 g6;go_wp2_with fail
     go_roundw
     case rel=>first|exact⟨i+1,by go_num,by omega,gR⟩|((repeat apply Exists.intro);exact⟨⟨i+1,rfl,by omega,gR⟩,rfl⟩)
     case measure=>simp[intOf];omega
   have j1:decide ((i:Int)<(nU:Int))=false:=by simp;omega
   have j1n:decide (i<nU)=false:=by simp;omega
   go_wp2_with fail;exact bodyPost_ret (v := .bool true) (by simp[results,Tryz.results9,go_sem]) rfl ⟨rfl,HG5.out.trans hg⟩
end Go.Proofs.YtkplelejagpkmaaGreatDoor
namespace Go.Proofs.YtkplelejagpkmaaGreatDoor
open Go.RowKit Go.Shelf Go.Joins
attribute [local go_sem] Oper.semAt_some
theorem tabU_take (l ws:List ByteArray):∀k,k≤ws.length→(∀j,j<k→(getB l j).size≤80)→(Pl.tabU (pairsOf l ws k)).length≤100*k+6*((ws.take k).map (·.size)).sum:=by
 intro k
 induction k with
 | zero=>intro _ _;simp[pairsOf,Pl.tabU]
 | succ k ih =>
  intro hk hl;have h1:=ih (by omega) (fun j hj=>hl j (by omega));have h2:=hl k (by omega);obtain⟨z,hz⟩:∃z,ws[k]?=some z:=⟨_,List.getElem?_eq_getElem (by omega)⟩
  have hg:getB ws k=z:=by unfold getB;rw[List.getD_eq_getElem?_getD,hz];rfl
  have h3:=wrW_len (bs z);rw[bs_length]at h3;rw[←bs_length]at h2;have h4:(Pl.pair1 (bs z,bs (getB l k))).length=(Pl.wrW (bs z)).length+3+(bs (getB l k)).length+1:=by simp[Pl.pair1];omega
  have h5:(if k=0 then ([]:Pl.Bs) else [44,32]).length≤2:=by split <;> simp
  have h6:ws.take (k+1)=ws.take k++[z]:=by rw[List.take_succ,hz];rfl
  rw[tabU_succ,hg,List.length_append,List.length_append,h4,h6,List.map_append,List.sum_append];simp only[List.map_cons,List.map_nil,List.sum_cons,List.sum_nil];omega
theorem sum_take_le (ws:List ByteArray) (k:Nat):((ws.take k).map (·.size)).sum≤(ws.map (·.size)).sum:=by
 conv=>rhs;rw[←List.take_append_drop k ws]
 rw[List.map_append,List.sum_append];omega
theorem tabU_le (l ws:List ByteArray) (k:Nat) (hk:k≤ws.length) (hl:∀j,j<k→(getB l j).size≤80):(Pl.tabU (pairsOf l ws k)).length≤100*k+6*(ws.map (·.size)).sum:=by
 have h1:=tabU_take l ws k hk hl;have h2:=sum_take_le ws k;omega
theorem pairs_ok {l ws:List ByteArray} {k:Nat} (h:∀(j:Nat),j<k→∃z root nds,l[j]?=some z∧z.size≤80∧Pl.readS (Pl.envT Pl.tab0) (bs z) 0 1 = .ok (root,z.size,nds)):∀it∈pairsOf l ws k,Pl.PairOk it:=by
 intro it hit;obtain⟨j,hj,rfl⟩:=List.mem_map.1 hit;rw[List.mem_range]at hj;obtain⟨z,root,nds,hz,_,hr⟩:=h j hj;rw[show getB l j=z by unfold getB;rw[List.getD_eq_getElem?_getD,hz];rfl];refine⟨root,nds,?_⟩;rw[bs_length];exact hr
theorem getB_of {l:List ByteArray} {j:Nat} {z:ByteArray} (h:l[j]?=some z):getB l j=z:=by unfold getB;rw[List.getD_eq_getElem?_getD,h];rfl
theorem keys_take (l ws:List ByteArray):∀k,k≤ws.length→(pairsOf l ws k).map (·.1)=(ws.take k).map bs:=by
 intro k
 induction k with
 | zero=>intro _;rfl
 | succ k ih =>
  intro hk;obtain⟨z,hz⟩:∃z,ws[k]?=some z:=⟨_,List.getElem?_eq_getElem (by omega)⟩
  rw[pairsOf_succ,List.map_append,ih (by omega),show ws.take (k+1)=ws.take k++[z] by rw[List.take_succ,hz];rfl,List.map_append,getB_of hz];rfl
theorem tk_Write1 (b off c:Nat) (z:ByteArray) (w:World) (hT:ShW Pl.tab0 w) (hz:z.size≤1100000) (hc:w.cell? ⟨b,off,none⟩=some (.string z)) :
    Calls Tryz.prog 10 #[.slice (some ⟨b,off,none⟩) 1 c] w fun e w'=>e = .returned (.string (wz z))∧Gr w w':=by
 refine (tk_Write b off c [z] w hT (by simp) (by simp) (fun y hy=>by simp at hy;subst hy;exact hz) (fun j y hy=>by
  cases j with
  | zero=>simp at hy;subst hy;exact hc
  | succ j=>simp at hy)).mono fun e w' h=>⟨?_,h.2⟩
 rw[h.1];simp only[List.map_cons,List.map_nil];rw[lib_join_one]
theorem tab_here {l ws:List ByteArray} {k:Nat} {t:ByteArray} (h:bs t=123::Pl.tabU (pairsOf l ws k)++(if k=0 then [] else [44,32])):t.size=1+Pl.tabAt (pairsOf l ws k):=by
 have h1:=congrArg List.length h;rw[bs_length,List.length_append,List.length_cons]at h1;rw[Pl.tabAt_U,h1];cases k with
 | zero=>simp[pairsOf];omega
 | succ k =>
  have:(pairsOf l ws (k+1)).isEmpty=false:=by rw[pairsOf_succ];simp
  rw[this];simp;omega
theorem tab_next {l ws:List ByteArray} {k:Nat} {t zw zl:ByteArray} (h:bs t=123::Pl.tabU (pairsOf l ws k)++(if k=0 then [] else [44,32])) (hw:ws[k]?=some zw) (hl:l[k]?=some zl):bs (t++wz zw++⟨#[32,61,32]⟩++zl++⟨#[32]⟩)=123::Pl.tabU (pairsOf l ws (k+1)):=by
 rw[tabU_succ,getB_of hw,getB_of hl];simp only[bs_app2,h,bs_wz];simp[Pl.pair1,bs]
end Go.Proofs.YtkplelejagpkmaaGreatDoor
