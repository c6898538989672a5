/-
 The walks and plain laws that the claim rests on, part 48.
-/
import Derived.Test.YtkplelejagpkmaaGreatDoorP47
set_option maxHeartbeats 16000000
set_option linter.all false
set_option linter.unusedVariables false
set_option linter.unusedSimpArgs false
namespace Go.Proofs.YtkplelejagpkmaaGreatDoor
open Go.RowKit Go.Shelf Go.Joins
attribute [local go_sem] Oper.semAt_some
variable {Tb:Nat→UInt8 × UInt8}
abbrev ex1:ByteArray:=⟨#[91,49,44,32,34,97,34,44,32,93,32,35,32,120]⟩
abbrev ex2:ByteArray:=⟨#[123,97,46,98,32,61,32,49,44,32,97,46,99,32,61,32,50,125]⟩
abbrev ex3:ByteArray:=⟨#[123,97,32,61,32,49,44,32,97,32,61,32,50,125]⟩
abbrev ex4:ByteArray:=⟨#[123,97,32,61,32,49,44,32,125]⟩
abbrev ex5:ByteArray:=⟨#[48,55]⟩
def nd10:Pl.Nd:=⟨4,[49],[],[],[],(1,2),0⟩
def nd11:Pl.Nd:=⟨3,[97],[],[],[],(4,7),0⟩
def nd12:Pl.Nd:=⟨7,[],[],[],[0,1],(0,10),0⟩
def nd20:Pl.Nd:=⟨8,[],[[97]],[(1,2)],[1],(0,18),0⟩
def nd21:Pl.Nd:=⟨8,[],[[98],[99]],[(3,4),(12,13)],[2,3],(-1,-1),1⟩
def nd22:Pl.Nd:=⟨4,[49],[],[],[],(7,8),0⟩
def nd23:Pl.Nd:=⟨4,[50],[],[],[],(16,17),0⟩
theorem pl_ex1:Pl.readS ⟨Pl.strS Tb,Pl.scalS⟩ (bs ex1) 0 0 = .ok (2,10,[nd10,nd11,nd12]):=by kernel_rfl
theorem pl_ex2:Pl.readS ⟨Pl.strS Tb,Pl.scalS⟩ (bs ex2) 0 0 = .ok (0,18,[nd20,nd21,nd22,nd23]):=by kernel_rfl
theorem pl_ex3:Pl.readS ⟨Pl.strS Tb,Pl.scalS⟩ (bs ex3) 0 0 = .bad 5 8:=by kernel_rfl
theorem pl_ex4:Pl.readS ⟨Pl.strS Tb,Pl.scalS⟩ (bs ex4) 0 0 = .bad 3 8:=by kernel_rfl
theorem pl_ex5:Pl.readS ⟨Pl.strS Tb,Pl.scalS⟩ (bs ex5) 0 0 = .bad 3 0:=by kernel_rfl
theorem rowC_ints {w:World} {base:Nat} {v:Value} {l:List Nat} (h:RowC w base 3 1 v l.length (subsV l)) (h0:0<l.length):∃b c,v = .slice (some ⟨b,0,none⟩) l.length c∧b<w.heap.size∧∀(j x:Nat),l[j]?=some x→w.cell? ⟨b,j,none⟩=some (.int .i64 x):=by
 obtain⟨b,c,hv,_,_⟩:=h.form h0;refine⟨b,c,hv,(h.lt b (by rw[hv];rfl)).2,fun j x hx=>h.cells (g:=b) (by rw[hv];rfl) j _ (by simp[subsV,hx])⟩
theorem rowC_strs {w:World} {base:Nat} {v:Value} {l:List Pl.Bs} (h:RowC w base 9 1 v l.length (keysV l)) (h0:0<l.length):∃b c,v = .slice (some ⟨b,0,none⟩) l.length c∧b<w.heap.size∧∀(j:Nat) x,(keysV l)[j]?=some x→w.cell? ⟨b,j,none⟩=some x:=by
 obtain⟨b,c,hv,_,_⟩:=h.form h0;exact⟨b,c,hv,(h.lt b (by rw[hv];rfl)).2,fun j x hx=>h.cells (g:=b) (by rw[hv];rfl) j _ hx⟩
theorem rowC_some {w:World} {base e size n:Nat} {v:Value} {xs:List Value} (h:RowC w base e size v n xs):∃a k c,v = .slice a k c:=by
 rcases rowC_form h with⟨rfl,_⟩|⟨g,cap,rfl,_,_⟩
 · exact⟨_,_,_,rfl⟩
 exact⟨_,_,_,rfl⟩
theorem lv_read1 (w:World) (hw:RW Tb w):Calls Tryz.prog 6 #[.string ex1,.int .i64 0,.int .i64 0] w fun e w'=>∃g r0 r1 r2,e = .returned (.tuple #[.agg #[.slice (some ⟨g,0,none⟩) 3 3,.int .i64 2],.int .i64 10,f0])∧r0.nd=nd10∧r1.nd=nd11∧r2.nd=nd12∧TreeV w' w.heap.size g [r0,r1,r2]∧Gr w w':=by
 refine (tv_Read w hw ex1 (by decide) 0 0 rfl (by decide) 0 0 (by decide) _ pl_ex1 (by simp)).mono ?_;rintro e w' ⟨g,L,rfl,_,_,hL,ht,hg⟩;rcases L with _|⟨r0,_|⟨r1,_|⟨r2,_|⟨r3,L⟩⟩⟩⟩ <;> simp at hL;exact⟨g,r0,r1,r2,rfl,hL.1,hL.2.1,hL.2.2,ht,hg⟩
theorem lv_read2 (w:World) (hw:RW Tb w):Calls Tryz.prog 6 #[.string ex2,.int .i64 0,.int .i64 0] w fun e w'=>∃g r0 r1 r2 r3,e = .returned (.tuple #[.agg #[.slice (some ⟨g,0,none⟩) 4 4,.int .i64 0],.int .i64 18,f0])∧r0.nd=nd20∧r1.nd=nd21∧r2.nd=nd22∧r3.nd=nd23∧TreeV w' w.heap.size g [r0,r1,r2,r3]∧Gr w w':=by
 refine (tv_Read w hw ex2 (by decide) 0 0 rfl (by decide) 0 0 (by decide) _ pl_ex2 (by simp)).mono ?_;rintro e w' ⟨g,L,rfl,_,_,hL,ht,hg⟩;rcases L with _|⟨r0,_|⟨r1,_|⟨r2,_|⟨r3,_|⟨r4,L⟩⟩⟩⟩⟩ <;> simp at hL;exact⟨g,r0,r1,r2,r3,rfl,hL.1,hL.2.1,hL.2.2.1,hL.2.2.2,ht,hg⟩
theorem TreeV.set {w:World} {base g:Nat} {L:List NdR} (h:TreeV w base g L) {b o:Nat} (hb:b<base) (v:Value):TreeV (w.setCell ⟨b,o,none⟩ v) base g L:=by
 have hk:∀k,base≤k→(w.setCell ⟨b,o,none⟩ v).heap[k]?=w.heap[k]?:=fun k hk=>Below.heap_setCell _ _ _ _ (fun e=>by rw[show k=b from e]at hk;omega)
 refine⟨⟨h.lt.1,by simpa [World.setCell]using h.lt.2⟩,fun i r hr j u hu=>?_,fun i r hr=>?_⟩
 · exact (World.cell?_of_block (w:=w) (a:=⟨g,i*7+j,none⟩) (hk g h.lt.1)).trans (h.cell i r hr j u hu)
 obtain⟨x,y,z⟩:=h.rows i r hr;exact⟨x.of_block fun k e=>hk k (x.lt k e).1,y.of_block fun k e=>hk k (y.lt k e).1,z.of_block fun k e=>hk k (z.lt k e).1⟩
structure LivS1 (b1 b3 b4 g gu cu:Nat) (w:World):Prop where
 t:FX b1 (.slice (some ⟨g,0,none⟩) 3 3) (.int .i64 2) w
 f:FX b3 (.int .i64 0) (.int .i64 0) w
 n4:w.cell? ⟨b4,4,none⟩=some (.slice (some ⟨gu,0,none⟩) 2 cu)
 nl:b4<w.heap.size
 u0:w.cell? ⟨gu,0,none⟩=some (.int .i64 0)
 u1:w.cell? ⟨gu,1,none⟩=some (.int .i64 1)
 ul:gu<w.heap.size
theorem LivS1.gr {b1 b3 b4 g gu cu:Nat} {w w':World} (h:LivS1 b1 b3 b4 g gu cu w) (k:Gr w w'):LivS1 b1 b3 b4 g gu cu w' :=
 ⟨h.t.gr k,h.f.gr k,(k.use.1 _ _ h.nl).trans h.n4,Nat.lt_of_lt_of_le h.nl k.size,(k.use.1 _ _ h.ul).trans h.u0,(k.use.1 _ _ h.ul).trans h.u1,Nat.lt_of_lt_of_le h.ul k.size⟩
structure LivS2 (b5 b3 b7 g gk ck gv cv:Nat) (w:World):Prop where
 t:FX b5 (.slice (some ⟨g,0,none⟩) 4 4) (.int .i64 0) w
 f:FX b3 (.int .i64 0) (.int .i64 0) w
 n2:w.cell? ⟨b7,2,none⟩=some (.slice (some ⟨gk,0,none⟩) 1 ck)
 n4:w.cell? ⟨b7,4,none⟩=some (.slice (some ⟨gv,0,none⟩) 1 cv)
 nl:b7<w.heap.size
 k0:w.cell? ⟨gk,0,none⟩=some (.string ⟨#[97]⟩)
 kl:gk<w.heap.size
 v0:w.cell? ⟨gv,0,none⟩=some (.int .i64 1)
 vl:gv<w.heap.size
theorem LivS2.gr {b5 b3 b7 g gk ck gv cv:Nat} {w w':World} (h:LivS2 b5 b3 b7 g gk ck gv cv w) (k:Gr w w'):LivS2 b5 b3 b7 g gk ck gv cv w' :=
 ⟨h.t.gr k,h.f.gr k,(k.use.1 _ _ h.nl).trans h.n2,(k.use.1 _ _ h.nl).trans h.n4,Nat.lt_of_lt_of_le h.nl k.size,(k.use.1 _ _ h.kl).trans h.k0,Nat.lt_of_lt_of_le h.kl k.size,(k.use.1 _ _ h.vl).trans h.v0,Nat.lt_of_lt_of_le h.vl k.size⟩
structure LivS3 (b5 b3 b7 g gk ck gv cv:Nat) (kv sv uv:Value) (w:World):Prop where
 s:LivS2 b5 b3 b7 g gk ck gv cv w
 c0:w.cell? ⟨g,7,none⟩=some (.int .u8 8)
 c1:w.cell? ⟨g,8,none⟩=some (.string ⟨#[]⟩)
 c2:w.cell? ⟨g,9,none⟩=some kv
 c3:w.cell? ⟨g,10,none⟩=some sv
 c4:w.cell? ⟨g,11,none⟩=some uv
 c5:w.cell? ⟨g,12,none⟩=some (.int .i64 (-1))
 c6:w.cell? ⟨g,13,none⟩=some (.int .i64 (-1))
 gl:g<w.heap.size
theorem LivS3.gr {b5 b3 b7 g gk ck gv cv:Nat} {kv sv uv:Value} {w w':World} (h:LivS3 b5 b3 b7 g gk ck gv cv kv sv uv w) (k:Gr w w'):LivS3 b5 b3 b7 g gk ck gv cv kv sv uv w' :=
 ⟨h.s.gr k,(k.use.1 _ _ h.gl).trans h.c0,(k.use.1 _ _ h.gl).trans h.c1,(k.use.1 _ _ h.gl).trans h.c2,(k.use.1 _ _ h.gl).trans h.c3,(k.use.1 _ _ h.gl).trans h.c4,(k.use.1 _ _ h.gl).trans h.c5,(k.use.1 _ _ h.gl).trans h.c6,Nat.lt_of_lt_of_le h.gl k.size⟩
set_option maxRecDepth 100000 in
theorem la_lives (w:World) (hw:RW Tb w):Calls Tryz.prog 5 #[] w fun e w'=>e = .returned (.bool true)∧Gr w w':=by
 have HW:=Lib.hid hw;have H1:=Lib.hid (lv_read1 w hw);clear hw;go_enter Tryz.func5,Tryz.ntmps5;go_wp2_with fail;refine H1.out.mono ?_;rintro e w1 ⟨g,r0,r1,r2,rfl,h0,h1,h2,ht,g1⟩;obtain⟨gu,cu,hgu,hgul,hgc⟩:=rowC_ints (ht.rows 2 r2 rfl).2.2 (by rw[h2];decide);obtain⟨ka,kn,kc,hk⟩:=rowC_some (ht.rows 2 r2 rfl).1;obtain⟨sa,sn,sc,hsv⟩:=rowC_some (ht.rows 2 r2 rfl).2.1;have hgl:=ht.lt.2;have HT:=Lib.hid ht;have HG1:=Lib.hid g1;have HGC:=Lib.hid hgc;rw[show r2.nd.subs.length=2 by rw[h2];rfl]at hgu;have Q2:=Lib.hid (And.intro h2 (And.intro hk (And.intro hsv hgu)));have Q0:=Lib.hid (And.intro h0 h1);clear ht g1 h0 h1 h2 hk hsv hgu hgc;go_wp2_with fail;obtain⟨W1,hW1⟩:∃v,((w1.alloc (.cells #[.slice (some ⟨g,0,none⟩) 3 3,.int .i64 2] 28)).alloc (.cells #[.int .i64 0,.int .i64 0] 31))=v:=⟨_,rfl⟩
 have hgW1:Gr w1 W1:=by subst hW1;exact ((Gr.refl w1).alloc _).alloc _
 have hT1:FX w1.heap.size (.slice (some ⟨g,0,none⟩) 3 3) (.int .i64 2) W1:=by subst hW1;exact (FX.new w1 _ _ _).gr ((Gr.refl _).alloc _)
 have hF1:FX (w1.heap.size+1) (.int .i64 0) (.int .i64 0) W1:=by
  subst hW1;have:=FX.new (w1.alloc (.cells #[.slice (some ⟨g,0,none⟩) 3 3,.int .i64 2] 28)) (.int .i64 0) (.int .i64 0) 31
  simpa only [World.size_alloc]using this
 rw[hW1];clear hW1;have HT1:=Lib.hid hT1;have HF1:=Lib.hid hF1;have HGW1:=Lib.hid hgW1;refine (show Calls Tryz.prog 8 #[.agg #[.slice (some ⟨g,0,none⟩) 3 3,.int .i64 2],.int .u8 7] W1 _ from la_root W1 _ g [r0,r1,r2] (HT.out.gr hgW1) 2 r2 rfl 7 (by rw[Q2.out.1];rfl) 3 rfl (by decide) ka sa (some ⟨gu,0,none⟩) kn sn 2 kc sc cu Q2.out.2.1 Q2.out.2.2.1 Q2.out.2.2.2).mono ?_;rintro e w2 ⟨rfl,g2⟩;rw[Q2.out.1];have HG2:=Lib.hid g2;clear hT1 hF1 hgW1 g2;go_wp2_with fail;obtain⟨W2,hW2⟩:∃v,w2.alloc (.cells #[.int .u8 7,strV nd12.text,.slice ka kn kc,.slice sa sn sc,.slice (some ⟨gu,0,none⟩) 2 cu,.int .i64 nd12.sp.1,.int .i64 nd12.sp.2] 40)=v:=⟨_,rfl⟩
 have hgW2:Gr w2 W2:=by subst hW2;exact (Gr.refl w2).alloc _
 have hgA:Gr w1 W2:=(HGW1.out.trans HG2.out).trans hgW2;have hS:LivS1 w1.heap.size (w1.heap.size+1) w2.heap.size g gu cu W2.drew:=by
  refine⟨(HT1.out.gr HG2.out).gr hgW2.drew,(HF1.out.gr HG2.out).gr hgW2.drew,?_,?_,(hgA.drew.use.1 _ _ hgul).trans (HGC.out 0 0 (by rw[Q2.out.1];rfl)),(hgA.drew.use.1 _ _ hgul).trans (HGC.out 1 1 (by rw[Q2.out.1];rfl)),Nat.lt_of_lt_of_le hgul hgA.size⟩
  · subst hW2;show (w2.alloc _).cell? _=_;simp
  subst hW2;show _<(w2.alloc _).heap.size;simp
 have HTW:=Lib.hid (HT.out.gr hgA.drew);have HGA:=Lib.hid (HG1.out.trans hgA.drew);rw[hW2];clear hW2 hgW2 hgA;refine Reg.begin' (W:=fun _=>true) (S:=LivS1 w1.heap.size (w1.heap.size+1) w2.heap.size g gu cu) (by kernel_rfl) ?_;refine Reg.tl 0 hS ?_ (hy:=by intro w hSw;obtain⟨⟨x0,x1,xf,xl⟩,⟨y0,y1,yf,yl⟩,y4,yn,z0,z1,zl⟩:=hSw;go_simp;try with_reducible rfl);refine Reg.ty 1 ?_;refine Reg.ty 2 ?_;refine Reg.ty 3 ?_;refine Reg.ty 4 ?_;refine Reg.ty 5 ?_;refine Reg.ty 6 ?_;refine Reg.ty 7 ?_;refine Reg.ty 8 ?_;refine Reg.tl 9 hS ?_ (hy:=by intro w hSw;obtain⟨⟨x0,x1,xf,xl⟩,⟨y0,y1,yf,yl⟩,y4,yn,z0,z1,zl⟩:=hSw;go_simp;try with_reducible rfl);refine Reg.ty 10 ?_;refine Reg.ty 11 ?_;refine Reg.ty 12 ?_;refine Reg.ty 13 ?_;refine Reg.tl 14 hS ?_ (hy:=by intro w hSw;obtain⟨⟨x0,x1,xf,xl⟩,⟨y0,y1,yf,yl⟩,y4,yn,z0,z1,zl⟩:=hSw;go_simp;try with_reducible rfl);refine Reg.ty 15 ?_;refine Reg.tl 16 hS ?_ (hy:=by intro w hSw;obtain⟨⟨x0,x1,xf,xl⟩,⟨y0,y1,yf,yl⟩,y4,yn,z0,z1,zl⟩:=hSw;go_simp;try with_reducible rfl);refine Reg.ty 17 ?_;refine Reg.tl 18 hS ?_ (hy:=by intro w hSw;obtain⟨⟨x0,x1,xf,xl⟩,⟨y0,y1,yf,yl⟩,y4,yn,z0,z1,zl⟩:=hSw;go_simp;try with_reducible rfl);refine Reg.on 19 ?_;go_simp;refine (show Calls Tryz.prog 16 #[.agg #[.slice (some ⟨g,0,none⟩) 3 3,.int .i64 2],.int .i64 0,.int .u8 4,.string ⟨#[49]⟩] W2.drew _ from la_scalar W2.drew _ g [r0,r1,r2] HTW.out 2 0 r0 rfl 4 (by rw[Q0.out.1];rfl) ⟨#[49]⟩ (by rw[Q0.out.1];rfl) (by rw[Q0.out.1];rfl) 3 rfl (by decide)).mono ?_;rintro e w3 ⟨rfl,g3⟩;have hS3:=hS.gr g3;refine⟨by first|exact hS3|exact fun _=>hS3|exact fun _ _=>hS3,?_⟩;refine Reg.pt ?_;have HTW3:=Lib.hid (HTW.out.gr g3);have HGA3:=Lib.hid (HGA.out.trans g3);clear g3;refine Reg.ty 20 ?_;refine Reg.ty 21 ?_;refine Reg.ty 22 ?_;refine Reg.tl 23 hS3 ?_ (hy:=by intro w hSw;obtain⟨⟨x0,x1,xf,xl⟩,⟨y0,y1,yf,yl⟩,y4,yn,z0,z1,zl⟩:=hSw;go_simp;try with_reducible rfl);refine Reg.ty 24 ?_;refine Reg.tl 25 hS3 ?_ (hy:=by intro w hSw;obtain⟨⟨x0,x1,xf,xl⟩,⟨y0,y1,yf,yl⟩,y4,yn,z0,z1,zl⟩:=hSw;go_simp;try with_reducible rfl);refine Reg.ty 26 ?_;refine Reg.tl 27 hS3 ?_ (hy:=by intro w hSw;obtain⟨⟨x0,x1,xf,xl⟩,⟨y0,y1,yf,yl⟩,y4,yn,z0,z1,zl⟩:=hSw;go_simp;try with_reducible rfl);refine Reg.on 28 ?_;go_simp;refine (show Calls Tryz.prog 16 #[.agg #[.slice (some ⟨g,0,none⟩) 3 3,.int .i64 2],.int .i64 1,.int .u8 3,.string ⟨#[97]⟩] w3 _ from la_scalar w3 _ g [r0,r1,r2] HTW3.out 2 1 r1 rfl 3 (by rw[Q0.out.2];rfl) ⟨#[97]⟩ (by rw[Q0.out.2];rfl) (by rw[Q0.out.2];rfl) 3 rfl (by decide)).mono ?_;rintro e w4 ⟨rfl,g4⟩;have hS4:=hS3.gr g4;refine⟨by first|exact hS4|exact fun _=>hS4|exact fun _ _=>hS4,?_⟩;refine Reg.pt ?_;have HGA4:=Lib.hid (HGA3.out.trans g4);clear g4;refine Reg.ty 29 ?_;refine Reg.ty 30 ?_;refine Reg.done (by kernel_rfl) ?_ _;have HF4:=Lib.hid hS4.f;have H2:=Lib.hid (lv_read2 w4 (HW.out.gr HGA4.out));have hw1:w.heap.size≤w1.heap.size:=HG1.out.size;clear hS hS3 hS4 HTW HTW3 HGA HGA3 HT HT1 HF1 HGW1 HG2 HG1 HGC Q2 Q0 H1 hgl hgul;go_wp2_with fail;refine H2.out.mono ?_;rintro e w5 ⟨g5,p0,p1,p2,p3,rfl,h0,h1,h2,h3,ht,g5'⟩;have hF5:=HF4.out.gr g5';have HF5:=Lib.hid hF5;obtain⟨i0,i1,if',il⟩:=hF5;have hb34:w1.heap.size+1<w4.heap.size:=HF4.out.2.2.2;have HT5:=Lib.hid ht;have HGA5:=Lib.hid (HGA4.out.trans g5');have P0:=Lib.hid h0;have P1:=Lib.hid h1;clear ht g5' h0 h1 h2 h3 H2 HF4 HGA4;go_wp2_with fail;obtain⟨W5,hW5⟩:∃v,(((w5.setCell ⟨w1.heap.size+1,0,none⟩ (.int .i64 0)).setCell ⟨w1.heap.size+1,1,none⟩ (.int .i64 0)).alloc (.cells #[.slice (some ⟨g5,0,none⟩) 4 4,.int .i64 0] 28))=v:=⟨_,rfl⟩
 have hTB:FX w5.heap.size (.slice (some ⟨g5,0,none⟩) 4 4) (.int .i64 0) W5:=by
  subst hW5;have:=FX.new ((w5.setCell ⟨w1.heap.size+1,0,none⟩ (.int .i64 0)).setCell ⟨w1.heap.size+1,1,none⟩ (.int .i64 0)) (.slice (some ⟨g5,0,none⟩) 4 4) (.int .i64 0) 28;have e:((w5.setCell ⟨w1.heap.size+1,0,none⟩ (.int .i64 0)).setCell ⟨w1.heap.size+1,1,none⟩ (.int .i64 0)).heap.size=w5.heap.size:=by simp[World.setCell]
  rwa [e]at this
 have hFB:FX (w1.heap.size+1) (.int .i64 0) (.int .i64 0) W5:=by subst hW5;exact (HF5.out.set _ _).gr ((Gr.refl _).alloc _)
 have hTW:TreeV W5 w4.heap.size g5 [p0,p1,p2,p3]:=by subst hW5;exact ((HT5.out.set hb34 _).set hb34 _).gr ((Gr.refl _).alloc _)
 have hgW:Gr w W5:=by
  subst hW5;exact ((HGA5.out.setCell (p:=⟨w1.heap.size+1,0,none⟩) (by show w.heap.size≤w1.heap.size+1;omega) _).setCell (p:=⟨w1.heap.size+1,1,none⟩) (by show w.heap.size≤w1.heap.size+1;omega) _).alloc _
 rw[hW5];clear hW5 i0 i1 if' il HF5 HT5 HGA5;obtain⟨gk,ck,hgk,hgkl,hgkc⟩:=rowC_strs (hTW.rows 0 p0 rfl).1 (by rw[P0.out];decide);obtain⟨gv,cv,hgv,hgvl,hgvc⟩:=rowC_ints (hTW.rows 0 p0 rfl).2.2 (by rw[P0.out];decide);obtain⟨sa,sn,sc,hsv⟩:=rowC_some (hTW.rows 0 p0 rfl).2.1;rw[show p0.nd.keys.length=1 by rw[P0.out];rfl]at hgk;rw[show p0.nd.subs.length=1 by rw[P0.out];rfl]at hgv;obtain⟨gk1,ck1,hgk1,hgkl1,hgkc1⟩:=rowC_strs (hTW.rows 1 p1 rfl).1 (by rw[P1.out];decide);rw[show p1.nd.keys.length=2 by rw[P1.out];rfl]at hgk1;obtain⟨ua1,un1,uc1,huv1⟩:=rowC_some (hTW.rows 1 p1 rfl).2.2;obtain⟨sa1,sn1,sc1,hsv1⟩:=rowC_some (hTW.rows 1 p1 rfl).2.1;obtain⟨d0,d1,d2,d3,d4,d5,d6⟩:=hTW.cells 1 p1 rfl;rw[P1.out]at d0 d1 d5 d6;rw[hgk1]at d2;rw[hsv1]at d3;rw[huv1]at d4;have e97:W5.cell? ⟨gk,0,none⟩=some (.string ⟨#[97]⟩):=hgkc 0 _ (by rw[P0.out];rfl);have e1:W5.cell? ⟨gv,0,none⟩=some (.int .i64 1):=hgvc 0 1 (by rw[P0.out];rfl);have e98:W5.cell? ⟨gk1,0,none⟩=some (.string ⟨#[98]⟩):=hgkc1 0 _ (by rw[P1.out];rfl);have e99:W5.cell? ⟨gk1,1,none⟩=some (.string ⟨#[99]⟩):=hgkc1 1 _ (by rw[P1.out];rfl);have h98:∀j v,([.string ⟨#[98]⟩,.string ⟨#[99]⟩]:List Value)[j]?=some v→W5.cell? ⟨gk1,j,none⟩=some v:=fun j v hv=>by
  match j,hv with
  | 0,hv=>cases hv;exact e98
  | 1,hv=>cases hv;exact e99
  | j+2,hv=>simp at hv
 have H98:=Lib.hid h98;have hg5l:=hTW.lt.2;have HD:=Lib.hid (And.intro d0 (And.intro d1 (And.intro d2 (And.intro d3 (And.intro d4 (And.intro d5 d6))))));have HE:=Lib.hid (And.intro e97 e1);have HTB:=Lib.hid hTB;have HFB:=Lib.hid hFB;have HGW:=Lib.hid hgW;clear d0 d1 d2 d3 d4 d5 d6 e97 e1 e98 e99 h98 hgkc hgvc hgkc1 hTB hFB hgW hgk1 hsv1 huv1;refine (show Calls Tryz.prog 8 #[.agg #[.slice (some ⟨g5,0,none⟩) 4 4,.int .i64 0],.int .u8 8] W5 _ from la_root W5 _ g5 [p0,p1,p2,p3] hTW 0 p0 rfl 8 (by rw[P0.out];rfl) 4 rfl (by decide) (some ⟨gk,0,none⟩) sa (some ⟨gv,0,none⟩) 1 sn 1 ck sc cv hgk hsv hgv).mono ?_;rintro e w6 ⟨rfl,g6⟩;rw[P0.out];have HG6:=Lib.hid g6;clear hTW hgk hsv hgv g6;go_wp2_with fail;obtain⟨W6,hW6⟩:∃v,w6.alloc (.cells #[.int .u8 8,strV nd20.text,.slice (some ⟨gk,0,none⟩) 1 ck,.slice sa sn sc,.slice (some ⟨gv,0,none⟩) 1 cv,.int .i64 nd20.sp.1,.int .i64 nd20.sp.2] 40)=v:=⟨_,rfl⟩
 have hgA:Gr W5 W6:=by subst hW6;exact HG6.out.alloc _
 have hS2:LivS2 w5.heap.size (w1.heap.size+1) w6.heap.size g5 gk ck gv cv W6:=by
  refine⟨HTB.out.gr hgA,HFB.out.gr hgA,?_,?_,?_,(hgA.use.1 _ _ hgkl).trans HE.out.1,Nat.lt_of_lt_of_le hgkl hgA.size,(hgA.use.1 _ _ hgvl).trans HE.out.2,Nat.lt_of_lt_of_le hgvl hgA.size⟩
  · subst hW6;simp
  · subst hW6;simp
  subst hW6;simp
 obtain⟨D0,D1,D2,D3,D4,D5,D6⟩:=HD.out;have hS0:LivS3 w5.heap.size (w1.heap.size+1) w6.heap.size g5 gk ck gv cv (.slice (some ⟨gk1,0,none⟩) 2 ck1) (.slice sa1 sn1 sc1) (.slice ua1 un1 uc1) W6 :=
  ⟨hS2,(hgA.use.1 _ _ hg5l).trans D0,(hgA.use.1 _ _ hg5l).trans D1,(hgA.use.1 _ _ hg5l).trans D2,(hgA.use.1 _ _ hg5l).trans D3,(hgA.use.1 _ _ hg5l).trans D4,(hgA.use.1 _ _ hg5l).trans D5,(hgA.use.1 _ _ hg5l).trans D6,Nat.lt_of_lt_of_le hg5l hgA.size⟩
 have HS0:=Lib.hid hS0;have hS:=hS0.gr (Gr.refl W6).drew;clear hS0;have HGA:=Lib.hid hgA;rw[hW6];clear hW6 hgA hS2 D0 D1 D2 D3 D4 D5 D6 HD HE HTB HFB HG6;refine Reg.begin' (W:=fun _=>true) (S:=LivS3 w5.heap.size (w1.heap.size+1) w6.heap.size g5 gk ck gv cv (.slice (some ⟨gk1,0,none⟩) 2 ck1) (.slice sa1 sn1 sc1) (.slice ua1 un1 uc1)) (by kernel_rfl) ?_;refine Reg.tl 0 hS ?_ (hy:=by intro w hSw;obtain⟨⟨⟨x0,x1,xf,xl⟩,⟨y0,y1,yf,yl⟩,y2,y4,yn,k0,kl,v0,vl⟩,_,_,_,_,_,_,_,_⟩:=hSw;go_simp;try with_reducible rfl);refine Reg.ty 1 ?_;refine Reg.ty 2 ?_;refine Reg.ty 3 ?_;refine Reg.ty 4 ?_;refine Reg.tl 5 hS ?_ (hy:=by intro w hSw;obtain⟨⟨⟨x0,x1,xf,xl⟩,⟨y0,y1,yf,yl⟩,y2,y4,yn,k0,kl,v0,vl⟩,_,_,_,_,_,_,_,_⟩:=hSw;go_simp;try with_reducible rfl);refine Reg.on 6 ?_;go_simp;have hSd:LivS3 w5.heap.size (w1.heap.size+1) w6.heap.size g5 gk ck gv cv (.slice (some ⟨gk1,0,none⟩) 2 ck1) (.slice sa1 sn1 sc1) (.slice ua1 un1 uc1) W6:=HS0.out;have hSa:=hSd.gr (((Gr.refl W6).alloc (.cells #[.string ⟨#[97]⟩] 9)).drew);refine⟨by first|exact hSa|exact fun _=>hSa|exact fun _ _=>hSa,?_⟩;refine Reg.pt ?_;refine Reg.on 7 ?_;go_simp;refine (la_same (W6.alloc (.cells #[.string ⟨#[97]⟩] 9)).drew gk W6.heap.size 1 ck 1 [.string ⟨#[97]⟩] (by simp) rfl (fun j v hv=>by
  match j,hv with
  | 0,hv=>cases hv;exact hSa.s.k0
  | j+1,hv=>simp at hv) (fun j v hv=>by
  match j,hv with
  | 0,hv=>cases hv;show (W6.alloc _).cell? _=_;simp
  | j+1,hv=>simp at hv) (by decide) _ _ rfl rfl).mono ?_
 rintro e w7 ⟨rfl,g7⟩;have hS7:=hSa.gr g7;refine⟨by first|exact hS7|exact fun _=>hS7|exact fun _ _=>hS7,?_⟩;refine Reg.pt ?_;have hgA6:Gr W6 (W6.alloc (.cells #[.string ⟨#[97]⟩] 9)).drew:=((Gr.refl W6).alloc _).drew;have hgA5:Gr W5 W6:=HGA.out;have HG7:=Lib.hid ((hgA5.trans hgA6).trans g7);clear g7 hgA6 hgA5 hSa hSd hS HGA;refine Reg.ty 8 ?_;refine Reg.ty 9 ?_;refine Reg.ty 10 ?_;refine Reg.ty 11 ?_;refine Reg.tl 12 hS7 ?_ (hy:=by intro w hSw;obtain⟨⟨⟨x0,x1,xf,xl⟩,⟨y0,y1,yf,yl⟩,y2,y4,yn,k0,kl,v0,vl⟩,_,_,_,_,_,_,_,_⟩:=hSw;go_simp;try with_reducible rfl);refine Reg.ty 13 ?_;refine Reg.ty 14 ?_;refine Reg.ty 15 ?_;refine Reg.ty 16 ?_;refine Reg.ty 17 ?_;refine Reg.tl 18 hS7 ?_ (hy:=by intro w hSw;obtain⟨⟨⟨x0,x1,xf,xl⟩,⟨y0,y1,yf,yl⟩,y2,y4,yn,k0,kl,v0,vl⟩,_,_,_,_,_,_,_,_⟩:=hSw;go_simp;try with_reducible rfl);refine Reg.ty 19 ?_;refine Reg.tl 20 hS7 ?_ (hy:=by intro w hSw;obtain⟨⟨⟨x0,x1,xf,xl⟩,⟨y0,y1,yf,yl⟩,y2,y4,yn,k0,kl,v0,vl⟩,_,_,_,_,_,_,_,_⟩:=hSw;go_simp;try with_reducible rfl);refine Reg.ty 21 ?_;refine Reg.ty 22 ?_;refine Reg.ty 23 ?_;refine Reg.ty 24 ?_;refine Reg.tl 25 hS7 ?_ (hy:=by intro w hSw;obtain⟨⟨⟨x0,x1,xf,xl⟩,⟨y0,y1,yf,yl⟩,y2,y4,yn,k0,kl,v0,vl⟩,_,_,_,_,_,_,_,_⟩:=hSw;go_simp;try with_reducible rfl);refine Reg.ty 26 ?_;refine Reg.tl 27 hS7 ?_ (hy:=by intro w hSw;obtain⟨⟨⟨x0,x1,xf,xl⟩,⟨y0,y1,yf,yl⟩,y2,y4,yn,k0,kl,v0,vl⟩,_,_,_,_,_,_,_,_⟩:=hSw;go_simp;try with_reducible rfl);refine Reg.ty 28 ?_;refine Reg.tl 29 hS7 ?_ (hy:=by intro w hSw;obtain⟨⟨⟨x0,x1,xf,xl⟩,⟨y0,y1,yf,yl⟩,y2,y4,yn,k0,kl,v0,vl⟩,_,_,_,_,_,_,_,_⟩:=hSw;go_simp;try with_reducible rfl);refine Reg.ty 30 ?_;refine Reg.ty 31 ?_;refine Reg.ty 32 ?_;refine Reg.done (by kernel_rfl) ?_ _;go_wp2_with fail;have hS:LivS3 w5.heap.size (w1.heap.size+1) w6.heap.size g5 gk ck gv cv (.slice (some ⟨gk1,0,none⟩) 2 ck1) (.slice sa1 sn1 sc1) (.slice ua1 un1 uc1) w7.drew:=hS7.gr (Gr.refl w7).drew;refine Reg.begin' (W:=fun i=>i != 9) (S:=LivS3 w5.heap.size (w1.heap.size+1) w6.heap.size g5 gk ck gv cv (.slice (some ⟨gk1,0,none⟩) 2 ck1) (.slice sa1 sn1 sc1) (.slice ua1 un1 uc1)) (by kernel_rfl) ?_;refine Reg.ty 0 ?_;refine Reg.tl 1 hS ?_ (hy:=by intro w hSw;obtain⟨⟨⟨x0,x1,xf,xl⟩,⟨y0,y1,yf,yl⟩,y2,y4,yn,k0,kl,v0,vl⟩,c0,c1,c2,c3,c4,c5,c6,cl⟩:=hSw;go_simp;try with_reducible rfl);refine Reg.ty 2 ?_;refine Reg.tl 3 hS ?_ (hy:=by intro w hSw;obtain⟨⟨⟨x0,x1,xf,xl⟩,⟨y0,y1,yf,yl⟩,y2,y4,yn,k0,kl,v0,vl⟩,c0,c1,c2,c3,c4,c5,c6,cl⟩:=hSw;go_simp;try with_reducible rfl);refine Reg.ty 4 ?_;refine Reg.tl 5 hS ?_ (hy:=by intro w hSw;obtain⟨⟨⟨x0,x1,xf,xl⟩,⟨y0,y1,yf,yl⟩,y2,y4,yn,k0,kl,v0,vl⟩,c0,c1,c2,c3,c4,c5,c6,cl⟩:=hSw;go_simp;try with_reducible rfl);refine Reg.ty 6 ?_;refine Reg.tl 7 hS ?_ (hy:=by intro w hSw;obtain⟨⟨⟨x0,x1,xf,xl⟩,⟨y0,y1,yf,yl⟩,y2,y4,yn,k0,kl,v0,vl⟩,c0,c1,c2,c3,c4,c5,c6,cl⟩:=hSw;go_simp;try with_reducible rfl);refine Reg.on 8 ?_;go_simp;have hS8:LivS3 w5.heap.size (w1.heap.size+1) w6.heap.size g5 gk ck gv cv (.slice (some ⟨gk1,0,none⟩) 2 ck1) (.slice sa1 sn1 sc1) (.slice ua1 un1 uc1) (w7.alloc (.cells #[.int .u8 0,.string ⟨#[]⟩,nilV,nilV,nilV,.int .i64 0,.int .i64 0] 40)).drew:=hS7.gr ((Gr.refl w7).alloc _).drew;refine⟨by first|exact hS8|exact fun _=>hS8|exact fun _ _=>hS8,?_⟩;refine Reg.pt ?_;refine Reg.on 9 ?_;go_simp;refine Reg.done (by kernel_rfl) ?_ _;have HS7:=Lib.hid hS7;clear hS hS8 hS7;go_wp2_with fail;obtain⟨W8,hW8⟩:∃v,((w7.alloc (.cells #[.int .u8 8,.string ⟨#[]⟩,.slice (some ⟨gk1,0,none⟩) 2 ck1,.slice sa1 sn1 sc1,.slice ua1 un1 uc1,.int .i64 (-1),.int .i64 (-1)] 40)).alloc (.cells #[.string ⟨#[98]⟩,.string ⟨#[99]⟩] 9)).drew=v:=⟨_,rfl⟩
 have hg78:Gr w7 W8:=by subst hW8;exact (((Gr.refl w7).alloc _).alloc _).drew
 have hB8:∀j v,([.string ⟨#[98]⟩,.string ⟨#[99]⟩]:List Value)[j]?=some v→W8.cell? ⟨w7.heap.size+1,j,none⟩=some v:=by
  subst hW8;intro j v hv
  match j,hv with
  | 0,hv=>cases hv;show ((w7.alloc _).alloc _).cell? _=_;simp
  | 1,hv=>cases hv;show ((w7.alloc _).alloc _).cell? _=_;simp
  | j+2,hv=>simp at hv
 rw[hW8];clear hW8;have hgk8:Gr W5 W8:=HG7.out.trans hg78;have HG8:=Lib.hid (HGW.out.trans hgk8);refine (la_same W8 gk1 (w7.heap.size+1) 2 ck1 2 [.string ⟨#[98]⟩,.string ⟨#[99]⟩] (by simp) rfl (fun j v hv=>(hgk8.use.1 _ _ hgkl1).trans (H98.out j v hv)) hB8 (by decide) _ _ rfl rfl).mono ?_;rintro e w9 ⟨rfl,g9⟩;have HG9:=Lib.hid (HG8.out.trans g9);clear g9 hB8 hgk8 hg78;go_wp2_with fail;refine (show Calls Tryz.prog 11 #[.string ex3,.int .i64 0,.int .i64 0,.int .i64 5,.int .i64 8] w9 _ from la_fails w9 (HW.out.gr HG9.out) ex3 (by decide) 0 0 (by decide) 5 8 pl_ex3).mono ?_;rintro e w10 ⟨rfl,g10⟩;have HG10:=Lib.hid (HG9.out.trans g10);clear g10;go_wp2_with fail;refine (show Calls Tryz.prog 11 #[.string ex4,.int .i64 0,.int .i64 0,.int .i64 3,.int .i64 8] w10 _ from la_fails w10 (HW.out.gr HG10.out) ex4 (by decide) 0 0 (by decide) 3 8 pl_ex4).mono ?_;rintro e w11 ⟨rfl,g11⟩;have HG11:=Lib.hid (HG10.out.trans g11);clear g11;go_wp2_with fail;refine (show Calls Tryz.prog 11 #[.string ex5,.int .i64 0,.int .i64 0,.int .i64 3,.int .i64 0] w11 _ from la_fails w11 (HW.out.gr HG11.out) ex5 (by decide) 0 0 (by decide) 3 0 pl_ex5).mono ?_;rintro e w12 ⟨rfl,g12⟩;have hg12:=HG11.out.trans g12;clear g12;go_wp2_with fail;exact bodyPost_ret (v := .bool true) (by simp[results,Tryz.results5,go_sem]) rfl ⟨rfl,hg12⟩
end Go.Proofs.YtkplelejagpkmaaGreatDoor
