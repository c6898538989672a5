/-
 The walks and plain laws that the claim rests on, part 56.
-/
import Derived.Test.YtdgjgcepbkanhaaGreatDoorM40
import Derived.Test.YtdgjgcepbkanhaaGreatDoorM51
import Derived.Test.YtdgjgcepbkanhaaGreatDoorM55
set_option maxHeartbeats 16000000
set_option linter.all false
set_option linter.unusedVariables false
set_option linter.unusedSimpArgs false
namespace Go.Proofs.YtdgjgcepbkanhaaGreatDoor
open Go.RowKit Go.Shelf Go.Joins
attribute [local go_sem] Oper.semAt_some
variable {Tb:Nat→UInt8 × UInt8}
set_option maxRecDepth 100000 in
theorem la_same0 (w:World) (oa ob:Option Addr) (ca cb:Nat):Calls Tryz.prog 15 #[.slice oa 0 ca,.slice ob 0 cb] w fun e w'=>e = .returned (.bool true)∧Gr w w':=by
 go_enter Tryz.func15,Tryz.ntmps15;go_wp2_with fail
 go_loopw [5] (fun v wr=>v = .int .i64 0∧wr=w) (fun v _=>0)
 case atStart=>exact⟨rfl,rfl⟩
 case round =>
  obtain⟨rfl,rfl⟩:=hrel;go_wp2_with fail;exact bodyPost_ret (v := .bool true) (by simp[results,Tryz.results15,go_sem]) rfl ⟨rfl,Gr.refl _⟩
theorem la_sameK (w:World) {b1 b2 n:Nat} {va vb:Value} {ws:List Pl.Bs} (hn:n=ws.length) (ha:RowC w b1 9 1 va n (keysV ws)) (hb:RowC w b2 9 1 vb n (keysV ws)) (hn2:n≤30000000) :
    Calls Tryz.prog 15 #[va,vb] w fun e w'=>e = .returned (.bool true)∧Gr w w':=by
 by_cases h0:n=0
 · obtain⟨a,c,rfl⟩:=rowC_zero ha h0;obtain⟨a2,c2,rfl⟩:=rowC_zero hb h0;exact la_same0 w _ _ _ _
 obtain⟨ga,ca,hva,_⟩:=ha.form (by omega);obtain⟨gb,cb,hvb,_⟩:=hb.form (by omega);exact la_same w ga gb n ca cb (keysV ws) (fun v hv=>by
  obtain⟨x,_,rfl⟩:=List.mem_map.1 hv;exact⟨_,rfl⟩) (by simp[keysV,hn]) (fun j v hv=>ha.cells (g:=ga) (by rw[hva];rfl) j v hv) (fun j v hv=>hb.cells (g:=gb) (by rw[hvb];rfl) j v hv) hn2 _ _ hva hvb
set_option maxRecDepth 100000 in
theorem lb_fails (w:World) (hw:RW Tb w) (s:ByteArray) (hs:s.size≤20000000) (h0:0<s.size) (p:Nat) (hX:Pl.itemS ⟨Pl.strS Tb,Pl.scalS⟩ (bs s) 0 = .bad 3 p) :
    Calls Tryz.prog 34 #[.string s,.int .i64 0,.int .i64 p] w fun e w'=>e = .returned (.bool true)∧Gr w w':=by
 have HR:=Lib.hid (tl_Read Tb s hs 0 0 rfl h0 w hw _ hX (by simp));clear hX;go_enter Tryz.func34,Tryz.ntmps34;go_wp2_with fail;refine HR.out.mono ?_;rintro e w1 ⟨rfl,hc,g1⟩;go_wp2_with fail
 go_ret
 exact⟨rfl,Gr.auto⟩
abbrev lx1:ByteArray:=⟨#[97,32,61,32,49,32,35,32,120,10,91,98,93]⟩
abbrev lx2:ByteArray:=⟨#[97,32,61,32,49,32,98]⟩
abbrev lx3:ByteArray:=⟨#[91,32,91,97,93,93]⟩
def li1:Pl.It:=⟨1,0,10,[([97],0,1)],4,5,0,[⟨4,[49],[],[],[],(4,5),0⟩]⟩
def li2:Pl.It:=⟨2,10,13,[([98],11,12)],0,0,0,[]⟩
theorem pl_lx1:Pl.allS ⟨Pl.strS Tb,Pl.scalS⟩ (bs lx1) = .ok [li1,li2]:=by kernel_rfl
theorem pl_lx2:Pl.itemS ⟨Pl.strS Tb,Pl.scalS⟩ (bs lx2) 0 = .bad 3 6:=by kernel_rfl
theorem pl_lx3:Pl.itemS ⟨Pl.strS Tb,Pl.scalS⟩ (bs lx3) 0 = .bad 3 2:=by kernel_rfl
theorem newRow1 (w:World) (s:ByteArray):RowC (w.alloc (.cells #[.string s] 9)) w.heap.size 9 1 (.slice (some ⟨w.heap.size,0,none⟩) 1 1) 1 (keysV [bs s]) :=
 rowC_of ⟨rfl,.inr ⟨w.heap.size,1,#[.string s],rfl,Nat.le_refl _,heap_alloc_new w _,Nat.le_refl _,by decide,rfl,by simp[keysV,strV_bs]⟩⟩
set_option maxRecDepth 100000 in
theorem lb_lives (w:World) (hw:RW Tb w):Calls Tryz.prog 16 #[] w fun e w'=>e = .returned (.bool true)∧Gr w w':=by
 have HW:=Lib.hid hw;have H1:=Lib.hid (tl_All Tb lx1 (by decide) w hw _ pl_lx1);clear hw;go_enter Tryz.func16,Tryz.ntmps16;go_wp2_with fail;refine H1.out.mono ?_;rintro e w1 ⟨v,xs,rfl,hxs,hrow,hits,g1⟩;rcases xs with _|⟨x1,_|⟨x2,_|⟨x3,xs⟩⟩⟩ <;> simp at hxs;obtain⟨o1,o2⟩:=hxs;obtain⟨g,cp,hv,_,_⟩:=hrow.form (by simp);have hc:=hrow.cells (g:=g) (by rw[hv];rfl);have hgl:=(hrow.lt g (by rw[hv];rfl)).2;have m1:=hits x1 (by simp) _ o1;have m2:=hits x2 (by simp) _ o2;simp only[List.length_cons,List.length_nil,Nat.zero_add,Nat.reduceAdd]at hv;subst hv;have c0:w1.cell? ⟨g,0,none⟩=some (.int .u8 1):=hc 0 _ (by simp[ydC,o1,o2];rfl);have c1:w1.cell? ⟨g,1,none⟩=some (.int .i64 0):=hc 1 _ (by simp[ydC,o1,o2];rfl);have c2:w1.cell? ⟨g,2,none⟩=some (.int .i64 10):=hc 2 _ (by simp[ydC,o1,o2];rfl);have c3:w1.cell? ⟨g,3,none⟩=some x1.kv:=hc 3 _ (by simp[ydC,o1,o2]);have c5:w1.cell? ⟨g,5,none⟩=some (.int .i64 4):=hc 5 _ (by simp[ydC,o1,o2];rfl);have c6:w1.cell? ⟨g,6,none⟩=some (.int .i64 5):=hc 6 _ (by simp[ydC,o1,o2];rfl);have c9:w1.cell? ⟨g,9,none⟩=some (.int .u8 2):=hc 9 _ (by simp[ydC,o1,o2];rfl);have c10:w1.cell? ⟨g,10,none⟩=some (.int .i64 10):=hc 10 _ (by simp[ydC,o1,o2];rfl);have c11:w1.cell? ⟨g,11,none⟩=some (.int .i64 13):=hc 11 _ (by simp[ydC,o1,o2];rfl);have c12:w1.cell? ⟨g,12,none⟩=some x2.kv:=hc 12 _ (by simp[ydC,o1,o2]);obtain⟨oo1,⟨ka1,kn1,kc1⟩,sl1,nl1⟩:=x1;obtain⟨oo2,⟨ka2,kn2,kc2⟩,sl2,nl2⟩:=x2;have r1:=m1.k;have r2:=m2.k;have HR1:=Lib.hid r1;have HR2:=Lib.hid r2;dsimp only [Sl.v,Yd.kv]at c3 c12;clear hc hrow hits m1 m2 r1 r2 o1 o2;have HG1:=Lib.hid g1;clear g1;go_wp2_with fail;refine (la_sameK _ (b1:=w.heap.size) (b2:=w1.heap.size+1) (n:=1) (ws:=[[97]]) rfl (HR1.out.of_block fun k e=>((((Gr.refl w1).alloc _).alloc _).block (HR1.out.lt k e).2)) (by simpa using newRow1 (w1.alloc (.cells #[.int .i64 0,.int .i64 0] 31)) ⟨#[97]⟩) (by decide)).mono ?_;rintro e w2 ⟨rfl,g2⟩;have hg12:Gr w1 w2:=(((Gr.refl w1).alloc _).alloc _).trans g2;have hu:=hg12.use.1;have d9:=(hu g 9 hgl).trans c9;have d10:=(hu g 10 hgl).trans c10;have d11:=(hu g 11 hgl).trans c11;have d12:=(hu g 12 hgl).trans c12;have HG2:=Lib.hid (HG1.out.trans hg12);have HR3:=Lib.hid (HR2.out.of_block fun k e=>hg12.block (HR2.out.lt k e).2);clear c0 c1 c2 c3 c5 c6 c9 c10 c11 c12 hu hg12 g2 HR1 HR2 HG1;go_wp2_with fail;refine (la_sameK _ (b1:=w.heap.size) (b2:=w2.heap.size) (n:=1) (ws:=[[98]]) rfl (HR3.out.of_block fun k e=>(((Gr.refl w2).alloc _).block (HR3.out.lt k e).2)) (newRow1 w2 ⟨#[98]⟩) (by decide)).mono ?_;rintro e w3 ⟨rfl,g3⟩;have HG3:=Lib.hid (HG2.out.trans (((Gr.refl w2).alloc _).trans g3));clear g3 HR3 d9 d10 d11 d12 HG2;go_wp2_with fail;refine (lb_fails w3 (HW.out.gr HG3.out) lx2 (by decide) (by decide) 6 pl_lx2).mono ?_;rintro e w4 ⟨rfl,g4⟩;have HG4:=Lib.hid (HG3.out.trans g4);clear g4 HG3;go_wp2_with fail;refine (lb_fails w4 (HW.out.gr HG4.out) lx3 (by decide) (by decide) 2 pl_lx3).mono ?_;rintro e w5 ⟨rfl,g5⟩;have hg5:=HG4.out.trans g5;clear g5 HG4;go_wp2_with fail;exact bodyPost_ret (v := .bool true) (by simp[results,Tryz.results16,go_sem]) rfl ⟨rfl,hg5⟩
end Go.Proofs.YtdgjgcepbkanhaaGreatDoor
namespace Go.Proofs.YtdgjgcepbkanhaaGreatDoor
open Go.RowKit Go.Shelf Go.Joins
variable {Tb:Nat→UInt8 × UInt8}
namespace Pl
theorem tiles_len {E:Env} (hE:EnvOk E) (s:Bs) (hs:s.length≤20000000) (n:Nat) (l:List It) (h:Tiles E s n l):n+l.length≤s.length:=by
 induction h with
 | nil=>simp
 | cons n it l hn hi _ ih =>
  have:=((itemS_ok hE s hs n hn).2.2 it hi).lt;simp only[List.length_cons];omega
theorem item_wlen {E:Env} (hE:EnvOk E) (s:Bs) (n:Nat) (hn:n≤s.length) (it:It) (h:itemS E s n = .ok it):it.ws.length≤s.length:=by
 have hb:=blanksAt_le s n hn;have key:∀k ws e,k≤s.length→keyS E s k = .ok (ws,e)→ws.length≤s.length:=fun k ws e hk hq=>by
  have h1:=keyF_len hE (s.length+2) k [] ws e hk hq;have h2:=((keyS_le hE hk).1 _ _ hq).2.1;simp only[List.length_nil]at h1;omega
 have hd:∀kd ends e,blanksAt s n+ends.length≤s.length→∀i0,headerS E s kd (blanksAt s n) ends = .ok (e,i0)→i0.ws.length≤s.length:=fun kd ends e hl i0 hq=>by
  unfold headerS at hq
  split at hq
  · cases hq
  · cases hq
  rename_i ws e' hk
  split at hq
  · cases hq
  cases hq;exact key _ _ _ (blanksAt_le s _ hl).2 hk
 unfold itemS at h;cases hbd:bodyS E s (blanksAt s n) with
 | non=>rw[hbd]at h;cases h
 | bad c p=>rw[hbd]at h;cases h
 | ok r =>
  obtain⟨e,i0⟩:=r;rw[hbd]at h;simp only at h;have hw:i0.ws.length≤s.length:=by
   unfold bodyS at hbd
   split at hbd
   · rename_i hp
     have:=pre_length _ _ hp;rw[List.length_drop]at this;simp only[List.length_cons,List.length_nil]at this;exact hd 3 [93,93] e (by simp only[List.length_cons,List.length_nil];omega) i0 hbd
   split at hbd
   · rename_i hp
     have:=pre_length _ _ hp;rw[List.length_drop]at this;simp only[List.length_cons,List.length_nil]at this;exact hd 2 [93] e (by simp only[List.length_cons,List.length_nil];omega) i0 hbd
   split at hbd
   · cases hbd;simp
   unfold pairI at hbd
   split at hbd
   · cases hbd
   · cases hbd
   rename_i ws e' hk
   split at hbd
   · cases hbd
   split at hbd
   · cases hbd
   · cases hbd
   cases hbd;exact key _ _ _ hb.2 hk
  split at h
  · cases h
  cases h;exact hw
theorem tiles_wlen {E:Env} (hE:EnvOk E) (s:Bs) (n:Nat) (l:List It) (h:Tiles E s n l):∀(i:Nat) (it:It),l[i]?=some it→it.ws.length≤s.length:=by
 induction h with
 | nil=>intro i it h;simp at h
 | cons n x l hn hi _ ih =>
  intro i it h;cases i with
  | zero=>simp at h;subst h;exact item_wlen hE s n (by omega) x hi
  | succ i=>exact ih i it (by simpa using h)
theorem tiles_in {E:Env} (hE:EnvOk E) (s:Bs) (hs:s.length≤20000000) (n:Nat) (l:List It) (h:Tiles E s n l):∀(i:Nat) (it:It),l[i]?=some it→it.a≤s.length∧it.b≤s.length:=by
 induction h with
 | nil=>intro i it h;simp at h
 | cons n x l hn hi _ ih =>
  intro i it h;cases i with
  | zero=>simp at h;subst h;have q:=(itemS_ok hE s hs n hn).2.2 x hi;exact⟨by rw[q.a];omega,q.le⟩
  | succ i=>exact ih i it (by simpa using h)
theorem tiles_next {E:Env} (hE:EnvOk E) (s:Bs) (hs:s.length≤20000000) {n:Nat} {l:List It} (h:Tiles E s n l) (hl:l≠[]):n<s.length:=by
 cases h with
 | nil=>exact absurd rfl hl
 | cons _ _ _ hn _ _=>exact hn
end Pl
theorem flat9:∀(xs:List Yd) (_:∀x∈xs,∃it,x.o = .ok it) (i:Nat) (x:Yd),xs[i]?=some x→∀j,j<9→(xs.flatMap ydC)[i*9+j]?=(ydC x)[j]?
 | [],_,i,x,h,_,_=>by simp at h
 | y::xs,hf,i,x,h,j,hj=>by
  have hy:=ydC_len y (hf y (List.mem_cons_self ..));rw[List.flatMap_cons];cases i with
  | zero =>
   simp at h;subst h;rw[Nat.zero_mul,Nat.zero_add,List.getElem?_append_left (by omega)]
  | succ i =>
   rw[List.getElem?_append_right (by omega),hy,show (i+1)*9+j-9=i*9+j by omega];exact flat9 xs (fun z hz=>hf z (List.mem_cons_of_mem _ hz)) i x (by simpa using h) j hj
theorem fine_of {xs:List Yd} {l:List Pl.It} (h:xs.map (·.o)=l.map .ok):∀x∈xs,∃it,x.o = .ok it:=fun x hx=>by
 have h1:x.o∈xs.map (·.o):=List.mem_map_of_mem hx;rw[h]at h1;obtain⟨it,_,e⟩:=List.mem_map.1 h1;exact⟨it,e.symm⟩
theorem o_at {xs:List Yd} {l:List Pl.It} (h:xs.map (·.o)=l.map .ok) {i:Nat} {x:Yd} {it:Pl.It} (hx:xs[i]?=some x) (hi:l[i]?=some it):x.o = .ok it:=by
 have h1:=congrArg (·[i]?) h;simp only[List.getElem?_map,hx,hi,Option.map_some,Option.some.injEq]at h1;exact h1
theorem row_slice {w:World} {base e size n:Nat} {v:Value} {xs:List Value} (h:RowC w base e size v n xs):∃a c,v = .slice a n c:=by
 rcases rowC_form h with⟨rfl,h0⟩|⟨g,cap,rfl,_,_⟩
 · exact⟨_,_,by rw[h0]⟩
 exact⟨_,_,rfl⟩
theorem spots_at:∀(l:List (Nat × Nat)) (k:Nat) (p:Nat × Nat),l[k]?=some p→(spotsV l)[k*2+1]?=some (.int .i64 p.2)
 | [],k,p,h=>by simp at h
 | q::l,0,p,h=>by simp at h;subst h;rfl
 | q::l,k+1,p,h=>by
  have:=spots_at l k p (by simpa using h);show ([Value.int .i64 q.1,Value.int .i64 q.2]++spotsV l)[(k+1)*2+1]?=_;rw[List.getElem?_append_right (by simp;omega),show (k+1)*2+1-[Value.int IntKind.i64 ↑q.fst,Value.int IntKind.i64 ↑q.snd].length=k*2+1 by simp;omega];exact this
theorem bs_cut (s:ByteArray) (a b:Nat):bs (s.extract a b)=((bs s).drop a).take (b-a):=by
 simp only[bs,Lib.extract_data]
end Go.Proofs.YtdgjgcepbkanhaaGreatDoor
