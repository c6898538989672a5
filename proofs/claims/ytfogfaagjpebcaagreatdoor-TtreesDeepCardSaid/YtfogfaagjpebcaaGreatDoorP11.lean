/-
 The walks and plain laws that the claim rests on, part 11.
-/
import Derived.Test.YtfogfaagjpebcaaGreatDoorP00
import Derived.Test.YtfogfaagjpebcaaGreatDoorP04
import Derived.Test.YtfogfaagjpebcaaGreatDoorP06
import Derived.Test.YtfogfaagjpebcaaGreatDoorP08
import Derived.RangeFuncNested
import Derived.RangeFuncBound
import Derived.RangeFuncCalls
import Derived.RangeFuncLeaves
import Derived.Shelf.Abstract
import Derived.Shelf.RegionOpen
import Derived.WalkKit
import Derived.OwnWalkIn
import Derived.TacticsInMore
import Derived.LoopNIn
import Derived.LoopIn
import Derived.Lib.SmallJoins
import Derived.Deep.RegionHeld3
import Derived.Laws.StructEq
import Derived.LaidEql
import Derived.Stop.Asserts
import Derived.RowKitTokens
set_option maxHeartbeats 16000000
set_option linter.all false
set_option linter.unusedVariables false
set_option linter.unusedSimpArgs false
namespace Go.Proofs.YtfogfaagjpebcaaGreatDoor
open Go.RowKit
theorem indexByte_step (c b:UInt8) (l:List UInt8) (h:(c==b)=false) (k:Int) (hk:Lib.indexByte l b=k):Lib.indexByte (c::l) b=if k = -1 then -1 else k+1:=by
 unfold Lib.indexByte;rw[h,hk];simp only[Bool.false_eq_true,if_false,beq_iff_eq]
theorem indexByte_cases (l:List UInt8) (b:UInt8):Lib.indexByte l b = -1∨∃i:Nat,Lib.indexByte l b=i:=by
 induction l with
 | nil=>exact .inl rfl
 | cons c l ih =>
  cases hc:(c==b) with
  | true=>exact .inr ⟨0,by unfold Lib.indexByte;rw[hc];rfl⟩
  | false =>
   rcases ih with h|⟨i,h⟩
   · rw[indexByte_step c b l hc _ h];exact .inl rfl
   rw[indexByte_step c b l hc _ h,if_neg (by omega)];exact .inr ⟨i+1,by omega⟩
theorem indexByte_has (l:List UInt8) (c:UInt8):decide (0≤Lib.indexByte l c)=l.contains c:=by
 induction l with
 | nil=>rfl
 | cons b l ih =>
  rw[List.contains_cons];cases hc:(b==c) with
  | true =>
   have:b=c:=by simpa using hc
   subst this;unfold Lib.indexByte;simp
  | false =>
   have h2:(c==b)=false:=by
    have:¬b=c:=by simpa using hc
    simpa using fun e=>this e.symm
   rw[h2,Bool.false_or,←ih];rcases indexByte_cases l c with h|⟨i,h⟩
   · rw[indexByte_step b c l hc _ h,h];rfl
   rw[indexByte_step b c l hc _ h,h,if_neg (by omega)];simp;omega
theorem indexByte_at (set:ByteArray) (c:UInt8) (b:Bool) (h:(bs set).contains c=b) (w:World) :
    Calls Tryz.prog 43 #[.string set,.int .u8 c.toNat] w fun e w'=>(∃i:Int,e = .returned (.int .i64 i)∧decide (0≤i)=b)∧w=w':=by
 refine (Tryz.strings_IndexByte _ _ w).mono ?_;refine Z48 ?_;refine⟨⟨Lib.indexByte (bs set) c,ret_int (by congr 1;simp),?_⟩,rfl⟩;rw[indexByte_has,h]
end Go.Proofs.YtfogfaagjpebcaaGreatDoor
namespace Go.Proofs.YtfogfaagjpebcaaGreatDoor
open Go.RowKit Go.Shelf Go.Joins
attribute [local go_sem] Oper.semAt_some
abbrev decD:ByteArray:=⟨#[48,49,50,51,52,53,54,55,56,57]⟩
abbrev tensV:Value := .agg #[.string ⟨#[]⟩,.int .i64 10,.string decD]
theorem in_tens (w:World):Calls Tryz.prog 141 #[] w fun e w'=>e = .returned tensV∧Gr w w':=by
 go_enter Tryz.func141,Tryz.ntmps141;go_wp2_with fail;exact bodyPost_ret (v:=tensV) (by simp[results,Tryz.results141,go_sem]) rfl ⟨rfl,Gr.auto⟩
def radC:Array Value:=#[.string ⟨#[48,120]⟩,.int .i64 16,.string ⟨#[48,49,50,51,52,53,54,55,56,57,97,98,99,100,101,102,65,66,67,68,69,70]⟩,.string ⟨#[48,111]⟩,.int .i64 8,.string ⟨#[48,49,50,51,52,53,54,55]⟩,.string ⟨#[48,98]⟩,.int .i64 2,.string ⟨#[48,49]⟩]
def RadW (w:World):Prop:=∀j v,radC[j]?=some v→w.cell? ⟨12,j,none⟩=some v
def noRad (l:List UInt8):Prop:=Pl.pre l [48,120]=false∧Pl.pre l [48,111]=false∧Pl.pre l [48,98]=false
theorem prefix_whole (s p:ByteArray) (b:Bool) (h:Pl.pre (bs s) (bs p)=b) (w:World) :
    Calls Tryz.prog 9 #[.string s,.string p] w fun e w'=>e = .returned (.bool b)∧w=w':=by
 refine (Tryz.strings_HasPrefix _ _ w).mono ?_;refine Z48 ?_;exact⟨by rw[hasPrefix_pre];exact ret_bool h,rfl⟩
set_option maxRecDepth 100000 in
theorem in_of (s:ByteArray) (hn:noRad (bs s)) (w:World) (hr:RadW w) :
    Calls Tryz.prog 140 #[.string s] w fun e w'=>e = .returned tensV∧Gr w w':=by
 have r0:w.cell? ⟨12,0,none⟩=some (.string ⟨#[48,120]⟩):=hr 0 _ rfl;have r1:w.cell? ⟨12,1,none⟩=some (.int .i64 16):=hr 1 _ rfl;have r2:w.cell? ⟨12,2,none⟩=some (.string ⟨#[48,49,50,51,52,53,54,55,56,57,97,98,99,100,101,102,65,66,67,68,69,70]⟩):=hr 2 _ rfl;have r3:w.cell? ⟨12,3,none⟩=some (.string ⟨#[48,111]⟩):=hr 3 _ rfl;have r4:w.cell? ⟨12,4,none⟩=some (.int .i64 8):=hr 4 _ rfl;have r5:w.cell? ⟨12,5,none⟩=some (.string ⟨#[48,49,50,51,52,53,54,55]⟩):=hr 5 _ rfl;have r6:w.cell? ⟨12,6,none⟩=some (.string ⟨#[48,98]⟩):=hr 6 _ rfl;have r7:w.cell? ⟨12,7,none⟩=some (.int .i64 2):=hr 7 _ rfl;have r8:w.cell? ⟨12,8,none⟩=some (.string ⟨#[48,49]⟩):=hr 8 _ rfl;have hlt:12<w.heap.size:=Lib.lt_of_cell r0;have H1:=Lib.hid hn.1;have H2:=Lib.hid hn.2.1;have H3:=Lib.hid hn.2.2;have i0:∀W,(Instr.index 228 (.agg radC) (.int .i64 0)).run Tryz.prog W = .ok (.agg #[.string ⟨#[48,120]⟩,.int .i64 16,.string ⟨#[48,49,50,51,52,53,54,55,56,57,97,98,99,100,101,102,65,66,67,68,69,70]⟩]) W:=fun _=>by kernel_rfl
 have i1:∀W,(Instr.index 228 (.agg radC) (.int .i64 1)).run Tryz.prog W = .ok (.agg #[.string ⟨#[48,111]⟩,.int .i64 8,.string ⟨#[48,49,50,51,52,53,54,55]⟩]) W:=fun _=>by kernel_rfl
 have i2:∀W,(Instr.index 228 (.agg radC) (.int .i64 2)).run Tryz.prog W = .ok (.agg #[.string ⟨#[48,98]⟩,.int .i64 2,.string ⟨#[48,49]⟩]) W:=fun _=>by kernel_rfl
 unfold radC at i0 i1 i2;clear hn hr;go_enter Tryz.func140,Tryz.ntmps140;go_wp2_with fail
 go_loopw [6] (fun v wr=>∃k:Nat,v = .int .i64 k∧(k=0∨k=1∨k=2∨k=3)∧Gr (w.alloc (.cells #[.string ⟨#[]⟩,.int .i64 0,.string ⟨#[]⟩] 215)) wr) (fun v _=>3-(intOf v).toNat)
 case atStart=>exact⟨0,rfl,.inl rfl,Gr.refl _⟩
 case round =>
  obtain⟨k,rfl,hk,hg⟩:=hrel;obtain⟨hc,hf,hz⟩:=hg.use;rcases hk with rfl|rfl|rfl|rfl
  · clear hc hf;go_wp2_with (go_at_call 9;refine (prefix_whole s ⟨#[48,120]⟩ false H1.out _).mono ?_;rintro e w1 ⟨rfl,rfl⟩);exact J34
  · clear hc hf;go_wp2_with (go_at_call 9;refine (prefix_whole s ⟨#[48,111]⟩ false H2.out _).mono ?_;rintro e w1 ⟨rfl,rfl⟩)
    go_roundw
    case rel=>exact⟨2,rfl,.inr (.inr (.inl rfl)),hg.alloc _⟩
    case measure=>simp[intOf]
  · clear hc hf;go_wp2_with (go_at_call 9;refine (prefix_whole s ⟨#[48,98]⟩ false H3.out _).mono ?_;rintro e w1 ⟨rfl,rfl⟩)
    go_roundw
    case rel=>exact⟨3,rfl,.inr (.inr (.inr rfl)),hg.alloc _⟩
    case measure=>simp[intOf]
  have p0:wr.cell? ⟨w.heap.size,0,none⟩=some (.string ⟨#[]⟩):=(hc _ _ (by simp)).trans (by simp);have p1:wr.cell? ⟨w.heap.size,1,none⟩=some (.int .i64 0):=(hc _ _ (by simp)).trans (by simp);have p2:wr.cell? ⟨w.heap.size,2,none⟩=some (.string ⟨#[]⟩):=(hc _ _ (by simp)).trans (by simp);have pf:∀o,wr.frozen? ⟨w.heap.size,o,none⟩=false:=fun o=>(hf _ _ (by simp)).trans (by simp[go_sem])
  simp only[World.size_alloc]at hz;go_wp2_with (go_at_call 141;refine (in_tens _).mono ?_;rintro e w2 ⟨rfl,g2⟩;obtain⟨hc2,hf2,hz2⟩:=g2.use;have q0:w2.cell? ⟨w.heap.size,0,none⟩=some (.string ⟨#[]⟩):=(hc2 _ _ (by omega)).trans p0;have q1:w2.cell? ⟨w.heap.size,1,none⟩=some (.int .i64 0):=(hc2 _ _ (by omega)).trans p1;have q2:w2.cell? ⟨w.heap.size,2,none⟩=some (.string ⟨#[]⟩):=(hc2 _ _ (by omega)).trans p2;have qf:∀o,w2.frozen? ⟨w.heap.size,o,none⟩=false:=fun o=>(hf2 _ _ (by omega)).trans (pf o);have hlw:w.heap.size<w2.heap.size:=by omega);have hg2:Gr w w2:=(((Gr.refl w).alloc _).trans hg).trans g2;exact bodyPost_ret (v:=tensV) (by simp[results,Tryz.results140,go_sem,q0,q1,q2,qf,hlw]) rfl ⟨rfl,by (repeat refine Gr.setCell ?_ (Nat.le_refl _) _);exact hg2⟩
end Go.Proofs.YtfogfaagjpebcaaGreatDoor
namespace Go.Proofs.YtfogfaagjpebcaaGreatDoor
open Go.RowKit Go.Shelf Go.Joins
attribute [local go_sem] Oper.semAt_some
theorem sp_make (s:ByteArray) (w:World) :
    Calls Tryz.prog 160 #[.string s,.string ⟨#[95]⟩] w fun e w'=>e = .returned (.func (.func 195) #[] #[.pointer (some ⟨w.heap.size+1,0,none⟩),.pointer (some ⟨w.heap.size,0,none⟩),.pointer (some ⟨w.heap.size+1+1,0,none⟩)]) ∧
     w'=((w.alloc (.cells #[.string s] 9)).alloc (.cells #[.string ⟨#[95]⟩] 9)).alloc (.cells #[.int .i64 0] 3):=by
 go_enter Tryz.func160,Tryz.ntmps160
 go_wp2
 go_ret
 exact⟨rfl,rfl⟩
theorem KeepsOthers.of_gr {W W':World} (g:Gr W W'):KeepsOthers W W':=⟨g.size,fun k o hk _=>(g.block (Array.getElem?_eq_some_iff.1 hk).1).trans hk⟩
def isDec (c:UInt8):Bool:=decide (48≤c.toNat) && decide (c.toNat≤57)
end Go.Proofs.YtfogfaagjpebcaaGreatDoor
namespace Go.Proofs.YtfogfaagjpebcaaGreatDoor
open Go.RowKit Go.Shelf Go.Joins
attribute [local go_sem] Oper.semAt_some
theorem err_is_none (t:TypeId) (v:Value) (w:World):Calls Tryz.prog 145 #[.nilIface,.iface t v] w fun e w'=>e = .returned (.bool false)∧Gr w w':=by
 have q:∀W,(Go.binOp .eql 45 .nilIface (.iface t v)).run Tryz.prog W = .ok (.bool false) W:=fun W=>run_eql_iface_nil_left W t v Tryz.underlying45
 go_enter Tryz.func145,Tryz.ntmps145;exact J16
structure IntW (w:World):Prop where
 rad:RadW w
 max:∃m:Int,w.cell? ⟨0,0,none⟩=some (.int .i64 m)
 err:∃p,w.cell? ⟨11,0,none⟩=some (.iface 280 (.pointer (some p)))
 pow:Lib.TabIs Tryz.prog w "internal/strconv.uint64pow10" .u64 Lib.pow10Tab
theorem IntW.gr {w w':World} (h:IntW w) (g:Gr w w'):IntW w':=by
 have hc:=g.use.1;have hl:∀ {b o:Nat} {v},w.cell? ⟨b,o,none⟩=some v→b<w.heap.size:=fun e=>Lib.lt_of_cell e
 obtain⟨m,hm⟩:=h.max;obtain⟨p,he⟩:=h.err;refine⟨fun j v hj=>(hc _ _ (hl (h.rad j v hj))).trans (h.rad j v hj),⟨m,(hc _ _ (hl hm)).trans hm⟩,⟨p,(hc _ _ (hl he)).trans he⟩,?_⟩;have hp:=h.pow;have hgn:Tryz.prog.globalNamed "internal/strconv.uint64pow10" = some 1:=by kernel_rfl
 unfold Lib.TabIs World.var? at hp ⊢;rw[hgn]at hp ⊢;simp only[Option.bind_some]at hp ⊢;have hlt:1<w.heap.size:=by
  exact J35
 rw[g.block hlt];exact hp
theorem replace_low (s:ByteArray) (hz:s.size≤20000000) (w:World) (hw:IntW w) :
    Calls Tryz.prog 144 #[.string s,.string ⟨#[95]⟩,.string ⟨#[]⟩] w fun e w'=>e = .returned (.string ⟨(Lib.replaceAll (bs s) [95] []).toArray⟩)∧Gr w w':=by
 obtain⟨m,hm⟩:=hw.max;refine (Tryz.strings_ReplaceAll s ⟨#[95]⟩ ⟨#[]⟩ m w (by omega) hm (by decide) (by rw[show (⟨#[]⟩:ByteArray).size=0 from rfl];omega)).mono ?_;rintro e w' ⟨rfl,hb⟩;exact⟨rfl,hb⟩
theorem grow_gr (w:World) (k:Nat) (os):Gr w (Sort.grow (w.drewN k) os):=by
 refine⟨rfl,rfl,rfl,by simp[Sort.grow,World.drewN],fun j hj=>?_⟩;simp[Sort.grow,World.drewN,Array.getElem?_append_left hj]
theorem parse_ok (s:ByteArray) (hs:s.size≤20000000) (v:Int) (h:Lib.parseIntB 64 s.data.toList = .ok v) (w:World) :
    Calls Tryz.prog 143 #[.string s,.int .i64 10,.int .i64 64] w fun e w'=>e = .returned (.tuple #[.int .i64 v,.nilIface])∧Gr w w':=by
 refine (Tryz.strconv_ParseInt_10_at64_ok s (by omega) v h w).mono ?_;rintro e w' ⟨rfl,h⟩;refine⟨rfl,?_⟩;rcases h with rfl|⟨t,rfl⟩
 · exact Gr.refl _
 exact Lib.bytesWorld_below _ _ _
end Go.Proofs.YtfogfaagjpebcaaGreatDoor
namespace Go.Proofs.YtfogfaagjpebcaaGreatDoor
open Go.RowKit Go.Extern.Stop Go.Stop Go.Extern
theorem isTypeOf (v:Value) (w:World):(Extern.ReflectliteType.typeOf #[.iface 280 v]).run Tryz.prog w = .ok (.iface 258 (.agg #[.pointer (some ⟨16,280,none⟩)])) w:=by kernel_rfl
theorem isComparable (w:World):((Extern.ReflectliteType.method fun t=>do Go.Extern.Rtype.noPackHeld "Comparable" t;pure (.bool (←typeInfo t).comparable)) #[.agg #[.pointer (some ⟨16,280,none⟩)]]).run Tryz.prog w = .ok (.bool true) w:=by kernel_rfl
theorem isMethodComparable (v:Value) (w:World):(Go.method 428 258 v "Comparable").run Tryz.prog w = .ok (250,v) w:=by kernel_rfl
theorem isComp:(Tryz.prog.info? 280).map (·.comparable)=some true:=by kernel_rfl
theorem isSize:(Tryz.prog.info? 282).map (·.size)=some 1:=by kernel_rfl
theorem noIsW (v:Value) (xT:TypeId) (w:World):(Instr.typeAssert (.iface 254 v) xT 260 true).run Tryz.prog w = .ok (.tuple #[.nilIface,.bool false]) w:=run_typeAssert_lacksB Tryz.underlying260 (by kernel_rfl) (by kernel_rfl) v xT w
theorem hasUnwrapW (v:Value) (xT:TypeId) (w:World):(Instr.typeAssert (.iface 254 v) xT 263 true).run Tryz.prog w = .ok (.tuple #[.iface 254 v,.bool true]) w:=run_typeAssert_hasB Tryz.underlying263 (by kernel_rfl) v xT w
theorem methodUnwrap (v:Value) (w:World):(Go.method 428 254 v "Unwrap").run Tryz.prog w = .ok (246,v) w:=by kernel_rfl
set_option maxRecDepth 100000 in
theorem is_range (pb:Nat) (b:Addr) (w:World) (h1:w.cell? ⟨pb,2,none⟩=some (.iface 280 (.pointer (some b)))) :
    Calls Tryz.prog 145 #[.iface 254 (.pointer (some ⟨pb,0,none⟩)),.iface 280 (.pointer (some b))] w fun e w'=>e = .returned (.bool true)∧w'=w:=by
 obtain⟨i,hi,hcmp⟩:=Option.map_eq_some_iff.1 isComp;obtain⟨j,hj,hjs⟩:=Option.map_eq_some_iff.1 isSize;have h8 := @run_callFunc_extern Tryz.prog 165 _ Extern.ReflectliteType.typeOf Tryz.func165 (by kernel_rfl) (by kernel_rfl) (by kernel_rfl) (by kernel_rfl);have h32 := @run_callFunc_extern Tryz.prog 250 _ (Extern.ReflectliteType.method fun t=>do Go.Extern.Rtype.noPackHeld "Comparable" t;pure (.bool (←typeInfo t).comparable)) Tryz.func250 (by kernel_rfl) (by kernel_rfl) (by kernel_rfl) (by kernel_rfl);have tT:=isTypeOf;have hC:∀w,(callFunc 250 #[.agg #[.pointer (some ⟨16,280,none⟩)]]).run Tryz.prog w = .ok (.value (.bool true)) w:=fun w=>by rw[h32,isComparable];rfl
 clear h32;have mR:=isMethodComparable;have nW:=noIsW;have uW:=hasUnwrapW;have mU:=methodUnwrap;have heq:=run_eql_iface_ptr_same (P:=Tryz.prog) w b Tryz.underlying45 Tryz.underlying280 hi hcmp hj;have hty:=run_eql_iface_types (P:=Tryz.prog) 254 280 (.pointer (some ⟨pb,0,none⟩)) (.pointer (some b)) Tryz.underlying45 (by decide) w;go_enter Tryz.func145,Tryz.ntmps145
 go_wp2
 refine wp_loop_rounds 2 ?_;rw[rounds_succ]
 go_wp2
 rw[rounds_succ]
 go_wp2
 go_ret
 exact⟨rfl,rfl⟩
end Go.Proofs.YtfogfaagjpebcaaGreatDoor
namespace Go.Proofs.YtfogfaagjpebcaaGreatDoor
open Go.RowKit Go.Shelf Go.Joins
attribute [local go_sem] Oper.semAt_some
abbrev pmD:ByteArray:=⟨#[43,45,95,46]⟩
def itPos (w:World) (b:Nat):Nat:=match w.heap[b]? with
 | some (.stringIter _ p)=>p
 | _=>0
theorem itPos_iter (w:World) (s:ByteArray) (k:Nat):itPos (w.iter s k) w.heap.size=k:=by unfold itPos;rw[World.iter_heap]
theorem gr_iter (w:World) (s:ByteArray) (k:Nat):Gr w (w.iter s k):=(Gr.refl w).alloc _
set_option maxRecDepth 100000 in
theorem idxRune_error (w:World) :
    Calls Tryz.prog 125 #[.string pmD,.int .i32 65533] w fun e w'=>e = .returned (.int .i64 (-1))∧Gr w w':=by
 have n0:∀ty,(Instr.next (.pointer (some ⟨w.heap.size,0,none⟩)) true ty).run Tryz.prog (w.iter pmD 0) = .ok (.tuple #[.bool true,.int .i64 0,.int .i32 43]) (w.iter pmD 1):=fun ty=>run_next_ascii w pmD 0 ty (by decide) (by decide)
 have n1:∀ty,(Instr.next (.pointer (some ⟨w.heap.size,0,none⟩)) true ty).run Tryz.prog (w.iter pmD 1) = .ok (.tuple #[.bool true,.int .i64 1,.int .i32 45]) (w.iter pmD 2):=fun ty=>run_next_ascii w pmD 1 ty (by decide) (by decide)
 have n2:∀ty,(Instr.next (.pointer (some ⟨w.heap.size,0,none⟩)) true ty).run Tryz.prog (w.iter pmD 2) = .ok (.tuple #[.bool true,.int .i64 2,.int .i32 95]) (w.iter pmD 3):=fun ty=>run_next_ascii w pmD 2 ty (by decide) (by decide)
 have n3:∀ty,(Instr.next (.pointer (some ⟨w.heap.size,0,none⟩)) true ty).run Tryz.prog (w.iter pmD 3) = .ok (.tuple #[.bool true,.int .i64 3,.int .i32 46]) (w.iter pmD 4):=fun ty=>run_next_ascii w pmD 3 ty (by decide) (by decide)
 have n4:∀ty,(Instr.next (.pointer (some ⟨w.heap.size,0,none⟩)) true ty).run Tryz.prog (w.iter pmD 4) = .ok (.tuple #[.bool false]) (w.iter pmD 4):=fun ty=>run_next_end w pmD 4 ty (by decide)
 go_enter Tryz.func125,Tryz.ntmps125;go_wp2_with fail
 go_loopw [5] (fun _ wr=>∃k:Nat,wr=w.iter pmD k∧(k=0∨k=1∨k=2∨k=3∨k=4)) (fun _ wr=>4-itPos wr w.heap.size)
 case atStart=>exact⟨0,rfl,.inl rfl⟩
 case round =>
  obtain⟨k,rfl,hk⟩:=hrel;rcases hk with rfl|rfl|rfl|rfl|rfl
  · go_wp2_with fail
    go_roundw
    case rel=>exact⟨1,rfl,by simp⟩
    case measure=>simp only[itPos_iter];omega
  · go_wp2_with fail
    go_roundw
    case rel=>exact⟨2,rfl,by simp⟩
    case measure=>simp only[itPos_iter];omega
  · go_wp2_with fail
    go_roundw
    case rel=>exact⟨3,rfl,by simp⟩
    case measure=>simp only[itPos_iter];omega
  · go_wp2_with fail
    go_roundw
    case rel=>exact⟨4,rfl,by simp⟩
    case measure=>simp only[itPos_iter];omega
  go_wp2_with fail
  go_ret
  exact⟨rfl,gr_iter _ _ _⟩
set_option maxRecDepth 100000 in
theorem idxRune_bad (x:Int) (h:128≤x) (hx:(x==65533)=false) (hv:Lib.validRune x=false) (w:World) :
    Calls Tryz.prog 125 #[.string pmD,.int .i32 x] w fun e w'=>e = .returned (.int .i64 (-1))∧Gr w w':=by
 have h1:decide (x<128)=false:=by simp;omega
 have h2:decide (0≤x)=true:=by simp;omega
 have HV:=Lib.hid hv;clear hv;go_enter Tryz.func125,Tryz.ntmps125;go_wp2_with (go_at_call 106;refine (Tryz.utf8_ValidRune x _).mono ?_;rw[HV.out];rintro e w' ⟨rfl,rfl⟩)
 go_ret
 exact⟨rfl,Gr.refl _⟩
theorem enc_last (x:Int) (h:128≤x) (hx:x≤1114111):∃m:Nat,(m=1∨m=2∨m=3)∧∃hz:(Utf8.encode x).size=m+1,128≤((Utf8.encode x)[m]'(by omega)).toNat:=by
 have hb:∀n:Nat,128≤(UInt8.ofNat (128+n % 64)).toNat:=by intro n;simp;omega
 have key:∀c:Nat,¬c<128→∀u:ByteArray,u=(if c<0x80 then ⟨#[UInt8.ofNat c]⟩
     else if c<0x800 then ⟨#[UInt8.ofNat (0xC0+c / 64),UInt8.ofNat (0x80+c % 64)]⟩
     else if c<0x10000 then ⟨#[UInt8.ofNat (0xE0+c / 4096),UInt8.ofNat (0x80+c / 64 % 64),UInt8.ofNat (0x80+c % 64)]⟩
     else ⟨#[UInt8.ofNat (0xF0+c / 262144),UInt8.ofNat (0x80+c / 4096 % 64),UInt8.ofNat (0x80+c / 64 % 64),UInt8.ofNat (0x80+c % 64)]⟩) →
     ∃m:Nat,(m=1∨m=2∨m=3)∧∃hz:u.size=m+1,128≤(u[m]'(by omega)).toNat:=by
  intro c h80 u hu;rw[if_neg h80]at hu
  split at hu
  · subst hu;exact⟨1,by simp,rfl,hb _⟩
  split at hu
  · subst hu;exact⟨2,by simp,rfl,hb _⟩
  subst hu;exact⟨3,by simp,rfl,hb _⟩
 refine key (if Utf8.valid x=true then x.toNat else Utf8.runeError) ?_ (Utf8.encode x) rfl
 split
 · omega
 simp[Utf8.runeError]
theorem pm_byte (k j:Nat) (c:UInt8) (h:128≤c.toNat) (W:World) :
    Calls Tryz.prog 43 #[.string (pmD.extract k j),.int .u8 (c.toNat:Int)] W fun e w'=>e = .returned (.int .i64 (-1))∧W=w':=by
 refine (Tryz.strings_IndexByte _ _ W).mono ?_;refine Z48 ?_;refine⟨ret_int ?_,rfl⟩;have hl:∀b∈(pmD.extract k j).data.toList,b.toNat<128:=by
  intro b hb;rw[ByteArray.data_extract,Array.toList_extract,List.extract_eq_take_drop]at hb;have h2:=List.mem_of_mem_drop (List.mem_of_mem_take hb);simp at h2;rcases h2 with rfl|rfl|rfl|rfl <;> decide
 generalize (pmD.extract k j).data.toList=l at hl;rw[Lib.byte_back]
 induction l with
 | nil=>rfl
 | cons b l ih =>
  unfold Lib.indexByte;have hb:=hl b (by simp);have hne:(b==c)=false:=by
   cases hbc:b==c with
   | false=>rfl
   | true=>rw[beq_iff_eq.1 hbc]at hb;omega
  rw[hne,ih (fun x hx=>hl x (List.mem_cons_of_mem _ hx))];rfl
theorem pm_byte0 (c:UInt8) (W:World) :
    Calls Tryz.prog 43 #[.string ByteArray.empty,.int .u8 (c.toNat:Int)] W fun e w'=>e = .returned (.int .i64 (-1))∧W=w':=by
 refine (Tryz.strings_IndexByte _ _ W).mono ?_;refine Z48 ?_;exact⟨rfl,rfl⟩
set_option maxRecDepth 100000 in
theorem idxRune_valid (x:Int) (h:128≤x) (hx:(x==65533)=false) (hv:Lib.validRune x=true) (hm:x≤1114111) (w:World) :
    Calls Tryz.prog 125 #[.string pmD,.int .i32 x] w fun e w'=>e = .returned (.int .i64 (-1))∧Gr w w':=by
 have h1:decide (x<128)=false:=by simp;omega
 have h2:decide (0≤x)=true:=by simp;omega
 have HV:=Lib.hid hv;obtain⟨m,hm3,hz,hl⟩:=enc_last x h hm;obtain⟨c,hc⟩:∃c,(Utf8.encode x)[m]'(by omega)=c:=⟨_,rfl⟩
 rw[hc]at hl;obtain⟨u,hu⟩:∃u,Utf8.encode x=u:=⟨_,rfl⟩
 have w2:IntKind.i64.wrap 2=2:=by decide
 have w3:IntKind.i64.wrap 3=3:=by decide
 have w4:IntKind.i64.wrap 4=4:=by decide
 rcases hm3 with rfl|rfl|rfl
 · clear hv;simp only[hu]at hz hc;have hcn:u[1].toNat=c.toNat:=by rw[hc]
   go_enter Tryz.func125,Tryz.ntmps125;go_wp2_with (go_at_call 106;refine (Tryz.utf8_ValidRune x _).mono ?_;rw[HV.out];rintro e w' ⟨rfl,rfl⟩)
   go_step3
   go_wp2_with fail;have hA:Hid (pmD.size=4):=rfl;have b1:(((pmD[1]'(by decide)).toNat:Int) != (c.toNat:Int))=true:=by
    have:(pmD[1]'(by decide)).toNat=45:=rfl;rw[this];simp;omega
   go_loopw [9] (fun v wr=>v = .int .i64 1∧wr=w') (fun _ _=>0)
   case atStart=>exact⟨rfl,rfl⟩
   case round =>
    exact J100
 · clear hv;simp only[hu]at hz hc;have hcn:u[2].toNat=c.toNat:=by rw[hc]
   go_enter Tryz.func125,Tryz.ntmps125;go_wp2_with (go_at_call 106;refine (Tryz.utf8_ValidRune x _).mono ?_;rw[HV.out];rintro e w' ⟨rfl,rfl⟩)
   go_step3
   go_wp2_with fail;have hA:Hid (pmD.size=4):=rfl;have b1:(((pmD[2]'(by decide)).toNat:Int) != (c.toNat:Int))=true:=by
    have:(pmD[2]'(by decide)).toNat=95:=rfl;rw[this];simp;omega
   go_loopw [9] (fun v wr=>v = .int .i64 2∧wr=w') (fun _ _=>0)
   case atStart=>exact⟨rfl,rfl⟩
   case round =>
    exact J100
 clear hv;simp only[hu]at hz hc;have hcn:u[3].toNat=c.toNat:=by rw[hc]
 go_enter Tryz.func125,Tryz.ntmps125;go_wp2_with (go_at_call 106;refine (Tryz.utf8_ValidRune x _).mono ?_;rw[HV.out];rintro e w' ⟨rfl,rfl⟩)
 go_step3
 go_wp2_with fail;have hA:Hid (pmD.size=4):=rfl;have b1:(((pmD[3]'(by decide)).toNat:Int) != (c.toNat:Int))=true:=by
  have:(pmD[3]'(by decide)).toNat=46:=rfl;rw[this];simp;omega
 go_loopw [9] (fun v wr=>v = .int .i64 3∧wr=w') (fun _ _=>0)
 case atStart=>exact⟨rfl,rfl⟩
 case round =>
  obtain⟨rfl,rfl⟩:=hrel;go_wp2_with fail
  go_step3
  go_wp2_with fail
  go_quiet (fail)
  go_wp2_with fail
  go_quiet ((go_at_call 43;exact quiet_any2 (pm_byte0 c _) ⟨_,rfl⟩))
  exact J160
theorem idxRune_high (x:Int) (h:128≤x) (hm:x≤1114111) (w:World) :
    Calls Tryz.prog 125 #[.string pmD,.int .i32 x] w fun e w'=>e = .returned (.int .i64 (-1))∧Gr w w':=by
 by_cases h1:x=65533
 · subst h1;exact idxRune_error w
 have h2:(x==65533)=false:=by simp[h1]
 cases hv:Lib.validRune x with
 | false=>exact idxRune_bad x h h2 hv w
 | true=>exact idxRune_valid x h h2 hv hm w
theorem contains_high (x:Int) (h:128≤x) (hm:x≤1114111) (w:World) :
    Calls Tryz.prog 108 #[.string pmD,.int .i32 x] w fun e w'=>e = .returned (.bool false)∧Gr w w':=by
 go_enter Tryz.func108,Tryz.ntmps108;go_wp2_with (go_at_call 125;refine (idxRune_high x h hm _).mono ?_;rintro e w1 ⟨rfl,g1⟩)
 go_ret
 exact⟨rfl,g1⟩
end Go.Proofs.YtfogfaagjpebcaaGreatDoor
