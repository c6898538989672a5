/-
 The walks and plain laws that the claim rests on, part 17.
-/
import Derived.Test.YtfogfaagjpebcaaGreatDoorP00
import Derived.Test.YtfogfaagjpebcaaGreatDoorP09
import Derived.Test.YtfogfaagjpebcaaGreatDoorP11
import Derived.Test.YtfogfaagjpebcaaGreatDoorP13
import Derived.Test.YtfogfaagjpebcaaGreatDoorP14
import Derived.Test.YtfogfaagjpebcaaGreatDoorP18
import Derived.Lib.IfaceNeq
import Derived.Shelf.Strings.FuncGrows
set_option maxHeartbeats 16000000
set_option linter.all false
set_option linter.unusedVariables false
set_option linter.unusedSimpArgs false
namespace Go.Proofs.YtfogfaagjpebcaaGreatDoor
open Go.RowKit
def ParsePost (ep:Addr) (w:World) (Y:Lib.NumEnd Int) (e:Ending) (w':World):Prop:=match Y with
 | .ok v=>e = .returned (.tuple #[.int .i64 v,.nilIface])∧Gr w w'
 | .range=>(∃(k:Int) (N:Nat),e = .returned (.tuple #[.int .i64 k,.iface 254 (.pointer (some ⟨N,0,none⟩))])∧w'.cell? ⟨N,2,none⟩=some (.iface 280 (.pointer (some ep))))∧Gr w w'
 | Lib.NumEnd.syntax=>True
def clampI (Y:Lib.NumEnd Nat):Lib.NumEnd Int:=match Y with
 | .ok v=>if v<9223372036854775808 then .ok (v:Int) else .range
 | .range => .range
 | Lib.NumEnd.syntax=>Lib.NumEnd.syntax
def PinPost (Y:Lib.NumEnd Int) (e:Ending):Prop:=match Y with
 | .ok v=>e = .returned (.tuple #[.int .i64 v,.nilIface])
 | .range=>e = .returned (.tuple #[.int .i64 9223372036854775807,.iface 251 (.int .i64 1)])
 | Lib.NumEnd.syntax=>True
set_option maxRecDepth 100000 in
theorem pin_of (t:ByteArray) (base:Int) (h0:0<t.size) (hs:(t[0]'h0).toNat≠43∧(t[0]'h0).toNat≠45) (Y:Lib.NumEnd Nat) (hle:∀v,Y = .ok v→v≤18446744073709551615) (hne:Y≠Lib.NumEnd.syntax)
    (hU:∀w,Calls Tryz.prog 181 #[.string t,.int .i64 base,.int .i64 64] w fun e w'=>e = .returned (Lib.uintTupleM 251 18446744073709551615 Y)∧w'=Lib.bytesWorld w 5 t) (w:World) :
    Calls Tryz.prog 162 #[.string t,.int .i64 base,.int .i64 64] w fun e w'=>PinPost (clampI Y) e∧Gr w w':=by
 have hemp:t.toList.isEmpty=false:=by
  rw[←decide_eq_emptyBytes];exact decide_eq_false (fun h=>by rw[h]at h0;exact absurd h0 (by decide))
 have hpos:(0:Int)<(t.size:Int):=by omega
 obtain⟨x1,x2⟩:=beqs (t[0]'h0).toNat 43 false (by simpa using hs.1);obtain⟨y1,y2⟩:=beqs (t[0]'h0).toNat 45 false (by simpa using hs.2);have hq1:∀W,(Go.binOp .neq 45 (.iface 251 (.int .i64 1)) (.iface 251 (.int .i64 1))).run Tryz.prog W = .ok (.bool false) W:=fun W=>by kernel_rfl
 have hgr:=gr_bytesWorld w 5 t;have hU:=hU w;refine Z167 ?_;intro W1 hW1;rw[←hW1]at hU hgr;clear hW1 hs;cases Y with
 | range =>
  have hU:Calls Tryz.prog 181 #[.string t,.int .i64 base,.int .i64 64] w fun e w'=>e = .returned (.tuple #[.int .u64 18446744073709551615,.iface 251 (.int .i64 1)])∧w'=W1:=hU
  clear hle hne;go_enter Tryz.func162,Tryz.ntmps162;go_wp2_with (refine hU.mono ?_;rintro e w1 ⟨rfl,rfl⟩)
  go_wp2
  go_ret2
  exact⟨rfl,hgr⟩
 | ok v =>
  have hv:=hle v rfl;have hU:Calls Tryz.prog 181 #[.string t,.int .i64 base,.int .i64 64] w fun e w'=>e = .returned (.tuple #[.int .u64 (v:Int),.nilIface])∧w'=W1:=hU
  obtain⟨a,ha⟩:∃a:Int,a=(v:Int):=⟨_,rfl⟩
  rw[←ha]at hU;refine Z271 ?_;intro a0 a1;clear hle hne;by_cases hout:v<9223372036854775808
  · have HI:Hid (v<9223372036854775808):=hout;have HA:Hid (a=(v:Int)):=ha;have iin:a<9223372036854775808:=by omega
    clear hout hv ha;go_enter Tryz.func162,Tryz.ntmps162;go_wp2_with (refine hU.mono ?_;rintro e w1 ⟨rfl,rfl⟩)
    go_wp2
    go_ret2
    exact⟨by unfold clampI;simp only;rw[if_pos HI.out];unfold PinPost;simp only;rw[HA.out];rfl,hgr⟩
  have HI:Hid (¬v<9223372036854775808):=hout;have iout:9223372036854775808≤a:=by omega
  clear hout hv ha;go_enter Tryz.func162,Tryz.ntmps162;go_wp2_with (refine hU.mono ?_;rintro e w1 ⟨rfl,rfl⟩)
  go_wp2
  go_ret2
  exact⟨by unfold clampI;simp only;rw[if_neg HI.out];rfl,hgr⟩
 | _=>exact absurd rfl hne
theorem spin_of (t:ByteArray) (base:Int) (h0:0<t.size) (hz:t.size≤20000000) (hs:(t[0]'h0).toNat≠43∧(t[0]'h0).toNat≠45) (Y:Lib.NumEnd Nat) (hle:∀v,Y = .ok v→v≤18446744073709551615) (hne:Y≠Lib.NumEnd.syntax)
    (hU:∀w,Calls Tryz.prog 181 #[.string t,.int .i64 base,.int .i64 64] w fun e w'=>e = .returned (Lib.uintTupleM 251 18446744073709551615 Y)∧w'=Lib.bytesWorld w 5 t) (w:World) (ep:Addr) (hw:w.cell? ⟨11,0,none⟩=some (.iface 280 (.pointer (some ep)))) :
    Calls Tryz.prog 143 #[.string t,.int .i64 base,.int .i64 64] w (ParsePost ep w (clampI Y)):=by
 have hI:=pin_of t base h0 hs Y hle hne hU w;have bad:Calls Tryz.prog 162 #[.string t,.int .i64 base,.int .i64 64] w (fun e w'=>e = .returned (.tuple #[.int .i64 9223372036854775807,.iface 251 (.int .i64 1)])∧Gr w w') →
     Calls Tryz.prog 143 #[.string t,.int .i64 base,.int .i64 64] w (ParsePost ep w .range):=by
  intro hJ;have HW:=Lib.hid hw;clear hw hI hU;go_enter Tryz.func143,Tryz.ntmps143;go_wp2_with fail;refine hJ.mono ?_;rintro e w1 ⟨rfl,g1⟩;go_wp2_with fail;refine (Tryz.strconv_toError_range ⟨#[80,97,114,115,101,73,110,116]⟩ t base 64 _ w1 (by omega) ((g1.use.1 _ _ (Lib.lt_of_cell HW.out)).trans HW.out) (.inr ⟨_,_,rfl⟩)).mono ?_;rintro e w2 ⟨N,rfl,hN,hb,g2⟩;go_wp2_with fail
  go_ret2
  exact⟨⟨_,N,rfl,by rw[Joins.cell_of_block hb];rfl⟩,g1.trans g2⟩
 cases Y with
 | range=>exact bad hI
 | ok v =>
  unfold clampI at hI ⊢;by_cases hv:v<9223372036854775808
  · simp only[if_pos hv]at hI ⊢;clear hw hU bad;go_enter Tryz.func143,Tryz.ntmps143;go_wp2_with fail;refine hI.mono ?_;rintro e w1 ⟨rfl,g1⟩;go_wp2_with fail
    go_ret2
    exact⟨rfl,g1⟩
  simp only[if_neg hv]at hI ⊢;exact bad hI
 | _=>exact absurd rfl hne
theorem intVal_clamp (b:Nat) (l:List UInt8) (h:b≠10):Pl.intVal b l=clampI (Pl.puM b 18446744073709551615 0 l):=by
 unfold Pl.intVal clampI;rw[if_neg h];cases Pl.puM b 18446744073709551615 0 l <;> rfl
namespace Pl
theorem puM_le (B M:Nat) (l:Bs):∀acc v,acc≤M→puM B M acc l = .ok v→v≤M:=by
 induction l with
 | nil=>intro acc v h hv;simp only[puM,Lib.NumEnd.ok.injEq]at hv;omega
 | cons c l ih =>
  intro acc v h hv;unfold puM at hv
  split at hv
  · split at hv
    · cases hv
    exact ih _ _ (by omega) hv
  cases hv
theorem puM_digits (B M:Nat) (l:Bs):∀acc,(∀c∈l,digV c.toNat<B)→puM B M acc l≠Lib.NumEnd.syntax:=by
 induction l with
 | nil=>intro acc _ h;simp[puM]at h
 | cons c l ih =>
  intro acc hd;unfold puM;rw[if_pos (hd c (by simp))]
  split
  · simp
  exact ih _ (fun x hx=>hd x (List.mem_cons_of_mem _ hx))
end Pl
theorem parse_any (b:Nat) (t:ByteArray) (hz:t.size≤20000000) (h:(b=10∧Lib.parseIntB 64 (bs t)≠Lib.NumEnd.syntax)∨((b=16∨b=8∨b=2)∧0<t.size∧∀c∈bs t,Pl.digV c.toNat<b)) (w:World) (ep:Addr) (hw:w.cell? ⟨11,0,none⟩=some (.iface 280 (.pointer (some ep)))) :
    Calls Tryz.prog 143 #[.string t,.int .i64 b,.int .i64 64] w (ParsePost ep w (Pl.intVal b (bs t))):=by
 rcases h with⟨rfl,hne⟩|⟨hb,h0,hd⟩
 · unfold Pl.intVal;rw[if_pos rfl];cases hp:Lib.parseIntB 64 (bs t) with
   | ok v=>exact parse_ok t hz v hp w
   | range =>
    refine (Tryz.strconv_ParseInt_10_at64_range t (by omega) hp _ w hw (.inr ⟨_,_,rfl⟩)).mono ?_;rintro e w' ⟨N,rfl,hN,hb,g⟩;exact⟨⟨_,N,rfl,by rw[Joins.cell_of_block hb];rfl⟩,g⟩
   | _=>exact absurd hp hne
 have hs:(t[0]'h0).toNat≠43∧(t[0]'h0).toNat≠45:=by
  have h2:=hd (t[0]'h0) (by have:=idx_bs t 0 h0;simp only[List.drop_zero]at this;rw[this];simp);unfold Pl.digV at h2;constructor
  · intro e;rw[e]at h2;simp at h2;omega
  intro e;rw[e]at h2;simp at h2;omega
 have hb10:b≠10:=by omega
 rw[intVal_clamp b _ hb10];rcases hb with rfl|rfl|rfl
 · exact spin_of t 16 h0 hz hs _ (fun v hv=>Pl.puM_le _ _ _ 0 v (by omega) hv) (Pl.puM_digits _ _ _ 0 hd) (fun w=>pu_16_64 t (by omega) (by omega) w) w ep hw
 · exact spin_of t 8 h0 hz hs _ (fun v hv=>Pl.puM_le _ _ _ 0 v (by omega) hv) (Pl.puM_digits _ _ _ 0 hd) (fun w=>pu_8_64 t (by omega) (by omega) w) w ep hw
 exact spin_of t 2 h0 hz hs _ (fun v hv=>Pl.puM_le _ _ _ 0 v (by omega) hv) (Pl.puM_digits _ _ _ 0 hd) (fun w=>pu_2_64 t (by omega) (by omega) w) w ep hw
end Go.Proofs.YtfogfaagjpebcaaGreatDoor
namespace Go.Proofs.YtfogfaagjpebcaaGreatDoor
open Go.RowKit Go.Shelf Go.Joins
attribute [local go_sem] Oper.semAt_some
abbrev hexD:ByteArray:=⟨#[48,49,50,51,52,53,54,55,56,57,97,98,99,100,101,102,65,66,67,68,69,70]⟩
abbrev octD:ByteArray:=⟨#[48,49,50,51,52,53,54,55]⟩
abbrev binD:ByteArray:=⟨#[48,49]⟩
abbrev radV (bg:ByteArray) (b:Nat) (ds:ByteArray):Value := .agg #[.string bg,.int .i64 b,.string ds]
set_option maxRecDepth 100000 in
theorem in_of_0 (s:ByteArray) (h0:Pl.pre (bs s) [48,120]=true) (w:World) (hr:RadW w) :
    Calls Tryz.prog 140 #[.string s] w fun e w'=>e = .returned (radV ⟨#[48,120]⟩ 16 hexD)∧Gr w w':=by
 have r0:w.cell? ⟨12,0,none⟩=some (.string ⟨#[48,120]⟩):=hr 0 _ rfl;have r1:w.cell? ⟨12,1,none⟩=some (.int .i64 16):=hr 1 _ rfl;have r2:w.cell? ⟨12,2,none⟩=some (.string hexD):=hr 2 _ rfl;have r3:w.cell? ⟨12,3,none⟩=some (.string ⟨#[48,111]⟩):=hr 3 _ rfl;have r4:w.cell? ⟨12,4,none⟩=some (.int .i64 8):=hr 4 _ rfl;have r5:w.cell? ⟨12,5,none⟩=some (.string octD):=hr 5 _ rfl;have r6:w.cell? ⟨12,6,none⟩=some (.string ⟨#[48,98]⟩):=hr 6 _ rfl;have r7:w.cell? ⟨12,7,none⟩=some (.int .i64 2):=hr 7 _ rfl;have r8:w.cell? ⟨12,8,none⟩=some (.string binD):=hr 8 _ rfl;have hlt:12<w.heap.size:=Lib.lt_of_cell r0;have H0:=Lib.hid h0;refine Z52 ?_;intro i0 i1 i2;clear hr h0;go_enter Tryz.func140,Tryz.ntmps140;go_wp2_with fail
 go_loopw [6] (fun v wr=>∃k:Nat,v = .int .i64 k∧(k=0)∧Gr (w.alloc (.cells #[.string ⟨#[]⟩,.int .i64 0,.string ⟨#[]⟩] 215)) wr) (fun v _=>3-(intOf v).toNat)
 case atStart=>exact⟨0,rfl,rfl,Gr.refl _⟩
 case round =>
  obtain⟨k,rfl,hk,hg⟩:=hrel;obtain⟨hc,hf,hz⟩:=hg.use;rcases hk with rfl;have p0:wr.cell? ⟨w.heap.size,0,none⟩=some (.string ⟨#[]⟩):=(hc _ _ (by simp)).trans (by simp);have p1:wr.cell? ⟨w.heap.size,1,none⟩=some (.int .i64 0):=(hc _ _ (by simp)).trans (by simp);have p2:wr.cell? ⟨w.heap.size,2,none⟩=some (.string ⟨#[]⟩):=(hc _ _ (by simp)).trans (by simp);have pf:∀o,wr.frozen? ⟨w.heap.size,o,none⟩=false:=fun o=>(hf _ _ (by simp)).trans (by simp[go_sem])
  simp only[World.size_alloc]at hz;have hlw:w.heap.size<wr.heap.size:=by omega
  clear hc hf;go_wp2_with (go_at_call 9;refine (prefix_whole s ⟨#[48,120]⟩ true H0.out _).mono ?_;rintro e w1 ⟨rfl,rfl⟩);have hg2:Gr w wr:=((Gr.refl w).alloc _).trans hg;exact bodyPost_ret (v:=radV ⟨#[48,120]⟩ 16 hexD) (by simp[results,Tryz.results140,go_sem,p0,p1,p2,pf,hlw]) rfl ⟨rfl,by refine Gr.alloc ?_ _;(repeat refine Gr.setCell ?_ (Nat.le_refl _) _);exact hg2⟩
set_option maxRecDepth 100000 in
theorem in_of_1 (s:ByteArray) (h0:Pl.pre (bs s) [48,120]=false) (h1:Pl.pre (bs s) [48,111]=true) (w:World) (hr:RadW w) :
    Calls Tryz.prog 140 #[.string s] w fun e w'=>e = .returned (radV ⟨#[48,111]⟩ 8 octD)∧Gr w w':=by
 have r0:w.cell? ⟨12,0,none⟩=some (.string ⟨#[48,120]⟩):=hr 0 _ rfl;have r1:w.cell? ⟨12,1,none⟩=some (.int .i64 16):=hr 1 _ rfl;have r2:w.cell? ⟨12,2,none⟩=some (.string hexD):=hr 2 _ rfl;have r3:w.cell? ⟨12,3,none⟩=some (.string ⟨#[48,111]⟩):=hr 3 _ rfl;have r4:w.cell? ⟨12,4,none⟩=some (.int .i64 8):=hr 4 _ rfl;have r5:w.cell? ⟨12,5,none⟩=some (.string octD):=hr 5 _ rfl;have r6:w.cell? ⟨12,6,none⟩=some (.string ⟨#[48,98]⟩):=hr 6 _ rfl;have r7:w.cell? ⟨12,7,none⟩=some (.int .i64 2):=hr 7 _ rfl;have r8:w.cell? ⟨12,8,none⟩=some (.string binD):=hr 8 _ rfl;have hlt:12<w.heap.size:=Lib.lt_of_cell r0;have H0:=Lib.hid h0;have H1:=Lib.hid h1;refine Z52 ?_;intro i0 i1 i2;clear hr h0 h1;go_enter Tryz.func140,Tryz.ntmps140;go_wp2_with fail
 go_loopw [6] (fun v wr=>∃k:Nat,v = .int .i64 k∧(k=0∨k=1)∧Gr (w.alloc (.cells #[.string ⟨#[]⟩,.int .i64 0,.string ⟨#[]⟩] 215)) wr) (fun v _=>3-(intOf v).toNat)
 case atStart=>exact⟨0,rfl,.inl rfl,Gr.refl _⟩
 case round =>
  obtain⟨k,rfl,hk,hg⟩:=hrel;obtain⟨hc,hf,hz⟩:=hg.use;rcases hk with rfl|rfl
  · clear hc hf;go_wp2_with (go_at_call 9;refine (prefix_whole s ⟨#[48,120]⟩ false H0.out _).mono ?_;rintro e w1 ⟨rfl,rfl⟩)
    go_roundw
    case rel=>exact⟨1,rfl,.inr (rfl),hg.alloc _⟩
    case measure=>simp[intOf]
  have p0:wr.cell? ⟨w.heap.size,0,none⟩=some (.string ⟨#[]⟩):=(hc _ _ (by simp)).trans (by simp);have p1:wr.cell? ⟨w.heap.size,1,none⟩=some (.int .i64 0):=(hc _ _ (by simp)).trans (by simp);have p2:wr.cell? ⟨w.heap.size,2,none⟩=some (.string ⟨#[]⟩):=(hc _ _ (by simp)).trans (by simp);have pf:∀o,wr.frozen? ⟨w.heap.size,o,none⟩=false:=fun o=>(hf _ _ (by simp)).trans (by simp[go_sem])
  simp only[World.size_alloc]at hz;have hlw:w.heap.size<wr.heap.size:=by omega
  clear hc hf;go_wp2_with (go_at_call 9;refine (prefix_whole s ⟨#[48,111]⟩ true H1.out _).mono ?_;rintro e w1 ⟨rfl,rfl⟩);have hg2:Gr w wr:=((Gr.refl w).alloc _).trans hg;exact bodyPost_ret (v:=radV ⟨#[48,111]⟩ 8 octD) (by simp[results,Tryz.results140,go_sem,p0,p1,p2,pf,hlw]) rfl ⟨rfl,by refine Gr.alloc ?_ _;(repeat refine Gr.setCell ?_ (Nat.le_refl _) _);exact hg2⟩
set_option maxRecDepth 100000 in
theorem in_of_2 (s:ByteArray) (h0:Pl.pre (bs s) [48,120]=false) (h1:Pl.pre (bs s) [48,111]=false) (h2:Pl.pre (bs s) [48,98]=true) (w:World) (hr:RadW w) :
    Calls Tryz.prog 140 #[.string s] w fun e w'=>e = .returned (radV ⟨#[48,98]⟩ 2 binD)∧Gr w w':=by
 have r0:w.cell? ⟨12,0,none⟩=some (.string ⟨#[48,120]⟩):=hr 0 _ rfl;have r1:w.cell? ⟨12,1,none⟩=some (.int .i64 16):=hr 1 _ rfl;have r2:w.cell? ⟨12,2,none⟩=some (.string hexD):=hr 2 _ rfl;have r3:w.cell? ⟨12,3,none⟩=some (.string ⟨#[48,111]⟩):=hr 3 _ rfl;have r4:w.cell? ⟨12,4,none⟩=some (.int .i64 8):=hr 4 _ rfl;have r5:w.cell? ⟨12,5,none⟩=some (.string octD):=hr 5 _ rfl;have r6:w.cell? ⟨12,6,none⟩=some (.string ⟨#[48,98]⟩):=hr 6 _ rfl;have r7:w.cell? ⟨12,7,none⟩=some (.int .i64 2):=hr 7 _ rfl;have r8:w.cell? ⟨12,8,none⟩=some (.string binD):=hr 8 _ rfl;have hlt:12<w.heap.size:=Lib.lt_of_cell r0;have H0:=Lib.hid h0;have H1:=Lib.hid h1;have H2:=Lib.hid h2;refine Z52 ?_;intro i0 i1 i2;clear hr h0 h1 h2;go_enter Tryz.func140,Tryz.ntmps140;go_wp2_with fail
 go_loopw [6] (fun v wr=>∃k:Nat,v = .int .i64 k∧(k=0∨k=1∨k=2)∧Gr (w.alloc (.cells #[.string ⟨#[]⟩,.int .i64 0,.string ⟨#[]⟩] 215)) wr) (fun v _=>3-(intOf v).toNat)
 case atStart=>exact⟨0,rfl,.inl rfl,Gr.refl _⟩
 case round =>
  obtain⟨k,rfl,hk,hg⟩:=hrel;obtain⟨hc,hf,hz⟩:=hg.use;rcases hk with rfl|rfl|rfl
  · clear hc hf;go_wp2_with (go_at_call 9;refine (prefix_whole s ⟨#[48,120]⟩ false H0.out _).mono ?_;rintro e w1 ⟨rfl,rfl⟩);exact J34
  · clear hc hf;go_wp2_with (go_at_call 9;refine (prefix_whole s ⟨#[48,111]⟩ false H1.out _).mono ?_;rintro e w1 ⟨rfl,rfl⟩)
    go_roundw
    case rel=>exact⟨2,rfl,.inr (.inr (rfl)),hg.alloc _⟩
    case measure=>simp[intOf]
  have p0:wr.cell? ⟨w.heap.size,0,none⟩=some (.string ⟨#[]⟩):=(hc _ _ (by simp)).trans (by simp);have p1:wr.cell? ⟨w.heap.size,1,none⟩=some (.int .i64 0):=(hc _ _ (by simp)).trans (by simp);have p2:wr.cell? ⟨w.heap.size,2,none⟩=some (.string ⟨#[]⟩):=(hc _ _ (by simp)).trans (by simp);have pf:∀o,wr.frozen? ⟨w.heap.size,o,none⟩=false:=fun o=>(hf _ _ (by simp)).trans (by simp[go_sem])
  simp only[World.size_alloc]at hz;have hlw:w.heap.size<wr.heap.size:=by omega
  clear hc hf;go_wp2_with (go_at_call 9;refine (prefix_whole s ⟨#[48,98]⟩ true H2.out _).mono ?_;rintro e w1 ⟨rfl,rfl⟩);have hg2:Gr w wr:=((Gr.refl w).alloc _).trans hg;exact bodyPost_ret (v:=radV ⟨#[48,98]⟩ 2 binD) (by simp[results,Tryz.results140,go_sem,p0,p1,p2,pf,hlw]) rfl ⟨rfl,by refine Gr.alloc ?_ _;(repeat refine Gr.setCell ?_ (Nat.le_refl _) _);exact hg2⟩
def radOfV (l:List UInt8):Value :=
 if Pl.pre l [48,120] then radV ⟨#[48,120]⟩ 16 hexD else if Pl.pre l [48,111] then radV ⟨#[48,111]⟩ 8 octD else if Pl.pre l [48,98] then radV ⟨#[48,98]⟩ 2 binD else tensV
theorem in_of_all (s:ByteArray) (w:World) (hr:RadW w):Calls Tryz.prog 140 #[.string s] w fun e w'=>e = .returned (radOfV (bs s))∧Gr w w':=by
 unfold radOfV;cases h0:Pl.pre (bs s) [48,120] with
 | true=>exact in_of_0 s h0 w hr
 | false =>
  cases h1:Pl.pre (bs s) [48,111] with
  | true=>exact in_of_1 s h0 h1 w hr
  | false =>
   cases h2:Pl.pre (bs s) [48,98] with
   | true=>exact in_of_2 s h0 h1 h2 w hr
   | false=>exact in_of s ⟨h0,h1,h2⟩ w hr
theorem trimS_nil (l cs:List UInt8):Lib.trimS l cs=[] ↔ (l.all fun c=>cs.contains c)=true:=by
 unfold Lib.trimS Lib.trimRightS Lib.trimLeftS;constructor
 · intro h;rw[List.all_eq_true];intro x hx;have h2:∀(m:List UInt8),m.dropWhile (cs.contains ·)=[]→∀x∈m,cs.contains x=true:=by
    intro m
    induction m with
    | nil=>intro _ x hx;cases hx
    | cons a m ih =>
     intro h x hx;rw[List.dropWhile_cons]at h
     split at h
     · rename_i ha
       rcases List.mem_cons.1 hx with rfl|hx
       · exact ha
       exact ih h x hx
     cases h
   first
    | (have h3:=h2 _ h
       by_cases hm:x∈(l.reverse.dropWhile (cs.contains ·)).reverse
       · exact h3 x hm
       have hs:∀(m:List UInt8) (x:UInt8),x∈m→x ∉ m.dropWhile (cs.contains ·)→cs.contains x=true:=by
        intro m
        induction m with
        | nil=>intro x hx;cases hx
        | cons a m ih =>
         intro x hx hn;rw[List.dropWhile_cons]at hn
         split at hn
         · rename_i ha
           rcases List.mem_cons.1 hx with rfl|hx
           · exact ha
           exact ih x hx hn
         exact absurd hx hn
       exact hs l.reverse x (List.mem_reverse.2 hx) (fun e=>hm (List.mem_reverse.2 e)))
    | (have h3:=h2 _ (List.reverse_eq_nil_iff.1 h)
       by_cases hm:x∈l.dropWhile (cs.contains ·)
       · exact h3 x (List.mem_reverse.2 hm)
       have hs:∀(m:List UInt8) (x:UInt8),x∈m→x ∉ m.dropWhile (cs.contains ·)→cs.contains x=true:=by
        intro m
        induction m with
        | nil=>intro x hx;cases hx
        | cons a m ih =>
         intro x hx hn;rw[List.dropWhile_cons]at hn
         split at hn
         · rename_i ha
           rcases List.mem_cons.1 hx with rfl|hx
           · exact ha
           exact ih x hx hn
         exact absurd hx hn
       exact hs l x hx hm)
 intro h;rw[List.all_eq_true]at h;have h2:∀(m:List UInt8),(∀x∈m,cs.contains x=true)→m.dropWhile (cs.contains ·)=[]:=by
  intro m
  induction m with
  | nil=>intro _;rfl
  | cons a m ih =>
   intro hm;rw[List.dropWhile_cons,if_pos (hm a (by simp)),ih (fun x hx=>hm x (List.mem_cons_of_mem _ hx))]
 first
  | rw[h2 l.reverse (fun x hx=>h x (List.mem_reverse.1 hx))];rfl
  | rw[h2 l h];rfl
theorem trim_set (x ds:ByteArray) (hx:x.size≤20000000) (hds:ds.size≤100) (ha:∀(j:Nat) b,ds.data.toList[j]?=some b→b.toNat<128) (b:Bool) (hb:((bs x).all fun c=>(bs ds).contains c)=b) (w:World) :
    Calls Tryz.prog 161 #[.string x,.string ds] w fun e w'=>(∃t:ByteArray,e = .returned (.string t)∧t.toList.isEmpty=b∧(b=true→t.toList=[])∧(b=false→¬t.toList=[]))∧Gr w w':=by
 refine (Any.strings_Trim_laid Tryz.lays160 bool256 x ds w (by omega) (by omega) ha).mono ?_;rintro e w' ⟨rfl,hb'⟩;have h1:=trimS_nil (bs x) (bs ds);have ht:(⟨(Lib.trimS x.data.toList ds.data.toList).toArray⟩:ByteArray).toList=Lib.trimS (bs x) (bs ds):=by rw[Lib.toList_data]
 refine⟨⟨_,rfl,?_,fun h=>?_,fun h=>?_⟩,hb'⟩
 · rw[ht];cases b with
   | true=>rw[h1.2 hb];rfl
   | false =>
    cases hl:Lib.trimS (bs x) (bs ds) with
    | nil=>rw[h1.1 hl]at hb;cases hb
    | cons c l=>rfl
 · rw[ht];exact h1.2 (by rw[hb,h])
 rw[ht];intro e;have:=h1.1 e;rw[hb,h]at this;cases this
def goodP (ds:ByteArray) (p:ByteArray):Prop:=¬p.toList=[]∧((bs p).all fun c=>(bs ds).contains c)=true
theorem goodP_bs (ds p:ByteArray):goodP ds p ↔ (!(bs p).isEmpty && (bs p).all (bs ds).contains)=true:=by
 unfold goodP;rw[Lib.toList_data];simp only[Bool.and_eq_true,Bool.not_eq_true',List.isEmpty_eq_false_iff]
theorem right_all (ds s:ByteArray) {n:Nat} (xs:List (SubB n)) (h:xs.map sbs=Pl.splitB 95 (bs s)):Pl.rightD (bs ds).contains (bs s)=true ↔ ∀p∈xs,goodP ds p.1:=by
 unfold Pl.rightD;rw[←h,List.all_map,List.all_eq_true];exact⟨fun h p hp=>(goodP_bs ds p.1).2 (h p hp),fun h p hp=>(goodP_bs ds p.1).1 (h p hp)⟩
theorem right_bad (ds s:ByteArray) {n:Nat} (pre:List (SubB n)) (suf:List Pl.Bs) (h:pre.map sbs++suf=Pl.splitB 95 (bs s)) (p:SubB n) (hp:p∈pre) (hb:¬goodP ds p.1):Pl.rightD (bs ds).contains (bs s)=false:=by
 unfold Pl.rightD;rw[←h,List.all_append,Bool.and_eq_false_iff];left;rw[Bool.eq_false_iff];intro e;rw[List.all_map,List.all_eq_true]at e;exact hb ((goodP_bs ds p.1).2 (e p hp))
theorem cells_turn {w:World} {C:Nat→Prop} {B:Nat} {W W':World} {row:Option Nat} {b:Nat} {o:Obj} (hb:W.heap[b]?=some o) (hc:¬C b) (hB:b<B) (hg:W.grownBy W' row) (hr:∀r,row=some r→C r∨(B≤r∧∃o:Obj,W.heap[r]?=some o∧o.isCells=false)):W'.heap[b]?=some o :=
 (hg.block b (Array.getElem?_eq_some_iff.1 hb).1 (fun e=>(hr b e.symm).elim hc (fun h=>by omega))).trans hb
theorem below_turn {w:World} {C:Nat→Prop} {B:Nat} (hC:∀r,C r→w.heap.size≤r) (hB:w.heap.size≤B) {W W':World} {row:Option Nat} (h:Below w.heap.size w W) (hg:W.grownBy W' row) (hr:∀r,row=some r→C r∨(B≤r∧∃o:Obj,W.heap[r]?=some o∧o.isCells=false)):Below w.heap.size w W' :=
 h.grown hg h.size (fun k e=>(hr k e).elim (hC k) (fun h=>by omega))
set_option maxRecDepth 100000 in
theorem in_right_all (bg:ByteArray) (bb:Nat) (ds:ByteArray) (hds:ds.size≤100) (ha:∀(j:Nat) b,ds.data.toList[j]?=some b→b.toNat<128) (s:ByteArray) (hs:s.size≤20000000) (w:World) :
    Calls Tryz.prog 142 #[radV bg bb ds,.string s] w fun e w'=>e = .returned (.bool (Pl.rightD (bs ds).contains (bs s)))∧Gr w w':=by
 refine (callsIn_wide (n:=6)).1 ?_;refine callsIn_of_wp_marks Tryz.func142 rfl trivial ?_ rfl;simp only[Tryz.ntmps142,List.size_toArray,List.length_cons,List.length_nil,Nat.reduceAdd,Nat.reduceSub,Array.replicate_succ,Array.replicate_zero,List.push_toArray,List.append_toArray,List.nil_append,List.cons_append]
 gi_wp2_with (refine⟨trivial,?_⟩;gi_at_call 160;refine (callsIn_wide.2 (sp_make s _)).mono ?_;rintro e w' ⟨rfl,rfl⟩)
 obtain⟨W0,hW0⟩:∃W0,((((w.alloc (.cells #[.string bg,.int .i64 bb,.string ds] 215)).alloc (.cells #[.bool false] 4)).alloc (.cells #[.string s] 9)).alloc (.cells #[.string ⟨#[95]⟩] 9)).alloc (.cells #[.int .i64 0] 3)=W0:=⟨_,rfl⟩
 have hsz:W0.heap.size=w.heap.size+1+1+1+1+1:=by rw[←hW0];simp only[World.size_alloc]
 have hG0:Gr w W0:=by rw[←hW0];exact (((((Gr.refl w).alloc _).alloc _).alloc _).alloc _).alloc _
 have b0:W0.heap[w.heap.size]?=some (.cells #[.string bg,.int .i64 bb,.string ds] 215 (0,0)):=by
  rw[←hW0];exact (((((Gr.refl (w.alloc _)).alloc _).alloc _).alloc _).alloc _).block (by simp) |>.trans (heap_alloc_new w _)
 have b1:W0.heap[w.heap.size+1]?=some (.cells #[.bool false] 4 (0,0)):=by
  rw[←hW0];refine ((((Gr.refl ((w.alloc _).alloc _)).alloc _).alloc _).alloc _).block (by simp) |>.trans ?_;have:=heap_alloc_new (w.alloc (.cells #[.string bg,.int .i64 bb,.string ds] 215)) (.cells #[.bool false] 4)
  rwa [World.size_alloc]at this
 have b2:W0.heap[w.heap.size+1+1]?=some (.cells #[.string s] 9 (0,0)):=by
  rw[←hW0];refine (((Gr.refl (((w.alloc _).alloc _).alloc _)).alloc _).alloc _).block (by simp) |>.trans ?_;have:=heap_alloc_new ((w.alloc (.cells #[.string bg,.int .i64 bb,.string ds] 215)).alloc (.cells #[.bool false] 4)) (.cells #[.string s] 9);exact J41
 have b3:W0.heap[w.heap.size+1+1+1]?=some (.cells #[.string ⟨#[95]⟩] 9 (0,0)):=by
  rw[←hW0];refine ((Gr.refl ((((w.alloc _).alloc _).alloc _).alloc _)).alloc _).block (by simp) |>.trans ?_;have:=heap_alloc_new (((w.alloc (.cells #[.string bg,.int .i64 bb,.string ds] 215)).alloc (.cells #[.bool false] 4)).alloc (.cells #[.string s] 9)) (.cells #[.string ⟨#[95]⟩] 9);exact J41
 have b4:W0.heap[w.heap.size+1+1+1+1]?=some (.cells #[.int .i64 0] 3 (0,0)):=by
  rw[←hW0];have:=heap_alloc_new ((((w.alloc (.cells #[.string bg,.int .i64 bb,.string ds] 215)).alloc (.cells #[.bool false] 4)).alloc (.cells #[.string s] 9)).alloc (.cells #[.string ⟨#[95]⟩] 9)) (.cells #[.int .i64 0] 3);exact J41
 rw[hW0];clear hW0;have HDS:=Lib.hid ha;have HB4:=Lib.hid b4;clear ha b4;refine range_own (C:=fun r=>r=w.heap.size+1+1+1∨r=w.heap.size+1+1∨r=w.heap.size+1+1+1+1) (by rintro r (rfl|rfl|rfl) <;> omega) rfl (by omega) (gf:=195) (lb:=#[.pointer (some ⟨w.heap.size+1+1+1,0,none⟩),.pointer (some ⟨w.heap.size+1+1,0,none⟩),.pointer (some ⟨w.heap.size+1+1+1+1,0,none⟩)]) rfl trivial (enters_of Tryz.func195 (by kernel_rfl) rfl)
  (split_seq 5 (by omega) (w.heap.size+1+1+1) (w.heap.size+1+1) (w.heap.size+1+1+1+1) s hs W0 (by omega) (by omega) b3 b2 HB4.out) (fun _=>rfl)
  (fun pre W=>(∀p∈pre,goodP ds p.1)∧W.heap[w.heap.size]?=some (.cells #[.string bg,.int .i64 bb,.string ds] 215 (0,0))∧W.heap[w.heap.size+1]?=some (.cells #[.bool false] 4 (0,0))∧W0.heap.size≤W.heap.size∧Below w.heap.size w W)
  (fun c pre W=>c = .ret∧(∃p∈pre,¬goodP ds p.1)∧W.heap[w.heap.size+1]?=some (.cells #[.bool false] 4 (0,0))∧Below w.heap.size w W)
  (fun pre A B row hs hg hr=>⟨hs.1,cells_turn (w:=w) hs.2.1 (by omega) (by omega) hg hr,cells_turn (w:=w) hs.2.2.1 (by omega) (by omega) hg hr,Nat.le_trans hs.2.2.2.1 hg.size,below_turn (by rintro r (rfl|rfl|rfl) <;> omega) (by omega) hs.2.2.2.2 hg hr⟩)
  (fun c pre A B row hs hg hr=>⟨hs.1,hs.2.1,cells_turn (w:=w) hs.2.2.1 (by omega) (by omega) hg hr,below_turn (by rintro r (rfl|rfl|rfl) <;> omega) (by omega) hs.2.2.2 hg hr⟩)
  ⟨fun p hp=>(by cases hp),b0,b1,Nat.le_refl _,hG0⟩
  (fun x:SubB s.size=>{ tmps:=#[radV bg bb ds,.string s,.pointer (some ⟨w.heap.size,0,none⟩),undef,.pointer (some ⟨w.heap.size+1,0,none⟩),.string x.1,.string s,.func (.func 195) #[] #[.pointer (some ⟨w.heap.size+1+1+1,0,none⟩),.pointer (some ⟨w.heap.size+1+1,0,none⟩),.pointer (some ⟨w.heap.size+1+1+1+1,0,none⟩)],.string x.1,undef,undef,undef,undef,undef,undef,undef,undef,undef],defers:=[] }) ?assign ?body ?done ?stop
 case assign =>
  intro l x W K hK
  gi_wp2
  exact hK
 case body =>
  rintro l pre ⟨x,hxs⟩ W ⟨hgood,hb0,hb1,hsW,hB⟩ hlen;dsimp only;have kd:W.cell? ⟨w.heap.size,2,none⟩=some (.string ds):=by rw[cell_of_block hb0];rfl
  have kr:W.cell? ⟨w.heap.size+1,0,none⟩=some (.bool false):=by rw[cell_of_block hb1];rfl
  have kf:W.frozen? ⟨w.heap.size+1,0,none⟩=false:=unfrozen_of_block hb1 0;by_cases hx:x.toList=[]
  · have hbad:¬goodP ds x:=fun h=>h.1 hx
    have HB:=Lib.hid hbad;obtain rfl:x=⟨#[]⟩:=by
     apply ByteArray.ext;apply Array.toList_inj.1;rw[←Lib.toList_data];exact hx
    clear hbad hx
    gi_wp2_with fail
    refine⟨trivial,?_⟩
    gi_wp2_with fail
    refine⟨KeepsOthers.setCell _ _ _,rfl,⟨(⟨⟨#[]⟩,hxs⟩:SubB s.size),by simp,HB.out⟩,?_,hB.setCell (p:=⟨w.heap.size+1,0,none⟩) (by simp) _⟩;have:=block_setCell (i:=0) hb1 (.bool false);exact J14
  have he:x.toList.isEmpty=false:=by simpa using hx
  have hxz:x.size≤20000000:=by omega
  obtain⟨b,hb⟩:∃b,((bs x).all fun c=>(bs ds).contains c)=b:=⟨_,rfl⟩
  have HT:=Lib.hid (trim_set x ds hxz hds HDS.out b hb);have HX:=Lib.hid hx;have HBB:=Lib.hid hb;clear hb hx;cases b with
  | true =>
   have hgx:goodP ds x:=⟨HX.out,HBB.out⟩
   have HG:Hid (∀p∈pre++[(⟨x,hxs⟩:SubB s.size)],goodP ds p.1):=fun p hp=>by
    rcases List.mem_append.1 hp with hp|hp
    · exact hgood p hp
    rw[List.mem_singleton]at hp;rw[hp];exact hgx
   clear hgx hgood
   gi_wp2_with (refine⟨trivial,?_⟩;gi_at_call 161;refine (CallsIn.inRound l (callsIn_wide.2 (HT.out _))).mono ?_;rintro e w1 ⟨⟨t,rfl,t1,t2,t3⟩,g1⟩;have t4:=t2 rfl;clear t2 t3)
   refine⟨KeepsOthers.of_gr g1,fun r hr=>g1.block (by rcases hr with rfl|rfl|rfl <;> omega),HG.out,(g1.block (by omega)).trans hb0,(g1.block (by omega)).trans hb1,Nat.le_trans hsW g1.size,hB.trans (Below.mono g1 hB.size)⟩
  | false =>
   have HB:Hid (¬goodP ds x):=fun h=>by have:=h.2;rw[HBB.out]at this;cases this
   clear hgood
   gi_wp2_with (refine⟨trivial,?_⟩;gi_at_call 161;refine (CallsIn.inRound l (callsIn_wide.2 (HT.out _))).mono ?_;rintro e w1 ⟨⟨t,rfl,t1,t2,t3⟩,g1⟩;have t4:=t3 rfl;clear t2 t3;have kr1:w1.cell? ⟨w.heap.size+1,0,none⟩=some (.bool false):=(g1.use.1 _ _ (by omega)).trans kr;have kf1:w1.frozen? ⟨w.heap.size+1,0,none⟩=false:=(g1.use.2.1 _ _ (by omega)).trans kf)
   refine⟨(KeepsOthers.of_gr g1).trans (KeepsOthers.setCell _ _ _),rfl,⟨(⟨x,hxs⟩:SubB s.size),by simp,HB.out⟩,?_,(hB.trans (Below.mono g1 hB.size)).setCell (p:=⟨w.heap.size+1,0,none⟩) (by simp) _⟩;have:=block_setCell (i:=0) ((g1.block (by omega)).trans hb1) (.bool false);exact J14
 case done =>
  rintro D ys W hD hys ⟨hgood,hb0,hb1,hsW,hB⟩ hK;have hval:Pl.rightD (bs ds).contains (bs s)=true:=(right_all ds s ys hys).2 hgood;have kr:W.cell? ⟨w.heap.size+1,0,none⟩=some (.bool false):=by rw[cell_of_block hb1];rfl
  have kf:W.frozen? ⟨w.heap.size+1,0,none⟩=false:=unfrozen_of_block hb1 0;have HV:=Lib.hid hval;clear hgood hval hys
  gi_wp2
  have hK':=(KeepsOthers.setCell W ⟨w.heap.size+1,0,none⟩ (.bool true)).same D _ hK rfl;refine⟨by simp,.inl ⟨_,_,rfl,run_takeDeferred hK',?_⟩⟩;have hc5:=cell_kept (World.cell?_setCell_same' W ⟨w.heap.size+1,0,none⟩ (.bool true) (by rw[kr];rfl)) (grownBy_putObj' _ D (.deferred none)) (fun r e=>by cases e;exact⟨_,hK',rfl⟩);refine⟨.bool true,?_,by rw[HV.out],(hB.setCell (p:=⟨w.heap.size+1,0,none⟩) (by simp) _).trans (belowK_b (w:=w) (Nat.le_refl _) _ D _ _ (by omega) hK' rfl rfl)⟩;simp[results,Tryz.f142,go_sem,hc5]
 case stop =>
  rintro D c pre W hD ⟨suf,hsuf⟩ ⟨rfl,⟨p,hp,hbad⟩,hb1,hB⟩ hK;have hval:Pl.rightD (bs ds).contains (bs s)=false:=right_bad ds s pre suf hsuf p hp hbad;have kr:W.cell? ⟨w.heap.size+1,0,none⟩=some (.bool false):=by rw[cell_of_block hb1];rfl
  have HV:=Lib.hid hval;clear hbad hval hsuf hp
  gi_wp2
  refine Z176 ?_;intro hc5;simp[results,Tryz.f142,go_sem,hc5]
end Go.Proofs.YtfogfaagjpebcaaGreatDoor
namespace Go.Proofs.YtfogfaagjpebcaaGreatDoor
open Go.RowKit Go.Shelf Go.Joins
attribute [local go_sem] Oper.semAt_some
theorem contains_low (x:Nat) (h:x<128) (w:World) :
    Calls Tryz.prog 108 #[.string pmD,.int .i32 x] w fun e w'=>e = .returned (.bool (x==43 || x==45 || x==95 || x==46))∧Gr w w':=by
 refine (Tryz.strings_ContainsRune_ascii pmD x w (by omega) (by omega)).mono ?_;refine Z48 ?_;refine⟨?_,Gr.refl _⟩;have:∀x:Fin 128,decide (0≤Lib.indexByte pmD.data.toList ((x.val:Int)).toNat.toUInt8)=(x.val==43 || x.val==45 || x.val==95 || x.val==46):=by decide
 rw[this ⟨x,h⟩]
theorem contains_any (x:Nat) (h:x≤1114111) (w:World) :
    Calls Tryz.prog 108 #[.string pmD,.int .i32 x] w fun e w'=>e = .returned (.bool (x==43 || x==45 || x==95 || x==46))∧Gr w w':=by
 by_cases h1:x<128
 · exact contains_low x h1 w
 refine (contains_high x (by omega) (by omega) w).mono ?_;rintro e w' ⟨rfl,g⟩;refine⟨?_,g⟩;have a:(x==43)=false:=by simp;omega
 have b:(x==45)=false:=by simp;omega
 have c:(x==95)=false:=by simp;omega
 have d:(x==46)=false:=by simp;omega
 rw[a,b,c,d];rfl
theorem tv_part (x:Nat) (h:x≤1114111) (w:World) :
    Calls Tryz.prog 114 #[.int .i32 x] w fun e w'=>e = .returned (.bool (Pl.partN x))∧Gr w w':=by
 have HC:=Lib.hid (contains_any x h);clear h;go_enter Tryz.func114,Tryz.ntmps114;go_wp2_with (go_at_call 108;refine (HC.out _).mono ?_;rintro e w1 ⟨rfl,g1⟩)
 all_goals go_ret
 all_goals (refine⟨ret_bool ?_,by first|assumption|exact Gr.refl _⟩;rw[Bool.eq_iff_iff];simp[Pl.partN];try omega)
theorem part_pays (w:World):PredGrows Tryz.prog 114 #[] Pl.partN w:=by
 intro W x hx _;exact tv_part x hx W
theorem idx_part (s:ByteArray):∀f pos,pos≤s.size→s.size-pos≤f →
    Lib.idxFuncFrom Pl.partN false s f pos=if pos+(Pl.tok ((bs s).drop pos)).length<s.size then ((pos+(Pl.tok ((bs s).drop pos)).length:Nat):Int) else -1:=by
 intro f
 induction f with
 | zero =>
  exact J26
 | succ f ih =>
  intro pos h1 h2;rw[Lib.idxFuncFrom];by_cases hp:pos<s.size
  · rw[if_pos hp];have hl:pos<(bs s).length:=by rw[bs_length];exact hp
    have hget:(bs s)[pos]'hl=s[pos]'hp:=rfl;by_cases hlow:(s[pos]'hp).toNat<128
    · rw[decode_low s pos hp hlow];cases hc:Pl.partN (s[pos]'hp).toNat with
      | false =>
       simp only[hc,if_true];have:Pl.tok ((bs s).drop pos)=[]:=by
        unfold Pl.tok;rw[List.drop_eq_getElem_cons hl,List.takeWhile_cons,if_neg];rw[hget];simp[Pl.isPart,hc]
       rw[this,if_pos (by simpa using hp)];simp
      | true =>
       rw[if_neg (by simp[hc]),ih (pos+1) (by omega) (by omega)];unfold Pl.tok;rw[tw_step Pl.isPart (bs s) pos hl (by rw[hget];simp[Pl.isPart,hc])]
    have hd:=decode_high s pos hp (by omega);have hn:Pl.partN (Utf8.decode s pos).1=false:=by simp[Pl.partN];omega
    rw[hn,if_pos rfl];have:Pl.tok ((bs s).drop pos)=[]:=by
     unfold Pl.tok;rw[List.drop_eq_getElem_cons hl,List.takeWhile_cons,if_neg];rw[hget];simp[Pl.isPart,Pl.partN];omega
    rw[this,if_pos (by simpa using hp)];simp
  rw[if_neg hp,if_neg (by omega)]
theorem tok_le (l:List UInt8):(Pl.tok l).length≤l.length:=by
 exact (List.takeWhile_sublist Pl.isPart).length_le
theorem trim_part (s:ByteArray) (w:World) :
    Calls Tryz.prog 113 #[.string s,.func (.func 114) #[] #[]] w fun e w'=>e = .returned (.string (s.extract (Pl.tok (bs s)).length s.size))∧Gr w w':=by
 refine (Any.strings_TrimLeftFunc_grows Tryz.lays272 114 #[] (enters_of Tryz.func114 (by kernel_rfl) rfl) Pl.partN s w (part_pays w)).mono ?_;rintro e w' ⟨rfl,hb⟩;refine⟨?_,hb⟩;have h1:=idx_part s s.size 0 (by omega) (by omega);have hl:=tok_le (bs s);rw[bs_length]at hl;unfold Lib.trimLeftF;rw[show Lib.idxFunc Pl.partN false s=Lib.idxFuncFrom Pl.partN false s s.size 0 from rfl,h1];simp only[List.drop_zero,Nat.zero_add];by_cases h2:(Pl.tok (bs s)).length<s.size
 · rw[if_pos h2,if_neg (by omega)];simp
 rw[if_neg h2,if_pos rfl];congr 2;apply ByteArray.ext;simp;omega
end Go.Proofs.YtfogfaagjpebcaaGreatDoor
namespace Go.Proofs.YtfogfaagjpebcaaGreatDoor
open Go.RowKit Go.Shelf Go.Joins
attribute [local go_sem] Oper.semAt_some
abbrev radC3 (bg:ByteArray) (bb:Nat) (ds:ByteArray) (b:Nat) (w:World):Prop:=(w.cell? ⟨b,0,none⟩=some (.string bg)∧w.cell? ⟨b,1,none⟩=some (.int .i64 bb)∧w.cell? ⟨b,2,none⟩=some (.string ds))∧b<w.heap.size
theorem radC3.gr {bg bb ds} {b:Nat} {w w':World} (h:radC3 bg bb ds b w) (g:Gr w w'):radC3 bg bb ds b w':=by
 obtain⟨⟨h0,h1,h2⟩,hl⟩:=h;have hc:=g.use.1;exact⟨⟨(hc _ _ hl).trans h0,(hc _ _ hl).trans h1,(hc _ _ hl).trans h2⟩,Nat.lt_of_lt_of_le hl g.size⟩
def IntPost (X:Pl.Out Pl.Bs) (e:Ending):Prop:=match X with
 | .ok x=>e = .returned (.tuple #[.string ⟨x.toArray⟩,.int .i64 0])
 | .bad c _=>e = .returned (.tuple #[.string ⟨#[]⟩,.int .i64 c])
def intY (Y:Lib.NumEnd Int):Pl.Out Pl.Bs:=match Y with
 | .ok v => .ok (Lib.itoa v)
 | .range => .bad 8 0
 | Lib.NumEnd.syntax => .bad 3 0
theorem post_bad {X:Pl.Out Pl.Bs} {c:Nat} (h:X = .bad c 0):IntPost X (.returned (.tuple #[.string ⟨#[]⟩,.int .i64 c])):=by rw[h];rfl
theorem post_ok {X:Pl.Out Pl.Bs} {v:Int} (h:X=intY (.ok v)):IntPost X (.returned (.tuple #[.string ⟨(Lib.itoa v).toArray⟩,.int .i64 0])):=by rw[h];rfl
set_option maxRecDepth 100000 in
theorem in_read_F (bg:ByteArray) (bb:Nat) (ds:ByteArray) (s:ByteArray) (hs:s.size≤20000000) (hrv:radOfV (bs s)=radV bg bb ds) (hbz:bg.size≤s.size) (q:∀W,(Go.binOp .eql 215 (radV bg bb ds) tensV).run Tryz.prog W = .ok (.bool false) W)
    (D:ByteArray) (hD:s.extract bg.size s.size=D) (r:Bool) (hr:∀w,Calls Tryz.prog 142 #[radV bg bb ds,.string D] w fun e w'=>e = .returned (.bool r)∧Gr w w')
    (L:ByteArray) (hL:L=⟨(Lib.replaceAll (bs D) [95] []).toArray⟩) (Y:Lib.NumEnd Int) (hY:r=true→Y≠Lib.NumEnd.syntax∧(∀v,Y = .ok v → -9223372036854775808≤v∧v≤9223372036854775807)∧∀w ep,w.cell? ⟨11,0,none⟩=some (.iface 280 (.pointer (some ep)))→Calls Tryz.prog 143 #[.string L,.int .i64 bb,.int .i64 64] w (ParsePost ep w Y)) (w:World) (hw:IntW w) :
    Calls Tryz.prog 128 #[.string s] w fun e w'=>IntPost (if r=false then .bad 3 0 else intY Y) e∧Gr w w':=by
 have HW:=Lib.hid hw;have HRV:=Lib.hid hrv;have HR:=Lib.hid hr;have HL:=Lib.hid hL;have hDz:D.size≤20000000:=by rw[←hD];simp;omega
 refine Z183 ?_;intro hLz;have hb1:(bg.size:Int)≤(s.size:Int):=by omega
 obtain⟨T,hT⟩:∃T,T=L:=⟨_,rfl⟩
 have hcat:(⟨#[]⟩:ByteArray)++L=T:=by rw[hT];apply ByteArray.ext;simp[ByteArray.data_append]
 rw[←hT]at hY;have hnb:¬ 9223372036854775807<L.size:=by omega
 have hnb2:¬ 9223372036854775807<(0+L.size):=by omega
 have hb2:(0:Int)≤(bg.size:Int):=by omega
 have HY:=Lib.hid hY;clear hw hrv hr hY hL hT;go_enter Tryz.func128,Tryz.ntmps128;go_wp2_with (go_at_call 140;refine (in_of_all s _ ((HW.out.gr Gr.auto).rad)).mono ?_;rw[HRV.out];rintro e w1 ⟨rfl,g1⟩);refine Z150 ?_;intro W0 hW0;have hR0:radC3 bg bb ds w1.heap.size W0:=by rw[←hW0];exact⟨⟨by simp,by simp,by simp⟩,by simp⟩
 have hG0:Gr w W0:=by rw[←hW0];exact g1.alloc _
 rw[hW0];clear hW0 g1;obtain⟨⟨c0,c1,c2⟩,hlt⟩:=hR0
 go_quiet (fail)
 have hGq:Gr w (W0.drewN nq):=hG0.drewN _;go_wp2_with fail;refine Z15 ?_;intro hS0 w2 g2 hS1;refine Reg.sk 4 ?_;refine Reg.sk 5 ?_;refine Reg.ty 6 ?_;refine Reg.ty 7 ?_;refine Z45 ?_;refine Reg.ty 16 ?_;refine Z12 ?_;have hG2:Gr w w2:=hGq.drew.trans g2;clear g2 hG0 hGq c0 c1 c2 hlt hS0;obtain⟨⟨c0,c1,c2⟩,hlt⟩:=hS1;go_wp2_with fail;refine Z312 ?_;intro hS2 w3 g3 hS3;cases r with
 | false =>
  refine Z22 ?_;refine Z12 ?_;have hG3:Gr w w3:=hG2.drew.trans g3;clear g3;go_wp2_with fail;exact bodyPost_ret (v := .tuple #[.string ⟨#[]⟩,.int .i64 3]) (by simp[results,Tryz.results128,go_sem]) rfl ⟨rfl,hG3⟩
 | true =>
  refine Z42 ?_;refine Z306 ?_;intro w4 g4 hS4;refine Z32 ?_;refine Reg.ty 7 ?_;refine Reg.ty 8 ?_;refine Reg.sk 9 ?_;refine Reg.sk 10 ?_;refine Reg.sk 11 ?_;refine Reg.ty 12 ?_;refine Reg.ty 13 ?_;refine Z94 ?_;refine Z101 ?_;refine Z12 ?_;have hG4:Gr w w4:=(hG2.drew.trans g3).trans g4;clear g3 g4 hG2 c0 c1 c2 hlt hS2 hS3;obtain⟨⟨c0,c1,c2⟩,hlt⟩:=hS4;go_wp2_with fail;obtain⟨hYn,hYb,hYp⟩:=HY.out (by simp);cases Y with
  | ok v =>
   obtain⟨hv0,hv1⟩:=hYb v rfl;have HP:Hid (∀W,IntW W→Calls Tryz.prog 143 #[.string T,.int .i64 bb,.int .i64 64] W fun e w'=>e = .returned (.tuple #[.int .i64 v,.nilIface])∧Gr W w'):=fun W hW=>by
    obtain⟨ep,he⟩:=hW.err;exact hYp W ep he
   refine Z123 ?_;intro HV;clear hYp hYb hYn HY hv0 hv1
   go_region_held3 (radC3 bg bb ds w1.heap.size) (first|exact⟨⟨c0,c1,c2⟩,hlt⟩|assumption|exact radC3.gr (by assumption) (by assumption)|go_keep) (first|(go_at_call 144;refine (replace_low D (by omega) _ (HW.out.gr Gr.auto)).mono ?_;rw[←HL.out];rintro e w5 ⟨rfl,g5⟩)|(go_at_call 143;refine (HP.out _ (HW.out.gr Gr.auto)).mono ?_;rintro e w6 ⟨rfl,g6⟩))
   refine Z39 ?_;intro hG6 hW6 ep he HF;clear g5 g6 hG4;go_wp2_with (first|(go_at_call 145;refine (err_is_none _ _ _).mono ?_;rintro e w7 ⟨rfl,g7⟩)|(go_at_call 146;refine (HF.out _ (hW6.gr Gr.auto)).mono ?_;rintro e w8 ⟨rfl,k8,os8,rfl⟩));exact bodyPost_ret (v := .tuple #[.string ⟨(Lib.itoa v).toArray⟩,.int .i64 0]) (by simp[results,Tryz.results128,go_sem]) rfl ⟨by simp[IntPost,intY],(hG6.trans g7).trans (grow_gr _ _ _)⟩
  | range =>
   have HP:Hid (∀W,IntW W→Calls Tryz.prog 143 #[.string T,.int .i64 bb,.int .i64 64] W fun e w'=>(∃(k:Int) (N:Nat) (ep:Addr),e = .returned (.tuple #[.int .i64 k,.iface 254 (.pointer (some ⟨N,0,none⟩))])∧w'.cell? ⟨N,2,none⟩=some (.iface 280 (.pointer (some ep)))∧w'.cell? ⟨11,0,none⟩=some (.iface 280 (.pointer (some ep))))∧Gr W w'):=fun W hW=>by
    obtain⟨ep,he⟩:=hW.err;refine (hYp W ep he).mono ?_;rintro e w' ⟨⟨k,N,rfl,hN⟩,g⟩;exact⟨⟨k,N,ep,rfl,hN,(g.use.1 _ _ (Lib.lt_of_cell he)).trans he⟩,g⟩
   clear hYp hYb hYn HY
   go_region_held3 (radC3 bg bb ds w1.heap.size) (first|exact⟨⟨c0,c1,c2⟩,hlt⟩|assumption|exact radC3.gr (by assumption) (by assumption)|go_keep) (first|(go_at_call 144;refine (replace_low D (by omega) _ (HW.out.gr Gr.auto)).mono ?_;rw[←HL.out];rintro e w5 ⟨rfl,g5⟩)|(go_at_call 143;refine (HP.out _ (HW.out.gr Gr.auto)).mono ?_;rintro e w6 ⟨⟨k,N,ep,rfl,hN,hE⟩,g6⟩))
   refine Z158 ?_;intro hG6;clear g5 g6 hG4;go_wp2_with (go_at_call 145;refine (is_range N ep _ hN).mono ?_;rintro e w7 ⟨rfl,rfl⟩);exact bodyPost_ret (v := .tuple #[.string ⟨#[]⟩,.int .i64 8]) (by simp[results,Tryz.results128,go_sem]) rfl ⟨by simp[IntPost,intY],hG6⟩
  | _=>exact absurd rfl hYn
set_option maxRecDepth 100000 in
theorem in_read_T3 (bg:ByteArray) (bb:Nat) (ds:ByteArray) (hbg:bg=⟨#[]⟩) (hbb:bb=10) (hds:ds=decD) (s:ByteArray) (hs:s.size≤20000000) (hrv:radOfV (bs s)=radV bg bb ds) (h0:0<s.size) (hc:(s[0]'h0).toNat=43) (D S:ByteArray) (hD:s.extract 1 s.size=D) (hS:s.extract 0 1=S) (r:Bool) (hr:∀w,Calls Tryz.prog 142 #[radV bg bb ds,.string D] w fun e w'=>e = .returned (.bool r)∧Gr w w')
    (L:ByteArray) (hL:L=⟨(Lib.replaceAll (bs D) [95] []).toArray⟩) (T:ByteArray) (hcat:S++L=T) (Y:Lib.NumEnd Int) (hY:r=true→Y≠Lib.NumEnd.syntax∧(∀v,Y = .ok v → -9223372036854775808≤v∧v≤9223372036854775807)∧∀w ep,w.cell? ⟨11,0,none⟩=some (.iface 280 (.pointer (some ep)))→Calls Tryz.prog 143 #[.string T,.int .i64 bb,.int .i64 64] w (ParsePost ep w Y))
    (X:Pl.Out Pl.Bs) (hXf:r=false→X = .bad 3 0) (hXz:1<D.size∧(bs D)[0]?=some 48→X = .bad 3 0) (hXt:r=true→¬(1<D.size∧(bs D)[0]?=some 48)→X=intY Y) (w:World) (hw:IntW w) :
    Calls Tryz.prog 128 #[.string s] w fun e w'=>IntPost X e∧Gr w w':=by
 refine Z126 ?_;intro HW HRV HR HY HL HXf HXz HXt;have hDz:D.size≤20000000:=by rw[←hD];simp;omega
 have hSz:S.size≤1:=by rw[←hS];simp;omega
 have hne:¬s.toList=[]:=fun e=>by rw[Lib.toList_data]at e;have h2:=bs_length s;rw[show bs s=[] from e]at h2;simp at h2;omega
 refine Z198 ?_;intro hemp hp0 hp1;obtain⟨y1,y2⟩:=beqs (s[0]'h0).toNat 43 true (by simpa using hc);refine Z183 ?_;intro hLz;have hnb:¬ 9223372036854775807<L.size:=by omega
 have hnb2:¬ 9223372036854775807<(S.size+L.size):=by omega
 have q:∀W,(Go.binOp .eql 215 (radV bg bb ds) tensV).run Tryz.prog W = .ok (.bool true) W:=fun _=>by subst hbg hbb hds;kernel_rfl
 have hb1:(bg.size:Int)≤(s.size:Int):=by rw[hbg,show (⟨#[]⟩:ByteArray).size=0 from rfl];omega
 refine Z196 ?_;intro hb2 hB;clear hbg hbb hds;clear hw hrv hr hY hL hXf hXz hXt;go_enter Tryz.func128,Tryz.ntmps128;go_wp2_with (go_at_call 140;refine (in_of_all s _ ((HW.out.gr Gr.auto).rad)).mono ?_;rw[HRV.out];rintro e w1 ⟨rfl,g1⟩);refine Z150 ?_;intro W0 hW0;have hR0:radC3 bg bb ds w1.heap.size W0:=by rw[←hW0];exact⟨⟨by simp,by simp,by simp⟩,by simp⟩
 have hG0:Gr w W0:=by rw[←hW0];exact g1.alloc _
 rw[hW0];clear hW0 g1;obtain⟨⟨c0,c1,c2⟩,hlt⟩:=hR0
 go_quiet (fail)
 have hGq:Gr w (W0.drewN nq):=hG0.drewN _;go_wp2_with fail;refine Z15 ?_;intro hS0 w2 g2 hS1;refine Z307 ?_;refine Reg.ty 7 ?_;refine Z46 ?_;refine Reg.ty 11 ?_;refine Reg.sk 12 ?_;refine Reg.sk 13 ?_;refine Reg.sk 14 ?_;refine Reg.ty 15 ?_;refine Reg.ty 16 ?_;exact J150
end Go.Proofs.YtfogfaagjpebcaaGreatDoor
namespace Go.Proofs.YtfogfaagjpebcaaGreatDoor
open Go.RowKit Go.Shelf Go.Joins
attribute [local go_sem] Oper.semAt_some
set_option maxRecDepth 100000 in
theorem in_read_T5 (bg:ByteArray) (bb:Nat) (ds:ByteArray) (hbg:bg=⟨#[]⟩) (hbb:bb=10) (hds:ds=decD) (s:ByteArray) (hs:s.size≤20000000) (hrv:radOfV (bs s)=radV bg bb ds) (h0:0<s.size) (hc:(s[0]'h0).toNat=45) (D S:ByteArray) (hD:s.extract 1 s.size=D) (hS:s.extract 0 1=S) (r:Bool) (hr:∀w,Calls Tryz.prog 142 #[radV bg bb ds,.string D] w fun e w'=>e = .returned (.bool r)∧Gr w w')
    (L:ByteArray) (hL:L=⟨(Lib.replaceAll (bs D) [95] []).toArray⟩) (T:ByteArray) (hcat:S++L=T) (Y:Lib.NumEnd Int) (hY:r=true→Y≠Lib.NumEnd.syntax∧(∀v,Y = .ok v → -9223372036854775808≤v∧v≤9223372036854775807)∧∀w ep,w.cell? ⟨11,0,none⟩=some (.iface 280 (.pointer (some ep)))→Calls Tryz.prog 143 #[.string T,.int .i64 bb,.int .i64 64] w (ParsePost ep w Y))
    (X:Pl.Out Pl.Bs) (hXf:r=false→X = .bad 3 0) (hXz:1<D.size∧(bs D)[0]?=some 48→X = .bad 3 0) (hXt:r=true→¬(1<D.size∧(bs D)[0]?=some 48)→X=intY Y) (w:World) (hw:IntW w) :
    Calls Tryz.prog 128 #[.string s] w fun e w'=>IntPost X e∧Gr w w':=by
 refine Z126 ?_;intro HW HRV HR HY HL HXf HXz HXt;have hDz:D.size≤20000000:=by rw[←hD];simp;omega
 have hSz:S.size≤1:=by rw[←hS];simp;omega
 have hne:¬s.toList=[]:=fun e=>by rw[Lib.toList_data]at e;have h2:=bs_length s;rw[show bs s=[] from e]at h2;simp at h2;omega
 refine Z198 ?_;intro hemp hp0 hp1;obtain⟨y1,y2⟩:=beqs (s[0]'h0).toNat 43 false (by simp;omega);obtain⟨y3,y4⟩:=beqs (s[0]'h0).toNat 45 true (by simpa using hc);refine Z183 ?_;intro hLz;have hnb:¬ 9223372036854775807<L.size:=by omega
 have hnb2:¬ 9223372036854775807<(S.size+L.size):=by omega
 have q:∀W,(Go.binOp .eql 215 (radV bg bb ds) tensV).run Tryz.prog W = .ok (.bool true) W:=fun _=>by subst hbg hbb hds;kernel_rfl
 have hb1:(bg.size:Int)≤(s.size:Int):=by rw[hbg,show (⟨#[]⟩:ByteArray).size=0 from rfl];omega
 refine Z196 ?_;intro hb2 hB;clear hbg hbb hds;clear hw hrv hr hY hL hXf hXz hXt;go_enter Tryz.func128,Tryz.ntmps128;go_wp2_with (go_at_call 140;refine (in_of_all s _ ((HW.out.gr Gr.auto).rad)).mono ?_;rw[HRV.out];rintro e w1 ⟨rfl,g1⟩);refine Z150 ?_;intro W0 hW0;have hR0:radC3 bg bb ds w1.heap.size W0:=by rw[←hW0];exact⟨⟨by simp,by simp,by simp⟩,by simp⟩
 have hG0:Gr w W0:=by rw[←hW0];exact g1.alloc _
 rw[hW0];clear hW0 g1;obtain⟨⟨c0,c1,c2⟩,hlt⟩:=hR0
 go_quiet (fail)
 have hGq:Gr w (W0.drewN nq):=hG0.drewN _;go_wp2_with fail;refine Z15 ?_;intro hS0 w2 g2 hS1;refine Z307 ?_;refine Z19 ?_;exact J150
end Go.Proofs.YtfogfaagjpebcaaGreatDoor
