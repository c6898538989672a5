/-
  Walks: errors.Is at no error; strings.ReplaceAll where nothing is to be replaced; ints.Read at digits.
-/
import Derived.Test.YtkcnbhenhmmfgaaGreatDoorI2
import Derived.Deep.RegionHeld3
import Derived.Test.YtkcnbhenhmmfgaaGreatDoorReg
import Derived.Laws.StructEq
set_option linter.all false
set_option linter.unusedVariables false
set_option linter.unusedSimpArgs false
namespace Go.Proofs.YtkcnbhenhmmfgaaGreatDoor
open Go.RowKit Go.Shelf Go.Joins
attribute [local go_sem] Oper.semAt_some

theorem err_is_none (t : TypeId) (v : Value) (w : World) : Calls Tryz.prog 88 #[.nilIface, .iface t v] w fun e w' => e = .returned (.bool false) ∧ Gr w w' := by
  have q : ∀ W, (Go.binOp .eql 64 .nilIface (.iface t v)).run Tryz.prog W = .ok (.bool false) W := fun W => run_eql_iface_nil_left W t v Tryz.underlying64
  go_enter Tryz.func88, Tryz.ntmps88
  go_wp2_with fail
  go_ret
  exact ⟨rfl, by (repeat (first | exact Gr.refl _ | assumption | refine Gr.drew ?_ | refine Gr.drewN ?_ _ | refine Gr.alloc ?_ _ | (refine Gr.setCell ?_ (by first | (simp; done) | (simp; omega)) _) | refine Gr.trans ?_ (by assumption)))⟩

/-- What ints.Read reads of the memory: the radixes, the error out of range, the powers of ten, the library's bound. -/
structure IntW (w : World) : Prop where
  rad : RadW w
  max : ∃ m : Int, w.cell? ⟨0, 0, none⟩ = some (.int .i64 m)
  err : ∃ t v, w.cell? ⟨1, 0, none⟩ = some (.iface t v)
  pow : Lib.TabIs Tryz.prog w "internal/strconv.uint64pow10" .u64 Lib.pow10Tab

theorem countB_low (s : ByteArray) (hs : ∀ c ∈ bs s, c.toNat ≠ 95) : Lib.countB s ⟨#[95]⟩ = 0 := by
  exact Lib.countB_miss _ _ ((Lib.one s ⟨#[95]⟩ rfl).trans (indexByte_no _ hs))

theorem replace_none (s : ByteArray) (hs : ∀ c ∈ bs s, c.toNat ≠ 95) (hz : s.size ≤ 20000000) (w : World) (hm : ∃ m : Int, w.cell? ⟨0, 0, none⟩ = some (.int .i64 m)) :
    Calls Tryz.prog 87 #[.string s, .string ⟨#[95]⟩, .string ⟨#[]⟩] w fun e w' => e = .returned (.string s) ∧ w' = w := by
  obtain ⟨m, hm⟩ := hm
  go_enter Tryz.func87, Tryz.ntmps87
  go_wp2_with (go_at_call 114; refine (Tryz.strings_Replace_absent s ⟨#[95]⟩ ⟨#[]⟩ (-1) m _ (by omega) hm (by decide) (by decide) (by decide) (countB_low s hs)).mono ?_; rintro e w1 ⟨rfl, rfl⟩)
  go_ret
  exact ⟨rfl, rfl⟩

theorem IntW.gr {w w' : World} (h : IntW w) (g : Gr w w') : IntW w' := by
  have hc := g.use.1
  have hl : ∀ {b o : Nat} {v}, w.cell? ⟨b, o, none⟩ = some v → b < w.heap.size := fun e => Lib.lt_of_cell e
  obtain ⟨m, hm⟩ := h.max
  obtain ⟨t, v, he⟩ := h.err
  refine ⟨fun j v hj => (hc _ _ (hl (h.rad j v hj))).trans (h.rad j v hj), ⟨m, (hc _ _ (hl hm)).trans hm⟩, ⟨t, v, (hc _ _ (hl he)).trans he⟩, ?_⟩
  have hp := h.pow
  have hgn : Tryz.prog.globalNamed "internal/strconv.uint64pow10" = some 6 := by kernel_rfl
  unfold Lib.TabIs World.var? at hp ⊢
  rw [hgn] at hp ⊢
  simp only [Option.bind_some] at hp ⊢
  have hlt : 6 < w.heap.size := by
    rcases Nat.lt_or_ge 6 w.heap.size with h' | h'
    · exact h'
    · rw [Array.getElem?_eq_none h'] at hp; cases hp
  rw [g.block hlt]
  exact hp

abbrev radCells (b : Nat) (w : World) : Prop := (w.cell? ⟨b, 0, none⟩ = some (.string ⟨#[]⟩) ∧ w.cell? ⟨b, 1, none⟩ = some (.int .i64 10) ∧ w.cell? ⟨b, 2, none⟩ = some (.string decD)) ∧ b < w.heap.size
theorem radCells.gr {b : Nat} {w w' : World} (h : radCells b w) (g : Gr w w') : radCells b w' := by
  obtain ⟨⟨h0, h1, h2⟩, hl⟩ := h
  have hc := g.use.1
  exact ⟨⟨(hc _ _ hl).trans h0, (hc _ _ hl).trans h1, (hc _ _ hl).trans h2⟩, Nat.lt_of_lt_of_le hl g.size⟩

theorem noRad_dec (l : List UInt8) (hd : ∀ c ∈ l, isDec c = true) : noRad l := by
  have H : ∀ x : UInt8, x.toNat = 120 ∨ x.toNat = 111 ∨ x.toNat = 98 → Pl.pre l [48, x] = false := by
    intro x hx
    cases hp : Pl.pre l [48, x] with
    | false => rfl
    | true =>
      exfalso
      have h2 : l[1]? = some x := by
        match l, hp with
        | [], hp => cases hp
        | [a], hp => unfold Pl.pre at hp; unfold Pl.pre at hp; simp at hp
        | a :: b :: l, hp =>
          simp only [Pl.pre, Bool.and_true, Bool.and_eq_true, beq_iff_eq] at hp
          rw [hp.2]; rfl
      have h3 := hd x (List.mem_of_getElem? h2)
      simp [isDec] at h3
      omega
  exact ⟨H 120 (by decide), H 111 (by decide), H 98 (by decide)⟩

set_option maxHeartbeats 2000000 in
set_option maxRecDepth 100000 in
/-- Two digits or more behind a zero: no integer. -/
theorem in_read_zero (s : ByteArray) (hd : ∀ c ∈ bs s, isDec c = true) (h1 : 1 < s.size) (hz : s[0]'(by omega) = 48) (hs : s.size ≤ 20000000) (w : World) (hw : IntW w) :
    Calls Tryz.prog 65 #[.string s] w fun e w' => e = .returned (.tuple #[.string ⟨#[]⟩, .int .i64 3]) ∧ Gr w w' := by
  have HD : Hid (∀ c ∈ bs s, isDec c = true) := hd
  have HW := Lib.hid hw
  have hno : noRad (bs s) := noRad_dec _ hd
  have HN := Lib.hid hno
  have hlen : ¬ s.toList = [] := fun e => by rw [Lib.toList_data] at e; have h2 := bs_length s; rw [show bs s = [] from e] at h2; simp at h2; omega
  have hemp : s.toList.isEmpty = false := by simpa using hlen
  have hg1 : decide (1 < s.size) = true := by simpa using h1
  have hz0 : (s[0]'(by omega)).toNat = 48 := by rw [hz]; rfl
  have q : ∀ W, (Go.binOp .eql 143 tensV tensV).run Tryz.prog W = .ok (.bool true) W := fun _ => by kernel_rfl
  have hpos : (0 : Int) < (s.size : Int) := by omega
  have hpos' : 0 < s.size := by omega
  have hg2 : decide ((1 : Int) < (s.size : Int)) = true := by simp; omega
  clear hd hno hw
  go_enter Tryz.func65, Tryz.ntmps65
  go_wp2_with (go_at_call 83; refine (in_of s HN.out _ ((HW.out.gr (by (repeat (first | exact Gr.refl _ | assumption | refine Gr.drew ?_ | refine Gr.drewN ?_ _ | refine Gr.alloc ?_ _ | (refine Gr.setCell ?_ (by first | (simp; done) | (simp; omega)) _) | refine Gr.trans ?_ (by assumption))))).rad)).mono ?_; rintro e w1 ⟨rfl, g1⟩)
  obtain ⟨W0, hW0⟩ : ∃ W0, w1.alloc (.cells #[.string ⟨#[]⟩, .int .i64 10, .string decD] 143) = W0 := ⟨_, rfl⟩
  have hR0 : radCells w1.heap.size W0 := by rw [← hW0]; exact ⟨⟨by simp, by simp, by simp⟩, by simp⟩
  have hG0 : Gr w W0 := by rw [← hW0]; exact g1.alloc _
  rw [hW0]
  clear hW0 g1
  obtain ⟨⟨c0, c1, c2⟩, hlt⟩ := hR0
  go_quiet (fail)
  go_wp2_with fail
  go_region_held3 (radCells w1.heap.size) (first | exact ⟨⟨c0, c1, c2⟩, hlt⟩ | assumption | exact radCells.gr (by assumption) (by assumption) | go_keep) (first | (go_at_call 84; refine (in_tens _).mono ?_; rintro e w2 ⟨rfl, g2⟩))
  rename_i hH2
  have hG2 : Gr w w2 := (hG0.drewN _).trans g2
  clear g2 hG0 c0 c1 c2 hlt
  obtain ⟨⟨c0, c1, c2⟩, hlt⟩ := hH2
  go_wp2_with fail
  go_region_held3 (radCells w1.heap.size) (first | exact ⟨⟨c0, c1, c2⟩, hlt⟩ | assumption | exact radCells.gr (by assumption) (by assumption) | go_keep) (first | (go_at_call 85; refine (in_right s HD.out (by omega) (by omega) _).mono ?_; rintro e w3 ⟨rfl, g3⟩) | (go_at_call 84; refine (in_tens _).mono ?_; rintro e w4 ⟨rfl, g4⟩))
  all_goals go_wp2_with fail
  exact bodyPost_ret (v := .tuple #[.string ⟨#[]⟩, .int .i64 3]) (by simp [results, Tryz.results65, go_sem]) rfl ⟨rfl, (hG2.drew.trans g3).trans g4⟩

theorem dec_ten (P : UInt8 → Prop) (h : P 48 ∧ P 49 ∧ P 50 ∧ P 51 ∧ P 52 ∧ P 53 ∧ P 54 ∧ P 55 ∧ P 56 ∧ P 57) (c : UInt8) (hc : isDec c = true) : P c := by
  simp [isDec] at hc
  have : c = 48 ∨ c = 49 ∨ c = 50 ∨ c = 51 ∨ c = 52 ∨ c = 53 ∨ c = 54 ∨ c = 55 ∨ c = 56 ∨ c = 57 := by
    simp only [← UInt8.toNat_inj]
    simp
    omega
  obtain ⟨h0, h1, h2, h3, h4, h5, h6, h7, h8, h9⟩ := h
  rcases this with rfl | rfl | rfl | rfl | rfl | rfl | rfl | rfl | rfl | rfl <;> assumption
theorem parse_digit (c : UInt8) (hc : isDec c = true) : Lib.parseIntB 64 [c] = .ok (c.toNat - 48 : Nat) :=
  dec_ten (fun c => Lib.parseIntB 64 [c] = .ok (c.toNat - 48 : Nat)) (by refine ⟨rfl, rfl, rfl, rfl, rfl, rfl, rfl, rfl, rfl, rfl⟩) c hc
theorem itoa_digit (c : UInt8) (hc : isDec c = true) : Lib.itoa ((c.toNat - 48 : Nat) : Int) = [c] :=
  dec_ten (fun c => Lib.itoa ((c.toNat - 48 : Nat) : Int) = [c]) (by refine ⟨?_, ?_, ?_, ?_, ?_, ?_, ?_, ?_, ?_, ?_⟩ <;> kernel_rfl) c hc
theorem grow_gr (w : World) (k : Nat) (os) : Gr w (Sort.grow (w.drewN k) os) := by
  refine ⟨rfl, rfl, rfl, by simp [Sort.grow, World.drewN], fun j hj => ?_⟩
  simp [Sort.grow, World.drewN, Array.getElem?_append_left hj]
theorem parse_ok (s : ByteArray) (hs : s.size ≤ 20000000) (v : Int) (h : Lib.parseIntB 64 s.data.toList = .ok v) (w : World) :
    Calls Tryz.prog 86 #[.string s, .int .i64 10, .int .i64 64] w fun e w' => e = .returned (.tuple #[.int .i64 v, .nilIface]) ∧ Gr w w' := by
  refine (Tryz.strconv_ParseInt_10_at64_ok s (by omega) v h w).mono ?_
  rintro e w' ⟨rfl, h⟩
  refine ⟨rfl, ?_⟩
  rcases h with rfl | ⟨t, rfl⟩
  · exact Gr.refl _
  · exact Lib.bytesWorld_below _ _ _

set_option maxHeartbeats 2000000 in
set_option maxRecDepth 100000 in
/-- One digit: itself. -/
theorem in_read_one (s : ByteArray) (hd : ∀ c ∈ bs s, isDec c = true) (h1 : s.size = 1) (w : World) (hw : IntW w) :
    Calls Tryz.prog 65 #[.string s] w fun e w' => e = .returned (.tuple #[.string s, .int .i64 0]) ∧ Gr w w' := by
  have HD : Hid (∀ c ∈ bs s, isDec c = true) := hd
  have HW := Lib.hid hw
  have HL : Hid (∀ c ∈ bs s, c.toNat ≠ 95) := fun c hc => dec_low c (hd c hc)
  have hno : noRad (bs s) := noRad_dec _ hd
  have HN := Lib.hid hno
  have hlen : ¬ s.toList = [] := fun e => by rw [Lib.toList_data] at e; have h2 := bs_length s; rw [show bs s = [] from e] at h2; simp at h2; omega
  have hemp : s.toList.isEmpty = false := by simpa using hlen
  have hg1 : decide (1 < s.size) = false := by simp; omega
  have hs : s.size ≤ 20000000 := by omega
  obtain ⟨c, hc⟩ : ∃ c, bs s = [c] := by
    have hL := bs_length s
    rw [h1] at hL
    exact List.length_eq_one_iff.1 hL
  have hcd : isDec c = true := hd c (by rw [hc]; simp)
  have hp0 : 0 < s.size := by omega
  have hz0 : (s[0]'hp0).toNat = c.toNat := by
    have h2 := idx_bs s 0 hp0
    rw [hc] at h2
    simp at h2
    rw [h2]
  have b43 : ((c.toNat : Int) == 43) = false := by simp [isDec] at hcd; simp; omega
  have b45 : ((c.toNat : Int) == 45) = false := by simp [isDec] at hcd; simp; omega
  have hv : Lib.parseIntB 64 s.data.toList = .ok (c.toNat - 48 : Nat) := by
    rw [show s.data.toList = [c] from hc]
    exact parse_digit c hcd
  have hi : Lib.itoa ((c.toNat - 48 : Nat) : Int) = [c] := itoa_digit c hcd
  have q : ∀ W, (Go.binOp .eql 143 tensV tensV).run Tryz.prog W = .ok (.bool true) W := fun _ => by kernel_rfl
  have hpos : (0 : Int) < (s.size : Int) := by omega
  have hpos' : 0 < s.size := by omega
  have hg2 : decide ((1 : Int) < (s.size : Int)) = false := by simp; omega
  have hnb : ¬ 9223372036854775807 < s.size := by omega
  have hnb2 : ¬ 9223372036854775807 < (0 + s.size) := by omega
  have hcat : (⟨#[]⟩ : ByteArray) ++ s = s := by apply ByteArray.ext; simp [ByteArray.data_append]
  clear hd hno hw h1
  go_enter Tryz.func65, Tryz.ntmps65
  go_wp2_with (go_at_call 83; refine (in_of s HN.out _ ((HW.out.gr (by (repeat (first | exact Gr.refl _ | assumption | refine Gr.drew ?_ | refine Gr.drewN ?_ _ | refine Gr.alloc ?_ _ | (refine Gr.setCell ?_ (by first | (simp; done) | (simp; omega)) _) | refine Gr.trans ?_ (by assumption))))).rad)).mono ?_; rintro e w1 ⟨rfl, g1⟩)
  obtain ⟨W0, hW0⟩ : ∃ W0, w1.alloc (.cells #[.string ⟨#[]⟩, .int .i64 10, .string decD] 143) = W0 := ⟨_, rfl⟩
  have hR0 : radCells w1.heap.size W0 := by rw [← hW0]; exact ⟨⟨by simp, by simp, by simp⟩, by simp⟩
  have hG0 : Gr w W0 := by rw [← hW0]; exact g1.alloc _
  rw [hW0]
  clear hW0 g1
  obtain ⟨⟨c0, c1, c2⟩, hlt⟩ := hR0
  go_quiet (fail)
  go_wp2_with fail
  go_region_held3 (radCells w1.heap.size) (first | exact ⟨⟨c0, c1, c2⟩, hlt⟩ | assumption | exact radCells.gr (by assumption) (by assumption) | go_keep) (first | (go_at_call 84; refine (in_tens _).mono ?_; rintro e w2 ⟨rfl, g2⟩))
  rename_i hH2
  have hG2 : Gr w w2 := (hG0.drewN _).trans g2
  clear g2 hG0 c0 c1 c2 hlt
  obtain ⟨⟨c0, c1, c2⟩, hlt⟩ := hH2
  go_wp2_with fail
  have hS0 : radCells w1.heap.size w2.drew := ⟨⟨c0, c1, c2⟩, hlt⟩
  refine Reg.begin' (W := fun _ => true) (S := radCells w1.heap.size) (by kernel_rfl) ?_
  refine Reg.take (i := 0) (v := ?_) rfl (by kernel_rfl) (by kernel_rfl) (by kernel_rfl) (by kernel_rfl) (by kernel_rfl) (fun _ _ _ h => h) hS0 (by rfl) ?_ ?_
  rotate_left
  · (intro w hSw; obtain ⟨⟨q0, q1, q2⟩, ql⟩ := hSw; go_simp; try with_reducible rfl)
  try simp only [Act.put, List.getElem_toArray, List.getElem_cons_succ, List.getElem_cons_zero, List.setIfInBounds_toArray, List.set_cons_zero, List.set_cons_succ]
  refine Reg.takeY (i := 1) (v := ?_) rfl (by kernel_rfl) (by kernel_rfl) (by kernel_rfl) (fun _ _ _ h => h) (by rfl) ?_ ?_
  rotate_left
  · (intro w; go_simp; try with_reducible rfl)
  try simp only [Act.put, List.getElem_toArray, List.getElem_cons_succ, List.getElem_cons_zero, List.setIfInBounds_toArray, List.set_cons_zero, List.set_cons_succ]
  refine Reg.all (rs := [2]) (by kernel_rfl) (by simp) ?_
  intro j hj
  obtain rfl := List.mem_singleton.1 hj
  clear hj
  refine Reg.one (i := 2) rfl (by rfl) ?_
  go_simp
  refine (in_right s HD.out (by omega) (by omega) _).mono ?_
  rintro e w3 ⟨rfl, g3⟩
  have hS1 := hS0.gr g3
  refine ⟨by first | exact hS1 | exact fun _ => hS1 | exact fun _ _ => hS1, ?_⟩
  try simp only [Act.put, List.setIfInBounds_toArray, List.set_cons_zero, List.set_cons_succ]
  refine Reg.takeY (i := 3) (v := ?_) rfl (by kernel_rfl) (by kernel_rfl) (by kernel_rfl) (fun _ _ _ h => h) (by rfl) ?_ ?_
  rotate_left
  · (intro w; go_simp; try with_reducible rfl)
  try simp only [Act.put, List.getElem_toArray, List.getElem_cons_succ, List.getElem_cons_zero, List.setIfInBounds_toArray, List.set_cons_zero, List.set_cons_succ]
  refine Reg.takeY (i := 4) (v := ?_) rfl (by kernel_rfl) (by kernel_rfl) (by kernel_rfl) (fun _ _ _ h => h) (by rfl) ?_ ?_
  rotate_left
  · (intro w; go_simp; try with_reducible rfl)
  try simp only [Act.put, List.getElem_toArray, List.getElem_cons_succ, List.getElem_cons_zero, List.setIfInBounds_toArray, List.set_cons_zero, List.set_cons_succ]
  refine Reg.take (i := 5) (v := ?_) rfl (by kernel_rfl) (by kernel_rfl) (by kernel_rfl) (by kernel_rfl) (by kernel_rfl) (fun _ _ _ h => h) hS1 (by rfl) ?_ ?_
  rotate_left
  · (intro w hSw; obtain ⟨⟨q0, q1, q2⟩, ql⟩ := hSw; go_simp; try with_reducible rfl)
  try simp only [Act.put, List.getElem_toArray, List.getElem_cons_succ, List.getElem_cons_zero, List.setIfInBounds_toArray, List.set_cons_zero, List.set_cons_succ]
  refine Reg.all (rs := [6]) (by kernel_rfl) (by simp) ?_
  intro j hj
  obtain rfl := List.mem_singleton.1 hj
  clear hj
  refine Reg.one (i := 6) rfl (by rfl) ?_
  go_simp
  refine (in_tens _).mono ?_
  rintro e w4 ⟨rfl, g4⟩
  have hH4 := hS1.gr g4
  refine ⟨by first | exact hH4 | exact fun _ => hH4 | exact fun _ _ => hH4, ?_⟩
  try simp only [Act.put, List.setIfInBounds_toArray, List.set_cons_zero, List.set_cons_succ]
  refine Reg.takeY (i := 7) (v := ?_) rfl (by kernel_rfl) (by kernel_rfl) (by kernel_rfl) (fun _ _ _ h => h) (by rfl) ?_ ?_
  rotate_left
  · (intro w; go_simp; try with_reducible rfl)
  try simp only [Act.put, List.getElem_toArray, List.getElem_cons_succ, List.getElem_cons_zero, List.setIfInBounds_toArray, List.set_cons_zero, List.set_cons_succ]
  refine Reg.takeY (i := 8) (v := ?_) rfl (by kernel_rfl) (by kernel_rfl) (by kernel_rfl) (fun _ _ _ h => h) (by rfl) ?_ ?_
  rotate_left
  · (intro w; go_simp; try with_reducible rfl)
  try simp only [Act.put, List.getElem_toArray, List.getElem_cons_succ, List.getElem_cons_zero, List.setIfInBounds_toArray, List.set_cons_zero, List.set_cons_succ]
  refine Reg.takeY (i := 9) (v := ?_) rfl (by kernel_rfl) (by kernel_rfl) (by kernel_rfl) (fun _ _ _ h => h) (by rfl) ?_ ?_
  rotate_left
  · (intro w; go_simp; try with_reducible rfl)
  try simp only [Act.put, List.getElem_toArray, List.getElem_cons_succ, List.getElem_cons_zero, List.setIfInBounds_toArray, List.set_cons_zero, List.set_cons_succ]
  refine Reg.takeY (i := 10) (v := ?_) rfl (by kernel_rfl) (by kernel_rfl) (by kernel_rfl) (fun _ _ _ h => h) (by rfl) ?_ ?_
  rotate_left
  · (intro w; go_simp; try with_reducible rfl)
  try simp only [Act.put, List.getElem_toArray, List.getElem_cons_succ, List.getElem_cons_zero, List.setIfInBounds_toArray, List.set_cons_zero, List.set_cons_succ]
  refine Reg.takeY (i := 11) (v := ?_) rfl (by kernel_rfl) (by kernel_rfl) (by kernel_rfl) (fun _ _ _ h => h) (by rfl) ?_ ?_
  rotate_left
  · (intro w; go_simp; try with_reducible rfl)
  try simp only [Act.put, List.getElem_toArray, List.getElem_cons_succ, List.getElem_cons_zero, List.setIfInBounds_toArray, List.set_cons_zero, List.set_cons_succ]
  refine Reg.takeY (i := 12) (v := ?_) rfl (by kernel_rfl) (by kernel_rfl) (by kernel_rfl) (fun _ _ _ h => h) (by rfl) ?_ ?_
  rotate_left
  · (intro w; go_simp; try with_reducible rfl)
  try simp only [Act.put, List.getElem_toArray, List.getElem_cons_succ, List.getElem_cons_zero, List.setIfInBounds_toArray, List.set_cons_zero, List.set_cons_succ]
  refine Reg.takeY (i := 13) (v := ?_) rfl (by kernel_rfl) (by kernel_rfl) (by kernel_rfl) (fun _ _ _ h => h) (by rfl) ?_ ?_
  rotate_left
  · (intro w; go_simp; try with_reducible rfl)
  try simp only [Act.put, List.getElem_toArray, List.getElem_cons_succ, List.getElem_cons_zero, List.setIfInBounds_toArray, List.set_cons_zero, List.set_cons_succ]
  refine Reg.skip (i := 14) rfl (by kernel_rfl) (by kernel_rfl) (by kernel_rfl) (fun _ _ _ h => h) (by rfl) ?_
  try simp only [Act.put, List.getElem_toArray, List.getElem_cons_succ, List.getElem_cons_zero, List.setIfInBounds_toArray, List.set_cons_zero, List.set_cons_succ]
  refine Reg.skip (i := 15) rfl (by kernel_rfl) (by kernel_rfl) (by kernel_rfl) (fun _ _ _ h => h) (by rfl) ?_
  try simp only [Act.put, List.getElem_toArray, List.getElem_cons_succ, List.getElem_cons_zero, List.setIfInBounds_toArray, List.set_cons_zero, List.set_cons_succ]
  refine Reg.skip (i := 16) rfl (by kernel_rfl) (by kernel_rfl) (by kernel_rfl) (fun _ _ _ h => h) (by rfl) ?_
  try simp only [Act.put, List.getElem_toArray, List.getElem_cons_succ, List.getElem_cons_zero, List.setIfInBounds_toArray, List.set_cons_zero, List.set_cons_succ]
  refine Reg.takeY (i := 17) (v := ?_) rfl (by kernel_rfl) (by kernel_rfl) (by kernel_rfl) (fun _ _ _ h => h) (by rfl) ?_ ?_
  rotate_left
  · (intro w; go_simp; try with_reducible rfl)
  try simp only [Act.put, List.getElem_toArray, List.getElem_cons_succ, List.getElem_cons_zero, List.setIfInBounds_toArray, List.set_cons_zero, List.set_cons_succ]
  refine Reg.takeY (i := 18) (v := ?_) rfl (by kernel_rfl) (by kernel_rfl) (by kernel_rfl) (fun _ _ _ h => h) (by rfl) ?_ ?_
  rotate_left
  · (intro w; go_simp; try with_reducible rfl)
  try simp only [Act.put, List.getElem_toArray, List.getElem_cons_succ, List.getElem_cons_zero, List.setIfInBounds_toArray, List.set_cons_zero, List.set_cons_succ]
  refine Reg.done (by kernel_rfl) ?_ _
  have hG4 : Gr w w4 := (hG2.drew.trans g3).trans g4
  clear g3 g4 hG2 c0 c1 c2 hlt
  obtain ⟨⟨c0, c1, c2⟩, hlt⟩ := hH4
  go_wp2_with fail
  go_region_held3 (radCells w1.heap.size) (first | exact ⟨⟨c0, c1, c2⟩, hlt⟩ | assumption | exact radCells.gr (by assumption) (by assumption) | go_keep) (first | (go_at_call 87; refine (replace_none s HL.out (by omega) _ (HW.out.gr (by (repeat (first | exact Gr.refl _ | assumption | refine Gr.drew ?_ | refine Gr.drewN ?_ _ | refine Gr.alloc ?_ _ | (refine Gr.setCell ?_ (by first | (simp; done) | (simp; omega)) _) | refine Gr.trans ?_ (by assumption))))).max).mono ?_; rintro e w5 ⟨rfl, rfl⟩) | (go_at_call 86; refine (parse_ok s hs (c.toNat - 48 : Nat) hv _).mono ?_; rintro e w6 ⟨rfl, g6⟩))
  rename_i hH6
  have hG6 : Gr w w6 := hG4.drew.trans g6
  have hW6 := HW.out.gr hG6
  clear g6 hG4 c0 c1 c2 hlt hS0 hS1 hH6
  have hfm := fun W (hW : IntW W) => (Tryz.strconv_FormatInt_10 ((c.toNat - 48 : Nat) : Int) (by omega) (by have := UInt8.toNat_lt c; omega) W hW.pow)
  obtain ⟨et, ev, he⟩ := hW6.err
  have HF := Lib.hid hfm
  have HI := Lib.hid hi
  have HC := Lib.hid hc
  clear hfm hi hv hc
  go_wp2_with (first | (go_at_call 88; refine (err_is_none et ev _).mono ?_; rintro e w7 ⟨rfl, g7⟩) | (go_at_call 89; refine (HF.out _ (hW6.gr (by (repeat (first | exact Gr.refl _ | assumption | refine Gr.drew ?_ | refine Gr.drewN ?_ _ | refine Gr.alloc ?_ _ | (refine Gr.setCell ?_ (by first | (simp; done) | (simp; omega)) _) | refine Gr.trans ?_ (by assumption)))))).mono ?_; rintro e w8 ⟨rfl, k8, os8, rfl⟩))
  refine bodyPost_ret (v := .tuple #[.string ⟨(Lib.itoa ((c.toNat - 48 : Nat) : Int)).toArray⟩, .int .i64 0]) (by simp [results, Tryz.results65, go_sem]) rfl ⟨?_, (hG6.trans g7).trans (grow_gr _ _ _)⟩
  rw [HI.out, show (⟨[c].toArray⟩ : ByteArray) = s from by apply ByteArray.ext; rw [← HC.out]]

end Go.Proofs.YtkcnbhenhmmfgaaGreatDoor
