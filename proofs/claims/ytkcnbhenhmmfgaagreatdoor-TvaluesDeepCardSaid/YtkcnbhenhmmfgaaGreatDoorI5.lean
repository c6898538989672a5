/-
  Walks: strings.IndexRune at a rune beyond ASCII, in "+-_."; tvalues.part.
-/
import Derived.Test.YtkcnbhenhmmfgaaGreatDoorI4
set_option linter.all false
set_option linter.unusedVariables false
set_option linter.unusedSimpArgs false
namespace Go.Proofs.YtkcnbhenhmmfgaaGreatDoor
open Go.RowKit Go.Shelf Go.Joins
attribute [local go_sem] Oper.semAt_some

abbrev pmD : ByteArray := ⟨#[43, 45, 95, 46]⟩
def itPos (w : World) (b : Nat) : Nat := match w.heap[b]? with
  | some (.stringIter _ p) => p
  | _ => 0
theorem itPos_iter (w : World) (s : ByteArray) (k : Nat) : itPos (w.iter s k) w.heap.size = k := by unfold itPos; rw [World.iter_heap]
theorem gr_iter (w : World) (s : ByteArray) (k : Nat) : Gr w (w.iter s k) := (Gr.refl w).alloc _

set_option maxHeartbeats 1000000 in
set_option maxRecDepth 100000 in
theorem idxRune_error (w : World) :
    Calls Tryz.prog 75 #[.string pmD, .int .i32 65533] w fun e w' => e = .returned (.int .i64 (-1)) ∧ Gr w w' := by
  have n0 : ∀ ty, (Instr.next (.pointer (some ⟨w.heap.size, 0, none⟩)) true ty).run Tryz.prog (w.iter pmD 0) = .ok (.tuple #[.bool true, .int .i64 0, .int .i32 43]) (w.iter pmD 1) := fun ty => run_next_ascii w pmD 0 ty (by decide) (by decide)
  have n1 : ∀ ty, (Instr.next (.pointer (some ⟨w.heap.size, 0, none⟩)) true ty).run Tryz.prog (w.iter pmD 1) = .ok (.tuple #[.bool true, .int .i64 1, .int .i32 45]) (w.iter pmD 2) := fun ty => run_next_ascii w pmD 1 ty (by decide) (by decide)
  have n2 : ∀ ty, (Instr.next (.pointer (some ⟨w.heap.size, 0, none⟩)) true ty).run Tryz.prog (w.iter pmD 2) = .ok (.tuple #[.bool true, .int .i64 2, .int .i32 95]) (w.iter pmD 3) := fun ty => run_next_ascii w pmD 2 ty (by decide) (by decide)
  have n3 : ∀ ty, (Instr.next (.pointer (some ⟨w.heap.size, 0, none⟩)) true ty).run Tryz.prog (w.iter pmD 3) = .ok (.tuple #[.bool true, .int .i64 3, .int .i32 46]) (w.iter pmD 4) := fun ty => run_next_ascii w pmD 3 ty (by decide) (by decide)
  have n4 : ∀ ty, (Instr.next (.pointer (some ⟨w.heap.size, 0, none⟩)) true ty).run Tryz.prog (w.iter pmD 4) = .ok (.tuple #[.bool false]) (w.iter pmD 4) := fun ty => run_next_end w pmD 4 ty (by decide)
  go_enter Tryz.func75, Tryz.ntmps75
  go_wp2_with fail
  go_loopw [5] (fun _ wr => ∃ k : Nat, wr = w.iter pmD k ∧ (k = 0 ∨ k = 1 ∨ k = 2 ∨ k = 3 ∨ k = 4)) (fun _ wr => 4 - itPos wr w.heap.size)
  case atStart => exact ⟨0, rfl, .inl rfl⟩
  case round =>
    obtain ⟨k, rfl, hk⟩ := hrel
    rcases hk with rfl | rfl | rfl | rfl | rfl
    · go_wp2_with fail
      go_roundw
      case rel => exact ⟨1, rfl, by simp⟩
      case measure => simp only [itPos_iter]; omega
    · go_wp2_with fail
      go_roundw
      case rel => exact ⟨2, rfl, by simp⟩
      case measure => simp only [itPos_iter]; omega
    · go_wp2_with fail
      go_roundw
      case rel => exact ⟨3, rfl, by simp⟩
      case measure => simp only [itPos_iter]; omega
    · go_wp2_with fail
      go_roundw
      case rel => exact ⟨4, rfl, by simp⟩
      case measure => simp only [itPos_iter]; omega
    · go_wp2_with fail
      go_ret
      exact ⟨rfl, gr_iter _ _ _⟩

set_option maxHeartbeats 1000000 in
set_option maxRecDepth 100000 in
theorem idxRune_bad (x : Int) (h : 128 ≤ x) (hx : (x == 65533) = false) (hv : Lib.validRune x = false) (w : World) :
    Calls Tryz.prog 75 #[.string pmD, .int .i32 x] w fun e w' => e = .returned (.int .i64 (-1)) ∧ Gr w w' := by
  have h1 : decide (x < 128) = false := by simp; omega
  have h2 : decide (0 ≤ x) = true := by simp; omega
  have HV := Lib.hid hv
  clear hv
  go_enter Tryz.func75, Tryz.ntmps75
  go_wp2_with (go_at_call 100; refine (Tryz.utf8_ValidRune x _).mono ?_; rw [HV.out]; rintro e w' ⟨rfl, rfl⟩)
  go_ret
  exact ⟨rfl, Gr.refl _⟩

/-- The last byte of a rune beyond ASCII. -/
theorem enc_last (x : Int) (h : 128 ≤ x) (hx : x ≤ 1114111) : ∃ m : Nat, (m = 1 ∨ m = 2 ∨ m = 3) ∧ ∃ hz : (Utf8.encode x).size = m + 1, 128 ≤ ((Utf8.encode x)[m]'(by omega)).toNat := by
  have hb : ∀ n : Nat, 128 ≤ (UInt8.ofNat (128 + n % 64)).toNat := by intro n; simp; omega
  have key : ∀ c : Nat, ¬ c < 128 → ∀ u : ByteArray, u = (if c < 0x80 then ⟨#[UInt8.ofNat c]⟩
      else if c < 0x800 then ⟨#[UInt8.ofNat (0xC0 + c / 64), UInt8.ofNat (0x80 + c % 64)]⟩
      else if c < 0x10000 then ⟨#[UInt8.ofNat (0xE0 + c / 4096), UInt8.ofNat (0x80 + c / 64 % 64), UInt8.ofNat (0x80 + c % 64)]⟩
      else ⟨#[UInt8.ofNat (0xF0 + c / 262144), UInt8.ofNat (0x80 + c / 4096 % 64), UInt8.ofNat (0x80 + c / 64 % 64), UInt8.ofNat (0x80 + c % 64)]⟩) →
      ∃ m : Nat, (m = 1 ∨ m = 2 ∨ m = 3) ∧ ∃ hz : u.size = m + 1, 128 ≤ (u[m]'(by omega)).toNat := by
    intro c h80 u hu
    rw [if_neg h80] at hu
    split at hu
    · subst hu; exact ⟨1, by simp, rfl, hb _⟩
    · split at hu
      · subst hu; exact ⟨2, by simp, rfl, hb _⟩
      · subst hu; exact ⟨3, by simp, rfl, hb _⟩
  refine key (if Utf8.valid x = true then x.toNat else Utf8.runeError) ?_ (Utf8.encode x) rfl
  split
  · omega
  · simp [Utf8.runeError]

theorem pm_byte (k j : Nat) (c : UInt8) (h : 128 ≤ c.toNat) (W : World) :
    Calls Tryz.prog 79 #[.string (pmD.extract k j), .int .u8 (c.toNat : Int)] W fun e w' => e = .returned (.int .i64 (-1)) ∧ W = w' := by
  refine (Tryz.strings_IndexByte _ _ W).mono ?_
  rintro e w' ⟨rfl, rfl⟩
  refine ⟨ret_int ?_, rfl⟩
  have hl : ∀ b ∈ (pmD.extract k j).data.toList, b.toNat < 128 := by
    intro b hb
    rw [ByteArray.data_extract, Array.toList_extract, List.extract_eq_take_drop] at hb
    have h2 := List.mem_of_mem_drop (List.mem_of_mem_take hb)
    simp at h2
    rcases h2 with rfl | rfl | rfl | rfl <;> decide
  generalize (pmD.extract k j).data.toList = l at hl
  rw [Lib.byte_back]
  induction l with
  | nil => rfl
  | cons b l ih =>
    unfold Lib.indexByte
    have hb := hl b (by simp)
    have hne : (b == c) = false := by
      cases hbc : b == c with
      | false => rfl
      | true => rw [beq_iff_eq.1 hbc] at hb; omega
    rw [hne, ih (fun x hx => hl x (List.mem_cons_of_mem _ hx))]
    rfl

theorem pm_byte0 (c : UInt8) (W : World) :
    Calls Tryz.prog 79 #[.string ByteArray.empty, .int .u8 (c.toNat : Int)] W fun e w' => e = .returned (.int .i64 (-1)) ∧ W = w' := by
  refine (Tryz.strings_IndexByte _ _ W).mono ?_
  rintro e w' ⟨rfl, rfl⟩
  exact ⟨rfl, rfl⟩

set_option maxHeartbeats 2000000 in
set_option maxRecDepth 100000 in
theorem idxRune_valid (x : Int) (h : 128 ≤ x) (hx : (x == 65533) = false) (hv : Lib.validRune x = true) (hm : x ≤ 1114111) (w : World) :
    Calls Tryz.prog 75 #[.string pmD, .int .i32 x] w fun e w' => e = .returned (.int .i64 (-1)) ∧ Gr w w' := by
  have h1 : decide (x < 128) = false := by simp; omega
  have h2 : decide (0 ≤ x) = true := by simp; omega
  have HV := Lib.hid hv
  obtain ⟨m, hm3, hz, hl⟩ := enc_last x h hm
  obtain ⟨c, hc⟩ : ∃ c, (Utf8.encode x)[m]'(by omega) = c := ⟨_, rfl⟩
  rw [hc] at hl
  obtain ⟨u, hu⟩ : ∃ u, Utf8.encode x = u := ⟨_, rfl⟩
  have w2 : IntKind.i64.wrap 2 = 2 := by decide
  have w3 : IntKind.i64.wrap 3 = 3 := by decide
  have w4 : IntKind.i64.wrap 4 = 4 := by decide
  rcases hm3 with rfl | rfl | rfl
  · clear hv
    simp only [hu] at hz hc
    have hcn : u[1].toNat = c.toNat := by rw [hc]
    go_enter Tryz.func75, Tryz.ntmps75
    go_wp2_with (go_at_call 100; refine (Tryz.utf8_ValidRune x _).mono ?_; rw [HV.out]; rintro e w' ⟨rfl, rfl⟩)
    go_step3
    go_wp2_with fail
    have hA : Hid (pmD.size = 4) := rfl
    have b1 : (((pmD[1]'(by decide)).toNat : Int) != (c.toNat : Int)) = true := by
      have : (pmD[1]'(by decide)).toNat = 45 := rfl
      rw [this]; simp; omega
    go_loopw [9] (fun v wr => v = .int .i64 1 ∧ wr = w') (fun _ _ => 0)
    case atStart => exact ⟨rfl, rfl⟩
    case round =>
      obtain ⟨rfl, rfl⟩ := hrel
      go_wp2_with fail
      go_step3
      go_wp2_with fail
      go_quiet (fail)
      go_wp2_with fail
      go_quiet ((go_at_call 79; first | exact quiet_any (pm_byte _ _ c hl _) ⟨_, rfl⟩ | exact quiet_any2 (pm_byte _ _ c hl _) ⟨_, rfl⟩))
      go_wp2_with fail
      simp +zetaDelta only [Exit.inBlock, Exit.noGoto, Exit.then]
      exact bodyPost_ret (v := .int .i64 (-1)) (by simp [results, Tryz.results75, go_sem]) rfl ⟨rfl, (Gr.refl wr).drewN _⟩
  · clear hv
    simp only [hu] at hz hc
    have hcn : u[2].toNat = c.toNat := by rw [hc]
    go_enter Tryz.func75, Tryz.ntmps75
    go_wp2_with (go_at_call 100; refine (Tryz.utf8_ValidRune x _).mono ?_; rw [HV.out]; rintro e w' ⟨rfl, rfl⟩)
    go_step3
    go_wp2_with fail
    have hA : Hid (pmD.size = 4) := rfl
    have b1 : (((pmD[2]'(by decide)).toNat : Int) != (c.toNat : Int)) = true := by
      have : (pmD[2]'(by decide)).toNat = 95 := rfl
      rw [this]; simp; omega
    go_loopw [9] (fun v wr => v = .int .i64 2 ∧ wr = w') (fun _ _ => 0)
    case atStart => exact ⟨rfl, rfl⟩
    case round =>
      obtain ⟨rfl, rfl⟩ := hrel
      go_wp2_with fail
      go_step3
      go_wp2_with fail
      go_quiet (fail)
      go_wp2_with fail
      go_quiet ((go_at_call 79; first | exact quiet_any (pm_byte _ _ c hl _) ⟨_, rfl⟩ | exact quiet_any2 (pm_byte _ _ c hl _) ⟨_, rfl⟩))
      go_wp2_with fail
      simp +zetaDelta only [Exit.inBlock, Exit.noGoto, Exit.then]
      exact bodyPost_ret (v := .int .i64 (-1)) (by simp [results, Tryz.results75, go_sem]) rfl ⟨rfl, (Gr.refl wr).drewN _⟩
  · clear hv
    simp only [hu] at hz hc
    have hcn : u[3].toNat = c.toNat := by rw [hc]
    go_enter Tryz.func75, Tryz.ntmps75
    go_wp2_with (go_at_call 100; refine (Tryz.utf8_ValidRune x _).mono ?_; rw [HV.out]; rintro e w' ⟨rfl, rfl⟩)
    go_step3
    go_wp2_with fail
    have hA : Hid (pmD.size = 4) := rfl
    have b1 : (((pmD[3]'(by decide)).toNat : Int) != (c.toNat : Int)) = true := by
      have : (pmD[3]'(by decide)).toNat = 46 := rfl
      rw [this]; simp; omega
    go_loopw [9] (fun v wr => v = .int .i64 3 ∧ wr = w') (fun _ _ => 0)
    case atStart => exact ⟨rfl, rfl⟩
    case round =>
      obtain ⟨rfl, rfl⟩ := hrel
      go_wp2_with fail
      go_step3
      go_wp2_with fail
      go_quiet (fail)
      go_wp2_with fail
      go_quiet ((go_at_call 79; exact quiet_any2 (pm_byte0 c _) ⟨_, rfl⟩))
      go_wp2_with fail
      simp +zetaDelta only [Exit.inBlock, Exit.noGoto, Exit.then]
      exact bodyPost_ret (v := .int .i64 (-1)) (by simp [results, Tryz.results75, go_sem]) rfl ⟨rfl, (Gr.refl wr).drewN _⟩

theorem idxRune_high (x : Int) (h : 128 ≤ x) (hm : x ≤ 1114111) (w : World) :
    Calls Tryz.prog 75 #[.string pmD, .int .i32 x] w fun e w' => e = .returned (.int .i64 (-1)) ∧ Gr w w' := by
  by_cases h1 : x = 65533
  · subst h1; exact idxRune_error w
  · have h2 : (x == 65533) = false := by simp [h1]
    cases hv : Lib.validRune x with
    | false => exact idxRune_bad x h h2 hv w
    | true => exact idxRune_valid x h h2 hv hm w

theorem contains_high (x : Int) (h : 128 ≤ x) (hm : x ≤ 1114111) (w : World) :
    Calls Tryz.prog 62 #[.string pmD, .int .i32 x] w fun e w' => e = .returned (.bool false) ∧ Gr w w' := by
  go_enter Tryz.func62, Tryz.ntmps62
  go_wp2_with (go_at_call 75; refine (idxRune_high x h hm _).mono ?_; rintro e w1 ⟨rfl, g1⟩)
  go_ret
  exact ⟨rfl, g1⟩

end Go.Proofs.YtkcnbhenhmmfgaaGreatDoor
