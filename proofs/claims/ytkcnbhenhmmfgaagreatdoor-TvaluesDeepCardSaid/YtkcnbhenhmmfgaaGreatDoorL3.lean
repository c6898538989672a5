/-
  The law TvaluesGap, walked.
-/
import Derived.Test.YtkcnbhenhmmfgaaGreatDoorL2
import Derived.Test.YtkcnbhenhmmfgaaGreatDoorG1
set_option linter.all false
set_option linter.unusedVariables false
set_option linter.unusedSimpArgs false
namespace Go.Proofs.YtkcnbhenhmmfgaaGreatDoor
open Go.RowKit Go.Shelf Go.Joins

theorem comment_both (s : ByteArray) (hs : s.size ≤ 3000) (i : Int) : ∃ a : Int, (∀ w, Calls Tryz.prog 6 #[.string s, .int .i64 i] w fun e w' => e = .returned (.tuple #[.int .i64 a, f0]) ∧ Gr w w') ∧
    (∀ w, Calls Tryz.prog 9 #[.string s, .int .i64 i] w fun e w' => e = .returned (.int .i64 a) ∧ Gr w w') := by
  by_cases h : 0 ≤ i ∧ i ≤ (s.size : Int)
  · obtain ⟨n, rfl⟩ : ∃ n : Nat, i = n := ⟨i.toNat, by omega⟩
    exact ⟨Pl.commentAt (bs s) n, fun w => tv_Comment s n n rfl (by omega) (by omega) w, fun w => r11_Comment s (by omega) n n rfl (by omega) w⟩
  · have h2 : i < 0 ∨ (s.size : Int) ≤ i := by omega
    exact ⟨i, fun w => tv_Comment_end s i h2 (by omega) w, fun w => (r11_Comment_end s i h2 w).mono (fun _ _ ⟨h1, h2⟩ => ⟨h1, h2 ▸ Gr.refl _⟩)⟩

theorem gap_both (s : ByteArray) (hs : s.size ≤ 3000) (i : Int) : ∃ a b c : Int, (∀ w, Calls Tryz.prog 7 #[.string s, .int .i64 i] w fun e w' => e = .returned (.tuple #[.int .i64 a, .agg #[.int .i64 b, .int .i64 c]]) ∧ Gr w w') ∧
    (∀ w, Calls Tryz.prog 8 #[.string s, .int .i64 i] w fun e w' => e = .returned (.tuple #[.int .i64 a, .agg #[.int .i64 b, .int .i64 c]]) ∧ Gr w w') := by
  by_cases h : 0 ≤ i ∧ i ≤ (s.size : Int)
  · obtain ⟨n, rfl⟩ : ∃ n : Nat, i = n := ⟨i.toNat, by omega⟩
    cases hg : Pl.gapAt (bs s) n with
    | ok m =>
      refine ⟨m, 0, 0, fun w => (tv_Gap s n n rfl (by omega) (by omega) w).mono ?_, fun w => (r11_Gap s (by omega) n n rfl (by omega) w).mono ?_⟩
      · rw [hg]; rintro e w' ⟨⟨h1, _⟩, h2⟩; exact ⟨h1, h2⟩
      · rw [hg]; rintro e w' ⟨h1, h2⟩; exact ⟨h1, h2⟩
    | bad c p =>
      refine ⟨0, c, p, fun w => (tv_Gap s n n rfl (by omega) (by omega) w).mono ?_, fun w => (r11_Gap s (by omega) n n rfl (by omega) w).mono ?_⟩
      · rw [hg]; rintro e w' ⟨h1, h2⟩; exact ⟨h1, h2⟩
      · rw [hg]; rintro e w' ⟨h1, h2⟩; exact ⟨h1, h2⟩
  · have h2 : i < 0 ∨ (s.size : Int) < i := by omega
    exact ⟨i, 0, 0, fun w => tv_Gap_end s i h2 w, fun w => r11_Gap_end s i h2 w⟩

set_option maxHeartbeats 2000000 in
set_option maxRecDepth 100000 in
theorem law_gap (w : World) (hw : IntW w) (s : ByteArray) (i : Int) :
    Calls Tryz.prog 3 #[.string s, .int .i64 i] w fun e w' => e = .returned (.bool true) ∧ Gr w w' := by
  have HW := Lib.hid hw
  clear hw
  by_cases h : 3000 < s.size
  · have d1 : decide ((3000 : Int) < (s.size : Int)) = true := by simp; omega
    have H := Lib.hid (la_lives w HW.out)
    go_enter Tryz.func3, Tryz.ntmps3
    go_wp2_with fail
    refine H.out.mono ?_
    rintro e w1 ⟨rfl, g1⟩
    go_wp2_with fail
    exact bodyPost_ret (v := .bool true) (by simp [results, Tryz.results3, go_sem]) rfl ⟨rfl, g1⟩
  · have d1 : decide ((3000 : Int) < (s.size : Int)) = false := by simp; omega
    obtain ⟨a, ha1, ha2⟩ := comment_both s (by omega) i
    obtain ⟨b, c, p, hb1, hb2⟩ := gap_both s (by omega) i
    have HA1 := Lib.hid ha1
    have HA2 := Lib.hid ha2
    have HB1 := Lib.hid hb1
    have HB2 := Lib.hid hb2
    clear ha1 ha2 hb1 hb2
    go_enter Tryz.func3, Tryz.ntmps3
    go_wp2_with fail
    refine (HA1.out _).mono ?_
    rintro e w1 ⟨rfl, g1⟩
    go_wp2_with fail
    refine (HB1.out _).mono ?_
    rintro e w2 ⟨rfl, g2⟩
    have HX2 := Lib.hid ((FX.new w1 (.int .i64 0) (.int .i64 0) 25).gr g2)
    have HG2 : Hid (Gr w w2) := (g1.alloc _).trans g2
    clear g2 g1
    go_wp2_with fail
    refine (HB2.out _).mono ?_
    rintro e w3 ⟨rfl, g3⟩
    have HX3 := Lib.hid ((HX2.out.gr ((Gr.refl w2).alloc (.cells #[.int .i64 c, .int .i64 p] 25))).gr g3)
    have HY3 := Lib.hid ((FX.new w2 (.int .i64 c) (.int .i64 p) 25).gr g3)
    have HG3 : Hid (Gr w w3) := (HG2.out.alloc _).trans g3
    clear g3 HX2 HG2
    go_wp2_with fail
    refine (HA2.out _).mono ?_
    rintro e w4 ⟨rfl, g4⟩
    obtain ⟨x0, x1, xf, xl⟩ := (HX3.out.gr ((Gr.refl w3).alloc (.cells #[.int .i64 c, .int .i64 p] 25))).gr g4
    obtain ⟨y0, y1, yf, yl⟩ := (HY3.out.gr ((Gr.refl w3).alloc (.cells #[.int .i64 c, .int .i64 p] 25))).gr g4
    obtain ⟨z0, z1, zf, zl⟩ := (FX.new w3 (.int .i64 c) (.int .i64 p) 25).gr g4
    have HG4 : Hid (Gr w w4) := (HG3.out.alloc _).trans g4
    have H := Lib.hid (la_lives w4 (HW.out.gr HG4.out))
    clear g4 HX3 HY3 HG3
    go_wp2_with fail
    refine H.out.mono ?_
    rintro e w5 ⟨rfl, g5⟩
    have hg := HG4.out.trans g5
    clear g5
    go_wp2_with fail
    exact bodyPost_ret (v := .bool true) (by simp [results, Tryz.results3, go_sem]) rfl ⟨rfl, hg⟩

end Go.Proofs.YtkcnbhenhmmfgaaGreatDoor
