/-
  Walks: wrong, fine, plain bytes.
-/
import Derived.Test.YtkcnbhenhmmfgaaGreatDoorBase
import Derived.Test.YtkcnbhenhmmfgaaGreatDoorShelf
set_option linter.all false
set_option linter.unusedVariables false
set_option linter.unusedSimpArgs false
namespace Go.Proofs.YtkcnbhenhmmfgaaGreatDoor
open Go.RowKit

set_option maxHeartbeats 400000 in
theorem tv_wrong (i : Int) (n : Nat) (hi : i = n) (w : World) :
    Calls Tryz.prog 20 #[.int .i64 i] w fun e w' => e = .returned (fv 3 n) ∧ Gr w w' := by
  subst hi
  go_enter Tryz.func20, Tryz.ntmps20
  go_wp2
  exact bodyPost_ret (v := fv 3 n) (by simp [results, Tryz.results20, go_sem]) rfl ⟨rfl, (Gr.refl _).alloc _⟩

set_option maxHeartbeats 400000 in
theorem tq_wrong (i : Int) (n : Nat) (hi : i = n) (w : World) :
    Calls Tryz.prog 67 #[.int .i64 i] w fun e w' => e = .returned (fv 3 n) ∧ Gr w w' := by
  subst hi
  go_enter Tryz.func67, Tryz.ntmps67
  go_wp2
  exact bodyPost_ret (v := fv 3 n) (by simp [results, Tryz.results67, go_sem]) rfl ⟨rfl, (Gr.refl _).alloc _⟩

set_option maxHeartbeats 400000 in
theorem tv_fine_yes (w : World) :
    Calls Tryz.prog 30 #[f0] w fun e w' => e = .returned (.bool true) ∧ Gr w w' := by
  go_enter Tryz.func30, Tryz.ntmps30
  go_wp2
  go_ret
  exact ⟨rfl, (Gr.refl _).alloc _⟩

set_option maxHeartbeats 400000 in
theorem tv_fine_no (c p : Nat) (hc : ¬ (c : Int) = 0) (w : World) :
    Calls Tryz.prog 30 #[fv c p] w fun e w' => e = .returned (.bool false) ∧ Gr w w' := by
  go_enter Tryz.func30, Tryz.ntmps30
  go_wp2
  go_ret
  exact ⟨rfl, (Gr.refl _).alloc _⟩

set_option maxHeartbeats 400000 in
theorem tq_plain (c : UInt8) (w : World) :
    Calls Tryz.prog 199 #[.int .u8 c.toNat] w fun e w' => e = .returned (.bool (Pl.isPlain c)) ∧ w = w' := by
  go_enter Tryz.func199, Tryz.ntmps199
  go_wp2
  all_goals go_ret
  all_goals (refine ⟨ret_bool ?_, rfl⟩; rw [Bool.eq_iff_iff]; simp [Pl.isPlain, Pl.ctl]; try omega)

set_option maxHeartbeats 400000 in
theorem tv_control (x : Nat) (hx : x ≤ 1114111) (w : World) :
    Calls Tryz.prog 17 #[.int .i32 x] w fun e w' => e = .returned (.bool (Pl.ctl x)) ∧ w = w' := by
  go_enter Tryz.func17, Tryz.ntmps17
  go_wp2
  all_goals go_ret
  all_goals (refine ⟨ret_bool ?_, rfl⟩; rw [Bool.eq_iff_iff]; simp [Pl.isPlain, Pl.ctl]; try omega)

theorem hasPrefix_pre (l p : List UInt8) : Lib.hasPrefix l p = Pl.pre l p := by
  unfold Lib.hasPrefix
  induction p generalizing l with
  | nil => cases l <;> simp [Pl.pre]
  | cons b p ih =>
    cases l with
    | nil => simp [Pl.pre]
    | cons a l =>
      show (b == a && p.isPrefixOf l) = (a == b && Pl.pre l p)
      rw [ih, Bool.beq_comm]

theorem prefix_at (s p : ByteArray) (m : Nat) (b : Bool) (h : Pl.pre ((bs s).drop m) (bs p) = b) (w : World) :
    Calls Tryz.prog 19 #[.string (s.extract m s.size), .string p] w fun e w' => e = .returned (.bool b) ∧ w = w' := by
  refine (Tryz.strings_HasPrefix _ _ w).mono ?_
  rintro e w' ⟨rfl, rfl⟩
  exact ⟨by rw [show (s.extract m s.size).data.toList = (bs s).drop m from bs_extract s m, hasPrefix_pre]; exact ret_bool h, rfl⟩

end Go.Proofs.YtkcnbhenhmmfgaaGreatDoor
