/-
  Walks: ints.tens, ints.of; strings.SplitSeq at a text without a low mark.
-/
import Derived.Test.YtkcnbhenhmmfgaaGreatDoorW2
import Derived.RangeFuncNested
import Derived.RangeFuncBound
import Derived.RangeFuncCalls
import Derived.RangeFuncLeaves
import Derived.Shelf.Abstract
import Derived.Shelf.RegionOpen
import Derived.WalkKit
import Derived.OwnWalkIn
import Derived.TacticsInMore
import Derived.LoopNIn
import Derived.LoopIn
import Derived.Lib.SmallJoins
set_option linter.all false
set_option linter.unusedVariables false
set_option linter.unusedSimpArgs false
namespace Go.Proofs.YtkcnbhenhmmfgaaGreatDoor
open Go.RowKit Go.Shelf Go.Joins
attribute [local go_sem] Oper.semAt_some

abbrev decD : ByteArray := ⟨#[48, 49, 50, 51, 52, 53, 54, 55, 56, 57]⟩
abbrev tensV : Value := .agg #[.string ⟨#[]⟩, .int .i64 10, .string decD]

theorem in_tens (w : World) : Calls Tryz.prog 84 #[] w fun e w' => e = .returned tensV ∧ Gr w w' := by
  go_enter Tryz.func84, Tryz.ntmps84
  go_wp2_with fail
  exact bodyPost_ret (v := tensV) (by simp [results, Tryz.results84, go_sem]) rfl ⟨rfl, by (repeat (first | exact Gr.refl _ | assumption | refine Gr.drew ?_ | refine Gr.drewN ?_ _ | refine Gr.alloc ?_ _ | (refine Gr.setCell ?_ (by first | (simp; done) | (simp; omega)) _) | refine Gr.trans ?_ (by assumption)))⟩

/-- The table of the radixes, as its initialiser lays it. -/
def radC : Array Value := #[.string ⟨#[48, 120]⟩, .int .i64 16, .string ⟨#[48, 49, 50, 51, 52, 53, 54, 55, 56, 57, 97, 98, 99, 100, 101, 102, 65, 66, 67, 68, 69, 70]⟩, .string ⟨#[48, 111]⟩, .int .i64 8, .string ⟨#[48, 49, 50, 51, 52, 53, 54, 55]⟩, .string ⟨#[48, 98]⟩, .int .i64 2, .string ⟨#[48, 49]⟩]
def RadW (w : World) : Prop := ∀ j v, radC[j]? = some v → w.cell? ⟨4, j, none⟩ = some v

/-- No radix but ten begins there. -/
def noRad (l : List UInt8) : Prop := Pl.pre l [48, 120] = false ∧ Pl.pre l [48, 111] = false ∧ Pl.pre l [48, 98] = false

theorem prefix_whole (s p : ByteArray) (b : Bool) (h : Pl.pre (bs s) (bs p) = b) (w : World) :
    Calls Tryz.prog 19 #[.string s, .string p] w fun e w' => e = .returned (.bool b) ∧ w = w' := by
  refine (Tryz.strings_HasPrefix _ _ w).mono ?_
  rintro e w' ⟨rfl, rfl⟩
  exact ⟨by rw [hasPrefix_pre]; exact ret_bool h, rfl⟩

set_option maxHeartbeats 2000000 in
set_option maxRecDepth 100000 in
theorem in_of (s : ByteArray) (hn : noRad (bs s)) (w : World) (hr : RadW w) :
    Calls Tryz.prog 83 #[.string s] w fun e w' => e = .returned tensV ∧ Gr w w' := by
  have r0 : w.cell? ⟨4, 0, none⟩ = some (.string ⟨#[48, 120]⟩) := hr 0 _ rfl
  have r1 : w.cell? ⟨4, 1, none⟩ = some (.int .i64 16) := hr 1 _ rfl
  have r2 : w.cell? ⟨4, 2, none⟩ = some (.string ⟨#[48, 49, 50, 51, 52, 53, 54, 55, 56, 57, 97, 98, 99, 100, 101, 102, 65, 66, 67, 68, 69, 70]⟩) := hr 2 _ rfl
  have r3 : w.cell? ⟨4, 3, none⟩ = some (.string ⟨#[48, 111]⟩) := hr 3 _ rfl
  have r4 : w.cell? ⟨4, 4, none⟩ = some (.int .i64 8) := hr 4 _ rfl
  have r5 : w.cell? ⟨4, 5, none⟩ = some (.string ⟨#[48, 49, 50, 51, 52, 53, 54, 55]⟩) := hr 5 _ rfl
  have r6 : w.cell? ⟨4, 6, none⟩ = some (.string ⟨#[48, 98]⟩) := hr 6 _ rfl
  have r7 : w.cell? ⟨4, 7, none⟩ = some (.int .i64 2) := hr 7 _ rfl
  have r8 : w.cell? ⟨4, 8, none⟩ = some (.string ⟨#[48, 49]⟩) := hr 8 _ rfl
  have hlt : 4 < w.heap.size := Lib.lt_of_cell r0
  have H1 := Lib.hid hn.1
  have H2 := Lib.hid hn.2.1
  have H3 := Lib.hid hn.2.2
  have i0 : ∀ W, (Instr.index 168 (.agg radC) (.int .i64 0)).run Tryz.prog W = .ok (.agg #[.string ⟨#[48, 120]⟩, .int .i64 16, .string ⟨#[48, 49, 50, 51, 52, 53, 54, 55, 56, 57, 97, 98, 99, 100, 101, 102, 65, 66, 67, 68, 69, 70]⟩]) W := fun _ => by kernel_rfl
  have i1 : ∀ W, (Instr.index 168 (.agg radC) (.int .i64 1)).run Tryz.prog W = .ok (.agg #[.string ⟨#[48, 111]⟩, .int .i64 8, .string ⟨#[48, 49, 50, 51, 52, 53, 54, 55]⟩]) W := fun _ => by kernel_rfl
  have i2 : ∀ W, (Instr.index 168 (.agg radC) (.int .i64 2)).run Tryz.prog W = .ok (.agg #[.string ⟨#[48, 98]⟩, .int .i64 2, .string ⟨#[48, 49]⟩]) W := fun _ => by kernel_rfl
  unfold radC at i0 i1 i2
  clear hn hr
  go_enter Tryz.func83, Tryz.ntmps83
  go_wp2_with fail
  go_loopw [6] (fun v wr => ∃ k : Nat, v = .int .i64 k ∧ (k = 0 ∨ k = 1 ∨ k = 2 ∨ k = 3) ∧ Gr (w.alloc (.cells #[.string ⟨#[]⟩, .int .i64 0, .string ⟨#[]⟩] 143)) wr) (fun v _ => 3 - (intOf v).toNat)
  case atStart => exact ⟨0, rfl, .inl rfl, Gr.refl _⟩
  case round =>
    obtain ⟨k, rfl, hk, hg⟩ := hrel
    obtain ⟨hc, hf, hz⟩ := hg.use
    rcases hk with rfl | rfl | rfl | rfl
    · clear hc hf
      go_wp2_with (go_at_call 19; refine (prefix_whole s ⟨#[48, 120]⟩ false H1.out _).mono ?_; rintro e w1 ⟨rfl, rfl⟩)
      go_roundw
      case rel => exact ⟨1, rfl, .inr (.inl rfl), hg.alloc _⟩
      case measure => simp [intOf]
    · clear hc hf
      go_wp2_with (go_at_call 19; refine (prefix_whole s ⟨#[48, 111]⟩ false H2.out _).mono ?_; rintro e w1 ⟨rfl, rfl⟩)
      go_roundw
      case rel => exact ⟨2, rfl, .inr (.inr (.inl rfl)), hg.alloc _⟩
      case measure => simp [intOf]
    · clear hc hf
      go_wp2_with (go_at_call 19; refine (prefix_whole s ⟨#[48, 98]⟩ false H3.out _).mono ?_; rintro e w1 ⟨rfl, rfl⟩)
      go_roundw
      case rel => exact ⟨3, rfl, .inr (.inr (.inr rfl)), hg.alloc _⟩
      case measure => simp [intOf]
    · have p0 : wr.cell? ⟨w.heap.size, 0, none⟩ = some (.string ⟨#[]⟩) := (hc _ _ (by simp)).trans (by simp)
      have p1 : wr.cell? ⟨w.heap.size, 1, none⟩ = some (.int .i64 0) := (hc _ _ (by simp)).trans (by simp)
      have p2 : wr.cell? ⟨w.heap.size, 2, none⟩ = some (.string ⟨#[]⟩) := (hc _ _ (by simp)).trans (by simp)
      have pf : ∀ o, wr.frozen? ⟨w.heap.size, o, none⟩ = false := fun o => (hf _ _ (by simp)).trans (by simp [go_sem])
      simp only [World.size_alloc] at hz
      go_wp2_with (go_at_call 84; refine (in_tens _).mono ?_; rintro e w2 ⟨rfl, g2⟩; obtain ⟨hc2, hf2, hz2⟩ := g2.use; have q0 : w2.cell? ⟨w.heap.size, 0, none⟩ = some (.string ⟨#[]⟩) := (hc2 _ _ (by omega)).trans p0; have q1 : w2.cell? ⟨w.heap.size, 1, none⟩ = some (.int .i64 0) := (hc2 _ _ (by omega)).trans p1; have q2 : w2.cell? ⟨w.heap.size, 2, none⟩ = some (.string ⟨#[]⟩) := (hc2 _ _ (by omega)).trans p2; have qf : ∀ o, w2.frozen? ⟨w.heap.size, o, none⟩ = false := fun o => (hf2 _ _ (by omega)).trans (pf o); have hlw : w.heap.size < w2.heap.size := by omega)
      have hg2 : Gr w w2 := (((Gr.refl w).alloc _).trans hg).trans g2
      exact bodyPost_ret (v := tensV) (by simp [results, Tryz.results83, go_sem, q0, q1, q2, qf, hlw]) rfl ⟨rfl, by (repeat refine Gr.setCell ?_ (Nat.le_refl _) _); exact hg2⟩

end Go.Proofs.YtkcnbhenhmmfgaaGreatDoor
