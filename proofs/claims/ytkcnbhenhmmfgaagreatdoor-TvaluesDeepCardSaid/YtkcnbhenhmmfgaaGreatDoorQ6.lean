/-
  Walk: the step of a long literal string.
-/
import Derived.Test.YtkcnbhenhmmfgaaGreatDoorQ5
set_option linter.all false
set_option linter.unusedVariables false
set_option linter.unusedSimpArgs false
namespace Go.Proofs.YtkcnbhenhmmfgaaGreatDoor
open Go.RowKit Go.Joins

set_option maxHeartbeats 1000000 in
theorem tq_longLiteral_step (w : World) (R : Nat) (s : ByteArray) (a : Nat) (q : UInt8) (out : List UInt8) (ov : Value) (h : RdQ w R s a q out ov)
    (hlt : a < s.size) (hs : s.size ≤ 20000000) (ho : out.length ≤ a) :
    Calls Tryz.prog 207 #[.agg #[.pointer (some ⟨R, 0, none⟩)]] w (StepPost R s a q out ov w (Pl.stepLongLit q ((bs s).drop a))) := by
  unfold Pl.stepLongLit
  obtain ⟨C, hC⟩ : ∃ C, C = Pl.common q ((bs s).drop a) := ⟨_, rfl⟩
  rw [← hC]
  have HC := Lib.hid hC
  clear hC
  have hR := h.lt
  have HS := Lib.hid h
  clear h
  cases C with
  | some X =>
    simp only
    cases X with
    | bad p =>
      go_enter Tryz.func207, Tryz.ntmps207
      go_wp2_with fail
      refine (tq_common _ R s a q out ov (by (repeat (first | exact HS.out | refine RdQ.drew ?_ | refine RdQ.drewN ?_ _ | refine RdQ.alloc ?_ _ | refine RdQ.setCell ?_ (by assumption) _ | refine RdQ.gr ?_ (by assumption)))) hlt hs ho).mono ?_
      rw [← HC.out]
      rintro e w2 ⟨rfl, g1⟩
      obtain ⟨hc2, hf2, hz2⟩ := g1.use
      simp at hz2
      have hy1 : w.heap.size < w2.heap.size := by omega
      have hy2 : w.heap.size + 1 < w2.heap.size := by omega
      go_wp2_with fail
      go_region
      go_wp2_with fail
      exact bodyPost_ret (v := .tuple #[.bool false, fv 3 (a + p)]) (by simp [results, Tryz.results207, go_sem, hc2, hy1, hy2]) rfl ⟨rfl, FQ R ov, by (repeat (first | exact St.refl _ _ | assumption | exact Gr.st (by assumption) | refine St.drew ?_ | refine St.drewN ?_ _ | refine St.alloc ?_ _ | (refine St.setCell ?_ (.inr (by first | (simp; done) | (simp; omega))) _) | refine St.trans ?_ (by assumption) | refine St.gr ?_ (by assumption)))⟩
    | go n t over =>
      go_enter Tryz.func207, Tryz.ntmps207
      go_wp2_with fail
      refine (tq_common _ R s a q out ov (by (repeat (first | exact HS.out | refine RdQ.drew ?_ | refine RdQ.drewN ?_ _ | refine RdQ.alloc ?_ _ | refine RdQ.setCell ?_ (by assumption) _ | refine RdQ.gr ?_ (by assumption)))) hlt hs ho).mono ?_
      rw [← HC.out]
      rintro e w2 ⟨rfl, ov', hr, hst⟩
      have hu := hst.use (w.heap.size + 1) (by simp) (fun hF => by have := HS.out.own_lt hF; omega)
      have hz2 := hst.size
      simp at hz2
      obtain ⟨hc2, hf2⟩ := hu
      have HR := Lib.hid hr
      have HT := Lib.hid hst
      have hn3 : ¬ FQ R ov' (w.heap.size + 1) := fun hF => by
        rcases HT.out.own _ hF with hF | hF
        · have := HS.out.own_lt hF; omega
        · simp at hF; omega
      clear hr hst
      have hy1 : w.heap.size < w2.heap.size := by omega
      have hy2 : w.heap.size + 1 < w2.heap.size := by omega
      go_wp2_with fail
      go_region
      go_wp2_with fail
      refine bodyPost_ret (v := .tuple #[.bool over, f0]) (by simp [results, Tryz.results207, go_sem, hc2, hy1, hy2]) rfl ⟨rfl, ov', by (repeat (first | exact HR.out | refine RdQ.drew ?_ | refine RdQ.drewN ?_ _ | refine RdQ.alloc ?_ _ | refine RdQ.setCell ?_ (by assumption) _ | refine RdQ.gr ?_ (by assumption))), ?_⟩
      have hst := HT.out
      (repeat (first | exact St.refl _ _ | assumption | exact Gr.st (by assumption) | refine St.drew ?_ | refine St.drewN ?_ _ | refine St.alloc ?_ _ | (refine St.setCell ?_ (.inr (by first | (simp; done) | (simp; omega))) _) | refine St.trans ?_ (by assumption) | refine St.gr ?_ (by assumption)))
  | none =>
    simp only
    obtain ⟨X, hX⟩ : ∃ X : Pl.SR, X = Pl.itself ((bs s).drop a) := ⟨_, rfl⟩
    rw [← hX]
    have HX := Lib.hid hX
    clear hX
    go_enter Tryz.func207, Tryz.ntmps207
    go_wp2_with fail
    refine (tq_common _ R s a q out ov (by (repeat (first | exact HS.out | refine RdQ.drew ?_ | refine RdQ.drewN ?_ _ | refine RdQ.alloc ?_ _ | refine RdQ.setCell ?_ (by assumption) _ | refine RdQ.gr ?_ (by assumption)))) hlt hs ho).mono ?_
    rw [← HC.out]
    rintro e w1 ⟨rfl, g1⟩
    obtain ⟨hc1, hf1, hz1⟩ := g1.use
    simp at hz1
    have hy1 : w.heap.size < w1.heap.size := by omega
    have hy2 : w.heap.size + 1 < w1.heap.size := by omega
    go_wp2_with fail
    cases X with
    | bad p =>
      refine (tq_itself _ R s a q out ov (by (repeat (first | exact HS.out | refine RdQ.drew ?_ | refine RdQ.drewN ?_ _ | refine RdQ.alloc ?_ _ | refine RdQ.setCell ?_ (by assumption) _ | refine RdQ.gr ?_ (by assumption)))) hlt hs ho).mono ?_
      rw [← HX.out]
      rintro e w2 ⟨rfl, F', hst⟩
      have hu := hst.use (w.heap.size + 1) (by simp; omega) (fun hF => by have := HS.out.own_lt hF; omega)
      have hz2 := hst.size
      simp at hz2
      obtain ⟨hc2, hf2⟩ := hu
      have HT := Lib.hid hst
      clear hst
      go_wp2_with fail
      refine bodyPost_ret (v := .tuple #[.bool false, fv 3 (a + p)]) (by simp [results, Tryz.results207, go_sem, hc2, hc1, hy1, hy2]) rfl ⟨rfl, F', ?_⟩
      have hst := HT.out
      (repeat (first | exact St.refl _ _ | assumption | exact Gr.st (by assumption) | refine St.drew ?_ | refine St.drewN ?_ _ | refine St.alloc ?_ _ | (refine St.setCell ?_ (.inr (by first | (simp; done) | (simp; omega))) _) | refine St.trans ?_ (by assumption) | refine St.gr ?_ (by assumption)))
    | go n t over =>
      refine (tq_itself _ R s a q out ov (by (repeat (first | exact HS.out | refine RdQ.drew ?_ | refine RdQ.drewN ?_ _ | refine RdQ.alloc ?_ _ | refine RdQ.setCell ?_ (by assumption) _ | refine RdQ.gr ?_ (by assumption)))) hlt hs ho).mono ?_
      rw [← HX.out]
      rintro e w2 ⟨rfl, ov', hr, hst⟩
      have hu := hst.use (w.heap.size + 1) (by simp; omega) (fun hF => by have := HS.out.own_lt hF; omega)
      have hz2 := hst.size
      simp at hz2
      obtain ⟨hc2, hf2⟩ := hu
      have HR := Lib.hid hr
      have HT := Lib.hid hst
      have hn3 : ¬ FQ R ov' (w.heap.size + 1) := fun hF => by
        rcases HT.out.own _ hF with hF | hF
        · have := HS.out.own_lt hF; omega
        · simp at hF; omega
      clear hr hst
      go_wp2_with fail
      refine bodyPost_ret (v := .tuple #[.bool over, f0]) (by simp [results, Tryz.results207, go_sem, hc2, hc1, hy1, hy2]) rfl ⟨rfl, ov', by (repeat (first | exact HR.out | refine RdQ.drew ?_ | refine RdQ.drewN ?_ _ | refine RdQ.alloc ?_ _ | refine RdQ.setCell ?_ (by assumption) _ | refine RdQ.gr ?_ (by assumption))), ?_⟩
      have hst := HT.out
      (repeat (first | exact St.refl _ _ | assumption | exact Gr.st (by assumption) | refine St.drew ?_ | refine St.drewN ?_ _ | refine St.alloc ?_ _ | (refine St.setCell ?_ (.inr (by first | (simp; done) | (simp; omega))) _) | refine St.trans ?_ (by assumption) | refine St.gr ?_ (by assumption)))

end Go.Proofs.YtkcnbhenhmmfgaaGreatDoor
