/-
  Walks: common as one contract; the steps of the literal strings.
-/
import Derived.Test.YtkcnbhenhmmfgaaGreatDoorQ4
set_option linter.all false
set_option linter.unusedVariables false
set_option linter.unusedSimpArgs false
namespace Go.Proofs.YtkcnbhenhmmfgaaGreatDoor
open Go.RowKit Go.Joins

theorem tq_common (w : World) (R : Nat) (s : ByteArray) (a : Nat) (q : UInt8) (out : List UInt8) (ov : Value) (h : RdQ w R s a q out ov)
    (hlt : a < s.size) (hs : s.size ≤ 20000000) (ho : out.length ≤ a) :
    Calls Tryz.prog 208 #[.pointer (some ⟨R, 0, none⟩)] w (CommonPost R s a q out ov w (Pl.common q ((bs s).drop a))) := by
  cases hm : (s[a].toNat == q.toNat)
  · have hc : ∀ X, Pl.feed ((bs s).drop a) = X → Pl.common q ((bs s).drop a) = match X with
        | .ok 0 => none
        | .ok (n + 1) => some (.go (n + 1) (((bs s).drop a).take (n + 1)) false)
        | .bad _ p => some (.bad p) := by
      intro X hX
      rw [idx_bs s a hlt] at hX ⊢; unfold Pl.common; simp only; rw [if_neg (by rw [hm]; simp), hX]
      cases X with
      | bad => rfl
      | ok n => cases n <;> rfl
    cases hf : Pl.feed ((bs s).drop a) with
    | bad c p =>
      rw [hc _ hf]
      obtain ⟨rfl, rfl⟩ := Pl.feed_bad _ _ _ hf
      exact tq_common_bad w R s a q out ov h hlt hs hm hf
    | ok n =>
      rw [hc _ hf]
      cases n with
      | zero => exact tq_common_none w R s a q out ov h hlt hs hm hf
      | succ n =>
        have hl := Pl.feed_le _ _ hf
        rw [List.length_drop, bs_length] at hl
        exact tq_common_go w R s a q out ov h hlt hs ho hm (n + 1) (by omega) (by omega) hf
  · exact tq_common_mark w R s a q out ov h hlt hs ho hm

theorem itself_at (s : ByteArray) (a : Nat) (hlt : a < s.size) : Pl.itself ((bs s).drop a) = if Pl.isPlain s[a] = true then .go 1 [s[a]] false else .bad 0 := by
  rw [idx_bs s a hlt]; rfl

theorem tq_itself (w : World) (R : Nat) (s : ByteArray) (a : Nat) (q : UInt8) (out : List UInt8) (ov : Value) (h : RdQ w R s a q out ov)
    (hlt : a < s.size) (hs : s.size ≤ 20000000) (ho : out.length ≤ a) :
    Calls Tryz.prog 198 #[.pointer (some ⟨R, 0, none⟩)] w (StepPost R s a q out ov w (Pl.itself ((bs s).drop a))) := by
  rw [itself_at s a hlt]
  cases hp : Pl.isPlain s[a]
  · rw [if_neg (by simp)]
    exact (tq_itself_no w R s a q out ov h hlt hs hp).mono fun e w' ⟨he, hg⟩ => ⟨he, _, hg.st⟩
  · rw [if_pos rfl]
    exact tq_itself_yes w R s a q out ov h hlt hs ho hp

set_option maxHeartbeats 400000 in
theorem tq_literal_step (w : World) (R : Nat) (s : ByteArray) (a : Nat) (q : UInt8) (out : List UInt8) (ov : Value) (h : RdQ w R s a q out ov)
    (hlt : a < s.size) (hs : s.size ≤ 20000000) (ho : out.length ≤ a) :
    Calls Tryz.prog 197 #[.agg #[.pointer (some ⟨R, 0, none⟩)]] w (StepPost R s a q out ov w (Pl.stepLit q ((bs s).drop a))) := by
  have hstep : Pl.stepLit q ((bs s).drop a) = if (s[a].toNat == q.toNat) = true then .go 1 [] true else Pl.itself ((bs s).drop a) := by
    rw [idx_bs s a hlt]; rfl
  rw [hstep]
  have hR := h.lt
  cases hm : (s[a].toNat == q.toNat)
  · rw [if_neg (by simp)]
    obtain ⟨X, hX⟩ : ∃ X : Pl.SR, X = Pl.itself ((bs s).drop a) := ⟨_, rfl⟩
    rw [← hX]
    have HX := Lib.hid hX
    have HS := Lib.hid h
    have HM := Lib.hid hm
    clear hX h hm hstep
    go_enter Tryz.func197, Tryz.ntmps197
    go_wp2_with fail
    refine (tq_end_no _ R s a q out ov (by (repeat (first | exact HS.out | refine RdQ.drew ?_ | refine RdQ.drewN ?_ _ | refine RdQ.alloc ?_ _ | refine RdQ.setCell ?_ (by assumption) _ | refine RdQ.gr ?_ (by assumption)))) hlt hs HM.out).mono ?_
    rintro e w1 ⟨rfl, g1⟩
    obtain ⟨hc1, hf1, hz1⟩ := g1.use
    simp at hz1
    go_wp2_with fail
    cases X with
    | bad p =>
      refine (tq_itself _ R s a q out ov (by (repeat (first | exact HS.out | refine RdQ.drew ?_ | refine RdQ.drewN ?_ _ | refine RdQ.alloc ?_ _ | refine RdQ.setCell ?_ (by assumption) _ | refine RdQ.gr ?_ (by assumption)))) hlt hs ho).mono ?_
      rw [← HX.out]
      rintro e w2 ⟨rfl, F', hst⟩
      have hu := hst.use (w.heap.size + 1) (by omega) (fun hF => by have := HS.out.own_lt hF; omega)
      have hz2 := hst.size
      obtain ⟨hc2, hf2⟩ := hu
      have HT := Lib.hid hst
      clear hst
      go_wp2_with fail
      refine bodyPost_ret (v := .tuple #[.bool false, fv 3 (a + p)]) (by simp [results, Tryz.results197, go_sem, hc2, hc1]) rfl ⟨rfl, F', ?_⟩
      have hst := HT.out
      (repeat (first | exact St.refl _ _ | assumption | exact Gr.st (by assumption) | refine St.drew ?_ | refine St.drewN ?_ _ | refine St.alloc ?_ _ | (refine St.setCell ?_ (.inr (by first | (simp; done) | (simp; omega))) _) | refine St.trans ?_ (by assumption) | refine St.gr ?_ (by assumption)))
    | go n t over =>
      refine (tq_itself _ R s a q out ov (by (repeat (first | exact HS.out | refine RdQ.drew ?_ | refine RdQ.drewN ?_ _ | refine RdQ.alloc ?_ _ | refine RdQ.setCell ?_ (by assumption) _ | refine RdQ.gr ?_ (by assumption)))) hlt hs ho).mono ?_
      rw [← HX.out]
      rintro e w2 ⟨rfl, ov', hr, hst⟩
      have hu := hst.use (w.heap.size + 1) (by omega) (fun hF => by have := HS.out.own_lt hF; omega)
      have hz2 := hst.size
      obtain ⟨hc2, hf2⟩ := hu
      have HR := Lib.hid hr
      have HT := Lib.hid hst
      have hn3 : ¬ FQ R ov' (w.heap.size + 1) := fun hF => by
        rcases HT.out.own _ hF with hF | hF
        · have := HS.out.own_lt hF; omega
        · omega
      clear hr hst
      go_wp2_with fail
      refine bodyPost_ret (v := .tuple #[.bool over, f0]) (by simp [results, Tryz.results197, go_sem, hc2, hc1]) rfl ⟨rfl, ov', by (repeat (first | exact HR.out | refine RdQ.drew ?_ | refine RdQ.drewN ?_ _ | refine RdQ.alloc ?_ _ | refine RdQ.setCell ?_ (by assumption) _ | refine RdQ.gr ?_ (by assumption))), ?_⟩
      have hst := HT.out
      (repeat (first | exact St.refl _ _ | assumption | exact Gr.st (by assumption) | refine St.drew ?_ | refine St.drewN ?_ _ | refine St.alloc ?_ _ | (refine St.setCell ?_ (.inr (by first | (simp; done) | (simp; omega))) _) | refine St.trans ?_ (by assumption) | refine St.gr ?_ (by assumption)))
  · rw [if_pos rfl]
    have HS := Lib.hid h
    have HM := Lib.hid hm
    clear h hm hstep
    go_enter Tryz.func197, Tryz.ntmps197
    go_wp2_with fail
    refine (tq_end_yes _ R s a q out ov (by (repeat (first | exact HS.out | refine RdQ.drew ?_ | refine RdQ.drewN ?_ _ | refine RdQ.alloc ?_ _ | refine RdQ.setCell ?_ (by assumption) _ | refine RdQ.gr ?_ (by assumption)))) hlt hs HM.out).mono ?_
    rintro e w2 ⟨rfl, hr, hst⟩
    have hu := hst.use (w.heap.size + 1) (by simp) (fun hF => by have := HS.out.own_lt hF; omega)
    have hz2 := hst.size
    simp at hz2
    obtain ⟨hc2, hf2⟩ := hu
    have HR := Lib.hid hr
    have HT := Lib.hid hst
    have hn3 : ¬ FQ R ov (w.heap.size + 1) := fun hF => by have := HS.out.own_lt hF; omega
    clear hr hst
    go_wp2_with fail
    refine bodyPost_ret (v := .tuple #[.bool true, f0]) (by simp [results, Tryz.results197, go_sem, hc2]) rfl ⟨rfl, ov, by rw [List.append_nil]; (repeat (first | exact HR.out | refine RdQ.drew ?_ | refine RdQ.drewN ?_ _ | refine RdQ.alloc ?_ _ | refine RdQ.setCell ?_ (by assumption) _ | refine RdQ.gr ?_ (by assumption))), ?_⟩
    have hst := HT.out
    (repeat (first | exact St.refl _ _ | assumption | exact Gr.st (by assumption) | refine St.drew ?_ | refine St.drewN ?_ _ | refine St.alloc ?_ _ | (refine St.setCell ?_ (.inr (by first | (simp; done) | (simp; omega))) _) | refine St.trans ?_ (by assumption) | refine St.gr ?_ (by assumption)))

end Go.Proofs.YtkcnbhenhmmfgaaGreatDoor
