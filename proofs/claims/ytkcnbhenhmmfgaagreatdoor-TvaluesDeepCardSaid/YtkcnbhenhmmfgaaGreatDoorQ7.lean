/-
  Walks: Long; the steps of the basic strings, but for escapes.
-/
import Derived.Test.YtkcnbhenhmmfgaaGreatDoorQ6
set_option linter.all false
set_option linter.unusedVariables false
set_option linter.unusedSimpArgs false
namespace Go.Proofs.YtkcnbhenhmmfgaaGreatDoor
open Go.RowKit Go.Joins

theorem long_pre (l : List UInt8) : Pl.long l = (Pl.pre l [34, 34, 34] || Pl.pre l [39, 39, 39]) := by
  match l with
  | [] => rfl
  | [a] => simp [Pl.long, Pl.pre]
  | [a, b] => simp [Pl.long, Pl.pre]
  | a :: b :: c :: l =>
    unfold Pl.long
    split
    · rename_i h; simp only [List.cons.injEq] at h; obtain ⟨rfl, rfl, rfl, _⟩ := h; simp [Pl.pre]
    · rename_i h; simp only [List.cons.injEq] at h; obtain ⟨rfl, rfl, rfl, _⟩ := h; simp [Pl.pre]
    · rename_i h1 h2
      simp only [Pl.pre, Bool.and_true]
      symm
      rw [Bool.eq_false_iff]
      intro h
      simp only [Bool.or_eq_true, Bool.and_eq_true, beq_iff_eq] at h
      rcases h with ⟨rfl, rfl, rfl⟩ | ⟨rfl, rfl, rfl⟩
      · exact h1 _ rfl
      · exact h2 _ rfl

set_option maxHeartbeats 400000 in
theorem tq_Long (s : ByteArray) (i : Int) (n : Nat) (hi : i = n) (hn : n ≤ s.size) (hs : s.size ≤ 20000000) (w : World) :
    Calls Tryz.prog 69 #[.string s, .int .i64 i] w fun e w' => e = .returned (.bool (Pl.longAt (bs s) n)) ∧ w = w' := by
  subst hi
  unfold Pl.longAt
  rw [long_pre]
  have hd0 : decide ((0 : Int) ≤ (n : Int)) = true := by simp
  have hd1 : decide ((n : Int) ≤ (s.size : Int)) = true := by simp; omega
  cases h1 : Pl.pre ((bs s).drop n) [34, 34, 34]
  · cases h2 : Pl.pre ((bs s).drop n) [39, 39, 39]
    all_goals
      have H1 := Lib.hid h1
      have H2 := Lib.hid h2
      clear h1 h2
      go_enter Tryz.func69, Tryz.ntmps69
      go_wp2_with (go_at_call 19; first | (with_reducible refine (prefix_at s ⟨#[34, 34, 34]⟩ n false H1.out _).mono ?_; rintro e w3 ⟨rfl, rfl⟩) | (with_reducible refine (prefix_at s ⟨#[39, 39, 39]⟩ n _ H2.out _).mono ?_; rintro e w3 ⟨rfl, rfl⟩))
      go_ret
      exact ⟨rfl, rfl⟩
  · have H1 := Lib.hid h1
    clear h1
    go_enter Tryz.func69, Tryz.ntmps69
    go_wp2_with (go_at_call 19; (with_reducible refine (prefix_at s ⟨#[34, 34, 34]⟩ n true H1.out _).mono ?_; rintro e w3 ⟨rfl, rfl⟩))
    go_ret
    exact ⟨rfl, rfl⟩

namespace Pl
/-- The step of a basic string; none: an escape stands there. -/
def stepBas (q : UInt8) : List UInt8 → Option SR
  | [] => some (.bad 0)
  | c :: r => if c.toNat == q.toNat then some (.go 1 [] true) else if c.toNat == 92 then none else some (itself (c :: r))
end Pl

set_option maxHeartbeats 1000000 in
theorem tq_basic_step (w : World) (R : Nat) (s : ByteArray) (a : Nat) (q : UInt8) (out : List UInt8) (ov : Value) (h : RdQ w R s a q out ov)
    (hlt : a < s.size) (hs : s.size ≤ 20000000) (ho : out.length ≤ a) (sr : Pl.SR) (hsr : Pl.stepBas q ((bs s).drop a) = some sr) :
    Calls Tryz.prog 201 #[.agg #[.pointer (some ⟨R, 0, none⟩)]] w (StepPost R s a q out ov w sr) := by
  rw [idx_bs s a hlt] at hsr
  unfold Pl.stepBas at hsr
  dsimp only at hsr
  have hR := h.lt
  cases hm : (s[a].toNat == q.toNat)
  · rw [hm] at hsr
    cases he : (s[a].toNat == 92)
    · rw [he] at hsr
      simp only [Bool.false_eq_true, if_false, Option.some.injEq] at hsr
      rw [← idx_bs s a hlt] at hsr
      obtain ⟨b1, b2⟩ := beqs _ 92 _ he
      have HX := Lib.hid hsr
      have HS := Lib.hid h
      have HM := Lib.hid hm
      clear hsr h hm he
      go_enter Tryz.func201, Tryz.ntmps201
      go_wp2_with fail
      refine (tq_end_no _ R s a q out ov (by (repeat (first | exact HS.out | refine RdQ.drew ?_ | refine RdQ.drewN ?_ _ | refine RdQ.alloc ?_ _ | refine RdQ.setCell ?_ (by assumption) _ | refine RdQ.gr ?_ (by assumption)))) hlt hs HM.out).mono ?_
      rintro e w1 ⟨rfl, g1⟩
      obtain ⟨hc1, hf1, hz1⟩ := g1.use
      simp at hz1
      have hRd : Hid (RdQ w1 R s a q out ov) := by
        have h1 : RdQ ((w.alloc (.cells #[.pointer (some ⟨R, 0, none⟩)] 157)).alloc (.cells #[.int .i64 0, .int .i64 0] 25)) R s a q out ov := by (repeat (first | exact HS.out | refine RdQ.drew ?_ | refine RdQ.drewN ?_ _ | refine RdQ.alloc ?_ _ | refine RdQ.setCell ?_ (by assumption) _ | refine RdQ.gr ?_ (by assumption)))
        exact h1.gr g1
      have c0 : w1.cell? ⟨R, 0, none⟩ = some (.string s) := hRd.out.cells.1
      have c1 : w1.cell? ⟨R, 1, none⟩ = some (.int .i64 a) := hRd.out.cells.2.1
      go_wp2_with fail
      go_quiet (fail)
      go_wp2_with fail
      cases sr with
      | bad p =>
        refine (tq_itself _ R s a q out ov (by (repeat (first | exact hRd.out | refine RdQ.drew ?_ | refine RdQ.drewN ?_ _ | refine RdQ.alloc ?_ _ | refine RdQ.setCell ?_ (by assumption) _ | refine RdQ.gr ?_ (by assumption)))) hlt hs ho).mono ?_
        rw [HX.out]
        rintro e w2 ⟨rfl, F', hst⟩
        have hu := hst.use (w.heap.size + 1) (by simp; omega) (fun hF => by have := HS.out.own_lt hF; omega)
        have hz2 := hst.size
        simp at hz2
        obtain ⟨hc2, hf2⟩ := hu
        have HT := Lib.hid hst
        clear hst
        go_wp2_with fail
        refine bodyPost_ret (v := .tuple #[.bool false, fv 3 (a + p)]) (by simp [results, Tryz.results201, go_sem, hc2, hc1]) rfl ⟨rfl, F', ?_⟩
        have hst := HT.out
        (repeat (first | exact St.refl _ _ | assumption | exact Gr.st (by assumption) | refine St.drew ?_ | refine St.drewN ?_ _ | refine St.alloc ?_ _ | (refine St.setCell ?_ (.inr (by first | (simp; done) | (simp; omega))) _) | refine St.trans ?_ (by assumption) | refine St.gr ?_ (by assumption)))
      | go n t over =>
        refine (tq_itself _ R s a q out ov (by (repeat (first | exact hRd.out | refine RdQ.drew ?_ | refine RdQ.drewN ?_ _ | refine RdQ.alloc ?_ _ | refine RdQ.setCell ?_ (by assumption) _ | refine RdQ.gr ?_ (by assumption)))) hlt hs ho).mono ?_
        rw [HX.out]
        rintro e w2 ⟨rfl, ov', hr, hst⟩
        have hu := hst.use (w.heap.size + 1) (by simp; omega) (fun hF => by have := HS.out.own_lt hF; omega)
        have hz2 := hst.size
        simp at hz2
        obtain ⟨hc2, hf2⟩ := hu
        have HR := Lib.hid hr
        have HT := Lib.hid hst
        have hn3 : ¬ FQ R ov' (w.heap.size + 1) := fun hF => by
          rcases HT.out.own _ hF with hF | hF
          · have := HS.out.own_lt hF; omega
          · simp at hF; omega
        clear hr hst
        go_wp2_with fail
        refine bodyPost_ret (v := .tuple #[.bool over, f0]) (by simp [results, Tryz.results201, go_sem, hc2, hc1]) rfl ⟨rfl, ov', by (repeat (first | exact HR.out | refine RdQ.drew ?_ | refine RdQ.drewN ?_ _ | refine RdQ.alloc ?_ _ | refine RdQ.setCell ?_ (by assumption) _ | refine RdQ.gr ?_ (by assumption))), ?_⟩
        have hst := HT.out
        (repeat (first | exact St.refl _ _ | assumption | exact Gr.st (by assumption) | refine St.drew ?_ | refine St.drewN ?_ _ | refine St.alloc ?_ _ | (refine St.setCell ?_ (.inr (by first | (simp; done) | (simp; omega))) _) | refine St.trans ?_ (by assumption) | refine St.gr ?_ (by assumption)))
    · rw [he] at hsr
      simp at hsr
  · rw [hm] at hsr
    simp only [if_true, Option.some.injEq] at hsr
    subst hsr
    have HS := Lib.hid h
    have HM := Lib.hid hm
    clear h hm
    go_enter Tryz.func201, Tryz.ntmps201
    go_wp2_with fail
    refine (tq_end_yes _ R s a q out ov (by (repeat (first | exact HS.out | refine RdQ.drew ?_ | refine RdQ.drewN ?_ _ | refine RdQ.alloc ?_ _ | refine RdQ.setCell ?_ (by assumption) _ | refine RdQ.gr ?_ (by assumption)))) hlt hs HM.out).mono ?_
    rintro e w2 ⟨rfl, hr, hst⟩
    have hu := hst.use (w.heap.size + 1) (by simp) (fun hF => by have := HS.out.own_lt hF; omega)
    have hz2 := hst.size
    simp at hz2
    obtain ⟨hc2, hf2⟩ := hu
    have HR := Lib.hid hr
    have HT := Lib.hid hst
    have hn3 : ¬ FQ R ov (w.heap.size + 1) := fun hF => by have := HS.out.own_lt hF; omega
    clear hr hst
    go_wp2_with fail
    refine bodyPost_ret (v := .tuple #[.bool true, f0]) (by simp [results, Tryz.results201, go_sem, hc2]) rfl ⟨rfl, ov, by rw [List.append_nil]; (repeat (first | exact HR.out | refine RdQ.drew ?_ | refine RdQ.drewN ?_ _ | refine RdQ.alloc ?_ _ | refine RdQ.setCell ?_ (by assumption) _ | refine RdQ.gr ?_ (by assumption))), ?_⟩
    have hst := HT.out
    (repeat (first | exact St.refl _ _ | assumption | exact Gr.st (by assumption) | refine St.drew ?_ | refine St.drewN ?_ _ | refine St.alloc ?_ _ | (refine St.setCell ?_ (.inr (by first | (simp; done) | (simp; omega))) _) | refine St.trans ?_ (by assumption) | refine St.gr ?_ (by assumption)))

end Go.Proofs.YtkcnbhenhmmfgaaGreatDoor
