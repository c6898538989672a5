/-
  Walk: marks.
-/
import Derived.Test.YtkcnbhenhmmfgaaGreatDoorQ2
import Derived.Test.YtkcnbhenhmmfgaaGreatDoorPl2
set_option linter.all false
set_option linter.unusedVariables false
set_option linter.unusedSimpArgs false
namespace Go.Proofs.YtkcnbhenhmmfgaaGreatDoor
open Go.RowKit Go.Joins

set_option maxHeartbeats 1000000 in
theorem tq_marks (w : World) (R : Nat) (s : ByteArray) (a : Nat) (q : UInt8) (out : List UInt8) (ov : Value) (h : RdQ w R s a q out ov)
    (hlt : a < s.size) (hs : s.size ≤ 20000000) (ho : out.length ≤ a) :
    Calls Tryz.prog 209 #[.pointer (some ⟨R, 0, none⟩)] w fun e w' => match Pl.marks q ((bs s).drop a) with
      | .go n t over => e = .returned (.bool over) ∧ ∃ ov', RdQ w' R s (a + n) q (out ++ t) ov' ∧ St (FQ R ov) (FQ R ov') w w'
      | .bad _ => False := by
  obtain ⟨X, hX⟩ : ∃ X : Ending → World → Prop, X = fun e w' => match Pl.marks q ((bs s).drop a) with
      | .go n t over => e = .returned (.bool over) ∧ ∃ ov', RdQ w' R s (a + n) q (out ++ t) ov' ∧ St (FQ R ov) (FQ R ov') w w'
      | .bad _ => False := ⟨_, rfl⟩
  rw [← hX]
  have HX := Lib.hid hX
  clear hX
  obtain ⟨c0, c1, c2, c3, fz⟩ := h.cells
  have fz1 := fz 1
  have hR := h.lt
  have HS := Lib.hid h
  clear fz h
  go_enter Tryz.func209, Tryz.ntmps209
  go_wp2_with fail
  go_loopw [3] (fun n wr => ∃ k : Nat, n = .int .i64 k ∧ k ≤ 5 ∧ k ≤ Pl.run q ((bs s).drop a) ∧ ∃ m, wr = w.drewN m) (fun n _ => 5 - (intOf n).toNat)
  case atStart => exact ⟨0, rfl, by omega, by omega, 0, rfl⟩
  case round =>
    obtain ⟨k, rfl, hk5, hkr, m, rfl⟩ := hrel
    have hw := IntWalk.i64_in ((a : Int) + k) (by omega)
    have hk1 : (0 : Int) ≤ (a : Int) + k := by omega
    have hk3 : ((a : Int) + k).toNat = a + k := by omega
    rcases Pl.run_drop q (bs s) a k (by rw [bs_length]; omega) hkr with ⟨h1, h2, h3, h4⟩ | hstop
    · have h1' : a + k < s.size := by rw [← bs_length]; exact h1
      obtain ⟨b1, b2⟩ := beqs _ _ _ (show ((s[a + k]'h1').toNat == q.toNat) = true from h3)
      have hd5 : decide ((k : Int) < 5) = true := by simp; omega
      clear h3
      have hk2 : (a : Int) + k < (s.size : Int) := by omega
      go_wp2_with fail
      go_quiet (fail)
      clear hw
      go_wp2_with fail
      go_roundw
      case rel => exact ⟨k + 1, by go_num, by omega, h4, _, rfl⟩
      case measure => simp [intOf]; omega
    · obtain ⟨hM, hst⟩ := hstop hk5
      have HM := Lib.hid hM
      clear hM hstop
      rcases hst with h1 | ⟨h1, h2⟩ | ⟨h1, h2, h3⟩
      all_goals first
        | (have h3' := h3; have h1' : a + k < s.size := by { rw [← bs_length]; exact h1 }; obtain ⟨b1, b2⟩ := beqs _ _ _ (show ((s[a + k]'h1').toNat == q.toNat) = false from h3); clear h3 h3'; have hd5 : decide ((k : Int) < 5) = true := by { simp; omega }; have hk2 : (a : Int) + k < (s.size : Int) := by omega)
        | (have h2' := h2; rw [bs_length] at h1; have hd5 : decide ((k : Int) < 5) = false := by { simp; omega }; have hdA : decide ((a : Int) + k < (s.size : Int)) = true := by { simp; omega })
        | (rw [bs_length] at h1; have hdA : decide ((a : Int) + k < (s.size : Int)) = false := by { simp; omega })
      all_goals
        go_wp2_with fail
        go_quiet (fail)
        clear hw
        by_cases hk : 3 ≤ k
        · have hd3 : decide (3 ≤ (k : Int)) = true := by simp; omega
          go_wp2_with fail
          go_loopw [48] (fun i wr => ∃ (j : Nat) (ov1 : Value), i = .int .i64 j ∧ j ≤ (k - 3) ∧ RdQ wr R s (a + j) q (out ++ List.replicate j q) ov1 ∧ St (FQ R ov) (FQ R ov1) w wr) (fun i _ => (k - 3) - (intOf i).toNat)
          case atStart => exact ⟨0, ov, rfl, by omega, by simpa using (HS.out.drewN _), by (repeat (first | exact St.refl _ _ | assumption | exact Gr.st (by assumption) | refine St.drew ?_ | refine St.drewN ?_ _ | refine St.alloc ?_ _ | (refine St.setCell ?_ (.inr (by first | (simp; done) | (simp; omega))) _) | refine St.trans ?_ (by assumption) | refine St.gr ?_ (by assumption)))⟩
          case round =>
            obtain ⟨j, ov1, rfl, hj, hrd, hst1⟩ := hrel
            obtain ⟨d0, d1, d2, d3, gz⟩ := hrd.cells
            have gz1 := gz 1
            have hr1 := hrd.lt
            have HD := Lib.hid hrd
            have HT := Lib.hid hst1
            clear hrd hst1 gz c0 c1 c2 c3 d0 d3
            by_cases hjk : j < (k - 3)
            · go_wp2_with fail
              refine (tq_take _ R s (a + j) q (out ++ List.replicate j q) ov1 (by (repeat (first | exact HD.out | refine RdQ.drew ?_ | refine RdQ.drewN ?_ _ | refine RdQ.alloc ?_ _ | refine RdQ.setCell ?_ (by assumption) _ | refine RdQ.gr ?_ (by assumption)))) 1 1 rfl (by omega) [q] wr.heap.size 0 1 (by simp) (by omega) (news_one _ _ _ _ (by simp)) (by simp; omega)).mono ?_
              rintro e w1 ⟨rfl, ov2, hr2, hst2⟩
              have HR2 := Lib.hid hr2
              have HT2 := Lib.hid hst2
              clear hr2 hst2
              go_wp2_with fail
              go_roundw
              case rel =>
                refine ⟨j + 1, ov2, by go_num, by omega, ?_, ?_⟩
                · have := HR2.out
                  rw [List.append_assoc, show List.replicate j q ++ [q] = List.replicate (j + 1) q from by rw [List.replicate_succ']] at this
                  exact this
                · have h1 := HT.out
                  have h2 := HT2.out
                  (repeat (first | exact St.refl _ _ | assumption | exact Gr.st (by assumption) | refine St.drew ?_ | refine St.drewN ?_ _ | refine St.alloc ?_ _ | (refine St.setCell ?_ (.inr (by first | (simp; done) | (simp; omega))) _) | refine St.trans ?_ (by assumption) | refine St.gr ?_ (by assumption)))
              case measure => simp [intOf]; omega
            · have hjk' : ¬ (j : Int) < ((k : Int) - 3) := by omega
              go_wp2_with fail
              have e3 : j = k - 3 := by omega
              have hrd := HD.out
              have hst1 := HT.out
              rw [HX.out]
              unfold Pl.marks
              rw [HM.out]
              simp only
              rw [if_pos hk]
              have e4 : (↑a + ↑j + 3 : Int) = ((a + k : Nat) : Int) := by omega
              rw [e3] at hrd
              refine ⟨rfl, ov1, ?_, ?_⟩
              · rw [e4]; exact hrd.setAt (a + k)
              · exact hst1.setCell (.inl (.inl rfl)) _
        · first
            | (exfalso; omega)
            | (have hd3 : decide (3 ≤ (k : Int)) = false := by simp; omega
               go_wp2_with fail
               go_loopw [48] (fun i wr => ∃ (j : Nat) (ov1 : Value), i = .int .i64 j ∧ j ≤ k ∧ RdQ wr R s (a + j) q (out ++ List.replicate j q) ov1 ∧ St (FQ R ov) (FQ R ov1) w wr) (fun i _ => k - (intOf i).toNat)
               case atStart => exact ⟨0, ov, rfl, by omega, by simpa using (HS.out.drewN _), by (repeat (first | exact St.refl _ _ | assumption | exact Gr.st (by assumption) | refine St.drew ?_ | refine St.drewN ?_ _ | refine St.alloc ?_ _ | (refine St.setCell ?_ (.inr (by first | (simp; done) | (simp; omega))) _) | refine St.trans ?_ (by assumption) | refine St.gr ?_ (by assumption)))⟩
               case round =>
                 obtain ⟨j, ov1, rfl, hj, hrd, hst1⟩ := hrel
                 obtain ⟨d0, d1, d2, d3, gz⟩ := hrd.cells
                 have gz1 := gz 1
                 have hr1 := hrd.lt
                 have HD := Lib.hid hrd
                 have HT := Lib.hid hst1
                 clear hrd hst1 gz c0 c1 c2 c3 d0 d3
                 by_cases hjk : j < k
                 · go_wp2_with fail
                   refine (tq_take _ R s (a + j) q (out ++ List.replicate j q) ov1 (by (repeat (first | exact HD.out | refine RdQ.drew ?_ | refine RdQ.drewN ?_ _ | refine RdQ.alloc ?_ _ | refine RdQ.setCell ?_ (by assumption) _ | refine RdQ.gr ?_ (by assumption)))) 1 1 rfl (by omega) [q] wr.heap.size 0 1 (by simp) (by omega) (news_one _ _ _ _ (by simp)) (by simp; omega)).mono ?_
                   rintro e w1 ⟨rfl, ov2, hr2, hst2⟩
                   have HR2 := Lib.hid hr2
                   have HT2 := Lib.hid hst2
                   clear hr2 hst2
                   go_wp2_with fail
                   go_roundw
                   case rel =>
                     refine ⟨j + 1, ov2, by go_num, by omega, ?_, ?_⟩
                     · have := HR2.out
                       rw [List.append_assoc, show List.replicate j q ++ [q] = List.replicate (j + 1) q from by rw [List.replicate_succ']] at this
                       exact this
                     · have h1 := HT.out
                       have h2 := HT2.out
                       (repeat (first | exact St.refl _ _ | assumption | exact Gr.st (by assumption) | refine St.drew ?_ | refine St.drewN ?_ _ | refine St.alloc ?_ _ | (refine St.setCell ?_ (.inr (by first | (simp; done) | (simp; omega))) _) | refine St.trans ?_ (by assumption) | refine St.gr ?_ (by assumption)))
                   case measure => simp [intOf]; omega
                 · have hjk' : ¬ (j : Int) < (k : Int) := by omega
                   go_wp2_with fail
                   have e3 : j = k := by omega
                   have hrd := HD.out
                   have hst1 := HT.out
                   rw [HX.out]
                   unfold Pl.marks
                   rw [HM.out]
                   simp only
                   rw [if_neg hk]
                   rw [e3] at hrd
                   exact ⟨rfl, ov1, hrd, hst1⟩)

end Go.Proofs.YtkcnbhenhmmfgaaGreatDoor
