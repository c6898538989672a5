/-
  Walks: itself, end, feed.
-/
import Derived.Test.YtkcnbhenhmmfgaaGreatDoorQ1
import Derived.Deep.QuietTactic
import Derived.BigQuiet
set_option linter.all false
set_option linter.unusedVariables false
set_option linter.unusedSimpArgs false
namespace Go.Proofs.YtkcnbhenhmmfgaaGreatDoor
open Go.RowKit Go.Joins

def StepPost (R : Nat) (s : ByteArray) (a : Nat) (q : UInt8) (out : List UInt8) (ov : Value) (w : World) (sr : Pl.SR) (e : Ending) (w' : World) : Prop :=
  match sr with
  | .go n t over => e = .returned (.tuple #[.bool over, f0]) ∧ ∃ ov', RdQ w' R s (a + n) q (out ++ t) ov' ∧ St (FQ R ov) (FQ R ov') w w'
  | .bad p => e = .returned (.tuple #[.bool false, fv 3 (a + p)]) ∧ ∃ F', St (FQ R ov) F' w w'

set_option maxHeartbeats 400000 in
theorem tq_itself_no (w : World) (R : Nat) (s : ByteArray) (a : Nat) (q : UInt8) (out : List UInt8) (ov : Value) (h : RdQ w R s a q out ov)
    (hlt : a < s.size) (hs : s.size ≤ 20000000) (hp : Pl.isPlain s[a] = false) :
    Calls Tryz.prog 198 #[.pointer (some ⟨R, 0, none⟩)] w fun e w' => e = .returned (.tuple #[.bool false, fv 3 a]) ∧ Gr w w' := by
  obtain ⟨c0, c1, c2, c3, fz⟩ := h.cells
  have hR := h.lt
  have HP := Lib.hid hp
  clear fz h hp c3
  go_enter Tryz.func198, Tryz.ntmps198
  go_wp2_with fail
  go_quiet (fail)
  go_wp2_with (first | (go_at_call 199; refine (tq_plain _ _).mono ?_; rw [HP.out]; rintro e w1 ⟨rfl, rfl⟩) | (go_at_call 67; refine (tq_wrong _ a rfl _).mono ?_; rintro e w1 ⟨rfl, g1⟩; obtain ⟨hc1, hf1, hz1⟩ := g1.use))
  exact bodyPost_ret (v := .tuple #[.bool false, fv 3 a]) (by simp [results, Tryz.results198, go_sem, hc1]) rfl ⟨rfl, by (repeat (first | exact Gr.refl _ | assumption | refine Gr.drew ?_ | refine Gr.drewN ?_ _ | refine Gr.alloc ?_ _ | (refine Gr.setCell ?_ (by first | (simp; done) | (simp; omega)) _) | refine Gr.trans ?_ (by assumption)))⟩

set_option maxHeartbeats 400000 in
theorem tq_itself_yes (w : World) (R : Nat) (s : ByteArray) (a : Nat) (q : UInt8) (out : List UInt8) (ov : Value) (h : RdQ w R s a q out ov)
    (hlt : a < s.size) (hs : s.size ≤ 20000000) (ho : out.length ≤ a) (hp : Pl.isPlain s[a] = true) :
    Calls Tryz.prog 198 #[.pointer (some ⟨R, 0, none⟩)] w fun e w' => e = .returned (.tuple #[.bool false, f0]) ∧ ∃ ov', RdQ w' R s (a + 1) q (out ++ [s[a]]) ov' ∧ St (FQ R ov) (FQ R ov') w w' := by
  obtain ⟨c0, c1, c2, c3, fz⟩ := h.cells
  have hR := h.lt
  have HP := Lib.hid hp
  have HS := Lib.hid h
  clear fz h hp c3
  go_enter Tryz.func198, Tryz.ntmps198
  go_wp2_with fail
  go_quiet (fail)
  go_wp2_with (first | (go_at_call 199; refine (tq_plain _ _).mono ?_; rw [HP.out]; rintro e w1 ⟨rfl, rfl⟩))
  refine (tq_take _ R s a q out ov (by (repeat (first | exact HS.out | refine RdQ.drew ?_ | refine RdQ.drewN ?_ _ | refine RdQ.alloc ?_ _ | refine RdQ.setCell ?_ (by assumption) _ | refine RdQ.gr ?_ (by assumption)))) 1 1 rfl (by omega) [s[a]] (w.heap.size + 1) 0 1 (by simp) (by omega) (news_one _ _ _ _ (by simp)) (by simp; omega)).mono ?_
  rintro e w1 ⟨rfl, ov', hr, hst⟩
  have hb3 := hst.use w.heap.size (by simp; omega) (fun hF => by have := HS.out.own_lt hF; omega)
  have hz := hst.size
  simp at hz
  obtain ⟨hc1, hf1⟩ := hb3
  have HR := Lib.hid hr
  have HT := Lib.hid hst
  clear hr hst
  go_wp2_with fail
  refine bodyPost_ret (v := .tuple #[.bool false, f0]) (by simp [results, Tryz.results198, go_sem, hc1]) rfl ⟨rfl, ov', ?_, ?_⟩
  · have hn3 : ¬ FQ R ov' w.heap.size := fun hF => by
      rcases HT.out.own _ hF with hF | hF
      · have := HS.out.own_lt hF; omega
      · simp at hF; omega
    (repeat (first | exact HR.out | refine RdQ.drew ?_ | refine RdQ.drewN ?_ _ | refine RdQ.alloc ?_ _ | refine RdQ.setCell ?_ (by assumption) _ | refine RdQ.gr ?_ (by assumption)))
  · have hst := HT.out
    (repeat (first | exact St.refl _ _ | assumption | exact Gr.st (by assumption) | refine St.drew ?_ | refine St.drewN ?_ _ | refine St.alloc ?_ _ | (refine St.setCell ?_ (.inr (by first | (simp; done) | (simp; omega))) _) | refine St.trans ?_ (by assumption) | refine St.gr ?_ (by assumption)))

set_option maxHeartbeats 400000 in
theorem tq_end_no (w : World) (R : Nat) (s : ByteArray) (a : Nat) (q : UInt8) (out : List UInt8) (ov : Value) (h : RdQ w R s a q out ov)
    (hlt : a < s.size) (hs : s.size ≤ 20000000) (hp : ((s[a]).toNat == q.toNat) = false) :
    Calls Tryz.prog 196 #[.pointer (some ⟨R, 0, none⟩)] w fun e w' => e = .returned (.bool false) ∧ Gr w w' := by
  obtain ⟨c0, c1, c2, c3, fz⟩ := h.cells
  have hR := h.lt
  obtain ⟨b1, b2⟩ := beqs _ _ _ hp
  clear fz h hp c3
  go_enter Tryz.func196, Tryz.ntmps196
  go_wp2_with fail
  go_quiet (fail)
  go_wp2_with fail
  go_ret
  exact ⟨rfl, by (repeat (first | exact Gr.refl _ | assumption | refine Gr.drew ?_ | refine Gr.drewN ?_ _ | refine Gr.alloc ?_ _ | (refine Gr.setCell ?_ (by first | (simp; done) | (simp; omega)) _) | refine Gr.trans ?_ (by assumption)))⟩

set_option maxHeartbeats 400000 in
theorem tq_end_yes (w : World) (R : Nat) (s : ByteArray) (a : Nat) (q : UInt8) (out : List UInt8) (ov : Value) (h : RdQ w R s a q out ov)
    (hlt : a < s.size) (hs : s.size ≤ 20000000) (hp : ((s[a]).toNat == q.toNat) = true) :
    Calls Tryz.prog 196 #[.pointer (some ⟨R, 0, none⟩)] w fun e w' => e = .returned (.bool true) ∧ RdQ w' R s (a + 1) q out ov ∧ St (FQ R ov) (FQ R ov) w w' := by
  obtain ⟨c0, c1, c2, c3, fz⟩ := h.cells
  have hR := h.lt
  obtain ⟨b1, b2⟩ := beqs _ _ _ hp
  have fz1 := fz 1
  have HS := Lib.hid h
  have HP := Lib.hid hp
  clear fz h hp c3
  go_enter Tryz.func196, Tryz.ntmps196
  go_wp2_with fail
  go_quiet (fail)
  go_wp2_with fail
  go_ret
  have e : (↑a + 1 : Int) = ((a + 1 : Nat) : Int) := by omega
  rw [e]
  exact ⟨rfl, by first | exact (HS.out.setAt (a + 1)).drewN _ | exact (HS.out.setAt (a + 1)), by first | exact ((St.refl _ _).setCell (.inl (.inl rfl)) _).drewN _ | exact ((St.refl _ _).setCell (.inl (.inl rfl)) _)⟩

theorem feed_at (s : ByteArray) (a : Nat) (hlt : a < s.size) :
    Pl.feed ((bs s).drop a) = if (s[a].toNat == 10) = true then .ok 1 else if (s[a].toNat == 13) = true then (if Pl.pre ((bs s).drop (a + 1)) [10] = true then .ok 2 else .bad 3 1) else .ok 0 := by
  rw [idx_bs s a hlt]
  generalize (bs s).drop (a + 1) = l
  generalize s[a] = c
  by_cases h10 : c = 10
  · subst h10; simp [Pl.feed]
  · by_cases h13 : c = 13
    · subst h13
      cases l with
      | nil => simp [Pl.feed, Pl.pre]
      | cons b l =>
        by_cases hb : b = 10
        · subst hb; simp [Pl.feed, Pl.pre]
        · have : Pl.feed (13 :: b :: l) = .bad 3 1 := by
            unfold Pl.feed; split <;> simp_all
          rw [this]; simp [Pl.pre, hb]
    · have : Pl.feed (c :: l) = .ok 0 := by
        unfold Pl.feed; split <;> simp_all
      have e1 : ¬ c.toNat = 10 := fun e => h10 (by rw [← UInt8.toNat_inj, e]; rfl)
      have e2 : ¬ c.toNat = 13 := fun e => h13 (by rw [← UInt8.toNat_inj, e]; rfl)
      rw [this]; simp [e1, e2]

set_option maxHeartbeats 1000000 in
theorem tq_feed (w : World) (R : Nat) (s : ByteArray) (a : Nat) (q : UInt8) (out : List UInt8) (ov : Value) (h : RdQ w R s a q out ov)
    (hlt : a < s.size) (hs : s.size ≤ 20000000) :
    Calls Tryz.prog 70 #[.pointer (some ⟨R, 0, none⟩)] w fun e w' => (match Pl.feed ((bs s).drop a) with
      | .ok n => e = .returned (.tuple #[.int .i64 n, f0])
      | .bad c p => e = .returned (.tuple #[.int .i64 0, fv c (a + p)])) ∧ Gr w w' := by
  obtain ⟨c0, c1, c2, c3, fz⟩ := h.cells
  have hR := h.lt
  rw [feed_at s a hlt]
  have HS := Lib.hid h
  clear fz h c3
  cases h10 : (s[a].toNat == 10)
  · obtain ⟨b1, b2⟩ := beqs _ 10 _ h10
    cases h13 : (s[a].toNat == 13)
    · obtain ⟨b3, b4⟩ := beqs _ 13 _ h13
      clear h10 h13
      simp only [Bool.false_eq_true, if_false]
      go_enter Tryz.func70, Tryz.ntmps70
      go_wp2_with fail
      go_quiet (fail)
      go_wp2_with fail
      go_quiet (fail)
      go_wp2_with fail
      exact bodyPost_ret (v := .tuple #[.int .i64 0, f0]) (by simp [results, Tryz.results70, go_sem]) rfl ⟨rfl, by (repeat (first | exact Gr.refl _ | assumption | refine Gr.drew ?_ | refine Gr.drewN ?_ _ | refine Gr.alloc ?_ _ | (refine Gr.setCell ?_ (by first | (simp; done) | (simp; omega)) _) | refine Gr.trans ?_ (by assumption)))⟩
    · obtain ⟨b3, b4⟩ := beqs _ 13 _ h13
      clear h10 h13
      cases hp : Pl.pre ((bs s).drop (a + 1)) [10]
      · simp only [Bool.false_eq_true, if_false, if_true]
        have HP := Lib.hid hp
        clear hp
        have hw := IntWalk.i64_in ((a : Int) + 1) (by omega)
        have hk1 : (0 : Int) ≤ (a : Int) + 1 := by omega
        have hk2 : (a : Int) + 1 ≤ (s.size : Int) := by omega
        have hk3 : ((a : Int) + 1).toNat = a + 1 := by omega
        go_enter Tryz.func70, Tryz.ntmps70
        go_wp2_with fail
        go_quiet (fail)
        go_wp2_with fail
        go_quiet (fail)
        go_wp2_with fail
        go_quiet ((go_at_call 19; exact quiet_any2 (prefix_at s ⟨#[10]⟩ (a + 1) false HP.out _) ⟨_, rfl⟩))
        clear hw hk1 hk2 hk3
        go_wp2_with (go_at_call 67; refine (tq_wrong _ (a + 1) (by omega) _).mono ?_; rintro e w1 ⟨rfl, g1⟩; obtain ⟨hc1, hf1, hz1⟩ := g1.use)
        exact bodyPost_ret (v := .tuple #[.int .i64 0, fv 3 (a + 1)]) (by simp [results, Tryz.results70, go_sem, hc1]) rfl ⟨rfl, by (repeat (first | exact Gr.refl _ | assumption | refine Gr.drew ?_ | refine Gr.drewN ?_ _ | refine Gr.alloc ?_ _ | (refine Gr.setCell ?_ (by first | (simp; done) | (simp; omega)) _) | refine Gr.trans ?_ (by assumption)))⟩
      · simp only [Bool.false_eq_true, if_false, if_true]
        have HP := Lib.hid hp
        clear hp
        have hw := IntWalk.i64_in ((a : Int) + 1) (by omega)
        have hk1 : (0 : Int) ≤ (a : Int) + 1 := by omega
        have hk2 : (a : Int) + 1 ≤ (s.size : Int) := by omega
        have hk3 : ((a : Int) + 1).toNat = a + 1 := by omega
        go_enter Tryz.func70, Tryz.ntmps70
        go_wp2_with fail
        go_quiet (fail)
        go_wp2_with fail
        go_quiet (fail)
        go_wp2_with fail
        go_quiet ((go_at_call 19; exact quiet_any2 (prefix_at s ⟨#[10]⟩ (a + 1) true HP.out _) ⟨_, rfl⟩))
        clear hw hk1 hk2 hk3
        go_wp2_with fail
        exact bodyPost_ret (v := .tuple #[.int .i64 2, f0]) (by simp [results, Tryz.results70, go_sem]) rfl ⟨rfl, by (repeat (first | exact Gr.refl _ | assumption | refine Gr.drew ?_ | refine Gr.drewN ?_ _ | refine Gr.alloc ?_ _ | (refine Gr.setCell ?_ (by first | (simp; done) | (simp; omega)) _) | refine Gr.trans ?_ (by assumption)))⟩
  · obtain ⟨b1, b2⟩ := beqs _ 10 _ h10
    clear h10
    simp only [if_true]
    go_enter Tryz.func70, Tryz.ntmps70
    go_wp2_with fail
    go_quiet (fail)
    go_wp2_with fail
    exact bodyPost_ret (v := .tuple #[.int .i64 1, f0]) (by simp [results, Tryz.results70, go_sem]) rfl ⟨rfl, by (repeat (first | exact Gr.refl _ | assumption | refine Gr.drew ?_ | refine Gr.drewN ?_ _ | refine Gr.alloc ?_ _ | (refine Gr.setCell ?_ (by first | (simp; done) | (simp; omega)) _) | refine Gr.trans ?_ (by assumption)))⟩

end Go.Proofs.YtkcnbhenhmmfgaaGreatDoor
