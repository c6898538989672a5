/-
  Walks: tkeys.bare, tkeys.word; what is cut off a slice (Clip).
-/
import Derived.Test.YtkcnbhenhmmfgaaGreatDoorQ9
import Derived.Test.YtkcnbhenhmmfgaaGreatDoorTv
import Derived.Test.YtkcnbhenhmmfgaaGreatDoorW2
set_option linter.all false
set_option linter.unusedVariables false
set_option linter.unusedSimpArgs false
namespace Go.Proofs.YtkcnbhenhmmfgaaGreatDoor
open Go.RowKit Go.Joins

set_option maxHeartbeats 1000000 in
theorem tk_bare (c : UInt8) (w : World) :
    Calls Tryz.prog 125 #[.int .u8 c.toNat] w fun e w' => e = .returned (.bool (Pl.isBare c)) ∧ w = w' := by
  go_enter Tryz.func125, Tryz.ntmps125
  go_wp2
  all_goals go_ret
  all_goals (refine ⟨ret_bool ?_, rfl⟩; rw [Bool.eq_iff_iff]; simp [Pl.isBare]; try omega)

theorem bareRun_more (l : List UInt8) (a k : Nat) (h : a + k < l.length) (hk : k ≤ Pl.bareRun (l.drop a)) (hb : Pl.isBare (l[a + k]'h) = true) : k + 1 ≤ Pl.bareRun (l.drop a) := by
  induction k generalizing a with
  | zero =>
    have : l.drop a = l[a]'(by omega) :: l.drop (a + 1) := List.drop_eq_getElem_cons (by omega)
    have hb' : Pl.isBare l[a] = true := hb
    rw [this]; unfold Pl.bareRun; rw [List.takeWhile_cons, if_pos hb']; simp
  | succ k ih =>
    have e : l.drop a = l[a]'(by omega) :: l.drop (a + 1) := List.drop_eq_getElem_cons (by omega)
    rw [e] at hk ⊢
    unfold Pl.bareRun at hk ⊢
    rw [List.takeWhile_cons] at hk ⊢
    split at hk
    · rename_i h1
      rw [if_pos h1]
      have := ih (a + 1) (by omega) (by unfold Pl.bareRun; simp at hk; omega) (by simpa [show a + 1 + k = a + (k + 1) from by omega] using hb)
      unfold Pl.bareRun at this
      simp; omega
    · simp at hk
theorem bareRun_stop (l : List UInt8) (a k : Nat) (hk : k ≤ Pl.bareRun (l.drop a)) (hb : ∀ h : a + k < l.length, Pl.isBare (l[a + k]'h) = false) : Pl.bareRun (l.drop a) = k := by
  induction k generalizing a with
  | zero =>
    by_cases h : a < l.length
    · have : l.drop a = l[a]'h :: l.drop (a + 1) := List.drop_eq_getElem_cons h
      have hb' : Pl.isBare l[a] = false := hb h
      rw [this]; unfold Pl.bareRun; rw [List.takeWhile_cons, if_neg (by rw [hb']; simp)]; rfl
    · rw [List.drop_eq_nil_of_le (by omega)]; rfl
  | succ k ih =>
    by_cases h : a < l.length
    · have e : l.drop a = l[a]'h :: l.drop (a + 1) := List.drop_eq_getElem_cons h
      rw [e] at hk ⊢
      unfold Pl.bareRun at hk ⊢
      rw [List.takeWhile_cons] at hk ⊢
      split at hk
      · rename_i h1
        rw [if_pos h1]
        have := ih (a + 1) (by unfold Pl.bareRun; simp at hk; omega) (fun h => by have := hb (by omega); simpa [show a + 1 + k = a + (k + 1) from by omega] using this)
        unfold Pl.bareRun at this
        simp; omega
      · simp at hk
    · rw [List.drop_eq_nil_of_le (by omega)] at hk
      simp [Pl.bareRun] at hk

/-- What word answers. -/
def WordPost (s : ByteArray) (w : World) (x : Pl.Res (Pl.Bs × Nat)) (e : Ending) (w' : World) : Prop :=
  match x with
  | .non => True
  | .ok (t, m) => e = .returned (.tuple #[strV t, .int .i64 m, f0]) ∧ m ≤ s.size ∧ Gr w w'
  | .bad c p => (∃ m : Nat, e = .returned (.tuple #[.string ⟨#[]⟩, .int .i64 m, fv c p])) ∧ c ≠ 0 ∧ Gr w w'

/-- The env of the strings that are read so far. -/
def EnvStr (E : Pl.Env) : Prop := E.str = Pl.strS

theorem extract_take (s : ByteArray) (n k : Nat) : s.extract n (n + k) = ⟨(((bs s).drop n).take k).toArray⟩ := by
  apply ByteArray.ext
  apply Array.toList_inj.1
  rw [Lib.extract_data, show n + k - n = k from by omega]

set_option maxHeartbeats 2000000 in
set_option maxRecDepth 100000 in
theorem tk_word (E : Pl.Env) (hE : EnvStr E) (s : ByteArray) (i : Int) (n : Nat) (hi : i = n) (hn : n ≤ s.size) (hs : s.size ≤ 20000000) (X : Pl.Res (Pl.Bs × Nat)) (hX : Pl.word E (bs s) n = X) (hne : X ≠ .non) (w : World) :
    Calls Tryz.prog 98 #[.string s, .int .i64 i] w (WordPost s w X) := by
  subst hi
  unfold Pl.word at hX
  cases hl : Pl.longAt (bs s) n
  · rw [hl] at hX
    simp only [Bool.false_eq_true, if_false] at hX
    have HL := Lib.hid hl
    have HX := Lib.hid hX
    have hrl := Pl.takeWhile_length_le Pl.isBare ((bs s).drop n)
    rw [List.length_drop, bs_length] at hrl
    clear hl hX
    go_enter Tryz.func98, Tryz.ntmps98
    go_wp2_with (go_at_call 69; refine (tq_Long s _ n rfl hn hs _).mono ?_; rw [HL.out]; rintro e w1 ⟨rfl, rfl⟩)
    go_loopw [5] (fun v wr => ∃ k : Nat, v = .int .i64 (n + k : Nat) ∧ k ≤ Pl.bareRun ((bs s).drop n) ∧ wr = w.alloc (.cells #[.int .i64 0, .int .i64 0] 25)) (fun v _ => s.size - (intOf v).toNat)
    case atStart => exact ⟨0, rfl, by omega, rfl⟩
    case round =>
      obtain ⟨k, rfl, hk, rfl⟩ := hrel
      have hk' : k ≤ s.size - n := Nat.le_trans hk hrl
      by_cases hgo : ∃ hlt : n + k < s.size, Pl.isBare s[n + k] = true
      · obtain ⟨hlt, hb⟩ := hgo
        have hd1 : decide ((n : Int) + (k : Int) < (s.size : Int)) = true := by simp; omega
        have hk1 : (0 : Int) ≤ (n : Int) + (k : Int) := by omega
        have hk2 : (n : Int) + (k : Int) < (s.size : Int) := by omega
        have hk3 : ((n : Int) + (k : Int)).toNat = n + k := by omega
        have hmr := bareRun_more (bs s) n k (by rw [bs_length]; exact hlt) hk hb
        have HB := Lib.hid hb
        clear hb
        go_wp2_with (go_at_call 125; refine (tk_bare _ _).mono ?_; rw [HB.out]; rintro e w1 ⟨rfl, rfl⟩)
        go_roundw
        case rel => exact ⟨k + 1, by go_num, hmr, trivial⟩
        case measure => simp [intOf]; omega
      · have hst := bareRun_stop (bs s) n k hk (fun h => by
          cases hb : Pl.isBare ((bs s)[n + k]'h) with
          | false => rfl
          | true => exact absurd ⟨by rw [← bs_length]; exact h, hb⟩ hgo)
        have hstop : (¬ n + k < s.size) ∨ (∃ hlt : n + k < s.size, Pl.isBare s[n + k] = false) := by
          by_cases hlt : n + k < s.size
          · refine .inr ⟨hlt, ?_⟩
            cases hb : Pl.isBare s[n + k] with
            | false => rfl
            | true => exact absurd ⟨hlt, hb⟩ hgo
          · exact .inl hlt
        have HX2 := HX.out
        rw [hst] at HX2
        clear hgo hst hk
        by_cases hk0 : k = 0
        · subst hk0
          simp only [if_true] at HX2
          rw [hE] at HX2
          cases hstr : Pl.strS ((bs s).drop n) with
          | non => rw [hstr] at HX2; exact absurd HX2.symm hne
          | ok r =>
            obtain ⟨t, m⟩ := r
            rw [hstr] at HX2
            simp only at HX2
            have HSTR := Lib.hid hstr
            have HXX := Lib.hid HX2
            clear hstr HX2
            rcases hstop with hlt | ⟨hlt, hb⟩
            · exfalso
              have h9 := HSTR.out
              rw [List.drop_eq_nil_of_le (by rw [bs_length]; omega)] at h9
              cases h9
            all_goals first
              | (have hb' : Pl.isBare s[n] = false := hb; have hd1 : decide ((n : Int) < (s.size : Int)) = true := by { simp; omega }; have HB := Lib.hid hb'; clear hb hb'; have hk1 : (0 : Int) ≤ (n : Int) := by { omega }; have hk2 : (n : Int) < (s.size : Int) := by { omega })
              | (have hd1 : decide ((n : Int) < (s.size : Int)) = false := by { simp; omega }; skip)
            all_goals
              go_wp2_with (first | (go_at_call 125; refine (tk_bare _ _).mono ?_; rw [HB.out]; rintro e w1 ⟨rfl, rfl⟩) | (go_at_call 58; refine (tq_Read s _ n rfl hn hs _ HSTR.out (by simp) _).mono ?_; rintro e w1 ⟨rfl, hm1, hm2, g1⟩; simp only [f0]; obtain ⟨hc1, hf1, hz1⟩ := g1.use; simp only [World.size_alloc] at hz1; have p0 : w1.cell? ⟨w.heap.size, 0, none⟩ = some (.int .i64 0) := (hc1 _ _ (by simp)).trans (by simp); have p1 : w1.cell? ⟨w.heap.size, 1, none⟩ = some (.int .i64 0) := (hc1 _ _ (by simp)).trans (by simp); have p2 : w1.frozen? ⟨w.heap.size, 0, none⟩ = false := (hf1 _ _ (by simp)).trans (by simp [go_sem]); have p3 : w1.frozen? ⟨w.heap.size, 1, none⟩ = false := (hf1 _ _ (by simp)).trans (by simp [go_sem]); have hlw : w.heap.size < w1.heap.size := hz1; clear hc1 hf1))
              refine bodyPost_ret (v := .tuple #[strV t, .int .i64 (n + m : Nat), f0]) (by simp [results, Tryz.results98, go_sem, p0, p1, p2, p3, hlw]) rfl ?_
              rw [← HXX.out]
              exact ⟨rfl, hm1, by (repeat (first | exact Gr.refl _ | assumption | refine Gr.drew ?_ | refine Gr.drewN ?_ _ | refine Gr.alloc ?_ _ | (refine Gr.setCell ?_ (by first | (simp; done) | (simp; omega)) _) | refine Gr.trans ?_ (by assumption)))⟩
          | bad c p =>
            rw [hstr] at HX2
            simp only at HX2
            have HSTR := Lib.hid hstr
            have HXX := Lib.hid HX2
            clear hstr HX2
            rcases hstop with hlt | ⟨hlt, hb⟩
            all_goals first
              | (have hb' : Pl.isBare s[n] = false := hb; have hd1 : decide ((n : Int) < (s.size : Int)) = true := by { simp; omega }; have HB := Lib.hid hb'; clear hb hb'; have hk1 : (0 : Int) ≤ (n : Int) := by { omega }; have hk2 : (n : Int) < (s.size : Int) := by { omega })
              | (have hd1 : decide ((n : Int) < (s.size : Int)) = false := by { simp; omega }; skip)
            all_goals
              go_wp2_with (first | (go_at_call 125; refine (tk_bare _ _).mono ?_; rw [HB.out]; rintro e w1 ⟨rfl, rfl⟩) | (go_at_call 58; refine (tq_Read s _ n rfl hn hs _ HSTR.out (by simp) _).mono ?_; rintro e w1 ⟨rfl, hm1, g1⟩; obtain ⟨hc1, hf1, hz1⟩ := g1.use; simp only [World.size_alloc] at hz1; have p0 : w1.cell? ⟨w.heap.size, 0, none⟩ = some (.int .i64 0) := (hc1 _ _ (by simp)).trans (by simp); have p1 : w1.cell? ⟨w.heap.size, 1, none⟩ = some (.int .i64 0) := (hc1 _ _ (by simp)).trans (by simp); have p2 : w1.frozen? ⟨w.heap.size, 0, none⟩ = false := (hf1 _ _ (by simp)).trans (by simp [go_sem]); have p3 : w1.frozen? ⟨w.heap.size, 1, none⟩ = false := (hf1 _ _ (by simp)).trans (by simp [go_sem]); have hlw : w.heap.size < w1.heap.size := hz1; clear hc1 hf1))
              refine bodyPost_ret (v := .tuple #[.string ⟨#[]⟩, .int .i64 0, fv c (n + p)]) (by simp [results, Tryz.results98, go_sem, p0, p1, p2, p3, hlw]) rfl ?_
              rw [← HXX.out]
              exact ⟨⟨0, rfl⟩, hm1, by (repeat (first | exact Gr.refl _ | assumption | refine Gr.drew ?_ | refine Gr.drewN ?_ _ | refine Gr.alloc ?_ _ | (refine Gr.setCell ?_ (by first | (simp; done) | (simp; omega)) _) | refine Gr.trans ?_ (by assumption)))⟩
        · rw [if_neg hk0] at HX2
          have HXX := Lib.hid HX2
          clear HX2
          have hd4 : decide ((n : Int) < (n : Int) + (k : Int)) = true := by simp; omega
          have hk4 : (n : Int) + (k : Int) ≤ (s.size : Int) := by omega
          have hk1 : (0 : Int) ≤ (n : Int) + (k : Int) := by omega
          have hk3 : ((n : Int) + (k : Int)).toNat = n + k := by omega
          have hk5 : (n : Int) ≤ (n : Int) + (k : Int) := by omega
          have hk6 : (0 : Int) ≤ (n : Int) := by omega
          rcases hstop with hlt | ⟨hlt, hb⟩
          all_goals first
            | (have HB := Lib.hid hb; have hd1 : decide ((n : Int) + (k : Int) < (s.size : Int)) = true := by { simp; omega }; clear hb; have hk2 : (n : Int) + (k : Int) < (s.size : Int) := by { omega })
            | (have hd1 : decide ((n : Int) + (k : Int) < (s.size : Int)) = false := by { simp; omega }; skip)
          all_goals
            go_wp2_with (first | (go_at_call 125; refine (tk_bare _ _).mono ?_; rw [HB.out]; rintro e w1 ⟨rfl, rfl⟩))
            go_region
            all_goals go_wp2_with fail
            all_goals
              refine bodyPost_ret (v := .tuple #[.string (s.extract n (n + k)), .int .i64 (n + k : Nat), f0]) (by simp [results, Tryz.results98, go_sem]) rfl ?_
              rw [← HXX.out]
              refine ⟨by rw [extract_take], by omega, by (repeat (first | exact Gr.refl _ | assumption | refine Gr.drew ?_ | refine Gr.drewN ?_ _ | refine Gr.alloc ?_ _ | (refine Gr.setCell ?_ (by first | (simp; done) | (simp; omega)) _) | refine Gr.trans ?_ (by assumption)))⟩
  · rw [hl] at hX
    simp only [if_true] at hX
    subst hX
    have HL := Lib.hid hl
    have h3 : n + 2 ≤ s.size := by
      have hl' : Pl.long ((bs s).drop n) = true := hl
      rw [long_pre, Bool.or_eq_true] at hl'
      rcases hl' with h | h
      all_goals
        have := Pl.pre_length _ _ h
        rw [List.length_drop, bs_length] at this
        simp at this; omega
    clear hl
    go_enter Tryz.func98, Tryz.ntmps98
    go_wp2_with (go_at_call 69; refine (tq_Long s _ n rfl hn hs _).mono ?_; rw [HL.out]; rintro e w1 ⟨rfl, rfl⟩)
    go_region
    all_goals go_wp2_with fail
    all_goals
      refine bodyPost_ret (v := .tuple #[.string ⟨#[]⟩, .int .i64 (n + 2 : Nat), f0]) (by simp [results, Tryz.results98, go_sem]) rfl ⟨rfl, h3, by (repeat (first | exact Gr.refl _ | assumption | refine Gr.drew ?_ | refine Gr.drewN ?_ _ | refine Gr.alloc ?_ _ | (refine Gr.setCell ?_ (by first | (simp; done) | (simp; omega)) _) | refine Gr.trans ?_ (by assumption)))⟩

end Go.Proofs.YtkcnbhenhmmfgaaGreatDoor
