/-
  The plain functions of tquotes: how a string is read. No program in sight.
-/
import Derived.Test.YtkcnbhenhmmfgaaGreatDoorPl
set_option linter.all false
set_option linter.unusedVariables false
set_option linter.unusedSimpArgs false
namespace Go.Proofs.YtkcnbhenhmmfgaaGreatDoor.Pl

/-- How many of a quotation mark stand in a row; five at most are looked at. -/
def run (q : UInt8) (l : Bs) : Nat := (l.takeWhile fun c => c.toNat == q.toNat).length
def marksN (q : UInt8) (l : Bs) : Nat := min 5 (run q l)
def marks (q : UInt8) (l : Bs) : SR :=
  let n := marksN q l
  if 3 ≤ n then .go n (List.replicate (n - 3) q) true else .go n (List.replicate n q) false

theorem run_le (q : UInt8) (l : Bs) : run q l ≤ l.length := takeWhile_length_le _ _

theorem run_get (q : UInt8) (l : Bs) (k : Nat) (h : k < l.length) : (l[k]'h).toNat = q.toNat → k ≤ run q l → k + 1 ≤ run q l := by
  unfold run
  induction l generalizing k with
  | nil => simp at h
  | cons c l ih =>
    intro h1 h2
    rw [List.takeWhile_cons] at h2 ⊢
    cases k with
    | zero =>
      simp at h1
      rw [if_pos (by simpa using h1)]; simp
    | succ k =>
      split at h2
      · rename_i hc
        rw [if_pos hc]
        simp at h1 h2 ⊢
        have := ih k (by simpa using h) h1 h2
        omega
      · simp at h2
theorem run_stop (q : UInt8) (l : Bs) (k : Nat) (h : ∀ hk : k < l.length, (l[k]'hk).toNat ≠ q.toNat) : k ≤ run q l → run q l = k := by
  unfold run
  induction l generalizing k with
  | nil => intro h2; simp at h2 ⊢; omega
  | cons c l ih =>
    intro h2
    rw [List.takeWhile_cons] at h2 ⊢
    cases k with
    | zero =>
      have := h (by simp)
      rw [if_neg (by simpa using this)]; rfl
    | succ k =>
      split at h2
      · rename_i hc
        rw [if_pos hc]
        simp at h2 ⊢
        exact ih k (fun hk => by have := h (by simp; omega); rwa [List.getElem_cons_succ] at this) h2
      · simp at h2

theorem run_drop (q : UInt8) (l : Bs) (a k : Nat) (ha : a ≤ l.length) (hk : k ≤ run q (l.drop a)) :
    (∃ h : a + k < l.length, k < 5 ∧ ((l[a + k]'h).toNat == q.toNat) = true ∧ k + 1 ≤ run q (l.drop a)) ∨
    (k ≤ 5 → marksN q (l.drop a) = k ∧ (¬ a + k < l.length ∨ (a + k < l.length ∧ ¬ k < 5) ∨ (∃ h : a + k < l.length, k < 5 ∧ ((l[a + k]'h).toNat == q.toNat) = false))) := by
  have hl := run_le q (l.drop a)
  rw [List.length_drop] at hl
  by_cases h1 : a + k < l.length
  · by_cases h2 : k < 5
    · cases h3 : ((l[a + k]'h1).toNat == q.toNat)
      · refine .inr fun _ => ⟨?_, .inr (.inr ⟨h1, h2, h3⟩)⟩
        have := run_stop q (l.drop a) k (fun hk' => by simpa using h3) hk
        unfold marksN; omega
      · refine .inl ⟨h1, h2, h3, ?_⟩
        exact run_get q (l.drop a) k (by rw [List.length_drop]; omega) (by simpa using h3) hk
    · exact .inr fun _ => ⟨by unfold marksN; omega, .inr (.inl ⟨h1, h2⟩)⟩
  · exact .inr fun _ => ⟨by unfold marksN; omega, .inl h1⟩

/-- A long string's step that both kinds share; none: it took nothing. -/
def common (q : UInt8) (l : Bs) : Option SR :=
  match l with
  | [] => none
  | c :: r =>
    if c.toNat == q.toNat then some (marks q (c :: r)) else
    match feed (c :: r) with
    | .ok 0 => none
    | .ok (n + 1) => some (.go (n + 1) ((c :: r).take (n + 1)) false)
    | .bad _ p => some (.bad p)

/-- The step of a literal string, and of a long one. -/
def stepLit (q : UInt8) : Bs → SR
  | [] => .bad 0
  | c :: r => if c.toNat == q.toNat then .go 1 [] true else itself (c :: r)
def stepLongLit (q : UInt8) (l : Bs) : SR :=
  match common q l with
  | some x => x
  | none => itself l

theorem feed_bad (l : Bs) (c p : Nat) (h : feed l = .bad c p) : c = 3 ∧ p = 1 := by
  unfold feed at h
  split at h <;> simp_all
theorem feed_le (l : Bs) (n : Nat) (h : feed l = .ok n) : n ≤ l.length := by
  unfold feed at h
  split at h <;> simp_all <;> omega

/-- A fold behind its backslash: blanks, a line's end, and so on; how many bytes, or what is wrong. -/
def foldF : Nat → Bool → Bs → Out Nat
  | 0, _, _ => .ok 0
  | f + 1, first, l =>
    match l.drop (blanks l) with
    | [] => .ok (blanks l)
    | c :: r =>
      match feed (c :: r) with
      | .bad k p => .bad k (blanks l + p)
      | .ok 0 => if first then .bad 3 (blanks l) else .ok (blanks l)
      | .ok (n + 1) =>
        match foldF f false ((c :: r).drop (n + 1)) with
        | .bad k p => .bad k (blanks l + (n + 1) + p)
        | .ok m => .ok (blanks l + (n + 1) + m)
def foldAt (first : Bool) (l : Bs) (n : Nat) : Out Nat :=
  match foldF ((l.drop n).length + 1) first (l.drop n) with
  | .bad k p => .bad k (n + p)
  | .ok m => .ok (n + m)

theorem foldF_more : ∀ f g first (l : Bs), l.length < f → l.length < g → foldF f first l = foldF g first l := by
  intro f
  induction f with
  | zero => intro g first l h; omega
  | succ f ih =>
    intro g first l hf hg
    match g, hg with
    | g + 1, hg =>
      unfold foldF
      cases hd : l.drop (blanks l) with
      | nil => rfl
      | cons c r =>
        have hl : (c :: r).length ≤ l.length := by rw [← hd, List.length_drop]; omega
        simp only
        cases hs : feed (c :: r) with
        | bad k p => rfl
        | ok n =>
          cases n with
          | zero => rfl
          | succ n =>
            have := feed_le _ _ hs
            simp only
            rw [ih g false ((c :: r).drop (n + 1)) (by rw [List.length_drop]; omega) (by rw [List.length_drop]; omega)]

/-- One round: what the walk needs of it. -/
theorem foldAt_step (first : Bool) (l : Bs) (n m : Nat) (hn : n ≤ l.length) (hm : m = blanksAt l n) :
    (m = l.length → foldAt first l n = .ok m) ∧
    (m < l.length → feed (l.drop m) = .ok 0 → first = true → foldAt first l n = .bad 3 m) ∧
    (m < l.length → feed (l.drop m) = .ok 0 → first = false → foldAt first l n = .ok m) ∧
    (m < l.length → ∀ k p, feed (l.drop m) = .bad k p → foldAt first l n = .bad k (m + p)) ∧
    (m < l.length → ∀ k, feed (l.drop m) = .ok (k + 1) → foldAt first l n = foldAt false l (m + (k + 1))) := by
  have hb := blanksAt_le l n hn
  rw [← hm] at hb
  have hd : (l.drop n).drop (blanks (l.drop n)) = l.drop m := by rw [List.drop_drop, hm]; rfl
  have hmb : m = n + blanks (l.drop n) := by rw [hm]; rfl
  refine ⟨fun h => ?_, fun h h1 h2 => ?_, fun h h1 h2 => ?_, fun h k p h1 => ?_, fun h k h1 => ?_⟩
  · unfold foldAt foldF
    rw [hd, List.drop_eq_nil_of_le (by omega)]
    simp only; rw [hmb]
  all_goals
    obtain ⟨c, r, hcr⟩ : ∃ c r, l.drop m = c :: r := ⟨_, _, List.drop_eq_getElem_cons h⟩
    rw [hcr] at h1
    conv => lhs; unfold foldAt foldF
    rw [hd, hcr]
    simp only
    rw [h1]
  · simp only; rw [if_pos h2, hmb]
  · simp only; rw [if_neg (by rw [h2]; simp), hmb]
  · simp only; rw [hmb, Nat.add_assoc]
  · simp only
    have hkl := feed_le _ _ h1
    rw [← hcr, List.length_drop] at hkl
    rw [← hcr, List.drop_drop, foldF_more _ ((l.drop (m + (k + 1))).length + 1) false (l.drop (m + (k + 1))) (by rw [List.length_drop, List.length_drop]; omega) (by omega)]
    unfold foldAt
    cases foldF ((l.drop (m + (k + 1))).length + 1) false (l.drop (m + (k + 1))) with
    | bad k2 p2 => simp only; congr 1; omega
    | ok m2 => simp only; congr 1; omega

end Go.Proofs.YtkcnbhenhmmfgaaGreatDoor.Pl
