/-
  Walks: tkeys.Blanks, tvalues.Comment, tvalues.Gap.
-/
import Derived.Test.YtkcnbhenhmmfgaaGreatDoorW1
import Derived.Test.YtkcnbhenhmmfgaaGreatDoorShelf
set_option linter.all false
set_option linter.unusedVariables false
set_option linter.unusedSimpArgs false
namespace Go.Proofs.YtkcnbhenhmmfgaaGreatDoor
open Go.RowKit

theorem bool256 : (Tryz.prog.info? 95).map (fun i => (i.zero, i.size)) = some (some (.agg (Array.replicate 256 (.bool false))), 256) := by kernel_rfl

theorem trimLeft_blanks (s : ByteArray) (w : World) :
    Calls Tryz.prog 36 #[.string s, .string ⟨#[32, 9]⟩] w fun e w' => e = .returned (.string ⟨((bs s).dropWhile Pl.isBlank).toArray⟩) ∧ Gr w w' := by
  refine (Any.strings_TrimLeft_laid Tryz.lays161 bool256 s ⟨#[32, 9]⟩ w (by decide) ?_).mono ?_
  · intro j b h
    match j, h with
    | 0, h => simp at h; subst h; decide
    | 1, h => simp at h; subst h; decide
  · rintro e w' ⟨rfl, hb⟩
    refine ⟨?_, hb⟩
    have : (fun c : UInt8 => ([32, 9] : List UInt8).contains c) = Pl.isBlank := by
      funext c
      rw [Bool.eq_iff_iff]; simp [Pl.isBlank, ← UInt8.toNat_inj]
    unfold Lib.trimLeftS
    rw [show (⟨#[32, 9]⟩ : ByteArray).data.toList = [32, 9] from rfl, this]

set_option maxHeartbeats 400000 in
theorem tk_Blanks (s : ByteArray) (i : Int) (n : Nat) (hi : i = n) (hn : n ≤ s.size) (hs : s.size ≤ 2147483647) (w : World) :
    Calls Tryz.prog 18 #[.string s, .int .i64 i] w fun e w' => e = .returned (.int .i64 (Pl.blanksAt (bs s) n)) ∧ Gr w w' := by
  subst hi
  go_enter Tryz.func18, Tryz.ntmps18
  go_wp2_with (go_at_call 36; refine (trimLeft_blanks _ _).mono ?_; rintro e w' ⟨rfl, hb⟩)
  go_ret
  refine ⟨ret_int ?_, hb⟩
  have h1 := Pl.takeWhile_dropWhile Pl.isBlank ((bs s).drop n)
  have h2 := bs_length s
  rw [List.length_drop] at h1
  rw [bs_extract, IntWalk.wrap64_in _ ⟨by omega, by omega⟩]
  unfold Pl.blanksAt Pl.blanks
  omega

theorem decode_all_high (s : ByteArray) (pos : Nat) (h : pos < s.size) (ha : 128 ≤ (s[pos]'h).toNat) :
    pos + (Utf8.decode s pos).2 ≤ s.size ∧ ∀ j, j < (Utf8.decode s pos).2 → ∀ hj : pos + j < s.size, 128 ≤ (s[pos + j]'hj).toNat := by
  have hg : ∀ k (hk : pos + k < s.size), (s[pos + k]'hk).toNat = (s.get! (pos + k)).toNat := by
    intro k hk
    show _ = (s.data[pos + k]!).toNat
    rw [getElem!_pos s.data (pos + k) hk]; rfl
  have h0 : 128 ≤ (s.get! (pos + 0)).toNat := by rw [← hg 0 h]; exact ha
  have hn : ¬ (s.get! (pos + 0)).toNat < 128 := by omega
  simp only [Utf8.decode, hn, if_false]
  repeat' split
  all_goals (
    simp only [Bool.and_eq_true, decide_eq_true_eq, beq_iff_eq] at *
    refine ⟨by omega, fun j hj hjs => ?_⟩
    rw [hg j hjs])
  all_goals (
    match j, hj with
    | 0, _ => exact h0
    | 1, hj => omega
    | 2, hj => omega
    | 3, hj => omega
    | j + 4, hj => omega)

theorem tw_step (p : UInt8 → Bool) (l : List UInt8) (n : Nat) (h : n < l.length) (hp : p (l[n]'h) = true) :
    n + ((l.drop n).takeWhile p).length = n + 1 + ((l.drop (n + 1)).takeWhile p).length := by
  rw [List.drop_eq_getElem_cons h, List.takeWhile_cons, if_pos hp]; simp; omega
theorem tw_skip (p : UInt8 → Bool) (l : List UInt8) : ∀ k n, n + k ≤ l.length → (∀ j, j < k → ∀ h : n + j < l.length, p (l[n + j]'h) = true) →
    n + ((l.drop n).takeWhile p).length = n + k + ((l.drop (n + k)).takeWhile p).length := by
  intro k
  induction k with
  | zero => intro n _ _; simp
  | succ k ih =>
    intro n h1 h2
    rw [tw_step p l n (by omega) (by simpa using h2 0 (by omega) (by omega)), ih (n + 1) (by omega) (fun j hj h => by
      have := h2 (j + 1) (by omega) (by omega)
      simpa [Nat.add_assoc, Nat.add_comm 1 j] using this), show n + 1 + k = n + (k + 1) from by omega]

theorem decode_low (s : ByteArray) (pos : Nat) (h : pos < s.size) (ha : (s[pos]'h).toNat < 128) : Utf8.decode s pos = ((s[pos]'h).toNat, 1) := by
  have hg : (s.get! (pos + 0)).toNat = (s[pos]'h).toNat := by
    show (s.data[pos]!).toNat = _
    rw [getElem!_pos s.data pos h]; rfl
  unfold Utf8.decode
  simp only [hg]
  rw [if_pos ha]

/-- The first rune of which 'a byte that is not plain' holds begins at the first such byte. -/
theorem idx_ctl (s : ByteArray) : ∀ f pos, pos ≤ s.size → s.size - pos ≤ f →
    Lib.idxFuncFrom Pl.ctl true s f pos = if pos + (((bs s).drop pos).takeWhile fun c => !Pl.isCtl c).length < s.size then ((pos + (((bs s).drop pos).takeWhile fun c => !Pl.isCtl c).length : Nat) : Int) else -1 := by
  intro f
  induction f with
  | zero =>
    intro pos h1 h2
    have : ¬ pos < s.size := by omega
    rw [Lib.idxFuncFrom, if_neg (by omega)]
  | succ f ih =>
    intro pos h1 h2
    rw [Lib.idxFuncFrom]
    by_cases hp : pos < s.size
    · rw [if_pos hp]
      have hl : pos < (bs s).length := by rw [bs_length]; exact hp
      have hget : (bs s)[pos]'hl = s[pos]'hp := rfl
      by_cases hlow : (s[pos]'hp).toNat < 128
      · rw [decode_low s pos hp hlow]
        by_cases hc : Pl.ctl (s[pos]'hp).toNat = true
        · rw [if_pos hc]
          have : (((bs s).drop pos).takeWhile fun c => !Pl.isCtl c) = [] := by
            rw [List.drop_eq_getElem_cons hl, List.takeWhile_cons, if_neg]
            rw [hget]; simp [Pl.isCtl, hc]
          rw [this, if_pos (by simpa using hp)]; simp
        · rw [if_neg hc, ih (pos + 1) (by omega) (by omega), tw_step (fun c => !Pl.isCtl c) (bs s) pos hl (by rw [hget]; simp [Pl.isCtl, hc])]
      · have hd := decode_high s pos hp (by omega)
        have ha := decode_all_high s pos hp (by omega)
        rw [if_neg (by simp [Pl.ctl]; omega), ih _ ha.1 (by omega), tw_skip (fun c => !Pl.isCtl c) (bs s) _ pos (by rw [bs_length]; exact ha.1) (fun j hj h => by
          have := ha.2 j hj (by rw [← bs_length]; exact h)
          have e : (bs s)[pos + j]'h = s[pos + j]'(by rw [← bs_length]; exact h) := rfl
          rw [e]; simp [Pl.isCtl, Pl.ctl]; omega)]
    · rw [if_neg hp, if_neg (by omega)]

end Go.Proofs.YtkcnbhenhmmfgaaGreatDoor
