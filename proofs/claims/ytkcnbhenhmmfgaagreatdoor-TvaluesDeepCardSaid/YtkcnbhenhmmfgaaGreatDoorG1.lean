/-
  Walks: the document's gap: inarchref04.Plain, Feed; inarchref10.Blanks; inarchref11.Comment, Gap.
-/
import Derived.Test.YtkcnbhenhmmfgaaGreatDoorW4
set_option linter.all false
set_option linter.unusedVariables false
set_option linter.unusedSimpArgs false
namespace Go.Proofs.YtkcnbhenhmmfgaaGreatDoor
open Go.RowKit

set_option maxHeartbeats 1000000 in
theorem r4_Plain (c : UInt8) (w : World) :
    Calls Tryz.prog 23 #[.int .u8 c.toNat] w fun e w' => e = .returned (.bool (!Pl.isCtl c)) ∧ w = w' := by
  have hc := c.toNat_lt
  go_enter Tryz.func23, Tryz.ntmps23
  go_wp2
  all_goals go_ret
  all_goals (refine ⟨ret_bool ?_, rfl⟩; rw [Bool.eq_iff_iff]; simp [Pl.isCtl, Pl.ctl]; try omega)

/-- What Feed tells of the rest of a text. -/
def Pl.feedI : Pl.Bs → Int
  | 10 :: _ => 1
  | 13 :: 10 :: _ => 2
  | 13 :: _ => -1
  | _ => 0

theorem Pl.feedI_ten (c : UInt8) (l : Pl.Bs) (h : c.toNat = 10) : Pl.feedI (c :: l) = 1 := by
  obtain rfl : c = 10 := by rw [← UInt8.toNat_inj, h]; rfl
  rfl
theorem Pl.feedI_two (c d : UInt8) (l : Pl.Bs) (h : c.toNat = 13) (h2 : d.toNat = 10) : Pl.feedI (c :: d :: l) = 2 := by
  obtain rfl : c = 13 := by rw [← UInt8.toNat_inj, h]; rfl
  obtain rfl : d = 10 := by rw [← UInt8.toNat_inj, h2]; rfl
  rfl
theorem Pl.feedI_bad (c : UInt8) (l : Pl.Bs) (h : c.toNat = 13) (h2 : ∀ d r, l = d :: r → d.toNat ≠ 10) : Pl.feedI (c :: l) = -1 := by
  obtain rfl : c = 13 := by rw [← UInt8.toNat_inj, h]; rfl
  unfold Pl.feedI
  split
  · rename_i h3; cases h3
  · rename_i r h3; cases h3; exact absurd rfl (h2 10 _ rfl)
  · rfl
  · rename_i h3 h4 h5; exact absurd rfl (h5 _)
theorem Pl.feedI_no (c : UInt8) (l : Pl.Bs) (h : c.toNat ≠ 10) (h2 : c.toNat ≠ 13) : Pl.feedI (c :: l) = 0 := by
  unfold Pl.feedI
  split
  · rename_i h3; cases h3; exact absurd rfl h
  · rename_i h3; cases h3; exact absurd rfl h2
  · rename_i h3; cases h3; exact absurd rfl h2
  · rfl

theorem drop_here (s : ByteArray) (n : Nat) (h : n < s.size) : (bs s).drop n = s[n] :: (bs s).drop (n + 1) := by
  rw [List.drop_eq_getElem_cons (by rw [bs_length]; exact h)]
  rfl

set_option maxHeartbeats 1000000 in
theorem r4_Feed (s : ByteArray) (hs : s.size ≤ 2147483647) (i : Int) (n : Nat) (hi : i = n) (hn : n ≤ s.size) (w : World) :
    Calls Tryz.prog 21 #[.string s, .int .i64 i] w fun e w' => e = .returned (.int .i64 (Pl.feedI ((bs s).drop n))) ∧ w = w' := by
  subst hi
  have wn : IntKind.i64.wrap ((n : Int) + 1) = (n : Int) + 1 := IntWalk.i64_in _ ⟨by omega, by omega⟩
  by_cases h : n < s.size
  · rw [drop_here s n h]
    have h0 : decide ((n : Int) < (s.size : Int)) = true := by simp; omega
    have i1 : (0 : Int) ≤ (n : Int) := by omega
    have i2 : (n : Int) < (s.size : Int) := by omega
    by_cases h10 : (s[n]).toNat = 10
    · rw [Pl.feedI_ten _ _ h10]
      have h1 : (((s[n]).toNat : Int) == 10) = true := by simp; omega
      clear h10
      go_enter Tryz.func21, Tryz.ntmps21
      go_wp2_with fail
      go_ret
      exact ⟨rfl, rfl⟩
    · have h1 : (((s[n]).toNat : Int) == 10) = false := by simp; omega
      by_cases h13 : (s[n]).toNat = 13
      · have h2 : (((s[n]).toNat : Int) == 13) = true := by simp; omega
        by_cases hm : n + 1 < s.size
        · have h3 : decide ((n : Int) + 1 < (s.size : Int)) = true := by simp; omega
          have k1 : (0 : Int) ≤ (n : Int) + 1 := by omega
          have k2 : (n : Int) + 1 < (s.size : Int) := by omega
          have k3 : ((n : Int) + 1).toNat = n + 1 := by omega
          by_cases hd : (s[n + 1]).toNat = 10
          · rw [drop_here s (n + 1) hm, Pl.feedI_two _ _ _ h13 hd]
            have h4 : (((s[n + 1]).toNat : Int) == 10) = true := by simp; omega
            clear h10 h13 hd
            go_enter Tryz.func21, Tryz.ntmps21
            go_wp2_with fail
            go_ret
            exact ⟨rfl, rfl⟩
          · rw [Pl.feedI_bad _ _ h13 (fun d r e => by rw [drop_here s (n + 1) hm] at e; cases e; exact hd)]
            have h4 : (((s[n + 1]).toNat : Int) == 10) = false := by simp; omega
            clear h10 h13 hd
            go_enter Tryz.func21, Tryz.ntmps21
            go_wp2_with fail
            go_ret
            exact ⟨rfl, rfl⟩
        · rw [Pl.feedI_bad _ _ h13 (fun d r e => by rw [List.drop_eq_nil_of_le (by rw [bs_length]; omega)] at e; cases e)]
          have h3 : decide ((n : Int) + 1 < (s.size : Int)) = false := by simp; omega
          clear h10 h13
          go_enter Tryz.func21, Tryz.ntmps21
          go_wp2_with fail
          go_ret
          exact ⟨rfl, rfl⟩
      · have h2 : (((s[n]).toNat : Int) == 13) = false := by simp; omega
        rw [Pl.feedI_no _ _ h10 h13]
        clear h10 h13
        go_enter Tryz.func21, Tryz.ntmps21
        go_wp2_with fail
        go_ret
        exact ⟨rfl, rfl⟩
  · have h0 : decide ((n : Int) < (s.size : Int)) = false := by simp; omega
    rw [List.drop_eq_nil_of_le (by rw [bs_length]; omega)]
    go_enter Tryz.func21, Tryz.ntmps21
    go_wp2_with fail
    go_ret
    exact ⟨rfl, rfl⟩

theorem blanksAt_on (l : Pl.Bs) (n : Nat) (h : n < l.length) (hb : Pl.isBlank (l[n]'h) = true) : Pl.blanksAt l n = Pl.blanksAt l (n + 1) := by
  unfold Pl.blanksAt Pl.blanks
  rw [List.drop_eq_getElem_cons h, List.takeWhile_cons, if_pos hb, List.length_cons]; omega
theorem blanksAt_end (l : Pl.Bs) (n : Nat) (hb : ∀ h : n < l.length, Pl.isBlank (l[n]'h) = false) : Pl.blanksAt l n = n := by
  unfold Pl.blanksAt Pl.blanks
  by_cases h : n < l.length
  · rw [List.drop_eq_getElem_cons h, List.takeWhile_cons, if_neg (by rw [hb h]; simp)]; rfl
  · rw [List.drop_eq_nil_of_le (by omega)]; rfl

set_option maxHeartbeats 1000000 in
theorem r10_Blanks (s : ByteArray) (hs : s.size ≤ 2147483647) (i : Int) (n0 : Nat) (hi : i = n0) (hn : n0 ≤ s.size) (w : World) :
    Calls Tryz.prog 22 #[.string s, .int .i64 i] w fun e w' => e = .returned (.int .i64 (Pl.blanksAt (bs s) n0)) ∧ Gr w w' := by
  subst hi
  obtain ⟨Z, hZ⟩ : ∃ Z, Pl.blanksAt (bs s) n0 = Z := ⟨_, rfl⟩
  rw [hZ]
  go_enter Tryz.func22, Tryz.ntmps22
  go_wp2_with fail
  go_loopw [1] (fun a wr => ∃ n : Nat, a = .int .i64 n ∧ n ≤ s.size ∧ Pl.blanksAt (bs s) n = Z ∧ Gr w wr) (fun a _ => s.size - (intOf a).toNat)
  case atStart => exact ⟨n0, rfl, hn, hZ, Gr.refl _⟩
  case round =>
    obtain ⟨n, rfl, hn2, hz, g⟩ := hrel
    have HZ := Lib.hid hz
    clear hz
    have b0 : decide ((0 : Int) ≤ (n : Int)) = true := by simp
    have wn : IntKind.i64.wrap ((n : Int) + 1) = (n : Int) + 1 := IntWalk.i64_in _ ⟨by omega, by omega⟩
    by_cases h : n < s.size
    · have h0 : decide ((n : Int) < (s.size : Int)) = true := by simp; omega
      have i1 : (0 : Int) ≤ (n : Int) := by omega
      have i2 : (n : Int) < (s.size : Int) := by omega
      by_cases h9 : (s[n]).toNat = 9
      · have h1 : (((s[n]).toNat : Int) == 9) = true := by simp; omega
        have he := blanksAt_on (bs s) n (by rw [bs_length]; exact h) (show Pl.isBlank s[n] = true by simp [Pl.isBlank, h9])
        have HE := Lib.hid he
        clear he h9
        go_wp2_with fail
        go_roundw
        case rel => exact ⟨n + 1, by go_num, by omega, by rw [← HE.out]; exact HZ.out, g⟩
        case measure => simp [intOf]; omega
      · have h1 : (((s[n]).toNat : Int) == 9) = false := by simp; omega
        by_cases h32 : (s[n]).toNat = 32
        · have h2 : (((s[n]).toNat : Int) == 32) = true := by simp; omega
          have he := blanksAt_on (bs s) n (by rw [bs_length]; exact h) (show Pl.isBlank s[n] = true by simp [Pl.isBlank, h32])
          have HE := Lib.hid he
          clear he h9 h32
          go_wp2_with fail
          go_roundw
          case rel => exact ⟨n + 1, by go_num, by omega, by rw [← HE.out]; exact HZ.out, g⟩
          case measure => simp [intOf]; omega
        · have h2 : (((s[n]).toNat : Int) == 32) = false := by simp; omega
          have he := blanksAt_end (bs s) n (fun _ => show Pl.isBlank s[n] = false by simp [Pl.isBlank, h32, h9])
          have HE := Lib.hid he
          clear he h9 h32
          go_wp2_with fail
          exact bodyPost_ret (v := .int .i64 n) (by simp [results, Tryz.results22, go_sem]) rfl ⟨by rw [← HZ.out, HE.out], g⟩
    · have h0 : decide ((n : Int) < (s.size : Int)) = false := by simp; omega
      have he := blanksAt_end (bs s) n (fun h2 => absurd (by rw [← bs_length]; exact h2) h)
      have HE := Lib.hid he
      clear he
      go_wp2_with fail
      exact bodyPost_ret (v := .int .i64 n) (by simp [results, Tryz.results22, go_sem]) rfl ⟨by rw [← HZ.out, HE.out], g⟩

theorem ctlRun_on (l : Pl.Bs) (n : Nat) (h : n < l.length) (hb : Pl.isCtl (l[n]'h) = false) : n + ((l.drop n).takeWhile fun c => !Pl.isCtl c).length = n + 1 + ((l.drop (n + 1)).takeWhile fun c => !Pl.isCtl c).length :=
  tw_step _ l n h (by simp [hb])
theorem ctlRun_end (l : Pl.Bs) (n : Nat) (hb : ∀ h : n < l.length, Pl.isCtl (l[n]'h) = true) : n + ((l.drop n).takeWhile fun c => !Pl.isCtl c).length = n := by
  by_cases h : n < l.length
  · rw [List.drop_eq_getElem_cons h, List.takeWhile_cons, if_neg (by simp [hb h])]; rfl
  · rw [List.drop_eq_nil_of_le (by omega)]; rfl

set_option maxHeartbeats 1000000 in
theorem r11_Comment_end (s : ByteArray) (i : Int) (hi : i < 0 ∨ (s.size : Int) ≤ i) (w : World) :
    Calls Tryz.prog 9 #[.string s, .int .i64 i] w fun e w' => e = .returned (.int .i64 i) ∧ w = w' := by
  rcases hi with hi | hi
  · have h0 : decide (i < 0) = true := by simp; omega
    go_enter Tryz.func9, Tryz.ntmps9
    go_wp2_with fail
    go_ret
    exact ⟨rfl, rfl⟩
  · by_cases h1 : i < 0
    · have h0 : decide (i < 0) = true := by simp; omega
      go_enter Tryz.func9, Tryz.ntmps9
      go_wp2_with fail
      go_ret
      exact ⟨rfl, rfl⟩
    · have h0 : decide (i < 0) = false := by simp; omega
      have h2 : decide (i ≥ (s.size : Int)) = true := by simp; omega
      have h3 : decide ((s.size : Int) ≤ i) = true := by simp; omega
      go_enter Tryz.func9, Tryz.ntmps9
      go_wp2_with fail
      go_ret
      exact ⟨rfl, rfl⟩

set_option maxHeartbeats 1000000 in
theorem r11_Comment (s : ByteArray) (hs : s.size ≤ 2147483647) (i : Int) (n0 : Nat) (hi : i = n0) (hn : n0 ≤ s.size) (w : World) :
    Calls Tryz.prog 9 #[.string s, .int .i64 i] w fun e w' => e = .returned (.int .i64 (Pl.commentAt (bs s) n0)) ∧ Gr w w' := by
  subst hi
  by_cases hlt : n0 < s.size
  · have h0 : decide ((n0 : Int) < 0) = false := by simp
    have h1 : decide ((s.size : Int) ≤ (n0 : Int)) = false := by simp; omega
    have h1' : decide ((n0 : Int) ≥ (s.size : Int)) = false := by simp; omega
    have h1n : decide (s.size ≤ n0) = false := by simp; omega
    have i1 : (0 : Int) ≤ (n0 : Int) := by omega
    have i2 : (n0 : Int) < (s.size : Int) := by omega
    by_cases h35 : (s[n0]).toNat = 35
    · have hcm := comment_yes (bs s) n0 (by rw [bs_length]; exact hlt) h35
      obtain ⟨Z, hZ⟩ : ∃ Z, Pl.commentAt (bs s) n0 = Z := ⟨_, rfl⟩
      rw [hZ] at hcm ⊢
      have h2 : (((s[n0]).toNat : Int) != 35) = false := by simp; omega
      have HC := Lib.hid hcm.symm
      clear h35 hcm hZ
      go_enter Tryz.func9, Tryz.ntmps9
      go_wp2_with fail
      go_loopw [1] (fun a wr => ∃ n : Nat, a = .int .i64 n ∧ n ≤ s.size ∧ n + (((bs s).drop n).takeWhile fun c => !Pl.isCtl c).length = Z ∧ Gr w wr) (fun a _ => s.size - (intOf a).toNat)
      case atStart => exact ⟨n0, rfl, hn, HC.out, Gr.refl _⟩
      case round =>
        obtain ⟨n, rfl, hn2, hz, g⟩ := hrel
        have HZ := Lib.hid hz
        clear hz
        have wn : IntKind.i64.wrap ((n : Int) + 1) = (n : Int) + 1 := IntWalk.i64_in _ ⟨by omega, by omega⟩
        by_cases h : n < s.size
        · have k0 : decide ((n : Int) < (s.size : Int)) = true := by simp; omega
          have k1 : (0 : Int) ≤ (n : Int) := by omega
          have k2 : (n : Int) < (s.size : Int) := by omega
          cases hc : Pl.isCtl s[n] with
          | false =>
            have HE := Lib.hid (ctlRun_on (bs s) n (by rw [bs_length]; exact h) hc)
            have HP := Lib.hid hc
            clear hc
            go_wp2_with (go_at_call 23; refine (r4_Plain _ _).mono ?_; rw [HP.out]; rintro e w1 ⟨rfl, rfl⟩)
            go_roundw
            case rel => exact ⟨n + 1, by go_num, by omega, by rw [← HE.out]; exact HZ.out, g⟩
            case measure => simp [intOf]; omega
          | true =>
            have HE := Lib.hid (ctlRun_end (bs s) n (fun _ => hc))
            have HP := Lib.hid hc
            clear hc
            go_wp2_with (go_at_call 23; refine (r4_Plain _ _).mono ?_; rw [HP.out]; rintro e w1 ⟨rfl, rfl⟩)
            exact bodyPost_ret (v := .int .i64 n) (by simp [results, Tryz.results9, go_sem]) rfl ⟨by rw [← HZ.out, HE.out], g⟩
        · have k0 : decide ((n : Int) < (s.size : Int)) = false := by simp; omega
          have HE := Lib.hid (ctlRun_end (bs s) n (fun h2 => absurd (by rw [← bs_length]; exact h2) h))
          go_wp2_with fail
          exact bodyPost_ret (v := .int .i64 n) (by simp [results, Tryz.results9, go_sem]) rfl ⟨by rw [← HZ.out, HE.out], g⟩
    · have hcm : Pl.commentAt (bs s) n0 = n0 := comment_not (bs s) n0 (fun _ => h35)
      have h2 : (((s[n0]).toNat : Int) != 35) = true := by simp; omega
      rw [hcm]
      clear h35 hcm
      go_enter Tryz.func9, Tryz.ntmps9
      go_wp2_with fail
      go_ret
      exact ⟨rfl, Gr.refl _⟩
  · have e : Pl.commentAt (bs s) n0 = n0 := comment_not _ _ (fun h => absurd h (by rw [bs_length]; exact hlt))
    rw [e]
    exact (r11_Comment_end s n0 (.inr (by omega)) w).mono (fun _ _ ⟨h1, h2⟩ => ⟨h1, h2 ▸ Gr.refl _⟩)

/-- A gap goes on behind blanks and a comment. -/
theorem Pl.gapAt_comment (l : Pl.Bs) (n : Nat) (h : n ≤ l.length) (hm : Pl.commentAt l (Pl.blanksAt l n) ≠ n) : Pl.gapAt l n = Pl.gapAt l (Pl.commentAt l (Pl.blanksAt l n)) := by
  obtain ⟨G1, G2, G3, G4, G5⟩ := Pl.gapAt_gap l n h
  have hb := Pl.blanksAt_le l n h
  have hc := Pl.commentAt_le l (Pl.blanksAt l n) hb.2
  obtain ⟨m, e⟩ : ∃ m, Pl.commentAt l (Pl.blanksAt l n) = m := ⟨_, rfl⟩
  rw [e] at hm hc G1 G2 G3 G4 G5 ⊢
  have hself : ∀ p, Pl.pre (l.drop m) (p :: []) = true → Pl.isBlank p = false → p ≠ 35 → Pl.commentAt l (Pl.blanksAt l m) = m := by
    intro p hp hb hp35
    cases hd : l.drop m with
    | nil => rw [hd] at hp; simp [Pl.pre] at hp
    | cons c r =>
      rw [hd] at hp
      simp [Pl.pre] at hp
      subst hp
      have h1 : Pl.blanksAt l m = m := by
        unfold Pl.blanksAt Pl.blanks
        rw [hd, List.takeWhile_cons, if_neg (by rw [hb]; simp)]; rfl
      rw [h1]
      unfold Pl.commentAt Pl.comment
      rw [hd]
      split
      · rename_i h3; cases h3; exact absurd rfl hp35
      · rfl
  obtain ⟨K1, K2, K3, _, _⟩ := Pl.gapAt_gap l m hc.2
  cases h1 : Pl.pre (l.drop m) [13, 10] with
  | true =>
    have : Pl.pre (l.drop m) [13] = true := by
      cases hd : l.drop m with
      | nil => rw [hd] at h1; simp [Pl.pre] at h1
      | cons c r => rw [hd] at h1; simp [Pl.pre] at h1; simp [Pl.pre, h1.1]
    have hs := hself 13 this (by decide) (by decide)
    rw [hs] at K1
    rw [G1 h1, K1 h1]
  | false =>
    cases h2 : Pl.pre (l.drop m) [10] with
    | true =>
      have hs := hself 10 h2 (by decide) (by decide)
      rw [hs] at K2
      rw [G2 h1 h2, K2 h1 h2]
    | false =>
      cases h3 : Pl.pre (l.drop m) [13] with
      | true =>
        have hs := hself 13 h3 (by decide) (by decide)
        rw [hs] at K3
        rw [G3 h1 h2 h3, K3 h1 h2 h3]
      | false => exact G5 h1 h2 h3 hm

theorem Pl.gapAt_feed (l : Pl.Bs) (n : Nat) (h : n ≤ l.length) : (Pl.feedI (l.drop n) = 1 → n + 1 ≤ l.length ∧ Pl.gapAt l n = Pl.gapAt l (n + 1)) ∧ (Pl.feedI (l.drop n) = 2 → n + 2 ≤ l.length ∧ Pl.gapAt l n = Pl.gapAt l (n + 2)) ∧
    (Pl.feedI (l.drop n) = -1 → Pl.gapAt l n = .bad 3 (n + 1)) ∧ (Pl.feedI (l.drop n) = 0 → Pl.commentAt l (Pl.blanksAt l n) = n → Pl.gapAt l n = .ok n) ∧ (Pl.feedI (l.drop n) = 1 ∨ Pl.feedI (l.drop n) = 2 ∨ Pl.feedI (l.drop n) = -1 ∨ Pl.feedI (l.drop n) = 0) := by
  obtain ⟨G1, G2, G3, G4, G5⟩ := Pl.gapAt_gap l n h
  have hlen : (l.drop n).length = l.length - n := List.length_drop
  have hself : ∀ c r, l.drop n = c :: r → Pl.isBlank c = false → c ≠ 35 → Pl.commentAt l (Pl.blanksAt l n) = n := by
    intro c r hd hb hp35
    have h1 : Pl.blanksAt l n = n := by
      unfold Pl.blanksAt Pl.blanks
      rw [hd, List.takeWhile_cons, if_neg (by rw [hb]; simp)]; rfl
    rw [h1]
    unfold Pl.commentAt Pl.comment
    rw [hd]
    split
    · rename_i h3; cases h3; exact absurd rfl hp35
    · rfl
  match hd : l.drop n, hlen with
  | [], _ =>
    refine ⟨fun h => by simp [Pl.feedI] at h, fun h => by simp [Pl.feedI] at h, fun h => by simp [Pl.feedI] at h, fun _ hc => ?_, by simp [Pl.feedI]⟩
    rw [hc, hd] at G4
    exact G4 rfl rfl rfl rfl
  | c :: r, hlen =>
    simp only [List.length_cons] at hlen
    by_cases h10 : c = 10
    · subst h10
      have hs := hself 10 r hd (by decide) (by decide)
      rw [hs, hd] at G2
      refine ⟨fun _ => ⟨by omega, G2 (by simp [Pl.pre]) (by simp [Pl.pre])⟩, fun h => by simp [Pl.feedI] at h, fun h => by simp [Pl.feedI] at h, fun h => by simp [Pl.feedI] at h, by simp [Pl.feedI]⟩
    · by_cases h13 : c = 13
      · subst h13
        have hs := hself 13 r hd (by decide) (by decide)
        rw [hs, hd] at G1 G3
        cases r with
        | nil =>
          have hf : Pl.feedI [13] = -1 := rfl
          rw [hf]
          refine ⟨fun h => by simp at h, fun h => by simp at h, fun _ => G3 (by simp [Pl.pre]) (by simp [Pl.pre]) (by simp [Pl.pre]), fun h => by simp at h, by simp⟩
        | cons d r =>
          simp only [List.length_cons] at hlen
          by_cases hd10 : d = 10
          · subst hd10
            have hf : Pl.feedI (13 :: 10 :: r) = 2 := rfl
            rw [hf]
            refine ⟨fun h => by simp at h, fun _ => ⟨by omega, G1 (by simp [Pl.pre])⟩, fun h => by simp at h, fun h => by simp at h, by simp⟩
          · have hf : Pl.feedI (13 :: d :: r) = -1 := Pl.feedI_bad _ _ rfl (fun x y e => by cases e; intro h; exact hd10 (by rw [← UInt8.toNat_inj, h]; rfl))
            rw [hf]
            refine ⟨fun h => by simp at h, fun h => by simp at h, fun _ => G3 (by simp [Pl.pre, hd10]) (by simp [Pl.pre]) (by simp [Pl.pre]), fun h => by simp at h, by simp⟩
      · have hf : Pl.feedI (c :: r) = 0 := Pl.feedI_no _ _ (fun h => h10 (by rw [← UInt8.toNat_inj, h]; rfl)) (fun h => h13 (by rw [← UInt8.toNat_inj, h]; rfl))
        rw [hf]
        refine ⟨fun h => by simp at h, fun h => by simp at h, fun h => by simp at h, fun _ hc => ?_, by simp⟩
        rw [hc, hd] at G4
        exact G4 (by simp [Pl.pre, h13]) (by simp [Pl.pre, h10]) (by simp [Pl.pre, h13]) rfl

theorem Pl.gapAt_end (l : Pl.Bs) (n : Nat) (h : n ≤ l.length) (h2 : l.length ≤ n) : Pl.gapAt l n = .ok n := by
  obtain ⟨_, _, _, G, _⟩ := Pl.gapAt_feed l n h
  have h1 : Pl.blanksAt l n = n := blanksAt_end l n (fun h3 => absurd h3 (by omega))
  refine G ?_ ?_
  · rw [List.drop_eq_nil_of_le h2]; rfl
  · rw [h1]; exact comment_not l n (fun h3 => absurd h3 (by omega))

/-- What a gap's reader answers. -/
def gapE (Z : Pl.Out Nat) : Ending := match Z with
  | .ok m => .returned (.tuple #[.int .i64 m, f0])
  | .bad c p => .returned (.tuple #[.int .i64 0, fv c p])

set_option maxHeartbeats 2000000 in
theorem r11_Gap (s : ByteArray) (hs : s.size ≤ 20000000) (i : Int) (n0 : Nat) (hi : i = n0) (hn : n0 ≤ s.size) (w : World) :
    Calls Tryz.prog 8 #[.string s, .int .i64 i] w fun e w' => e = gapE (Pl.gapAt (bs s) n0) ∧ Gr w w' := by
  subst hi
  obtain ⟨Z, hZ⟩ : ∃ Z, Pl.gapAt (bs s) n0 = Z := ⟨_, rfl⟩
  rw [hZ]
  have HZ0 := Lib.hid hZ
  clear hZ
  go_enter Tryz.func8, Tryz.ntmps8
  go_wp2_with fail
  go_loopw [1, 6, 7] (fun a _ _ wr => ∃ n : Nat, a = .int .i64 n ∧ n ≤ s.size ∧ Pl.gapAt (bs s) n = Z ∧ Gr (w.alloc (.cells #[.int .i64 0, .int .i64 0] 25)) wr) (fun a _ _ _ => s.size - (intOf a).toNat)
  case atStart => exact ⟨n0, rfl, hn, HZ0.out, Gr.refl _⟩
  case round =>
    obtain ⟨n, rfl, hn2, hz, g⟩ := hrel
    obtain ⟨hc, hf0, hz9⟩ := g.use
    simp only [World.size_alloc] at hz9
    have q0 : wr.cell? ⟨w.heap.size, 0, none⟩ = some (.int .i64 0) := by rw [hc _ _ (by simp)]; simp
    have q1 : wr.cell? ⟨w.heap.size, 1, none⟩ = some (.int .i64 0) := by rw [hc _ _ (by simp)]; simp
    have qf : ∀ o, wr.frozen? ⟨w.heap.size, o, none⟩ = false := fun o => by rw [hf0 _ _ (by simp)]; simp [go_sem]
    have HZ := Lib.hid hz
    clear hz
    have b0 : decide ((0 : Int) ≤ (n : Int)) = true := by simp
    have wn : IntKind.i64.wrap ((n : Int) + 1) = (n : Int) + 1 := IntWalk.i64_in _ ⟨by omega, by omega⟩
    have wn2 : IntKind.i64.wrap ((n : Int) + 2) = (n : Int) + 2 := IntWalk.i64_in _ ⟨by omega, by omega⟩
    have wn0 : IntKind.i64.wrap ((n : Int)) = (n : Int) := IntWalk.i64_in _ ⟨by omega, by omega⟩
    by_cases h : n < s.size
    · have h0 : decide ((n : Int) < (s.size : Int)) = true := by simp; omega
      obtain ⟨K1, K2, K3, K4, K5⟩ := Pl.gapAt_feed (bs s) n (by rw [bs_length]; exact hn2)
      rcases K5 with hf | hf | hf | hf
      · have HF := Lib.hid hf
        have HK := Lib.hid (K1 hf)
        have b1 : ((n : Int) + 1 == (n : Int)) = false := by simp; omega
        clear K1 K2 K3 K4 hf
        go_wp2_with (go_at_call 21; refine (r4_Feed s (by omega) _ n rfl hn2 _).mono ?_; rw [HF.out]; rintro e w1 ⟨rfl, rfl⟩)
        go_roundw
        case rel => exact ⟨n + 1, by go_num, by omega, by rw [← HK.out.2]; exact HZ.out, by (repeat (first | exact Gr.refl _ | assumption | refine Gr.drew ?_ | refine Gr.drewN ?_ _ | refine Gr.alloc ?_ _ | (refine Gr.setCell ?_ (by first | (simp; done) | (simp; omega)) _) | refine Gr.trans ?_ (by assumption)))⟩
        case measure => simp [intOf]; omega
      · have HF := Lib.hid hf
        have HK := Lib.hid (K2 hf)
        have b1 : ((n : Int) + 2 == (n : Int)) = false := by simp; omega
        clear K1 K2 K3 K4 hf
        go_wp2_with (go_at_call 21; refine (r4_Feed s (by omega) _ n rfl hn2 _).mono ?_; rw [HF.out]; rintro e w1 ⟨rfl, rfl⟩)
        go_roundw
        case rel => exact ⟨n + 2, by go_num, by have := HK.out.1; rw [bs_length] at this; omega, by rw [← HK.out.2]; exact HZ.out, by (repeat (first | exact Gr.refl _ | assumption | refine Gr.drew ?_ | refine Gr.drewN ?_ _ | refine Gr.alloc ?_ _ | (refine Gr.setCell ?_ (by first | (simp; done) | (simp; omega)) _) | refine Gr.trans ?_ (by assumption)))⟩
        case measure => simp [intOf]; omega
      · have HF := Lib.hid hf
        have HK := Lib.hid (K3 hf)
        clear K1 K2 K3 K4 hf
        go_wp2_with (go_at_call 21; refine (r4_Feed s (by omega) _ n rfl hn2 _).mono ?_; rw [HF.out]; rintro e w1 ⟨rfl, rfl⟩)
        exact bodyPost_ret (v := .tuple #[.int .i64 0, fv 3 (n + 1)]) (by simp [results, Tryz.results8, go_sem, q0, q1]) rfl ⟨by rw [← HZ.out, HK.out]; rfl, by (repeat (first | exact Gr.refl _ | assumption | refine Gr.drew ?_ | refine Gr.drewN ?_ _ | refine Gr.alloc ?_ _ | (refine Gr.setCell ?_ (by first | (simp; done) | (simp; omega)) _) | refine Gr.trans ?_ (by assumption)))⟩
      · have HF := Lib.hid hf
        have hbl := Pl.blanksAt_le (bs s) n (by rw [bs_length]; exact hn2)
        have hcl := Pl.commentAt_le (bs s) (Pl.blanksAt (bs s) n) hbl.2
        rw [bs_length] at hbl hcl
        obtain ⟨m, hm⟩ : ∃ m, Pl.commentAt (bs s) (Pl.blanksAt (bs s) n) = m := ⟨_, rfl⟩
        rw [hm] at hcl
        by_cases hmn : m = n
        · have HK := Lib.hid (K4 hf (hm.trans hmn))
          have b1 : ((m : Int) == (n : Int)) = true := by simp; omega
          have HM := Lib.hid hm
          clear K1 K2 K3 K4 hf hm
          go_wp2_with (first | (go_at_call 21; refine (r4_Feed s (by omega) _ n rfl hn2 _).mono ?_; rw [HF.out]; rintro e w1 ⟨rfl, rfl⟩) | (go_at_call 22; refine (r10_Blanks s (by omega) _ n rfl hn2 _).mono ?_; rintro e w2 ⟨rfl, g2⟩; have g2' := g.trans g2; obtain ⟨hc2, hf2, hz2⟩ := g2'.use; simp only [World.size_alloc] at hz2))
          refine (r11_Comment s (by omega) _ _ rfl hbl.2 _).mono ?_
          rw [HM.out]
          rintro e w3 ⟨rfl, g3⟩
          have g3' := g2'.trans g3
          obtain ⟨hc3, hf3, hz3⟩ := g3'.use
          simp only [World.size_alloc] at hz3
          have q30 : w3.cell? ⟨w.heap.size, 0, none⟩ = some (.int .i64 0) := by (rw [hc3 _ _ (by simp)]; simp)
          have q31 : w3.cell? ⟨w.heap.size, 1, none⟩ = some (.int .i64 0) := by (rw [hc3 _ _ (by simp)]; simp)
          have qf3 : ∀ o, w3.frozen? ⟨w.heap.size, o, none⟩ = false := fun o => by (rw [hf3 _ _ (by simp)]; simp [go_sem])
          go_wp2_with fail
          exact bodyPost_ret (v := .tuple #[.int .i64 n, f0]) (by simp [results, Tryz.results8, go_sem, q30, q31]) rfl ⟨by rw [← HZ.out, HK.out]; rfl, by (repeat (first | exact Gr.refl _ | assumption | refine Gr.drew ?_ | refine Gr.drewN ?_ _ | refine Gr.alloc ?_ _ | (refine Gr.setCell ?_ (by first | (simp; done) | (simp; omega)) _) | refine Gr.trans ?_ (by assumption)))⟩
        · have hne : Pl.commentAt (bs s) (Pl.blanksAt (bs s) n) ≠ n := by rw [hm]; exact hmn
          have HK := Lib.hid (Pl.gapAt_comment (bs s) n (by rw [bs_length]; exact hn2) hne)
          have b1 : ((m : Int) == (n : Int)) = false := by simp; omega
          have HM := Lib.hid hm
          have hmn2 : n < m := by omega
          clear K1 K2 K3 K4 hf hm hne
          go_wp2_with (first | (go_at_call 21; refine (r4_Feed s (by omega) _ n rfl hn2 _).mono ?_; rw [HF.out]; rintro e w1 ⟨rfl, rfl⟩) | (go_at_call 22; refine (r10_Blanks s (by omega) _ n rfl hn2 _).mono ?_; rintro e w2 ⟨rfl, g2⟩; have g2' := g.trans g2; obtain ⟨hc2, hf2, hz2⟩ := g2'.use; simp only [World.size_alloc] at hz2))
          refine (r11_Comment s (by omega) _ _ rfl hbl.2 _).mono ?_
          rw [HM.out]
          rintro e w3 ⟨rfl, g3⟩
          have g3' := g2'.trans g3
          obtain ⟨hc3, hf3, hz3⟩ := g3'.use
          simp only [World.size_alloc] at hz3
          have q30 : w3.cell? ⟨w.heap.size, 0, none⟩ = some (.int .i64 0) := by (rw [hc3 _ _ (by simp)]; simp)
          have q31 : w3.cell? ⟨w.heap.size, 1, none⟩ = some (.int .i64 0) := by (rw [hc3 _ _ (by simp)]; simp)
          have qf3 : ∀ o, w3.frozen? ⟨w.heap.size, o, none⟩ = false := fun o => by (rw [hf3 _ _ (by simp)]; simp [go_sem])
          go_wp2_with fail
          go_roundw
          case rel => exact ⟨m, rfl, by omega, by rw [← HM.out, ← HK.out]; exact HZ.out, by (repeat (first | exact Gr.refl _ | assumption | refine Gr.drew ?_ | refine Gr.drewN ?_ _ | refine Gr.alloc ?_ _ | (refine Gr.setCell ?_ (by first | (simp; done) | (simp; omega)) _) | refine Gr.trans ?_ (by assumption)))⟩
          case measure => simp [intOf]; omega
    · have h0 : decide ((n : Int) < (s.size : Int)) = false := by simp; omega
      have HK := Lib.hid (Pl.gapAt_end (bs s) n (by rw [bs_length]; exact hn2) (by rw [bs_length]; omega))
      go_wp2_with fail
      exact bodyPost_ret (v := .tuple #[.int .i64 n, f0]) (by simp [results, Tryz.results8, go_sem, q0, q1]) rfl ⟨by rw [← HZ.out, HK.out]; rfl, by (repeat (first | exact Gr.refl _ | assumption | refine Gr.drew ?_ | refine Gr.drewN ?_ _ | refine Gr.alloc ?_ _ | (refine Gr.setCell ?_ (by first | (simp; done) | (simp; omega)) _) | refine Gr.trans ?_ (by assumption)))⟩

set_option maxHeartbeats 1000000 in
theorem r11_Gap_end (s : ByteArray) (i : Int) (hi : i < 0 ∨ (s.size : Int) < i) (w : World) :
    Calls Tryz.prog 8 #[.string s, .int .i64 i] w fun e w' => e = .returned (.tuple #[.int .i64 i, f0]) ∧ Gr w w' := by
  by_cases h : i < 0
  · have h0 : decide ((0 : Int) ≤ i) = false := by simp; omega
    have h0' : decide (i ≥ (0 : Int)) = false := by simp; omega
    go_enter Tryz.func8, Tryz.ntmps8
    go_wp2_with fail
    go_loopw [1, 6, 7] (fun a _ _ wr => a = .int .i64 i ∧ Gr (w.alloc (.cells #[.int .i64 0, .int .i64 0] 25)) wr) (fun _ _ _ _ => 0)
    case atStart => exact ⟨rfl, Gr.refl _⟩
    case round =>
      obtain ⟨rfl, g⟩ := hrel
      obtain ⟨hc, hf0, hz9⟩ := g.use
      simp only [World.size_alloc] at hz9
      have q0 : wr.cell? ⟨w.heap.size, 0, none⟩ = some (.int .i64 0) := by rw [hc _ _ (by simp)]; simp
      have q1 : wr.cell? ⟨w.heap.size, 1, none⟩ = some (.int .i64 0) := by rw [hc _ _ (by simp)]; simp
      have qf : ∀ o, wr.frozen? ⟨w.heap.size, o, none⟩ = false := fun o => by rw [hf0 _ _ (by simp)]; simp [go_sem]
      go_wp2_with fail
      exact bodyPost_ret (v := .tuple #[.int .i64 i, f0]) (by simp [results, Tryz.results8, go_sem, q0, q1]) rfl ⟨rfl, by (repeat (first | exact Gr.refl _ | assumption | refine Gr.drew ?_ | refine Gr.drewN ?_ _ | refine Gr.alloc ?_ _ | (refine Gr.setCell ?_ (by first | (simp; done) | (simp; omega)) _) | refine Gr.trans ?_ (by assumption)))⟩
  · have h0 : decide ((0 : Int) ≤ i) = true := by simp; omega
    have h0' : decide (i ≥ (0 : Int)) = true := by simp; omega
    have h1 : decide (i < (s.size : Int)) = false := by simp; omega
    go_enter Tryz.func8, Tryz.ntmps8
    go_wp2_with fail
    go_loopw [1, 6, 7] (fun a _ _ wr => a = .int .i64 i ∧ Gr (w.alloc (.cells #[.int .i64 0, .int .i64 0] 25)) wr) (fun _ _ _ _ => 0)
    case atStart => exact ⟨rfl, Gr.refl _⟩
    case round =>
      obtain ⟨rfl, g⟩ := hrel
      obtain ⟨hc, hf0, hz9⟩ := g.use
      simp only [World.size_alloc] at hz9
      have q0 : wr.cell? ⟨w.heap.size, 0, none⟩ = some (.int .i64 0) := by rw [hc _ _ (by simp)]; simp
      have q1 : wr.cell? ⟨w.heap.size, 1, none⟩ = some (.int .i64 0) := by rw [hc _ _ (by simp)]; simp
      have qf : ∀ o, wr.frozen? ⟨w.heap.size, o, none⟩ = false := fun o => by rw [hf0 _ _ (by simp)]; simp [go_sem]
      go_wp2_with fail
      exact bodyPost_ret (v := .tuple #[.int .i64 i, f0]) (by simp [results, Tryz.results8, go_sem, q0, q1]) rfl ⟨rfl, by (repeat (first | exact Gr.refl _ | assumption | refine Gr.drew ?_ | refine Gr.drewN ?_ _ | refine Gr.alloc ?_ _ | (refine Gr.setCell ?_ (by first | (simp; done) | (simp; omega)) _) | refine Gr.trans ?_ (by assumption)))⟩

set_option maxHeartbeats 1000000 in
theorem tv_Gap_end (s : ByteArray) (i : Int) (hi : i < 0 ∨ (s.size : Int) < i) (w : World) :
    Calls Tryz.prog 7 #[.string s, .int .i64 i] w fun e w' => e = .returned (.tuple #[.int .i64 i, f0]) ∧ Gr w w' := by
  by_cases h : i < 0
  · have h0 : decide (i < (0 : Int)) = true := by simp; omega
    go_enter Tryz.func7, Tryz.ntmps7
    go_wp2_with fail
    go_region
    all_goals go_wp2_with fail
    exact bodyPost_ret (v := .tuple #[.int .i64 i, f0]) (by simp [results, Tryz.results7, go_sem]) rfl ⟨rfl, by (repeat (first | exact Gr.refl _ | assumption | refine Gr.drew ?_ | refine Gr.drewN ?_ _ | refine Gr.alloc ?_ _ | (refine Gr.setCell ?_ (by first | (simp; done) | (simp; omega)) _) | refine Gr.trans ?_ (by assumption)))⟩
  · have h0 : decide (i < (0 : Int)) = false := by simp; omega
    have h1 : decide ((s.size : Int) < i) = true := by simp; omega
    go_enter Tryz.func7, Tryz.ntmps7
    go_wp2_with fail
    go_region
    all_goals go_wp2_with fail
    exact bodyPost_ret (v := .tuple #[.int .i64 i, f0]) (by simp [results, Tryz.results7, go_sem]) rfl ⟨rfl, by (repeat (first | exact Gr.refl _ | assumption | refine Gr.drew ?_ | refine Gr.drewN ?_ _ | refine Gr.alloc ?_ _ | (refine Gr.setCell ?_ (by first | (simp; done) | (simp; omega)) _) | refine Gr.trans ?_ (by assumption)))⟩

end Go.Proofs.YtkcnbhenhmmfgaaGreatDoor
