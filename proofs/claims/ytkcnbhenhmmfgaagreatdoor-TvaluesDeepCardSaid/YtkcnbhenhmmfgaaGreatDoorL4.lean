/-
  The law TvaluesDeep, walked.
-/
import Derived.Test.YtkcnbhenhmmfgaaGreatDoorL2
import Derived.Test.YtkcnbhenhmmfgaaGreatDoorP3
set_option linter.all false
set_option linter.unusedVariables false
set_option linter.unusedSimpArgs false
namespace Go.Proofs.YtkcnbhenhmmfgaaGreatDoor
open Go.RowKit Go.Shelf Go.Joins

theorem bs_append (a b : ByteArray) : bs (a ++ b) = bs a ++ bs b := by
  show (a ++ b).data.toList = _
  rw [ByteArray.data_append, Array.toList_append]

theorem rep_any (s : ByteArray) (c : Nat) (w : World) (h0 : 0 < s.size) (hs : s.size ≤ 3) (hc : c ≤ 300) :
    Calls Tryz.prog 10 #[.string s, .int .i64 c] w fun e w' => ∃ r : ByteArray, e = .returned (.string r) ∧ bs r = Lib.repeatL (bs s) c ∧ Gr w w' := by
  match c, hc with
  | 0, _ =>
    refine (show Calls Tryz.prog 10 #[.string s, .int .i64 0] w _ from Tryz.strings_Repeat_zero s w).mono ?_
    rintro e w' ⟨rfl, rfl⟩
    exact ⟨⟨#[]⟩, rfl, rfl, Gr.refl _⟩
  | 1, _ =>
    refine (show Calls Tryz.prog 10 #[.string s, .int .i64 1] w _ from Tryz.strings_Repeat_one s w).mono ?_
    rintro e w' ⟨rfl, rfl⟩
    exact ⟨s, rfl, by simp [Lib.repeatL], Gr.refl _⟩
  | c + 2, hc =>
    refine (Tryz.strings_Repeat_main s (c + 2) w (by omega) (by omega) ?_ h0).mono ?_
    · have : s.size * (c + 2) ≤ 3 * 300 := Nat.mul_le_mul hs hc
      omega
    · rintro e w' ⟨rfl, hb⟩
      exact ⟨_, rfl, by simp [bs], hb⟩

theorem readS_min (E : Pl.Env) (s : Pl.Bs) (n k : Nat) : Pl.readS E s n (min k 256) = Pl.readS E s n k := by
  unfold Pl.readS
  rw [show min (min k 256) 256 = min k 256 by omega]

theorem rep_one (b : UInt8) : ∀ n, Lib.repeatL [b] n = List.replicate n b
  | 0 => rfl
  | n + 1 => by rw [Lib.repeatL, rep_one b n]; rfl
theorem rep_tab (m : Nat) : ∀ n, Lib.repeatL [123, 97, 61] n ++ [49] ++ List.replicate m 125 = Pl.aeq n (49 :: List.replicate m 125)
  | 0 => rfl
  | n + 1 => by
    rw [Lib.repeatL, Pl.aeq, ← rep_tab m n]
    simp
theorem rep_wd : ∀ n, Lib.repeatL [97, 46] n ++ [97, 61, 49, 125] = Pl.wd n [97, 61, 49, 125]
  | 0 => rfl
  | n + 1 => by
    rw [Lib.repeatL, Pl.wd, ← rep_wd n]
    simp


set_option maxHeartbeats 2000000 in
set_option maxRecDepth 100000 in
theorem law_deep (w : World) (hw : IntW w) (a b : Nat) (ha : a ≤ 65535) (hb : b ≤ 65535) :
    Calls Tryz.prog 4 #[.int .u16 a, .int .u16 b] w fun e w' => e = .returned (.bool true) ∧ Gr w w' := by
  have HW := Lib.hid hw
  clear hw
  obtain ⟨n, hn⟩ : ∃ n, a % 300 = n := ⟨_, rfl⟩
  obtain ⟨k, hk⟩ : ∃ k, b % 300 = k := ⟨_, rfl⟩
  have hn3 : n < 300 := by omega
  have hk3 : k < 300 := by omega
  have wa : IntKind.i64.wrap (a : Int) = (a : Int) := IntWalk.i64_in _ ⟨by omega, by omega⟩
  have wb : IntKind.i64.wrap (b : Int) = (b : Int) := IntWalk.i64_in _ ⟨by omega, by omega⟩
  have ma : (a : Int).tmod 300 = (n : Int) := by rw [Int.tmod_eq_emod_of_nonneg (by omega)]; omega
  have mb : (b : Int).tmod 300 = (k : Int) := by rw [Int.tmod_eq_emod_of_nonneg (by omega)]; omega
  have wnk : IntKind.i64.wrap ((n : Int) + (k : Int)) = (n : Int) + (k : Int) := IntWalk.i64_in _ ⟨by omega, by omega⟩
  have wn : IntKind.i64.wrap (n : Int) = (n : Int) := IntWalk.i64_in _ ⟨by omega, by omega⟩
  have wk : IntKind.i64.wrap (k : Int) = (k : Int) := IntWalk.i64_in _ ⟨by omega, by omega⟩
  obtain ⟨m, hmn⟩ : ∃ m, n - 1 = m := ⟨_, rfl⟩
  have hm : max ((n : Int) - 1) 0 = (m : Int) := by omega
  by_cases hd : 256 < n + k
  · have b1 : decide ((256 : Int) < (n : Int) + (k : Int)) = true := by simp; omega
    by_cases hn0 : n = 0
    · have b0 : ((n : Int) == 0) = true := by simp; omega
      have b2 : decide ((k : Int) ≤ 256) = false := by simp; omega
      have hn0' := Lib.hid hn0
      clear hn0
      go_enter Tryz.func4, Tryz.ntmps4
      go_wp2_with fail
      refine (rep_any ⟨#[91]⟩ n w (by decide) (by decide) (by omega)).mono ?_
      rintro e w1 ⟨r1, rfl, hr1, g1⟩
      have hz1 : r1.size = n := by rw [← bs_length, hr1, Lib.repeatL_length]; simp
      have HR1 := Lib.hid hr1
      clear hr1
      go_wp2_with fail
      refine (rep_any ⟨#[93]⟩ n w1 (by decide) (by decide) (by omega)).mono ?_
      rintro e w2 ⟨r2, rfl, hr2, g2⟩
      have hz2 : r2.size = n := by rw [← bs_length, hr2, Lib.repeatL_length]; simp
      have HR2 := Lib.hid hr2
      clear hr2
      go_wp2_with fail
      refine (rep_any ⟨#[123, 97, 61]⟩ n w2 (by decide) (by decide) (by omega)).mono ?_
      rintro e w3 ⟨r3, rfl, hr3, g3⟩
      have hz3 : r3.size = n * 3 := by rw [← bs_length, hr3, Lib.repeatL_length]; simp
      have HR3 := Lib.hid hr3
      clear hr3
      go_wp2_with fail
      refine (rep_any ⟨#[125]⟩ n w3 (by decide) (by decide) (by omega)).mono ?_
      rintro e w4 ⟨r4, rfl, hr4, g4⟩
      have hz4 : r4.size = n := by rw [← bs_length, hr4, Lib.repeatL_length]; simp
      have HR4 := Lib.hid hr4
      clear hr4
      go_wp2_with fail
      refine (rep_any ⟨#[97, 46]⟩ m w4 (by decide) (by decide) (by omega)).mono ?_
      rintro e w5 ⟨r5, rfl, hr5, g5⟩
      have hz5 : r5.size = m * 2 := by rw [← bs_length, hr5, Lib.repeatL_length]; simp
      have HR5 := Lib.hid hr5
      clear hr5
      have HG5 := Lib.hid ((((g1.trans g2).trans g3).trans g4).trans g5)
      clear g1 g2 g3 g4 g5
      go_wp2_with fail
      refine (la_lives w5 (HW.out.gr HG5.out)).mono ?_
      rintro e w6 ⟨rfl, g6⟩
      have hg := HG5.out.trans g6
      go_wp2_with fail
      exact bodyPost_ret (v := .bool true) (by simp [results, Tryz.results4, go_sem]) rfl ⟨rfl, hg⟩
    · have b0 : ((n : Int) == 0) = false := by simp; omega
      obtain ⟨B, hB⟩ : ∃ B, 256 - k = B := ⟨_, rfl⟩
      have hB2 : max (256 - (k : Int)) 0 = (B : Int) := by omega
      have w256 : IntKind.i64.wrap (256 - (k : Int)) = 256 - (k : Int) := IntWalk.i64_in _ ⟨by omega, by omega⟩
      have w2B : IntKind.i64.wrap (2 * (B : Int)) = 2 * (B : Int) := IntWalk.i64_in _ ⟨by omega, by omega⟩
      have w2B1 : IntKind.i64.wrap (2 * (B : Int) - 1) = 2 * (B : Int) - 1 := IntWalk.i64_in _ ⟨by omega, by omega⟩
      have w3B : IntKind.i64.wrap (3 * (B : Int)) = 3 * (B : Int) := IntWalk.i64_in _ ⟨by omega, by omega⟩
      have hm1 : n = m + 1 := by omega
      have HM1 := Lib.hid hm1
      have HN0 := Lib.hid hn0
      have HD := Lib.hid hd
      have HB := Lib.hid hB
      clear hm1 hd hB hn0
      by_cases hB0 : B = 0
      · have b3 : ((B : Int) == 0) = true := by simp; omega
        have HB0 := Lib.hid hB0
        clear hB0
        go_enter Tryz.func4, Tryz.ntmps4
        go_wp2_with fail
        refine (rep_any ⟨#[91]⟩ n w (by decide) (by decide) (by omega)).mono ?_
        rintro e w1 ⟨r1, rfl, hr1, g1⟩
        have hz1 : r1.size = n := by rw [← bs_length, hr1, Lib.repeatL_length]; simp
        have HR1 := Lib.hid hr1
        clear hr1
        go_wp2_with fail
        refine (rep_any ⟨#[93]⟩ n w1 (by decide) (by decide) (by omega)).mono ?_
        rintro e w2 ⟨r2, rfl, hr2, g2⟩
        have hz2 : r2.size = n := by rw [← bs_length, hr2, Lib.repeatL_length]; simp
        have HR2 := Lib.hid hr2
        clear hr2
        go_wp2_with fail
        refine (rep_any ⟨#[123, 97, 61]⟩ n w2 (by decide) (by decide) (by omega)).mono ?_
        rintro e w3 ⟨r3, rfl, hr3, g3⟩
        have hz3 : r3.size = n * 3 := by rw [← bs_length, hr3, Lib.repeatL_length]; simp
        have HR3 := Lib.hid hr3
        clear hr3
        go_wp2_with fail
        refine (rep_any ⟨#[125]⟩ n w3 (by decide) (by decide) (by omega)).mono ?_
        rintro e w4 ⟨r4, rfl, hr4, g4⟩
        have hz4 : r4.size = n := by rw [← bs_length, hr4, Lib.repeatL_length]; simp
        have HR4 := Lib.hid hr4
        clear hr4
        go_wp2_with fail
        refine (rep_any ⟨#[97, 46]⟩ m w4 (by decide) (by decide) (by omega)).mono ?_
        rintro e w5 ⟨r5, rfl, hr5, g5⟩
        have hz5 : r5.size = m * 2 := by rw [← bs_length, hr5, Lib.repeatL_length]; simp
        have HR5 := Lib.hid hr5
        clear hr5
        have HG5 := Lib.hid ((((g1.trans g2).trans g3).trans g4).trans g5)
        clear g1 g2 g3 g4 g5
        go_wp2_with fail
        obtain ⟨sl, hsl⟩ : ∃ s, r1 ++ ⟨#[49]⟩ ++ r2 = s := ⟨_, rfl⟩
        obtain ⟨st, hst⟩ : ∃ s, r3 ++ ⟨#[49]⟩ ++ r4 = s := ⟨_, rfl⟩
        obtain ⟨sw, hsw⟩ : ∃ s, (⟨#[123]⟩ : ByteArray) ++ r5 ++ ⟨#[97, 61, 49, 125]⟩ = s := ⟨_, rfl⟩
        have bl : bs sl = Pl.listsT n := by
          rw [← hsl, bs_append, bs_append, HR1.out, HR2.out]
          show Lib.repeatL [91] n ++ [49] ++ Lib.repeatL [93] n = _
          rw [rep_one, rep_one]
          simp [Pl.listsT]
        have bt : bs st = Pl.tabsT n := by
          rw [← hst, bs_append, bs_append, HR3.out, HR4.out]
          show Lib.repeatL [123, 97, 61] n ++ [49] ++ Lib.repeatL [125] n = _
          rw [rep_one, rep_tab]
          rfl
        have bw : bs sw = Pl.wordsT m := by
          rw [← hsw, bs_append, bs_append, HR5.out]
          show [123] ++ Lib.repeatL [97, 46] m ++ [97, 61, 49, 125] = _
          rw [List.append_assoc, rep_wd]
          rfl
        have zl : sl.size = 2 * n + 1 := by rw [← bs_length, bl, Pl.listsT_length]
        have zt : st.size = 4 * n + 1 := by rw [← bs_length, bt, Pl.tabsT_length]
        have zw : sw.size = 2 * m + 5 := by rw [← bs_length, bw, Pl.wordsT_length]
        have BL := Lib.hid bl
        have BT := Lib.hid bt
        have BW := Lib.hid bw
        rw [hsl, hst, hsw]
        clear bl bt bw hsl hst hsw hz1 hz2 hz3 hz4 hz5 HR1 HR2 HR3 HR4 HR5
        refine (show Calls Tryz.prog 12 #[.string sl, .int .i64 0, .int .i64 (k : Int), .int .i64 4, .int .i64 (B : Int)] w5 _ from la_fails w5 (HW.out.gr HG5.out) sl (by omega) k (min k 256) (by omega) 4 B (by rw [BL.out, readS_min, Pl.deep_lists _ n k (by have := HN0.out; omega) HD.out, HB.out])).mono ?_
        rintro e w6 ⟨rfl, g6⟩
        have HG6 := Lib.hid (HG5.out.trans g6)
        clear g6
        go_wp2_with fail
        refine (show Calls Tryz.prog 12 #[.string st, .int .i64 0, .int .i64 (k : Int), .int .i64 4, .int .i64 (3 * (B : Int))] w6 _ from (by
          have h1 := la_fails w6 (HW.out.gr HG6.out) st (by omega) k (min k 256) (by omega) 4 (3 * B) (by rw [BT.out, readS_min, Pl.deep_tables _ n k (by have := HN0.out; omega) HD.out, HB.out])
          rw [show ((3 * B : Nat) : Int) = 3 * (B : Int) by simp] at h1
          exact h1)).mono ?_
        rintro e w7 ⟨rfl, g7⟩
        have HG7 := Lib.hid (HG6.out.trans g7)
        clear g7
        go_wp2_with fail
        refine (show Calls Tryz.prog 12 #[.string sw, .int .i64 0, .int .i64 (k : Int), .int .i64 4, .int .i64 0] w7 _ from la_fails w7 (HW.out.gr HG7.out) sw (by omega) k (min k 256) (by omega) 4 0 (by rw [BW.out, readS_min, Pl.deep_words _ m k (by have := HD.out; have := HM1.out; omega), if_pos (by have := HB0.out; have := HB.out; omega)])).mono ?_
        rintro e w8 ⟨rfl, g8⟩
        have HG8 := Lib.hid (HG7.out.trans g8)
        clear g8
        go_wp2_with fail
        refine (la_lives w8 (HW.out.gr HG8.out)).mono ?_
        rintro e w9 ⟨rfl, g9⟩
        have hg := HG8.out.trans g9
        go_wp2_with fail
        exact bodyPost_ret (v := .bool true) (by simp [results, Tryz.results4, go_sem]) rfl ⟨rfl, hg⟩
      · have b3 : ((B : Int) == 0) = false := by simp; omega
        have HB0 := Lib.hid hB0
        clear hB0
        go_enter Tryz.func4, Tryz.ntmps4
        go_wp2_with fail
        refine (rep_any ⟨#[91]⟩ n w (by decide) (by decide) (by omega)).mono ?_
        rintro e w1 ⟨r1, rfl, hr1, g1⟩
        have hz1 : r1.size = n := by rw [← bs_length, hr1, Lib.repeatL_length]; simp
        have HR1 := Lib.hid hr1
        clear hr1
        go_wp2_with fail
        refine (rep_any ⟨#[93]⟩ n w1 (by decide) (by decide) (by omega)).mono ?_
        rintro e w2 ⟨r2, rfl, hr2, g2⟩
        have hz2 : r2.size = n := by rw [← bs_length, hr2, Lib.repeatL_length]; simp
        have HR2 := Lib.hid hr2
        clear hr2
        go_wp2_with fail
        refine (rep_any ⟨#[123, 97, 61]⟩ n w2 (by decide) (by decide) (by omega)).mono ?_
        rintro e w3 ⟨r3, rfl, hr3, g3⟩
        have hz3 : r3.size = n * 3 := by rw [← bs_length, hr3, Lib.repeatL_length]; simp
        have HR3 := Lib.hid hr3
        clear hr3
        go_wp2_with fail
        refine (rep_any ⟨#[125]⟩ n w3 (by decide) (by decide) (by omega)).mono ?_
        rintro e w4 ⟨r4, rfl, hr4, g4⟩
        have hz4 : r4.size = n := by rw [← bs_length, hr4, Lib.repeatL_length]; simp
        have HR4 := Lib.hid hr4
        clear hr4
        go_wp2_with fail
        refine (rep_any ⟨#[97, 46]⟩ m w4 (by decide) (by decide) (by omega)).mono ?_
        rintro e w5 ⟨r5, rfl, hr5, g5⟩
        have hz5 : r5.size = m * 2 := by rw [← bs_length, hr5, Lib.repeatL_length]; simp
        have HR5 := Lib.hid hr5
        clear hr5
        have HG5 := Lib.hid ((((g1.trans g2).trans g3).trans g4).trans g5)
        clear g1 g2 g3 g4 g5
        go_wp2_with fail
        obtain ⟨sl, hsl⟩ : ∃ s, r1 ++ ⟨#[49]⟩ ++ r2 = s := ⟨_, rfl⟩
        obtain ⟨st, hst⟩ : ∃ s, r3 ++ ⟨#[49]⟩ ++ r4 = s := ⟨_, rfl⟩
        obtain ⟨sw, hsw⟩ : ∃ s, (⟨#[123]⟩ : ByteArray) ++ r5 ++ ⟨#[97, 61, 49, 125]⟩ = s := ⟨_, rfl⟩
        have bl : bs sl = Pl.listsT n := by
          rw [← hsl, bs_append, bs_append, HR1.out, HR2.out]
          show Lib.repeatL [91] n ++ [49] ++ Lib.repeatL [93] n = _
          rw [rep_one, rep_one]
          simp [Pl.listsT]
        have bt : bs st = Pl.tabsT n := by
          rw [← hst, bs_append, bs_append, HR3.out, HR4.out]
          show Lib.repeatL [123, 97, 61] n ++ [49] ++ Lib.repeatL [125] n = _
          rw [rep_one, rep_tab]
          rfl
        have bw : bs sw = Pl.wordsT m := by
          rw [← hsw, bs_append, bs_append, HR5.out]
          show [123] ++ Lib.repeatL [97, 46] m ++ [97, 61, 49, 125] = _
          rw [List.append_assoc, rep_wd]
          rfl
        have zl : sl.size = 2 * n + 1 := by rw [← bs_length, bl, Pl.listsT_length]
        have zt : st.size = 4 * n + 1 := by rw [← bs_length, bt, Pl.tabsT_length]
        have zw : sw.size = 2 * m + 5 := by rw [← bs_length, bw, Pl.wordsT_length]
        have BL := Lib.hid bl
        have BT := Lib.hid bt
        have BW := Lib.hid bw
        rw [hsl, hst, hsw]
        clear bl bt bw hsl hst hsw hz1 hz2 hz3 hz4 hz5 HR1 HR2 HR3 HR4 HR5
        refine (show Calls Tryz.prog 12 #[.string sl, .int .i64 0, .int .i64 (k : Int), .int .i64 4, .int .i64 (B : Int)] w5 _ from la_fails w5 (HW.out.gr HG5.out) sl (by omega) k (min k 256) (by omega) 4 B (by rw [BL.out, readS_min, Pl.deep_lists _ n k (by have := HN0.out; omega) HD.out, HB.out])).mono ?_
        rintro e w6 ⟨rfl, g6⟩
        have HG6 := Lib.hid (HG5.out.trans g6)
        clear g6
        go_wp2_with fail
        refine (show Calls Tryz.prog 12 #[.string st, .int .i64 0, .int .i64 (k : Int), .int .i64 4, .int .i64 (3 * (B : Int))] w6 _ from (by
          have h1 := la_fails w6 (HW.out.gr HG6.out) st (by omega) k (min k 256) (by omega) 4 (3 * B) (by rw [BT.out, readS_min, Pl.deep_tables _ n k (by have := HN0.out; omega) HD.out, HB.out])
          rw [show ((3 * B : Nat) : Int) = 3 * (B : Int) by simp] at h1
          exact h1)).mono ?_
        rintro e w7 ⟨rfl, g7⟩
        have HG7 := Lib.hid (HG6.out.trans g7)
        clear g7
        go_wp2_with fail
        refine (show Calls Tryz.prog 12 #[.string sw, .int .i64 0, .int .i64 (k : Int), .int .i64 4, .int .i64 (2 * (B : Int) - 1)] w7 _ from (by
          have h1 := la_fails w7 (HW.out.gr HG7.out) sw (by omega) k (min k 256) (by omega) 4 (2 * B - 1) (by rw [BW.out, readS_min, Pl.deep_words _ m k (by have := HD.out; have := HM1.out; omega), if_neg (by have := HB0.out; have := HB.out; omega), HB.out])
          rw [show ((2 * B - 1 : Nat) : Int) = 2 * (B : Int) - 1 by have := HB0.out; omega] at h1
          exact h1)).mono ?_
        rintro e w8 ⟨rfl, g8⟩
        have HG8 := Lib.hid (HG7.out.trans g8)
        clear g8
        go_wp2_with fail
        refine (la_lives w8 (HW.out.gr HG8.out)).mono ?_
        rintro e w9 ⟨rfl, g9⟩
        have hg := HG8.out.trans g9
        go_wp2_with fail
        exact bodyPost_ret (v := .bool true) (by simp [results, Tryz.results4, go_sem]) rfl ⟨rfl, hg⟩
  · have b1 : decide ((256 : Int) < (n : Int) + (k : Int)) = false := by simp; omega
    by_cases hn0 : n = 0
    · have b0 : ((n : Int) == 0) = true := by simp; omega
      have b2 : decide ((k : Int) ≤ 256) = true := by simp; omega
      have hn0' := Lib.hid hn0
      clear hn0
      go_enter Tryz.func4, Tryz.ntmps4
      go_wp2_with fail
      refine (rep_any ⟨#[91]⟩ n w (by decide) (by decide) (by omega)).mono ?_
      rintro e w1 ⟨r1, rfl, hr1, g1⟩
      have hz1 : r1.size = n := by rw [← bs_length, hr1, Lib.repeatL_length]; simp
      have HR1 := Lib.hid hr1
      clear hr1
      go_wp2_with fail
      refine (rep_any ⟨#[93]⟩ n w1 (by decide) (by decide) (by omega)).mono ?_
      rintro e w2 ⟨r2, rfl, hr2, g2⟩
      have hz2 : r2.size = n := by rw [← bs_length, hr2, Lib.repeatL_length]; simp
      have HR2 := Lib.hid hr2
      clear hr2
      go_wp2_with fail
      refine (rep_any ⟨#[123, 97, 61]⟩ n w2 (by decide) (by decide) (by omega)).mono ?_
      rintro e w3 ⟨r3, rfl, hr3, g3⟩
      have hz3 : r3.size = n * 3 := by rw [← bs_length, hr3, Lib.repeatL_length]; simp
      have HR3 := Lib.hid hr3
      clear hr3
      go_wp2_with fail
      refine (rep_any ⟨#[125]⟩ n w3 (by decide) (by decide) (by omega)).mono ?_
      rintro e w4 ⟨r4, rfl, hr4, g4⟩
      have hz4 : r4.size = n := by rw [← bs_length, hr4, Lib.repeatL_length]; simp
      have HR4 := Lib.hid hr4
      clear hr4
      go_wp2_with fail
      refine (rep_any ⟨#[97, 46]⟩ m w4 (by decide) (by decide) (by omega)).mono ?_
      rintro e w5 ⟨r5, rfl, hr5, g5⟩
      have hz5 : r5.size = m * 2 := by rw [← bs_length, hr5, Lib.repeatL_length]; simp
      have HR5 := Lib.hid hr5
      clear hr5
      have HG5 := Lib.hid ((((g1.trans g2).trans g3).trans g4).trans g5)
      clear g1 g2 g3 g4 g5
      go_wp2_with fail
      refine (la_lives w5 (HW.out.gr HG5.out)).mono ?_
      rintro e w6 ⟨rfl, g6⟩
      have hg := HG5.out.trans g6
      go_wp2_with fail
      exact bodyPost_ret (v := .bool true) (by simp [results, Tryz.results4, go_sem]) rfl ⟨rfl, hg⟩
    · have b0 : ((n : Int) == 0) = false := by simp; omega
      obtain ⟨B, hB⟩ : ∃ B, 256 - k = B := ⟨_, rfl⟩
      have hB2 : max (256 - (k : Int)) 0 = (B : Int) := by omega
      have w256 : IntKind.i64.wrap (256 - (k : Int)) = 256 - (k : Int) := IntWalk.i64_in _ ⟨by omega, by omega⟩
      have hm1 : n = m + 1 := by omega
      have HM1 := Lib.hid hm1
      have HN0 := Lib.hid hn0
      have HD := Lib.hid hd
      clear hm1 hd hn0
      go_enter Tryz.func4, Tryz.ntmps4
      go_wp2_with fail
      refine (rep_any ⟨#[91]⟩ n w (by decide) (by decide) (by omega)).mono ?_
      rintro e w1 ⟨r1, rfl, hr1, g1⟩
      have hz1 : r1.size = n := by rw [← bs_length, hr1, Lib.repeatL_length]; simp
      have HR1 := Lib.hid hr1
      clear hr1
      go_wp2_with fail
      refine (rep_any ⟨#[93]⟩ n w1 (by decide) (by decide) (by omega)).mono ?_
      rintro e w2 ⟨r2, rfl, hr2, g2⟩
      have hz2 : r2.size = n := by rw [← bs_length, hr2, Lib.repeatL_length]; simp
      have HR2 := Lib.hid hr2
      clear hr2
      go_wp2_with fail
      refine (rep_any ⟨#[123, 97, 61]⟩ n w2 (by decide) (by decide) (by omega)).mono ?_
      rintro e w3 ⟨r3, rfl, hr3, g3⟩
      have hz3 : r3.size = n * 3 := by rw [← bs_length, hr3, Lib.repeatL_length]; simp
      have HR3 := Lib.hid hr3
      clear hr3
      go_wp2_with fail
      refine (rep_any ⟨#[125]⟩ n w3 (by decide) (by decide) (by omega)).mono ?_
      rintro e w4 ⟨r4, rfl, hr4, g4⟩
      have hz4 : r4.size = n := by rw [← bs_length, hr4, Lib.repeatL_length]; simp
      have HR4 := Lib.hid hr4
      clear hr4
      go_wp2_with fail
      refine (rep_any ⟨#[97, 46]⟩ m w4 (by decide) (by decide) (by omega)).mono ?_
      rintro e w5 ⟨r5, rfl, hr5, g5⟩
      have hz5 : r5.size = m * 2 := by rw [← bs_length, hr5, Lib.repeatL_length]; simp
      have HR5 := Lib.hid hr5
      clear hr5
      have HG5 := Lib.hid ((((g1.trans g2).trans g3).trans g4).trans g5)
      clear g1 g2 g3 g4 g5
      go_wp2_with fail
      obtain ⟨sl, hsl⟩ : ∃ s, r1 ++ ⟨#[49]⟩ ++ r2 = s := ⟨_, rfl⟩
      obtain ⟨st, hst⟩ : ∃ s, r3 ++ ⟨#[49]⟩ ++ r4 = s := ⟨_, rfl⟩
      obtain ⟨sw, hsw⟩ : ∃ s, (⟨#[123]⟩ : ByteArray) ++ r5 ++ ⟨#[97, 61, 49, 125]⟩ = s := ⟨_, rfl⟩
      have bl : bs sl = Pl.listsT n := by
        rw [← hsl, bs_append, bs_append, HR1.out, HR2.out]
        show Lib.repeatL [91] n ++ [49] ++ Lib.repeatL [93] n = _
        rw [rep_one, rep_one]
        simp [Pl.listsT]
      have bt : bs st = Pl.tabsT n := by
        rw [← hst, bs_append, bs_append, HR3.out, HR4.out]
        show Lib.repeatL [123, 97, 61] n ++ [49] ++ Lib.repeatL [125] n = _
        rw [rep_one, rep_tab]
        rfl
      have bw : bs sw = Pl.wordsT m := by
        rw [← hsw, bs_append, bs_append, HR5.out]
        show [123] ++ Lib.repeatL [97, 46] m ++ [97, 61, 49, 125] = _
        rw [List.append_assoc, rep_wd]
        rfl
      have zl : sl.size = 2 * n + 1 := by rw [← bs_length, bl, Pl.listsT_length]
      have zt : st.size = 4 * n + 1 := by rw [← bs_length, bt, Pl.tabsT_length]
      have zw : sw.size = 2 * m + 5 := by rw [← bs_length, bw, Pl.wordsT_length]
      have BL := Lib.hid bl
      have BT := Lib.hid bt
      have BW := Lib.hid bw
      rw [hsl, hst, hsw]
      clear bl bt bw hsl hst hsw hz1 hz2 hz3 hz4 hz5 HR1 HR2 HR3 HR4 HR5
      have hkk : k ≤ 256 := by have := HD.out; omega
      have HL : Hid (∀ i, i < 3 → ∃ (s : ByteArray) (ii : Nat) (M : Pl.Nds), ([.string sl, .string st, .string sw] : List Value)[i]? = some (.string s) ∧ s.size ≤ 5000 ∧ Pl.readS ⟨Pl.strS, Pl.scalS⟩ (bs s) 0 k = .ok (ii, s.size, M) ∧ M.length = n + 1) := by
        intro i hi
        have hnn := HN0.out
        have hdd := HD.out
        have hmm1 := HM1.out
        match i, hi with
        | 0, _ =>
          obtain ⟨ii, M, h1, h2⟩ := Pl.read_lists ⟨Pl.strS, Pl.scalS⟩ rfl n k (by omega) (by omega)
          exact ⟨sl, ii, M, rfl, by omega, by rw [BL.out, zl]; exact h1, h2⟩
        | 1, _ =>
          obtain ⟨ii, M, h1, h2⟩ := Pl.read_tables ⟨Pl.strS, Pl.scalS⟩ rfl n k (by omega) (by omega)
          exact ⟨st, ii, M, rfl, by omega, by rw [BT.out, zt]; exact h1, h2⟩
        | 2, _ =>
          obtain ⟨ii, M, h1, h2⟩ := Pl.read_words ⟨Pl.strS, Pl.scalS⟩ rfl m k (by omega)
          exact ⟨sw, ii, M, rfl, by omega, by rw [BW.out, zw]; exact h1, by omega⟩
      obtain ⟨W, hW⟩ : ∃ v, w5.alloc (.cells #[.string sl, .string st, .string sw] 9) = v := ⟨_, rfl⟩
      have hcW : ∀ (i : Nat) s, ([.string sl, .string st, .string sw] : List Value)[i]? = some s → W.cell? ⟨w5.heap.size, i, none⟩ = some s := by
        subst hW
        intro i s h
        match i, h with
        | 0, h => cases h; simp
        | 1, h => cases h; simp
        | 2, h => cases h; simp
        | i + 3, h => simp at h
      have hWl : w5.heap.size < W.heap.size := by subst hW; simp
      have HGW : Hid (Gr w W) := by subst hW; exact HG5.out.alloc _
      rw [hW]
      clear hW
      have HCW := Lib.hid hcW
      clear hcW zl zt zw
      go_loopw [13] (fun v wr => ∃ i : Nat, v = .int .i64 i ∧ i ≤ 3 ∧ Gr W wr) (fun v _ => 3 - (intOf v).toNat)
      case atStart => exact ⟨0, rfl, by omega, Gr.refl _⟩
      case round =>
        obtain ⟨i, rfl, hi, gW⟩ := hrel
        by_cases h3 : i < 3
        · have d1 : decide ((i : Int) < 3) = true := by simp; omega
          have i1 : (0 : Int) ≤ (i : Int) := by omega
          have i2 : (i : Int) < 3 := by omega
          have wi : IntKind.i64.wrap ((i : Int) + 1) = (i : Int) + 1 := IntWalk.i64_in _ ⟨by omega, by omega⟩
          have wn1 : IntKind.i64.wrap ((n : Int) + 1) = (n : Int) + 1 := IntWalk.i64_in _ ⟨by omega, by omega⟩
          obtain ⟨s, ii, M, hs1, hs2, hs3, hs4⟩ := HL.out i h3
          have e1 : wr.cell? ⟨w5.heap.size, i, none⟩ = some (.string s) := (gW.use.1 _ _ hWl).trans (HCW.out i _ hs1)
          have HRD := Lib.hid (tv_Read wr (HW.out.gr (HGW.out.trans gW)) s (by omega) 0 0 rfl (by omega) (k : Int) k (by omega) _ hs3 (by simp))
          have hWr : w5.heap.size < wr.heap.size := Nat.lt_of_lt_of_le hWl gW.size
          have HM := Lib.hid hs4
          have HGR := Lib.hid gW
          clear hs1 hs3 hs4 gW
          go_wp2_with fail
          refine HRD.out.mono ?_
          rintro e w6 ⟨g, L, rfl, _, _, _, _, g6⟩
          rw [HM.out]
          have e2 : w6.cell? ⟨w5.heap.size, i, none⟩ = some (.string s) := (g6.use.1 _ _ hWr).trans e1
          have hW6 : w5.heap.size < w6.heap.size := Nat.lt_of_lt_of_le hWr g6.size
          have b5 : (((n + 1 : Nat) : Int) != (n : Int) + 1) = false := by simp
          have b6 : ((n : Int) + 1 != (n : Int) + 1) = false := by simp
          have b7 : ((s.size : Int) != (s.size : Int)) = false := by simp
          have HG6 := Lib.hid (HGR.out.trans g6)
          clear g6 e1
          go_wp2_with fail
          go_roundw
          case rel =>
            have hg6 := HG6.out
            exact ⟨i + 1, by go_num, by omega, by (repeat (first | exact Gr.refl _ | assumption | refine Gr.drew ?_ | refine Gr.drewN ?_ _ | refine Gr.alloc ?_ _ | (refine Gr.setCell ?_ (by first | (simp; done) | (simp; omega)) _) | refine Gr.trans ?_ (by assumption)))⟩
          case measure => simp [intOf]; omega
        · have d1 : decide ((i : Int) < 3) = false := by simp; omega
          have HG6 := Lib.hid (HGW.out.trans gW)
          clear gW
          go_wp2_with fail
          refine (la_lives wr (HW.out.gr HG6.out)).mono ?_
          rintro e w6 ⟨rfl, g6⟩
          have hg := HG6.out.trans g6
          go_wp2_with fail
          exact bodyPost_ret (v := .bool true) (by simp [results, Tryz.results4, go_sem]) rfl ⟨rfl, hg⟩

end Go.Proofs.YtkcnbhenhmmfgaaGreatDoor
