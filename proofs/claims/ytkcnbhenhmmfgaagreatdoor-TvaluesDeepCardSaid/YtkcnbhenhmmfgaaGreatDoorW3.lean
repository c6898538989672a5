/-
  Walks: tvalues.Comment, tvalues.Gap.
-/
import Derived.Test.YtkcnbhenhmmfgaaGreatDoorW2
set_option linter.all false
set_option linter.unusedVariables false
set_option linter.unusedSimpArgs false
namespace Go.Proofs.YtkcnbhenhmmfgaaGreatDoor
open Go.RowKit

theorem control_pays (w : World) : PredAtRunes Tryz.prog 17 #[] Pl.ctl w := by
  intro W x hx _
  unfold FnGives
  refine (tv_control x hx W).mono ?_
  rintro e w' ⟨rfl, rfl⟩
  exact ⟨rfl, 0, rfl⟩

theorem idx_control (s : ByteArray) (w : World) :
    Calls Tryz.prog 16 #[.string s, .func (.func 17) #[] #[]] w fun e w' => e = .returned (.int .i64 (if ((bs s).takeWhile fun c => !Pl.isCtl c).length < s.size then (((bs s).takeWhile fun c => !Pl.isCtl c).length : Int) else -1)) ∧ Gr w w' := by
  refine (Tryz.strings_IndexFunc_runes 17 #[] (enters_of Tryz.func17 (by kernel_rfl) rfl) Pl.ctl s w (control_pays w)).mono ?_
  rintro e w' ⟨rfl, hb⟩
  refine ⟨ret_int ?_, hb⟩
  unfold Lib.idxFunc
  rw [idx_ctl s s.size 0 (by omega) (by omega)]
  simp

theorem idx_control_no (s : ByteArray) (n : Nat) (h : ¬ n + (((bs s).drop n).takeWhile fun c => !Pl.isCtl c).length < s.size) (w : World) :
    Calls Tryz.prog 16 #[.string (s.extract n s.size), .func (.func 17) #[] #[]] w fun e w' => e = .returned (.int .i64 (-1)) ∧ Gr w w' := by
  refine (idx_control (s.extract n s.size) w).mono ?_
  rintro e w' ⟨rfl, hb⟩
  refine ⟨ret_int ?_, hb⟩
  rw [bs_extract, if_neg (by rw [size_drop]; omega)]

theorem idx_control_yes (s : ByteArray) (n k : Nat) (hk : (((bs s).drop n).takeWhile fun c => !Pl.isCtl c).length = k) (h : n + k < s.size) (w : World) :
    Calls Tryz.prog 16 #[.string (s.extract n s.size), .func (.func 17) #[] #[]] w fun e w' => e = .returned (.int .i64 k) ∧ Gr w w' := by
  refine (idx_control (s.extract n s.size) w).mono ?_
  rintro e w' ⟨rfl, hb⟩
  refine ⟨ret_int ?_, hb⟩
  rw [bs_extract, if_pos (by rw [size_drop]; omega), hk]

set_option maxHeartbeats 400000 in
theorem tv_Comment_end (s : ByteArray) (i : Int) (hi : i < 0 ∨ s.size ≤ i) (hs : s.size ≤ 2147483647) (w : World) :
    Calls Tryz.prog 6 #[.string s, .int .i64 i] w fun e w' => e = .returned (.tuple #[.int .i64 i, f0]) ∧ Gr w w' := by
  go_enter Tryz.func6, Tryz.ntmps6
  rcases hi with hi | hi
  · go_wp2_with fail
    go_region
    all_goals go_wp2_with fail
    exact bodyPost_ret (v := .tuple #[.int .i64 i, f0]) (by simp [results, Tryz.results6, go_sem]) rfl ⟨rfl, by (repeat (first | exact Gr.refl _ | assumption | refine Gr.drew ?_ | refine Gr.drewN ?_ _ | refine Gr.alloc ?_ _ | (refine Gr.setCell ?_ (by first | (simp; done) | (simp; omega)) _) | refine Gr.trans ?_ (by assumption)))⟩
  · have : ¬ i < 0 := by omega
    go_wp2_with fail
    go_region
    all_goals go_wp2_with fail
    exact bodyPost_ret (v := .tuple #[.int .i64 i, f0]) (by simp [results, Tryz.results6, go_sem]) rfl ⟨rfl, by (repeat (first | exact Gr.refl _ | assumption | refine Gr.drew ?_ | refine Gr.drewN ?_ _ | refine Gr.alloc ?_ _ | (refine Gr.setCell ?_ (by first | (simp; done) | (simp; omega)) _) | refine Gr.trans ?_ (by assumption)))⟩

theorem comment_not (l : List UInt8) (n : Nat) (h : ∀ hn : n < l.length, (l[n]'hn).toNat ≠ 35) : Pl.commentAt l n = n := by
  unfold Pl.commentAt Pl.comment
  split
  · rename_i r h1
    exfalso
    have hn : n < l.length := by
      have := congrArg List.length h1
      simp at this; omega
    rw [List.drop_eq_getElem_cons hn] at h1
    simp only [List.cons.injEq] at h1
    exact h hn (by rw [h1.1]; rfl)
  · rfl

theorem comment_yes (l : List UInt8) (n : Nat) (hn : n < l.length) (h : (l[n]'hn).toNat = 35) : Pl.commentAt l n = n + ((l.drop n).takeWhile fun c => !Pl.isCtl c).length := by
  unfold Pl.commentAt
  rw [List.drop_eq_getElem_cons hn]
  have e : l[n]'hn = 35 := by rw [← UInt8.toNat_inj, h]; rfl
  rw [e, List.takeWhile_cons, if_pos (by decide)]
  simp [Pl.comment]; omega

set_option maxHeartbeats 400000 in
theorem tv_Comment (s : ByteArray) (i : Int) (n : Nat) (hi : i = n) (hn : n ≤ s.size) (hs : s.size ≤ 2147483647) (w : World) :
    Calls Tryz.prog 6 #[.string s, .int .i64 i] w fun e w' => e = .returned (.tuple #[.int .i64 (Pl.commentAt (bs s) n), f0]) ∧ Gr w w' := by
  subst hi
  by_cases hlt : n < s.size
  · by_cases hc : (s[n]'hlt).toNat = 35
    · have hcm := comment_yes (bs s) n (by rw [bs_length]; exact hlt) hc
      obtain ⟨k, hk⟩ : ∃ k, (((bs s).drop n).takeWhile fun c => !Pl.isCtl c).length = k := ⟨_, rfl⟩
      rw [hk] at hcm
      have hle := Pl.takeWhile_length_le (fun c => !Pl.isCtl c) ((bs s).drop n)
      rw [hk, List.length_drop, bs_length] at hle
      have H := Lib.hid hcm
      clear hcm
      have HK := Lib.hid hk
      clear hk
      by_cases hend : n + k < s.size
      · go_enter Tryz.func6, Tryz.ntmps6
        go_wp2_with (go_at_call 16; refine (idx_control_yes s n k HK.out hend _).mono ?_; rintro e w1 ⟨rfl, g1⟩; obtain ⟨hc1, hf1, hz1⟩ := g1.use; simp only [World.size_alloc] at hz1)
        go_region
        all_goals go_wp2_with fail
        exact bodyPost_ret (v := .tuple #[.int .i64 (n + k : Int), f0]) (by simp [results, Tryz.results6, go_sem, hc1]) rfl ⟨by rw [H.out]; simp, by (repeat (first | exact Gr.refl _ | assumption | refine Gr.drew ?_ | refine Gr.drewN ?_ _ | refine Gr.alloc ?_ _ | (refine Gr.setCell ?_ (by first | (simp; done) | (simp; omega)) _) | refine Gr.trans ?_ (by assumption)))⟩
      · have hsz : n + k = s.size := by omega
        have HS := Lib.hid hsz
        clear hsz hle
        go_enter Tryz.func6, Tryz.ntmps6
        go_wp2_with (go_at_call 16; refine (idx_control_no s n (by rw [HK.out]; exact hend) _).mono ?_; rintro e w1 ⟨rfl, g1⟩; obtain ⟨hc1, hf1, hz1⟩ := g1.use; simp only [World.size_alloc] at hz1)
        go_region
        all_goals go_wp2_with fail
        exact bodyPost_ret (v := .tuple #[.int .i64 s.size, f0]) (by simp [results, Tryz.results6, go_sem, hc1]) rfl ⟨by rw [H.out, HS.out], by (repeat (first | exact Gr.refl _ | assumption | refine Gr.drew ?_ | refine Gr.drewN ?_ _ | refine Gr.alloc ?_ _ | (refine Gr.setCell ?_ (by first | (simp; done) | (simp; omega)) _) | refine Gr.trans ?_ (by assumption)))⟩
    · have hcm : Pl.commentAt (bs s) n = n := comment_not (bs s) n (fun _ => hc)
      have H := Lib.hid hcm
      clear hcm
      have hc' : (((s[n]'hlt).toNat : Int) != 35) = true := by simp; omega
      clear hc
      go_enter Tryz.func6, Tryz.ntmps6
      go_wp2_with fail
      go_region
      all_goals go_wp2_with fail
      exact bodyPost_ret (v := .tuple #[.int .i64 n, f0]) (by simp [results, Tryz.results6, go_sem]) rfl ⟨by rw [H.out], by (repeat (first | exact Gr.refl _ | assumption | refine Gr.drew ?_ | refine Gr.drewN ?_ _ | refine Gr.alloc ?_ _ | (refine Gr.setCell ?_ (by first | (simp; done) | (simp; omega)) _) | refine Gr.trans ?_ (by assumption)))⟩
  · have e : Pl.commentAt (bs s) n = n := comment_not _ _ (fun h => absurd h (by rw [bs_length]; exact hlt))
    rw [e]
    exact tv_Comment_end s n (.inr (by omega)) hs w

end Go.Proofs.YtkcnbhenhmmfgaaGreatDoor
