/-
  Walk: tvalues.Gap.
-/
import Derived.Test.YtkcnbhenhmmfgaaGreatDoorW3
set_option linter.all false
set_option linter.unusedVariables false
set_option linter.unusedSimpArgs false
namespace Go.Proofs.YtkcnbhenhmmfgaaGreatDoor
open Go.RowKit

theorem pre_size (s : ByteArray) (m k : Nat) (p : List UInt8) (h : Pl.pre ((bs s).drop m) p = true) (hk : p.length = k) (hm : m ≤ s.size) : m + k ≤ s.size := by
  have := Pl.pre_length _ _ h
  rw [List.length_drop, bs_length] at this; omega

set_option maxHeartbeats 1000000 in
theorem tv_Gap (s : ByteArray) (i : Int) (n0 : Nat) (hi : i = n0) (hn0 : n0 ≤ s.size) (hs : s.size ≤ 2147483647) (w : World) :
    Calls Tryz.prog 7 #[.string s, .int .i64 i] w fun e w' => (match Pl.gapAt (bs s) n0 with
      | .ok m => e = .returned (.tuple #[.int .i64 m, f0]) ∧ m ≤ s.size
      | .bad c p => e = .returned (.tuple #[.int .i64 0, fv c p])) ∧ Gr w w' := by
  subst hi
  obtain ⟨R, hR⟩ : ∃ R : Ending → World → Prop, R = fun e w' => (match Pl.gapAt (bs s) n0 with
      | .ok m => e = .returned (.tuple #[.int .i64 m, f0]) ∧ m ≤ s.size
      | .bad c p => e = .returned (.tuple #[.int .i64 0, fv c p])) ∧ Gr w w' := ⟨_, rfl⟩
  rw [← hR]
  have HR := Lib.hid hR
  clear hR
  have hd0 : decide ((n0 : Int) < 0) = false := by simp
  have hd1 : decide (s.size < n0) = false := by simp; omega
  go_enter Tryz.func7, Tryz.ntmps7
  go_wp2_with fail
  go_loopw [1, 4] (fun a e wr => ∃ n : Nat, a = .int .i64 n ∧ n ≤ s.size ∧ Pl.gapAt (bs s) n = Pl.gapAt (bs s) n0 ∧ Gr (w.alloc (.cells #[.int .i64 0, .int .i64 0] 25)) wr) (fun a _ _ => s.size - (intOf a).toNat)
  case atStart => exact ⟨n0, rfl, hn0, rfl, Gr.refl _⟩
  case round =>
    obtain ⟨n, rfl, hn, he, g⟩ := hrel
    have hbl := Pl.blanksAt_le (bs s) n (by rw [bs_length]; exact hn)
    rw [bs_length] at hbl
    have hcl := Pl.commentAt_le (bs s) (Pl.blanksAt (bs s) n) (by rw [bs_length]; exact hbl.2)
    rw [bs_length] at hcl
    obtain ⟨G1, G2, G3, G4, G5⟩ := Pl.gapAt_gap (bs s) n (by rw [bs_length]; exact hn)
    have HE := Lib.hid he
    clear he
    obtain ⟨hc, hf, hz⟩ := g.use
    simp only [World.size_alloc] at hz
    obtain ⟨m, hm⟩ : ∃ m, Pl.commentAt (bs s) (Pl.blanksAt (bs s) n) = m := ⟨_, rfl⟩
    rw [hm] at hcl G1 G2 G3 G4 G5
    have HM := Lib.hid hm
    clear hm
    cases h1 : Pl.pre ((bs s).drop m) [13, 10]
    · have H1 := Lib.hid h1
      cases h2 : Pl.pre ((bs s).drop m) [10]
      · have H2 := Lib.hid h2
        cases h3 : Pl.pre ((bs s).drop m) [13]
        · have H3 := Lib.hid h3
          by_cases hnm : m = n
          · have HG := Lib.hid (G4 h1 h2 h3 hnm)
            clear G1 G2 G3 G4 G5 h1 h2 h3
            have hnm' : ((m : Int) == n) = true := by simp [hnm]
            have HN := Lib.hid hnm
            clear hnm
            go_wp2_with (first | (go_at_call 18; refine (tk_Blanks s _ n rfl hn hs _).mono ?_; rintro e w1 ⟨rfl, g1⟩; have g1' := g.trans g1; obtain ⟨hc1, hf1, hz1⟩ := g1'.use; simp only [World.size_alloc] at hz1) | (go_at_call 6; refine (tv_Comment s _ _ rfl hbl.2 hs _).mono ?_; rw [HM.out]; rintro e w2 ⟨rfl, g2⟩; have g2' := g1'.trans g2; obtain ⟨hc2, hf2, hz2⟩ := g2'.use; simp only [World.size_alloc] at hz2) | (go_at_call 19; first | (with_reducible refine (prefix_at s ⟨#[13, 10]⟩ m false H1.out _).mono ?_; rintro e w3 ⟨rfl, rfl⟩) | (with_reducible refine (prefix_at s ⟨#[10]⟩ m false H2.out _).mono ?_; rintro e w3 ⟨rfl, rfl⟩) | (with_reducible refine (prefix_at s ⟨#[13]⟩ m false H3.out _).mono ?_; rintro e w3 ⟨rfl, rfl⟩)))
            go_region
            all_goals go_wp2_with fail
            exact bodyPost_ret (v := .tuple #[.int .i64 m, f0]) (by simp [results, Tryz.results7, go_sem, hc2]) rfl (by
              rw [HR.out]
              refine ⟨?_, by (repeat (first | exact Gr.refl _ | assumption | refine Gr.drew ?_ | refine Gr.drewN ?_ _ | refine Gr.alloc ?_ _ | (refine Gr.setCell ?_ (by first | (simp; done) | (simp; omega)) _) | refine Gr.trans ?_ (by assumption)))⟩
              rw [← HE.out, HG.out]
              exact ⟨by rw [HN.out], hn⟩)
          · have HG := Lib.hid (G5 h1 h2 h3 hnm)
            clear G1 G2 G3 G4 G5 h1 h2 h3
            have hnm' : ((m : Int) == n) = false := by simp; omega
            go_wp2_with (first | (go_at_call 18; refine (tk_Blanks s _ n rfl hn hs _).mono ?_; rintro e w1 ⟨rfl, g1⟩; have g1' := g.trans g1; obtain ⟨hc1, hf1, hz1⟩ := g1'.use; simp only [World.size_alloc] at hz1) | (go_at_call 6; refine (tv_Comment s _ _ rfl hbl.2 hs _).mono ?_; rw [HM.out]; rintro e w2 ⟨rfl, g2⟩; have g2' := g1'.trans g2; obtain ⟨hc2, hf2, hz2⟩ := g2'.use; simp only [World.size_alloc] at hz2) | (go_at_call 19; first | (with_reducible refine (prefix_at s ⟨#[13, 10]⟩ m false H1.out _).mono ?_; rintro e w3 ⟨rfl, rfl⟩) | (with_reducible refine (prefix_at s ⟨#[10]⟩ m false H2.out _).mono ?_; rintro e w3 ⟨rfl, rfl⟩) | (with_reducible refine (prefix_at s ⟨#[13]⟩ m false H3.out _).mono ?_; rintro e w3 ⟨rfl, rfl⟩)))
            go_roundw
            case rel => exact ⟨m, rfl, by omega, by rw [← HG.out, HE.out], by (repeat (first | exact Gr.refl _ | assumption | refine Gr.drew ?_ | refine Gr.drewN ?_ _ | refine Gr.alloc ?_ _ | (refine Gr.setCell ?_ (by first | (simp; done) | (simp; omega)) _) | refine Gr.trans ?_ (by assumption)))⟩
            case measure => simp [intOf]; omega
        · have H3 := Lib.hid h3
          have hsz := pre_size s m 1 _ h3 rfl (by omega)
          have HG := Lib.hid (G3 h1 h2 h3)
          clear G1 G2 G3 G4 G5 h1 h2 h3
          go_wp2_with (first | (go_at_call 18; refine (tk_Blanks s _ n rfl hn hs _).mono ?_; rintro e w1 ⟨rfl, g1⟩; have g1' := g.trans g1; obtain ⟨hc1, hf1, hz1⟩ := g1'.use; simp only [World.size_alloc] at hz1) | (go_at_call 6; refine (tv_Comment s _ _ rfl hbl.2 hs _).mono ?_; rw [HM.out]; rintro e w2 ⟨rfl, g2⟩; have g2' := g1'.trans g2; obtain ⟨hc2, hf2, hz2⟩ := g2'.use; simp only [World.size_alloc] at hz2) | (go_at_call 19; first | (with_reducible refine (prefix_at s ⟨#[13, 10]⟩ m false H1.out _).mono ?_; rintro e w3 ⟨rfl, rfl⟩) | (with_reducible refine (prefix_at s ⟨#[10]⟩ m false H2.out _).mono ?_; rintro e w3 ⟨rfl, rfl⟩) | (with_reducible refine (prefix_at s ⟨#[13]⟩ m true H3.out _).mono ?_; rintro e w3 ⟨rfl, rfl⟩)) | (go_at_call 20; refine (tv_wrong _ (m + 1) (by omega) _).mono ?_; rintro e w4 ⟨rfl, g4⟩; have g4' := g2'.trans g4; obtain ⟨hc4, hf4, hz4⟩ := g4'.use; simp only [World.size_alloc] at hz4))
          exact bodyPost_ret (v := .tuple #[.int .i64 0, fv 3 (m + 1)]) (by simp [results, Tryz.results7, go_sem, hc4]) rfl (by
            rw [HR.out]
            refine ⟨?_, by (repeat (first | exact Gr.refl _ | assumption | refine Gr.drew ?_ | refine Gr.drewN ?_ _ | refine Gr.alloc ?_ _ | (refine Gr.setCell ?_ (by first | (simp; done) | (simp; omega)) _) | refine Gr.trans ?_ (by assumption)))⟩
            rw [← HE.out, HG.out])
      · have H2 := Lib.hid h2
        have hsz := pre_size s m 1 _ h2 rfl (by omega)
        have HG := Lib.hid (G2 h1 h2)
        clear G1 G2 G3 G4 G5 h1 h2
        go_wp2_with (first | (go_at_call 18; refine (tk_Blanks s _ n rfl hn hs _).mono ?_; rintro e w1 ⟨rfl, g1⟩; have g1' := g.trans g1; obtain ⟨hc1, hf1, hz1⟩ := g1'.use; simp only [World.size_alloc] at hz1) | (go_at_call 6; refine (tv_Comment s _ _ rfl hbl.2 hs _).mono ?_; rw [HM.out]; rintro e w2 ⟨rfl, g2⟩; have g2' := g1'.trans g2; obtain ⟨hc2, hf2, hz2⟩ := g2'.use; simp only [World.size_alloc] at hz2) | (go_at_call 19; first | (with_reducible refine (prefix_at s ⟨#[13, 10]⟩ m false H1.out _).mono ?_; rintro e w3 ⟨rfl, rfl⟩) | (with_reducible refine (prefix_at s ⟨#[10]⟩ m true H2.out _).mono ?_; rintro e w3 ⟨rfl, rfl⟩)) | (go_at_call 20; refine (tv_wrong _ (m + 1) (by omega) _).mono ?_; rintro e w4 ⟨rfl, g4⟩; have g4' := g2'.trans g4; obtain ⟨hc4, hf4, hz4⟩ := g4'.use; simp only [World.size_alloc] at hz4))
        go_roundw
        case rel => exact ⟨m + 1, by go_num, by omega, by rw [← HG.out, HE.out], by (repeat (first | exact Gr.refl _ | assumption | refine Gr.drew ?_ | refine Gr.drewN ?_ _ | refine Gr.alloc ?_ _ | (refine Gr.setCell ?_ (by first | (simp; done) | (simp; omega)) _) | refine Gr.trans ?_ (by assumption)))⟩
        case measure => simp [intOf]; omega
    · have H1 := Lib.hid h1
      have hsz := pre_size s m 2 _ h1 rfl (by omega)
      have HG := Lib.hid (G1 h1)
      clear G1 G2 G3 G4 G5 h1
      go_wp2_with (first | (go_at_call 18; refine (tk_Blanks s _ n rfl hn hs _).mono ?_; rintro e w1 ⟨rfl, g1⟩; have g1' := g.trans g1; obtain ⟨hc1, hf1, hz1⟩ := g1'.use; simp only [World.size_alloc] at hz1) | (go_at_call 6; refine (tv_Comment s _ _ rfl hbl.2 hs _).mono ?_; rw [HM.out]; rintro e w2 ⟨rfl, g2⟩; have g2' := g1'.trans g2; obtain ⟨hc2, hf2, hz2⟩ := g2'.use; simp only [World.size_alloc] at hz2) | (go_at_call 19; first | (with_reducible refine (prefix_at s ⟨#[13, 10]⟩ m true H1.out _).mono ?_; rintro e w3 ⟨rfl, rfl⟩)))
      go_roundw
      case rel => exact ⟨m + 2, by go_num, by omega, by rw [← HG.out, HE.out], by (repeat (first | exact Gr.refl _ | assumption | refine Gr.drew ?_ | refine Gr.drewN ?_ _ | refine Gr.alloc ?_ _ | (refine Gr.setCell ?_ (by first | (simp; done) | (simp; omega)) _) | refine Gr.trans ?_ (by assumption)))⟩
      case measure => simp [intOf]; omega

end Go.Proofs.YtkcnbhenhmmfgaaGreatDoor
