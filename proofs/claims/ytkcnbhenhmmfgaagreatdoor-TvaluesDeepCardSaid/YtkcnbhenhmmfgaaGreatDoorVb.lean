/-
  Walks: the reader of tvalues: value (by induction on how deep).
-/
import Derived.Test.YtkcnbhenhmmfgaaGreatDoorVa
set_option linter.all false
set_option linter.unusedVariables false
set_option linter.unusedSimpArgs false
namespace Go.Proofs.YtkcnbhenhmmfgaaGreatDoor
open Go.RowKit Go.Shelf Go.Joins
attribute [local go_sem] Oper.semAt_some


set_option maxHeartbeats 4000000 in
set_option maxRecDepth 100000 in
theorem tv_value (E : Pl.Env) (hE : EnvStr E) (hE2 : E.scal = Pl.scalS) (s : ByteArray) (hs : s.size ≤ 20000000) (R B base : Nat) (root : Int) : ∀ f, ValueC s R B base root (Pl.valueF E (bs s) f) := by
  intro f
  induction f with
  | zero =>
    intro w nv L own h hg n d hn hd X hX hne
    exact absurd hX.symm hne
  | succ f ih =>
    intro w nv L own h hg n d hn hd X hX hne
    obtain ⟨c0, c1, c2, c3, fz⟩ := h.cells
    have hR := h.R_lt
    have hnF : ¬ FV own w.heap.size := h.not_new (Nat.le_refl _)
    have ga := (Gr.refl w).alloc (.cells #[.int .i64 0, .int .i64 0] 25)
    have HR1 := Lib.hid (h.gr ga)
    have HG1 := Lib.hid (hg.gr ga)
    have HN := Lib.hid hne
    obtain ⟨c, hc⟩ : ∃ c, Pl.byteAt (bs s) n = c := ⟨_, rfl⟩
    have HC := Lib.hid hc
    rw [Pl.valueF] at hX
    simp only [hc] at hX
    by_cases h1 : c = 34 ∨ c = 39
    · rw [if_pos h1] at hX
      have HX := Lib.hid hX
      clear hX hc ga h hg c0 c1 c3 fz hne
      by_cases h34 : c = 34
      · have b1 : ((c : Int) == 34) = true := by simp; omega
        clear h1 h34
        go_enter Tryz.func29, Tryz.ntmps29
        go_wp2_with fail
        refine (tv_byte _ R s (by rw [((Gr.refl w).alloc _).use.1 _ _ hR.2]; exact c2) n n rfl).mono ?_
        rintro e w0 ⟨rfl, rfl⟩
        rw [HC.out]
        go_wp2_with fail
        refine (tv_text E hE _ R B base s root nv L own HR1.out hs n d n rfl hn X HX.out HN.out).mono ?_
        rintro e w1 hpost
        cases X with
        | non => exact absurd rfl HN.out
        | bad c p =>
          obtain ⟨rfl, hc, F', hst, hrk⟩ := hpost
          have HRK := Lib.hid hrk
          clear hrk
          obtain ⟨a0, a1, af, al⟩ := (FX.new w (.int .i64 0) (.int .i64 0) 25).st hst hnF
          have HST2 := Lib.hid (((St.refl (FV own) w).alloc (.cells #[.int .i64 0, .int .i64 0] 25)).trans hst)
          have HC := Lib.hid hc
          clear hst hc
          go_wp2_with fail
          exact bodyPost_ret (v := .tuple #[.int .i64 0, .int .i64 0, fv c p]) (by simp [results, Tryz.results29, go_sem, a0, a1, af, al]) rfl ⟨rfl, HC.out, F', (HST2.out.setCell (.inr (Nat.le_refl _)) _).setCell (.inr (Nat.le_refl _)) _, (HRK.out.set (by omega) _).set (by omega) _⟩
        | ok r =>
          obtain ⟨iv, m, st'⟩ := r
          obtain ⟨rfl, hm, hi, nv', L', own', hr', hL', hst, hown⟩ := hpost
          obtain ⟨a0, a1, af, al⟩ := (FX.new w (.int .i64 0) (.int .i64 0) 25).st hst hnF
          have HST2 := Lib.hid (((St.refl (FV own) w).alloc (.cells #[.int .i64 0, .int .i64 0] 25)).trans hst)
          have HR' := Lib.hid hr'
          have HOWN : Hid (∀ k, own' k ≠ 0 → own k ≠ 0 ∨ w.heap.size + 1 ≤ k) := fun k hk => (hown k hk).imp id (fun e => by simpa using e)
          have HL' := Lib.hid hL'
          have hn' : ¬ FV own' w.heap.size := fun hf => by
            rcases HOWN.out _ hf with e | e
            · exact hnF e
            · omega
          clear hst hr' hown hL'
          go_wp2_with fail
          exact bodyPost_ret (v := .tuple #[.int .i64 iv, .int .i64 m, f0]) (by simp [results, Tryz.results29, go_sem, a0, a1, af, al]) rfl ⟨rfl, hm, hi, nv', L', own', (HR'.out.setCell hn' _).setCell hn' _, HL'.out, (HST2.out.setCell (.inr (Nat.le_refl _)) _).setCell (.inr (Nat.le_refl _)) _, fun k hk => (HOWN.out k hk).imp id (fun e => by omega)⟩
      · have b1 : ((c : Int) == 34) = false := by simp; omega
        have b2 : ((c : Int) == 39) = true := by simp; omega
        clear h1 h34
        go_enter Tryz.func29, Tryz.ntmps29
        go_wp2_with fail
        refine (tv_byte _ R s (by rw [((Gr.refl w).alloc _).use.1 _ _ hR.2]; exact c2) n n rfl).mono ?_
        rintro e w0 ⟨rfl, rfl⟩
        rw [HC.out]
        go_wp2_with fail
        refine (tv_text E hE _ R B base s root nv L own HR1.out hs n d n rfl hn X HX.out HN.out).mono ?_
        rintro e w1 hpost
        cases X with
        | non => exact absurd rfl HN.out
        | bad c p =>
          obtain ⟨rfl, hc, F', hst, hrk⟩ := hpost
          have HRK := Lib.hid hrk
          clear hrk
          obtain ⟨a0, a1, af, al⟩ := (FX.new w (.int .i64 0) (.int .i64 0) 25).st hst hnF
          have HST2 := Lib.hid (((St.refl (FV own) w).alloc (.cells #[.int .i64 0, .int .i64 0] 25)).trans hst)
          have HC := Lib.hid hc
          clear hst hc
          go_wp2_with fail
          exact bodyPost_ret (v := .tuple #[.int .i64 0, .int .i64 0, fv c p]) (by simp [results, Tryz.results29, go_sem, a0, a1, af, al]) rfl ⟨rfl, HC.out, F', (HST2.out.setCell (.inr (Nat.le_refl _)) _).setCell (.inr (Nat.le_refl _)) _, (HRK.out.set (by omega) _).set (by omega) _⟩
        | ok r =>
          obtain ⟨iv, m, st'⟩ := r
          obtain ⟨rfl, hm, hi, nv', L', own', hr', hL', hst, hown⟩ := hpost
          obtain ⟨a0, a1, af, al⟩ := (FX.new w (.int .i64 0) (.int .i64 0) 25).st hst hnF
          have HST2 := Lib.hid (((St.refl (FV own) w).alloc (.cells #[.int .i64 0, .int .i64 0] 25)).trans hst)
          have HR' := Lib.hid hr'
          have HOWN : Hid (∀ k, own' k ≠ 0 → own k ≠ 0 ∨ w.heap.size + 1 ≤ k) := fun k hk => (hown k hk).imp id (fun e => by simpa using e)
          have HL' := Lib.hid hL'
          have hn' : ¬ FV own' w.heap.size := fun hf => by
            rcases HOWN.out _ hf with e | e
            · exact hnF e
            · omega
          clear hst hr' hown hL'
          go_wp2_with fail
          exact bodyPost_ret (v := .tuple #[.int .i64 iv, .int .i64 m, f0]) (by simp [results, Tryz.results29, go_sem, a0, a1, af, al]) rfl ⟨rfl, hm, hi, nv', L', own', (HR'.out.setCell hn' _).setCell hn' _, HL'.out, (HST2.out.setCell (.inr (Nat.le_refl _)) _).setCell (.inr (Nat.le_refl _)) _, fun k hk => (HOWN.out k hk).imp id (fun e => by omega)⟩
    · rw [if_neg h1] at hX
      have b1 : ((c : Int) == 34) = false := by simp; omega
      have b2 : ((c : Int) == 39) = false := by simp; omega
      by_cases h91 : c = 91
      · rw [if_pos h91] at hX
        have b3 : ((c : Int) == 91) = true := by simp; omega
        have HX := Lib.hid hX
        have HB : Hid (Pl.byteAt (bs s) n = 91) := by rw [← h91]; exact hc
        clear hX hc ga h hg c0 c1 c3 fz hne h1 h91
        go_enter Tryz.func29, Tryz.ntmps29
        go_wp2_with fail
        refine (tv_byte _ R s (by rw [((Gr.refl w).alloc _).use.1 _ _ hR.2]; exact c2) n n rfl).mono ?_
        rintro e w0 ⟨rfl, rfl⟩
        rw [HC.out]
        go_wp2_with fail
        refine (tv_list s R B base root _ ih _ nv L own HR1.out HG1.out hs d n HB.out X HX.out HN.out).mono ?_
        rintro e w1 hpost
        cases X with
        | non => exact absurd rfl HN.out
        | bad c p =>
          obtain ⟨rfl, hc, F', hst, hrk⟩ := hpost
          have HRK := Lib.hid hrk
          clear hrk
          obtain ⟨a0, a1, af, al⟩ := (FX.new w (.int .i64 0) (.int .i64 0) 25).st hst hnF
          have HST2 := Lib.hid (((St.refl (FV own) w).alloc (.cells #[.int .i64 0, .int .i64 0] 25)).trans hst)
          have HC := Lib.hid hc
          clear hst hc
          go_wp2_with fail
          exact bodyPost_ret (v := .tuple #[.int .i64 0, .int .i64 0, fv c p]) (by simp [results, Tryz.results29, go_sem, a0, a1, af, al]) rfl ⟨rfl, HC.out, F', (HST2.out.setCell (.inr (Nat.le_refl _)) _).setCell (.inr (Nat.le_refl _)) _, (HRK.out.set (by omega) _).set (by omega) _⟩
        | ok r =>
          obtain ⟨iv, m, st'⟩ := r
          obtain ⟨rfl, hm, hi, nv', L', own', hr', hL', hst, hown⟩ := hpost
          obtain ⟨a0, a1, af, al⟩ := (FX.new w (.int .i64 0) (.int .i64 0) 25).st hst hnF
          have HST2 := Lib.hid (((St.refl (FV own) w).alloc (.cells #[.int .i64 0, .int .i64 0] 25)).trans hst)
          have HR' := Lib.hid hr'
          have HOWN : Hid (∀ k, own' k ≠ 0 → own k ≠ 0 ∨ w.heap.size + 1 ≤ k) := fun k hk => (hown k hk).imp id (fun e => by simpa using e)
          have HL' := Lib.hid hL'
          have hn' : ¬ FV own' w.heap.size := fun hf => by
            rcases HOWN.out _ hf with e | e
            · exact hnF e
            · omega
          clear hst hr' hown hL'
          go_wp2_with fail
          exact bodyPost_ret (v := .tuple #[.int .i64 iv, .int .i64 m, f0]) (by simp [results, Tryz.results29, go_sem, a0, a1, af, al]) rfl ⟨rfl, hm, hi, nv', L', own', (HR'.out.setCell hn' _).setCell hn' _, HL'.out, (HST2.out.setCell (.inr (Nat.le_refl _)) _).setCell (.inr (Nat.le_refl _)) _, fun k hk => (HOWN.out k hk).imp id (fun e => by omega)⟩
      · rw [if_neg h91] at hX
        have b3 : ((c : Int) == 91) = false := by simp; omega
        by_cases h123 : c = 123
        · rw [if_pos h123] at hX
          have b4 : ((c : Int) == 123) = true := by simp; omega
          have HX := Lib.hid hX
          have HB : Hid (Pl.byteAt (bs s) n = 123) := by rw [← h123]; exact hc
          clear hX hc ga h hg c0 c1 c3 fz hne h1 h91 h123
          go_enter Tryz.func29, Tryz.ntmps29
          go_wp2_with fail
          refine (tv_byte _ R s (by rw [((Gr.refl w).alloc _).use.1 _ _ hR.2]; exact c2) n n rfl).mono ?_
          rintro e w0 ⟨rfl, rfl⟩
          rw [HC.out]
          go_wp2_with fail
          refine (tv_table E hE s R B base root _ ih _ nv L own HR1.out HG1.out hs d n HB.out X HX.out HN.out).mono ?_
          rintro e w1 hpost
          cases X with
          | non => exact absurd rfl HN.out
          | bad c p =>
            obtain ⟨rfl, hc, F', hst, hrk⟩ := hpost
            have HRK := Lib.hid hrk
            clear hrk
            obtain ⟨a0, a1, af, al⟩ := (FX.new w (.int .i64 0) (.int .i64 0) 25).st hst hnF
            have HST2 := Lib.hid (((St.refl (FV own) w).alloc (.cells #[.int .i64 0, .int .i64 0] 25)).trans hst)
            have HC := Lib.hid hc
            clear hst hc
            go_wp2_with fail
            exact bodyPost_ret (v := .tuple #[.int .i64 0, .int .i64 0, fv c p]) (by simp [results, Tryz.results29, go_sem, a0, a1, af, al]) rfl ⟨rfl, HC.out, F', (HST2.out.setCell (.inr (Nat.le_refl _)) _).setCell (.inr (Nat.le_refl _)) _, (HRK.out.set (by omega) _).set (by omega) _⟩
          | ok r =>
            obtain ⟨iv, m, st'⟩ := r
            obtain ⟨rfl, hm, hi, nv', L', own', hr', hL', hst, hown⟩ := hpost
            obtain ⟨a0, a1, af, al⟩ := (FX.new w (.int .i64 0) (.int .i64 0) 25).st hst hnF
            have HST2 := Lib.hid (((St.refl (FV own) w).alloc (.cells #[.int .i64 0, .int .i64 0] 25)).trans hst)
            have HR' := Lib.hid hr'
            have HOWN : Hid (∀ k, own' k ≠ 0 → own k ≠ 0 ∨ w.heap.size + 1 ≤ k) := fun k hk => (hown k hk).imp id (fun e => by simpa using e)
            have HL' := Lib.hid hL'
            have hn' : ¬ FV own' w.heap.size := fun hf => by
              rcases HOWN.out _ hf with e | e
              · exact hnF e
              · omega
            clear hst hr' hown hL'
            go_wp2_with fail
            exact bodyPost_ret (v := .tuple #[.int .i64 iv, .int .i64 m, f0]) (by simp [results, Tryz.results29, go_sem, a0, a1, af, al]) rfl ⟨rfl, hm, hi, nv', L', own', (HR'.out.setCell hn' _).setCell hn' _, HL'.out, (HST2.out.setCell (.inr (Nat.le_refl _)) _).setCell (.inr (Nat.le_refl _)) _, fun k hk => (HOWN.out k hk).imp id (fun e => by omega)⟩
        · rw [if_neg h123] at hX
          have b4 : ((c : Int) == 123) = false := by simp; omega
          have HX := Lib.hid hX
          clear hX hc ga h hg c0 c1 c3 fz hne h1 h91 h123
          go_enter Tryz.func29, Tryz.ntmps29
          go_wp2_with fail
          refine (tv_byte _ R s (by rw [((Gr.refl w).alloc _).use.1 _ _ hR.2]; exact c2) n n rfl).mono ?_
          rintro e w0 ⟨rfl, rfl⟩
          rw [HC.out]
          go_wp2_with fail
          refine (tv_scalar E hE2 _ R B base s root nv L own HR1.out hs HG1.out n d n rfl hn X HX.out HN.out).mono ?_
          rintro e w1 hpost
          cases X with
          | non => exact absurd rfl HN.out
          | bad c p =>
            obtain ⟨rfl, hc, F', hst, hrk⟩ := hpost
            have HRK := Lib.hid hrk
            clear hrk
            obtain ⟨a0, a1, af, al⟩ := (FX.new w (.int .i64 0) (.int .i64 0) 25).st hst hnF
            have HST2 := Lib.hid (((St.refl (FV own) w).alloc (.cells #[.int .i64 0, .int .i64 0] 25)).trans hst)
            have HC := Lib.hid hc
            clear hst hc
            go_wp2_with fail
            exact bodyPost_ret (v := .tuple #[.int .i64 0, .int .i64 0, fv c p]) (by simp [results, Tryz.results29, go_sem, a0, a1, af, al]) rfl ⟨rfl, HC.out, F', (HST2.out.setCell (.inr (Nat.le_refl _)) _).setCell (.inr (Nat.le_refl _)) _, (HRK.out.set (by omega) _).set (by omega) _⟩
          | ok r =>
            obtain ⟨iv, m, st'⟩ := r
            obtain ⟨rfl, hm, hi, nv', L', own', hr', hL', hst, hown⟩ := hpost
            obtain ⟨a0, a1, af, al⟩ := (FX.new w (.int .i64 0) (.int .i64 0) 25).st hst hnF
            have HST2 := Lib.hid (((St.refl (FV own) w).alloc (.cells #[.int .i64 0, .int .i64 0] 25)).trans hst)
            have HR' := Lib.hid hr'
            have HOWN : Hid (∀ k, own' k ≠ 0 → own k ≠ 0 ∨ w.heap.size + 1 ≤ k) := fun k hk => (hown k hk).imp id (fun e => by simpa using e)
            have HL' := Lib.hid hL'
            have hn' : ¬ FV own' w.heap.size := fun hf => by
              rcases HOWN.out _ hf with e | e
              · exact hnF e
              · omega
            clear hst hr' hown hL'
            go_wp2_with fail
            exact bodyPost_ret (v := .tuple #[.int .i64 iv, .int .i64 m, f0]) (by simp [results, Tryz.results29, go_sem, a0, a1, af, al]) rfl ⟨rfl, hm, hi, nv', L', own', (HR'.out.setCell hn' _).setCell hn' _, HL'.out, (HST2.out.setCell (.inr (Nat.le_refl _)) _).setCell (.inr (Nat.le_refl _)) _, fun k hk => (HOWN.out k hk).imp id (fun e => by omega)⟩

end Go.Proofs.YtkcnbhenhmmfgaaGreatDoor
