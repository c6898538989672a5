/-
  Walks: the reader of tvalues: scalar.
-/
import Derived.Test.YtkcnbhenhmmfgaaGreatDoorV4
set_option linter.all false
set_option linter.unusedVariables false
set_option linter.unusedSimpArgs false
namespace Go.Proofs.YtkcnbhenhmmfgaaGreatDoor
open Go.RowKit Go.Shelf Go.Joins
attribute [local go_sem] Oper.semAt_some

theorem digits_cases (t : List UInt8) (Y) (hY : Pl.digits t = Y) (hne : Y ≠ .non) : (∀ c ∈ t, isDec c = true) ∧ ((t.length = 1 ∧ Y = .ok (4, t, 1)) ∨ (1 < t.length ∧ t[0]? = some 48 ∧ Y = .bad 3 0)) := by
  unfold Pl.digits at hY
  split at hY
  · rename_i h
    refine ⟨fun c hc => List.all_eq_true.1 h c hc, ?_⟩
    match t, hY with
    | [], hY => exact absurd hY.symm hne
    | [c], hY => exact .inl ⟨rfl, hY.symm⟩
    | c :: d :: l, hY =>
      simp only at hY
      split at hY
      · rename_i h48
        refine .inr ⟨by simp, ?_, hY.symm⟩
        simp only [List.getElem?_cons_zero, Option.some.injEq, ← UInt8.toNat_inj]
        exact h48
      · exact absurd hY.symm hne
  · exact absurd hY.symm hne

def DigPost (t : ByteArray) (Y : Pl.Res (Nat × Pl.Bs × Nat)) (k : Nat) (x : ByteArray) (c : Nat) : Prop := match Y with
  | .non => True
  | .ok (k', t', m) => k = k' ∧ k' ≠ 8 ∧ x = t ∧ t' = bs t ∧ m = t.size ∧ c = 0
  | .bad c' _ => c = c' ∧ c' ≠ 0

theorem tv_plain_dig (t : ByteArray) (hs : t.size ≤ 20000000) (Y) (hY : Pl.digits (bs t) = Y) (hne : Y ≠ .non) (w : World) (hw : IntW w) :
    Calls Tryz.prog 56 #[.string t, .bool false] w fun e w' => (∃ (k : Nat) (x : ByteArray) (c : Nat), e = .returned (.tuple #[.int .u8 k, .string x, .int .i64 c]) ∧ DigPost t Y k x c) ∧ Gr w w' := by
  obtain ⟨hd, h | h⟩ := digits_cases (bs t) Y hY hne
  · obtain ⟨h1, rfl⟩ := h
    rw [bs_length] at h1
    refine (tv_plain_one t hd h1 w hw).mono ?_
    rintro e w' ⟨rfl, g⟩
    exact ⟨⟨4, t, 0, rfl, rfl, by omega, rfl, rfl, h1.symm, rfl⟩, g⟩
  · obtain ⟨h1, h2, rfl⟩ := h
    rw [bs_length] at h1
    have hz : t[0]'(by omega) = 48 := by
      have h3 := idx_bs t 0 (by omega)
      simp only [List.drop_zero] at h3
      rw [h3] at h2
      simpa using h2
    refine (tv_plain_zero t hd h1 hz hs w hw).mono ?_
    rintro e w' ⟨rfl, g⟩
    exact ⟨⟨5, ⟨#[]⟩, 3, rfl, rfl, by omega⟩, g⟩

set_option maxHeartbeats 4000000 in
set_option maxRecDepth 100000 in
theorem tv_scalar (E : Pl.Env) (hE : E.scal = Pl.scalS) (w : World) (R B base : Nat) (s : ByteArray) (root : Int) (nv : Value) (L : List NdR) (own : Nat → Nat) (h : RdV w R B base s root nv L own) (hs : s.size ≤ 20000000) (hg : GW base w)
    (i d : Int) (n : Nat) (hi : i = n) (hn : n ≤ s.size) (X : Pl.Res (Nat × Nat × Pl.Nds))
    (hX : (match E.scal ((bs s).drop n) with
      | .non => .non
      | .bad c _ => .bad c n
      | .ok (k, t, m) => if Pl.room (L.map (·.nd)) then .ok ((L.map (·.nd)).length, n + m, L.map (·.nd) ++ [Pl.leaf k t n (n + m)]) else .non : Pl.Res (Nat × Nat × Pl.Nds)) = X) (hne : X ≠ .non) :
    Calls Tryz.prog 42 #[.pointer (some ⟨R, 0, none⟩), .int .i64 i, .int .i64 d] w (ValPost s R B base root own w X) := by
  subst hi
  rw [hE] at hX
  obtain ⟨c0, c1, c2, c3, fz⟩ := h.cells
  have hR := h.R_lt
  have H := Lib.hid h
  have HG := Lib.hid hg
  have hnR : Hid (¬ FV own w.heap.size) := h.not_new (Nat.le_refl _)
  -- the rest of the text, and its token
  obtain ⟨rest, hrest⟩ : ∃ rest, s.extract n s.size = rest := ⟨_, rfl⟩
  have hbr : bs rest = (bs s).drop n := by rw [← hrest, bs_extract]
  have hrz : rest.size = s.size - n := by rw [← bs_length, hbr, List.length_drop, bs_length]
  obtain ⟨k, hk⟩ : ∃ k, (Pl.tok (bs rest)).length = k := ⟨_, rfl⟩
  have hkr : k ≤ rest.size := by rw [← hk, ← bs_length]; exact tok_le _
  obtain ⟨tk, htk⟩ : ∃ tk, rest.extract 0 k = tk := ⟨_, rfl⟩
  have hbt : bs tk = Pl.tok (bs rest) := by
    rw [← htk, ← hk]
    show (rest.extract 0 _).data.toList = _
    rw [ByteArray.data_extract, Array.toList_extract, List.extract_eq_take_drop]
    simp only [List.drop_zero, Nat.sub_zero]
    exact (List.prefix_iff_eq_take.1 (List.takeWhile_prefix Pl.isPart)).symm
  have htz : tk.size = k := by rw [← bs_length, hbt, hk]
  obtain ⟨tr, htr⟩ : ∃ tr, rest.extract k rest.size = tr := ⟨_, rfl⟩
  have htrz : tr.size = rest.size - k := by rw [← htr]; simp
  rw [← hbr] at hX
  unfold Pl.scalS at hX
  cases hf : (Pl.formM (bs rest) Pl.timeF || Pl.formM (bs rest) Pl.dateF) with
  | true => rw [hf, if_pos rfl] at hX; exact absurd hX.symm hne
  | false =>
  rw [hf, if_neg (by simp), ← hbt] at hX
  simp only [Bool.or_eq_false_iff] at hf
  have hwr : IntKind.i64.wrap ((rest.size : Int) - (tr.size : Int)) = (k : Int) := by rw [IntWalk.i64_in _ ⟨by omega, by omega⟩]; omega
  have hwn : IntKind.i64.wrap ((n : Int) + (k : Int)) = (n : Int) + (k : Int) := IntWalk.i64_in _ ⟨by omega, by omega⟩
  have hnk : n + k ≤ s.size := by omega
  have hk0 : (0 : Int) ≤ (k : Int) := by omega
  have hkr' : (k : Int) ≤ (rest.size : Int) := by omega
  have HL := Lib.hid (dt_Long0 rest (by omega) hf.1 hf.2)
  have HT := Lib.hid (trim_part rest)
  rw [hk, htr] at HT
  have HRZ := Lib.hid hrz
  have HTZ := Lib.hid htz
  have hr20 : rest.size ≤ 20000000 := by omega
  cases hy : Pl.digits (bs tk) with
  | non => rw [hy] at hX; exact absurd hX.symm hne
  | bad c p =>
    rw [hy] at hX
    simp only at hX
    subst hX
    have HP := Lib.hid (tv_plain_dig tk (by omega) _ hy (by simp))
    clear hne hf hbt hk fz c0 c1 c3 h hg hy hbr hrz htz htrz
    go_enter Tryz.func42, Tryz.ntmps42
    go_wp2_with fail
    refine (HL.out _).mono ?_
    rintro e w1 ⟨rfl, g1⟩
    go_wp2_with fail
    refine (HT.out _).mono ?_
    rintro e w2 ⟨rfl, g2⟩
    go_wp2_with fail
    refine (HP.out _ (HG.out.gr (by (repeat (first | exact Gr.refl _ | assumption | refine Gr.drew ?_ | refine Gr.drewN ?_ _ | refine Gr.alloc ?_ _ | (refine Gr.setCell ?_ (by first | (simp; done) | (simp; omega)) _) | refine Gr.trans ?_ (by assumption))))).int).mono ?_
    rintro e w3 ⟨⟨kk, x, cc, rfl, hcc⟩, g3⟩
    obtain ⟨rfl, hc⟩ := hcc
    have hF := (((FX.new w (.int .i64 0) (.int .i64 0) 25).gr g1).gr g2).gr g3
    obtain ⟨q0, q1, qf, ql⟩ := hF
    have hcb : ((cc : Int) != 0) = true := by simp; omega
    have hG3 : Gr w w3 := by (repeat (first | exact Gr.refl _ | assumption | refine Gr.drew ?_ | refine Gr.drewN ?_ _ | refine Gr.alloc ?_ _ | (refine Gr.setCell ?_ (by first | (simp; done) | (simp; omega)) _) | refine Gr.trans ?_ (by assumption)))
    clear g1 g2 g3
    go_wp2_with fail
    exact bodyPost_ret (v := .tuple #[.int .i64 0, .int .i64 0, fv cc n]) (by simp [results, Tryz.results42, go_sem, q0, q1, qf, ql]) rfl ⟨rfl, hc, FV own, by (repeat (first | exact St.refl _ _ | assumption | exact Gr.st (by assumption) | refine St.drew ?_ | refine St.drewN ?_ _ | refine St.alloc ?_ _ | (refine St.setCell ?_ (.inr (by first | (simp; done) | (simp; omega))) _) | refine St.trans ?_ (by assumption) | refine St.gr ?_ (by assumption))), H.out.rk.gr (by (repeat (first | exact Gr.refl _ | assumption | refine Gr.drew ?_ | refine Gr.drewN ?_ _ | refine Gr.alloc ?_ _ | (refine Gr.setCell ?_ (by first | (simp; done) | (simp; omega)) _) | refine Gr.trans ?_ (by assumption))))⟩
  | ok r =>
    obtain ⟨kk0, t0, m0⟩ := r
    rw [hy] at hX
    simp only at hX
    cases hr : Pl.room (L.map (·.nd)) with
    | false => rw [hr, if_neg (by simp)] at hX; exact absurd hX.symm hne
    | true =>
    rw [hr, if_pos rfl] at hX
    subst hX
    have HP := Lib.hid (tv_plain_dig tk (by omega) _ hy (by simp))
    have HR := Lib.hid hr
    clear hne hf hbt hk fz c0 c1 c3 h hg hy hbr hrz htz htrz hr
    go_enter Tryz.func42, Tryz.ntmps42
    go_wp2_with fail
    refine (HL.out _).mono ?_
    rintro e w1 ⟨rfl, g1⟩
    go_wp2_with fail
    refine (HT.out _).mono ?_
    rintro e w2 ⟨rfl, g2⟩
    go_wp2_with fail
    refine (HP.out _ (HG.out.gr (by (repeat (first | exact Gr.refl _ | assumption | refine Gr.drew ?_ | refine Gr.drewN ?_ _ | refine Gr.alloc ?_ _ | (refine Gr.setCell ?_ (by first | (simp; done) | (simp; omega)) _) | refine Gr.trans ?_ (by assumption))))).int).mono ?_
    rintro e w3 ⟨⟨kk, x, cc, rfl, hcc⟩, g3⟩
    obtain ⟨hkk, hk8, hx, ht0, hm0, hc0⟩ := hcc
    have hF := (((FX.new w (.int .i64 0) (.int .i64 0) 25).gr g1).gr g2).gr g3
    have hG3 : Gr w w3 := by (repeat (first | exact Gr.refl _ | assumption | refine Gr.drew ?_ | refine Gr.drewN ?_ _ | refine Gr.alloc ?_ _ | (refine Gr.setCell ?_ (by first | (simp; done) | (simp; omega)) _) | refine Gr.trans ?_ (by assumption)))
    clear g1 g2 g3
    subst hc0 hx hkk
    have HT0 := Lib.hid ht0
    have HM0 := Lib.hid (hm0.trans HTZ.out)
    clear ht0 hm0
    go_wp2_with fail
    have hS : FX w.heap.size (.int .i64 0) (.int .i64 0) w3.drew := hF.gr (Gr.refl _).drew
    refine Reg.begin' (W := fun i => i != 12) (S := FX w.heap.size (.int .i64 0) (.int .i64 0)) (by kernel_rfl) ?_
    refine Reg.takeY (i := 0) (v := ?_) rfl (by kernel_rfl) (by kernel_rfl) (by kernel_rfl) (fun _ _ _ h => h) (by rfl) ?_ ?_
    rotate_left
    · (intro w; go_simp; try with_reducible rfl)
    try simp only [Act.put, List.getElem_toArray, List.getElem_cons_succ, List.getElem_cons_zero, List.setIfInBounds_toArray, List.set_cons_zero, List.set_cons_succ]
    refine Reg.takeY (i := 1) (v := ?_) rfl (by kernel_rfl) (by kernel_rfl) (by kernel_rfl) (fun _ _ _ h => h) (by rfl) ?_ ?_
    rotate_left
    · (intro w; go_simp; try with_reducible rfl)
    try simp only [Act.put, List.getElem_toArray, List.getElem_cons_succ, List.getElem_cons_zero, List.setIfInBounds_toArray, List.set_cons_zero, List.set_cons_succ]
    refine Reg.takeY (i := 2) (v := ?_) rfl (by kernel_rfl) (by kernel_rfl) (by kernel_rfl) (fun _ _ _ h => h) (by rfl) ?_ ?_
    rotate_left
    · (intro w; go_simp; try with_reducible rfl)
    try simp only [Act.put, List.getElem_toArray, List.getElem_cons_succ, List.getElem_cons_zero, List.setIfInBounds_toArray, List.set_cons_zero, List.set_cons_succ]
    refine Reg.takeY (i := 3) (v := ?_) rfl (by kernel_rfl) (by kernel_rfl) (by kernel_rfl) (fun _ _ _ h => h) (by rfl) ?_ ?_
    rotate_left
    · (intro w; go_simp; try with_reducible rfl)
    try simp only [Act.put, List.getElem_toArray, List.getElem_cons_succ, List.getElem_cons_zero, List.setIfInBounds_toArray, List.set_cons_zero, List.set_cons_succ]
    refine Reg.takeY (i := 4) (v := ?_) rfl (by kernel_rfl) (by kernel_rfl) (by kernel_rfl) (fun _ _ _ h => h) (by rfl) ?_ ?_
    rotate_left
    · (intro w; go_simp; try with_reducible rfl)
    try simp only [Act.put, List.getElem_toArray, List.getElem_cons_succ, List.getElem_cons_zero, List.setIfInBounds_toArray, List.set_cons_zero, List.set_cons_succ]
    refine Reg.takeY (i := 5) (v := ?_) rfl (by kernel_rfl) (by kernel_rfl) (by kernel_rfl) (fun _ _ _ h => h) (by rfl) ?_ ?_
    rotate_left
    · (intro w; go_simp; try with_reducible rfl)
    try simp only [Act.put, List.getElem_toArray, List.getElem_cons_succ, List.getElem_cons_zero, List.setIfInBounds_toArray, List.set_cons_zero, List.set_cons_succ]
    refine Reg.takeY (i := 6) (v := ?_) rfl (by kernel_rfl) (by kernel_rfl) (by kernel_rfl) (fun _ _ _ h => h) (by rfl) ?_ ?_
    rotate_left
    · (intro w; go_simp; try with_reducible rfl)
    try simp only [Act.put, List.getElem_toArray, List.getElem_cons_succ, List.getElem_cons_zero, List.setIfInBounds_toArray, List.set_cons_zero, List.set_cons_succ]
    refine Reg.takeY (i := 8) (v := ?_) rfl (by kernel_rfl) (by kernel_rfl) (by kernel_rfl) (fun _ _ _ h => h) (by rfl) ?_ ?_
    rotate_left
    · (intro w; go_simp; try with_reducible rfl)
    try simp only [Act.put, List.getElem_toArray, List.getElem_cons_succ, List.getElem_cons_zero, List.setIfInBounds_toArray, List.set_cons_zero, List.set_cons_succ]
    refine Reg.take (i := 9) (v := ?_) rfl (by kernel_rfl) (by kernel_rfl) (by kernel_rfl) (by kernel_rfl) (by kernel_rfl) (fun _ _ _ h => h) hS (by rfl) ?_ ?_
    rotate_left
    · (intro w hSw; obtain ⟨q0, q1, qf, ql⟩ := hSw; go_simp; try with_reducible rfl)
    try simp only [Act.put, List.getElem_toArray, List.getElem_cons_succ, List.getElem_cons_zero, List.setIfInBounds_toArray, List.set_cons_zero, List.set_cons_succ]
    refine Reg.all (rs := [7]) (by kernel_rfl) (by simp) ?_
    intro j hj
    obtain rfl := List.mem_singleton.1 hj
    clear hj
    refine Reg.one (i := 7) rfl (by rfl) ?_
    go_simp
    refine (leaf_node w w3.drew R B base s root nv L own H.out hG3.drew HR.out kk hk8 x n (n + k) _ rfl _ (by simp)).mono ?_
    rintro e w4 ⟨rfl, nv', own', hr3, hst3, hown3, hst3'⟩
    have hF4 := hS.st hst3' hnR.out
    refine ⟨by first | exact hF4 | exact fun _ => hF4 | exact fun _ _ => hF4, ?_⟩
    try simp only [Act.put, List.setIfInBounds_toArray, List.set_cons_zero, List.set_cons_succ]
    refine Reg.takeY (i := 10) (v := ?_) rfl (by kernel_rfl) (by kernel_rfl) (by kernel_rfl) (fun _ _ _ h => h) (by rfl) ?_ ?_
    rotate_left
    · (intro w; go_simp; try with_reducible rfl)
    try simp only [Act.put, List.getElem_toArray, List.getElem_cons_succ, List.getElem_cons_zero, List.setIfInBounds_toArray, List.set_cons_zero, List.set_cons_succ]
    refine Reg.takeY (i := 11) (v := ?_) rfl (by kernel_rfl) (by kernel_rfl) (by kernel_rfl) (fun _ _ _ h => h) (by rfl) ?_ ?_
    rotate_left
    · (intro w; go_simp; try with_reducible rfl)
    try simp only [Act.put, List.getElem_toArray, List.getElem_cons_succ, List.getElem_cons_zero, List.setIfInBounds_toArray, List.set_cons_zero, List.set_cons_succ]
    obtain ⟨p0, p1, pf, pl⟩ := hF4
    have hn3 : ¬ FV own' w.heap.size := by
      intro hf
      rcases hown3 _ hf with e | e
      · exact hnR.out e
      · have := hS.2.2.2; omega
    have H3 := Lib.hid hr3
    have HS3 := Lib.hid hst3
    have HO3 := Lib.hid hown3
    clear hr3 hst3 hown3 hst3'
    refine Reg.all (rs := [12]) (by kernel_rfl) (by simp) ?_
    intro j hj
    obtain rfl := List.mem_singleton.1 hj
    clear hj
    refine Reg.one (i := 12) rfl (by rfl) ?_
    go_simp
    refine Reg.done (by kernel_rfl) ?_ _
    go_wp2_with fail
    refine bodyPost_ret (v := .tuple #[.int .i64 L.length, .int .i64 (n + k : Nat), f0]) (by simp [results, Tryz.results42, go_sem, p0, p1, pf, pl]) rfl ?_
    rw [HT0.out, HM0.out]
    refine ⟨by simp, hnk, by simp, nv', _, own', (H3.out.setCell hn3 _).setCell hn3 _, by simp [leafR, bs], ?_, fun k hk => (HO3.out k hk).imp id (fun e => Nat.le_trans hG3.size e)⟩
    exact (HS3.out.setCell (.inr (Nat.le_refl _)) _).setCell (.inr (Nat.le_refl _)) _

end Go.Proofs.YtkcnbhenhmmfgaaGreatDoor
