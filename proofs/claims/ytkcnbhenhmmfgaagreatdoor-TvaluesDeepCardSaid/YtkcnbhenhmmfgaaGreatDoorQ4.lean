/-
  Walk: common.
-/
import Derived.Test.YtkcnbhenhmmfgaaGreatDoorQ3
import Derived.Deep.RegionHeld3
import Derived.StillTailTactics
import Derived.Deep.DrawnRows
import Derived.Lib.ConvBytes
set_option linter.all false
set_option linter.unusedVariables false
set_option linter.unusedSimpArgs false
namespace Go.Proofs.YtkcnbhenhmmfgaaGreatDoor
open Go.RowKit Go.Joins

def CommonPost (R : Nat) (s : ByteArray) (a : Nat) (q : UInt8) (out : List UInt8) (ov : Value) (w : World) (c : Option Pl.SR) (e : Ending) (w' : World) : Prop :=
  match c with
  | none => e = .returned (.tuple #[.bool false, .bool false, f0]) ∧ Gr w w'
  | some (.go n t over) => e = .returned (.tuple #[.bool true, .bool over, f0]) ∧ ∃ ov', RdQ w' R s (a + n) q (out ++ t) ov' ∧ St (FQ R ov) (FQ R ov') w w'
  | some (.bad p) => e = .returned (.tuple #[.bool true, .bool false, fv 3 (a + p)]) ∧ Gr w w'

theorem marks_go (q : UInt8) (l : List UInt8) : ∃ n t b, Pl.marks q l = .go n t b := by
  unfold Pl.marks; simp only; split <;> exact ⟨_, _, _, rfl⟩

theorem keep2 {w : World} {b : Nat} {x y u v : Value} (h0 : w.cell? ⟨b, 0, none⟩ = some u) (h1 : w.cell? ⟨b, 1, none⟩ = some v) :
    ((w.setCell ⟨b, 0, none⟩ x).setCell ⟨b, 1, none⟩ y).cell? ⟨b, 0, none⟩ = some x ∧ ((w.setCell ⟨b, 0, none⟩ x).setCell ⟨b, 1, none⟩ y).cell? ⟨b, 1, none⟩ = some y := by
  refine ⟨?_, ?_⟩
  · rw [World.cell?_setCell_other _ _ _ _ (by simp), World.cell?_setCell_same' _ _ _ (by rw [h0]; rfl)]
  · rw [World.cell?_setCell_same' _ _ _ (by rw [World.cell?_setCell_other _ _ _ _ (by simp), h1]; rfl)]

theorem keep2d {w : World} {b : Nat} {x y u v : Value} (h0 : w.cell? ⟨b, 0, none⟩ = some u) (h1 : w.cell? ⟨b, 1, none⟩ = some v) :
    ((w.setCell ⟨b, 0, none⟩ x).setCell ⟨b, 1, none⟩ y).drew.cell? ⟨b, 0, none⟩ = some x ∧ ((w.setCell ⟨b, 0, none⟩ x).setCell ⟨b, 1, none⟩ y).drew.cell? ⟨b, 1, none⟩ = some y := keep2 h0 h1

set_option maxHeartbeats 1000000 in
theorem tq_common_mark (w : World) (R : Nat) (s : ByteArray) (a : Nat) (q : UInt8) (out : List UInt8) (ov : Value) (h : RdQ w R s a q out ov)
    (hlt : a < s.size) (hs : s.size ≤ 20000000) (ho : out.length ≤ a) (hm : (s[a].toNat == q.toNat) = true) :
    Calls Tryz.prog 208 #[.pointer (some ⟨R, 0, none⟩)] w (CommonPost R s a q out ov w (Pl.common q ((bs s).drop a))) := by
  have hcm : Pl.common q ((bs s).drop a) = some (Pl.marks q ((bs s).drop a)) := by
    rw [idx_bs s a hlt]; unfold Pl.common; simp only; rw [if_pos hm]
  obtain ⟨n, t, b, hmk⟩ := marks_go q ((bs s).drop a)
  rw [hcm, hmk]
  obtain ⟨X, hX⟩ : ∃ X : Ending → World → Prop, X = CommonPost R s a q out ov w (some (.go n t b)) := ⟨_, rfl⟩
  rw [← hX]
  have HX := Lib.hid hX
  have HM := Lib.hid hmk
  obtain ⟨b1, b2⟩ := beqs _ _ _ hm
  obtain ⟨c0, c1, c2, c3, fz⟩ := h.cells
  have hR := h.lt
  have HS := Lib.hid h
  clear fz h hm hmk hcm hX c3
  go_enter Tryz.func208, Tryz.ntmps208
  go_wp2_with fail
  go_quiet (fail)
  go_wp2_with fail
  go_region_held3 (fun w' => w'.cell? ⟨w.heap.size, 0, none⟩ = some (.int .i64 0) ∧ w'.cell? ⟨w.heap.size, 1, none⟩ = some (.int .i64 0)) (first | go_keep | exact keep2 (by assumption) (by assumption) | exact keep2d (by assumption) (by assumption))
    (first | (go_at_call 209; refine (tq_marks _ R s a q out ov (by (repeat (first | exact HS.out | refine RdQ.drew ?_ | refine RdQ.drewN ?_ _ | refine RdQ.alloc ?_ _ | refine RdQ.setCell ?_ (by assumption) _ | refine RdQ.gr ?_ (by assumption)))) hlt hs ho).mono ?_; rw [HM.out]; rintro e w1 ⟨rfl, ov', hr, hst⟩; have hb3 := hst.use w.heap.size (by simp) (fun hF => by have := HS.out.own_lt hF; omega); obtain ⟨hc1, hf1⟩ := hb3; have e0 : w1.cell? ⟨w.heap.size, 0, none⟩ = some (.int .i64 0) := (by rw [hc1]; simp [go_sem]); have e1 : w1.cell? ⟨w.heap.size, 1, none⟩ = some (.int .i64 0) := (by rw [hc1]; simp [go_sem]); have e2 : w1.frozen? ⟨w.heap.size, 0, none⟩ = false := (by rw [hf1]; simp [go_sem]); have e3 : w1.frozen? ⟨w.heap.size, 1, none⟩ = false := (by rw [hf1]; simp [go_sem]); clear hc1 hf1; have HR := Lib.hid hr; have HT := Lib.hid hst; clear hr hst))
  all_goals go_wp2_with fail
  refine bodyPost_ret (v := .tuple #[.bool true, .bool b, f0]) (by simp [results, Tryz.results208, go_sem, e0, e1]) rfl ?_
  rw [HX.out]
  have hst := HT.out
  have hn3 : ¬ FQ R ov' w.heap.size := fun hF => by
    rcases HT.out.own _ hF with hF | hF
    · have := HS.out.own_lt hF; omega
    · simp at hF; omega
  exact ⟨rfl, ov', by (repeat (first | exact HR.out | refine RdQ.drew ?_ | refine RdQ.drewN ?_ _ | refine RdQ.alloc ?_ _ | refine RdQ.setCell ?_ (by assumption) _ | refine RdQ.gr ?_ (by assumption))), by (repeat (first | exact St.refl _ _ | assumption | exact Gr.st (by assumption) | refine St.drew ?_ | refine St.drewN ?_ _ | refine St.alloc ?_ _ | (refine St.setCell ?_ (.inr (by first | (simp; done) | (simp; omega))) _) | refine St.trans ?_ (by assumption) | refine St.gr ?_ (by assumption)))⟩

set_option maxHeartbeats 1000000 in
theorem tq_common_none (w : World) (R : Nat) (s : ByteArray) (a : Nat) (q : UInt8) (out : List UInt8) (ov : Value) (h : RdQ w R s a q out ov)
    (hlt : a < s.size) (hs : s.size ≤ 20000000) (hm : (s[a].toNat == q.toNat) = false) (hf : Pl.feed ((bs s).drop a) = .ok 0) :
    Calls Tryz.prog 208 #[.pointer (some ⟨R, 0, none⟩)] w fun e w' => e = .returned (.tuple #[.bool false, .bool false, f0]) ∧ Gr w w' := by
  have HF := Lib.hid hf
  obtain ⟨b1, b2⟩ := beqs _ _ _ hm
  obtain ⟨c0, c1, c2, c3, fz⟩ := h.cells
  have hR := h.lt
  have HS := Lib.hid h
  clear fz h hm hf c3
  go_enter Tryz.func208, Tryz.ntmps208
  go_wp2_with fail
  go_quiet (fail)
  go_wp2_with fail
  refine (tq_feed _ R s a q out ov (by (repeat (first | exact HS.out | refine RdQ.drew ?_ | refine RdQ.drewN ?_ _ | refine RdQ.alloc ?_ _ | refine RdQ.setCell ?_ (by assumption) _ | refine RdQ.gr ?_ (by assumption)))) hlt hs).mono ?_
  rw [HF.out]
  rintro e w1 ⟨rfl, g1⟩
  obtain ⟨hc1, hf1, hz1⟩ := g1.use
  simp at hz1
  have e0 : w1.cell? ⟨w.heap.size, 0, none⟩ = some (.int .i64 0) := (by rw [hc1 _ _ (by simp)]; simp [go_sem])
  have e1 : w1.cell? ⟨w.heap.size, 1, none⟩ = some (.int .i64 0) := (by rw [hc1 _ _ (by simp)]; simp [go_sem])
  have e2 : w1.frozen? ⟨w.heap.size, 0, none⟩ = false := (by rw [hf1 _ _ (by simp)]; simp [go_sem])
  have e3 : w1.frozen? ⟨w.heap.size, 1, none⟩ = false := (by rw [hf1 _ _ (by simp)]; simp [go_sem])
  clear hc1 hf1
  go_wp2_with fail
  have k2 := keep2 (x := .int .i64 0) (y := .int .i64 0) e0 e1
  have k3 : ∀ o, ((w1.setCell ⟨w.heap.size, 0, none⟩ (.int .i64 0)).setCell ⟨w.heap.size, 1, none⟩ (.int .i64 0)).frozen? ⟨w.heap.size, o, none⟩ = w1.frozen? ⟨w.heap.size, o, none⟩ := by
    intro o; rw [World.frozen?_setCell, World.frozen?_setCell]
  have g2 : Gr w ((w1.setCell ⟨w.heap.size, 0, none⟩ (.int .i64 0)).setCell ⟨w.heap.size, 1, none⟩ (.int .i64 0)) := by (repeat (first | exact Gr.refl _ | assumption | refine Gr.drew ?_ | refine Gr.drewN ?_ _ | refine Gr.alloc ?_ _ | (refine Gr.setCell ?_ (by first | (simp; done) | (simp; omega)) _) | refine Gr.trans ?_ (by assumption)))
  generalize (w1.setCell ⟨w.heap.size, 0, none⟩ (.int .i64 0)).setCell ⟨w.heap.size, 1, none⟩ (.int .i64 0) = W2 at *
  obtain ⟨m0, m1⟩ := k2
  have m2 := (k3 0).trans e2
  have m3 := (k3 1).trans e3
  clear e0 e1 e2 e3 k3 hz1
  set_option maxRecDepth 100000 in
  go_still_tail 10, (by kernel_rfl)
  go_wp2_with fail
  exact bodyPost_ret (v := .tuple #[.bool false, .bool false, f0]) (by simp [results, Tryz.results208, go_sem, m0, m1]) rfl ⟨rfl, by (repeat (first | exact Gr.refl _ | assumption | refine Gr.drew ?_ | refine Gr.drewN ?_ _ | refine Gr.alloc ?_ _ | (refine Gr.setCell ?_ (by first | (simp; done) | (simp; omega)) _) | refine Gr.trans ?_ (by assumption)))⟩

set_option maxHeartbeats 1000000 in
theorem tq_common_bad (w : World) (R : Nat) (s : ByteArray) (a : Nat) (q : UInt8) (out : List UInt8) (ov : Value) (h : RdQ w R s a q out ov)
    (hlt : a < s.size) (hs : s.size ≤ 20000000) (hm : (s[a].toNat == q.toNat) = false) (hf : Pl.feed ((bs s).drop a) = .bad 3 1) :
    Calls Tryz.prog 208 #[.pointer (some ⟨R, 0, none⟩)] w fun e w' => e = .returned (.tuple #[.bool true, .bool false, fv 3 (a + 1)]) ∧ Gr w w' := by
  have HF := Lib.hid hf
  obtain ⟨b1, b2⟩ := beqs _ _ _ hm
  obtain ⟨c0, c1, c2, c3, fz⟩ := h.cells
  have hR := h.lt
  have HS := Lib.hid h
  clear fz h hm hf c3
  go_enter Tryz.func208, Tryz.ntmps208
  go_wp2_with fail
  go_quiet (fail)
  go_wp2_with fail
  refine (tq_feed _ R s a q out ov (by (repeat (first | exact HS.out | refine RdQ.drew ?_ | refine RdQ.drewN ?_ _ | refine RdQ.alloc ?_ _ | refine RdQ.setCell ?_ (by assumption) _ | refine RdQ.gr ?_ (by assumption)))) hlt hs).mono ?_
  rw [HF.out]
  rintro e w1 ⟨rfl, g1⟩
  obtain ⟨hc1, hf1, hz1⟩ := g1.use
  simp at hz1
  have e0 : w1.cell? ⟨w.heap.size, 0, none⟩ = some (.int .i64 0) := (by rw [hc1 _ _ (by simp)]; simp [go_sem])
  have e1 : w1.cell? ⟨w.heap.size, 1, none⟩ = some (.int .i64 0) := (by rw [hc1 _ _ (by simp)]; simp [go_sem])
  have e2 : w1.frozen? ⟨w.heap.size, 0, none⟩ = false := (by rw [hf1 _ _ (by simp)]; simp [go_sem])
  have e3 : w1.frozen? ⟨w.heap.size, 1, none⟩ = false := (by rw [hf1 _ _ (by simp)]; simp [go_sem])
  clear hc1 hf1
  go_wp2_with fail
  have k2 := keep2 (x := .int .i64 3) (y := .int .i64 ((a : Int) + 1)) e0 e1
  have k3 : ∀ o, ((w1.setCell ⟨w.heap.size, 0, none⟩ (.int .i64 3)).setCell ⟨w.heap.size, 1, none⟩ (.int .i64 ((a : Int) + 1))).frozen? ⟨w.heap.size, o, none⟩ = w1.frozen? ⟨w.heap.size, o, none⟩ := by
    intro o; rw [World.frozen?_setCell, World.frozen?_setCell]
  have g2 : Gr w ((w1.setCell ⟨w.heap.size, 0, none⟩ (.int .i64 3)).setCell ⟨w.heap.size, 1, none⟩ (.int .i64 ((a : Int) + 1))) := by (repeat (first | exact Gr.refl _ | assumption | refine Gr.drew ?_ | refine Gr.drewN ?_ _ | refine Gr.alloc ?_ _ | (refine Gr.setCell ?_ (by first | (simp; done) | (simp; omega)) _) | refine Gr.trans ?_ (by assumption)))
  generalize (w1.setCell ⟨w.heap.size, 0, none⟩ (.int .i64 3)).setCell ⟨w.heap.size, 1, none⟩ (.int .i64 ((a : Int) + 1)) = W2 at *
  obtain ⟨m0, m1⟩ := k2
  have m2 := (k3 0).trans e2
  have m3 := (k3 1).trans e3
  clear e0 e1 e2 e3 k3 hz1
  set_option maxRecDepth 100000 in
  go_still_tail 10, (by kernel_rfl)
  go_wp2_with fail
  exact bodyPost_ret (v := .tuple #[.bool true, .bool false, fv 3 (a + 1)]) (by simp [results, Tryz.results208, go_sem, m0, m1]) rfl ⟨rfl, by (repeat (first | exact Gr.refl _ | assumption | refine Gr.drew ?_ | refine Gr.drewN ?_ _ | refine Gr.alloc ?_ _ | (refine Gr.setCell ?_ (by first | (simp; done) | (simp; omega)) _) | refine Gr.trans ?_ (by assumption)))⟩

attribute [local go_sem ↓] Go.wp_at_zero Go.wp_at_succ

theorem tq_take' (w : World) (R : Nat) (s : ByteArray) (a : Nat) (q : UInt8) (out : List UInt8) (ov : Value) (h : RdQ w R s a q out ov)
    (i : Int) (m : Nat) (hi : i = m) (ha : a + m ≤ 30000000) (nb : List UInt8) (tb tof c l : Nat) (hl : l = nb.length) (hne : nb ≠ []) (had : tb ≠ R)
    (hnews : ∀ j u, (nb.map byteV)[j]? = some u → w.cell? ⟨tb, tof + j, none⟩ = some u) (hlen : out.length + nb.length ≤ 30000000) :
    Calls Tryz.prog 200 #[.pointer (some ⟨R, 0, none⟩), .int .i64 i, .slice (some ⟨tb, tof, none⟩) l c] w fun e w' =>
      e = .returned (.tuple #[]) ∧ ∃ ov', RdQ w' R s (a + m) q (out ++ nb) ov' ∧ St (FQ R ov) (FQ R ov') w w' := by
  subst hl
  exact tq_take w R s a q out ov h i m hi ha nb tb tof c hne had hnews hlen

theorem RdQ.bytes {w R s a q out ov} (h : RdQ w R s a q out ov) (e : TypeId) (x : ByteArray) : RdQ (Lib.bytesWorld w e x) R s a q out ov := h.gr (below_bytesWorld _ _ _ _ (Nat.le_refl _))
theorem Gr.bytes {a b : World} (h : Gr a b) (e : TypeId) (x : ByteArray) : Gr a (Lib.bytesWorld b e x) := h.trans (below_bytesWorld _ _ _ _ (Nat.le_refl _))
theorem bs_slice (s : ByteArray) (a n : Nat) (h : a + n ≤ s.size) : bs (s.extract a (a + n)) = ((bs s).drop a).take n := by
  simp only [bs, Lib.extract_data]
  congr 1; omega

theorem news_bytes (W : World) (s : ByteArray) (a n : Nat) (h : a + n ≤ s.size) (b : Nat) (hb : b = W.heap.size) :
    ∀ j u, ((((bs s).drop a).take n).map byteV)[j]? = some u → (Lib.bytesWorld W 5 (s.extract a (a + n))).cell? ⟨b, 0 + j, none⟩ = some u := by
  subst hb
  intro j u hu
  rw [← bs_slice s a n h] at hu
  have hj : j < (s.extract a (a + n)).size := by
    have := (List.getElem?_eq_some_iff.1 hu).1
    rw [List.length_map, bs_length] at this
    exact this
  rw [Nat.zero_add, Lib.bytesWorld_cell _ _ _ j hj, ← hu]
  rw [List.getElem?_map, List.getD_eq_getElem?_getD]
  have : (bs (s.extract a (a + n)))[j]? = some ((bs (s.extract a (a + n)))[j]'(by rw [bs_length]; exact hj)) := List.getElem?_eq_getElem _
  rw [this]
  rfl

set_option maxHeartbeats 4000000 in
theorem tq_common_go (w : World) (R : Nat) (s : ByteArray) (a : Nat) (q : UInt8) (out : List UInt8) (ov : Value) (h : RdQ w R s a q out ov)
    (hlt : a < s.size) (hs : s.size ≤ 20000000) (ho : out.length ≤ a) (hm : (s[a].toNat == q.toNat) = false) (n : Nat) (hn : 0 < n) (hna : a + n ≤ s.size) (hf : Pl.feed ((bs s).drop a) = .ok n) :
    Calls Tryz.prog 208 #[.pointer (some ⟨R, 0, none⟩)] w fun e w' => e = .returned (.tuple #[.bool true, .bool false, f0]) ∧ ∃ ov', RdQ w' R s (a + n) q (out ++ ((bs s).drop a).take n) ov' ∧ St (FQ R ov) (FQ R ov') w w' := by
  have HF := Lib.hid hf
  obtain ⟨b1, b2⟩ := beqs _ _ _ hm
  obtain ⟨c0, c1, c2, c3, fz⟩ := h.cells
  have hR := h.lt
  have HS := Lib.hid h
  have hw := IntWalk.i64_in ((a : Int) + n) (by omega)
  have hk1 : (0 : Int) ≤ (a : Int) + n := by omega
  have hk2 : (a : Int) + n ≤ (s.size : Int) := by omega
  have hk3 : ((a : Int) + n).toNat = a + n := by omega
  have hcv := fun (w : World) (s : ByteArray) => Lib.run_convert_string_bytes (P := Tryz.prog) w 9 59 5 s Tryz.underlying9 Tryz.underlying59 Tryz.underlying5
  clear fz h hm hf c3
  go_enter Tryz.func208, Tryz.ntmps208
  go_wp2_with fail
  go_quiet (fail)
  go_wp2_with fail
  refine (tq_feed _ R s a q out ov (by (repeat (first | exact HS.out | refine RdQ.drew ?_ | refine RdQ.drewN ?_ _ | refine RdQ.alloc ?_ _ | refine RdQ.setCell ?_ (by assumption) _ | refine RdQ.gr ?_ (by assumption)))) hlt hs).mono ?_
  rw [HF.out]
  rintro e w1 ⟨rfl, g1⟩
  obtain ⟨hc1, hf1, hz1⟩ := g1.use
  simp at hz1
  have e0 : w1.cell? ⟨w.heap.size, 0, none⟩ = some (.int .i64 0) := (by rw [hc1 _ _ (by simp)]; simp [go_sem])
  have e1 : w1.cell? ⟨w.heap.size, 1, none⟩ = some (.int .i64 0) := (by rw [hc1 _ _ (by simp)]; simp [go_sem])
  have e2 : w1.frozen? ⟨w.heap.size, 0, none⟩ = false := (by rw [hf1 _ _ (by simp)]; simp [go_sem])
  have e3 : w1.frozen? ⟨w.heap.size, 1, none⟩ = false := (by rw [hf1 _ _ (by simp)]; simp [go_sem])
  clear hc1 hf1
  go_wp2_with fail
  have k2 := keep2 (x := .int .i64 0) (y := .int .i64 0) e0 e1
  have k3 : ∀ o, ((w1.setCell ⟨w.heap.size, 0, none⟩ (.int .i64 0)).setCell ⟨w.heap.size, 1, none⟩ (.int .i64 0)).frozen? ⟨w.heap.size, o, none⟩ = w1.frozen? ⟨w.heap.size, o, none⟩ := by
    intro o; rw [World.frozen?_setCell, World.frozen?_setCell]
  have g2 : Gr w ((w1.setCell ⟨w.heap.size, 0, none⟩ (.int .i64 0)).setCell ⟨w.heap.size, 1, none⟩ (.int .i64 0)) := by (repeat (first | exact Gr.refl _ | assumption | refine Gr.drew ?_ | refine Gr.drewN ?_ _ | refine Gr.alloc ?_ _ | (refine Gr.setCell ?_ (by first | (simp; done) | (simp; omega)) _) | refine Gr.trans ?_ (by assumption)))
  have hz2 : ((w1.setCell ⟨w.heap.size, 0, none⟩ (.int .i64 0)).setCell ⟨w.heap.size, 1, none⟩ (.int .i64 0)).heap.size = w1.heap.size := by simp [World.setCell]
  generalize (w1.setCell ⟨w.heap.size, 0, none⟩ (.int .i64 0)).setCell ⟨w.heap.size, 1, none⟩ (.int .i64 0) = W2 at *
  obtain ⟨m0, m1⟩ := k2
  have m2 := (k3 0).trans e2
  have m3 := (k3 1).trans e3
  have hz3 : w.heap.size + 1 ≤ W2.heap.size := by omega
  have hrd2 := HS.out.gr g2
  obtain ⟨d0, d1, d2, d3, dz⟩ := hrd2.cells
  have hR2 := hrd2.lt
  have HS2 := Lib.hid hrd2
  clear e0 e1 e2 e3 k3 hz1 hz2 hrd2 dz d3 c0 c1 c2
  have hsz : n = (((bs s).drop a).take n).length := by
    rw [List.length_take, List.length_drop, bs_length]; omega
  have HSZ := Lib.hid hsz
  clear hsz
  have HD : Hid (RdQ W2.drew R s a q out ov) := HS2.out.drew
  set_option maxRecDepth 100000 in
  go_region_with (go_at_call 200; refine (tq_take' _ R s a q out ov (HD.out.bytes _ _) n n rfl (by omega) (((bs s).drop a).take n) _ 0 _ _ HSZ.out (by intro e; have := HSZ.out; rw [e] at this; simp at this; omega) (by omega) (news_bytes _ s a n (by omega) _ (by simp)) (by rw [← HSZ.out]; omega)).mono ?_; rintro e w3 ⟨rfl, ov', hr, hst⟩; have HR := Lib.hid hr; have HT := Lib.hid hst; clear hr hst)
  all_goals (
    have hu := HT.out.use w.heap.size (by rw [Lib.bytesWorld_size]; simp; omega) (fun hF => by have := HS.out.own_lt hF; omega)
    have hob := Lib.bytesWorld_at_old W2.drew 5 (s.extract a (a + n)) w.heap.size (by simp; omega)
    have p0 : w3.cell? ⟨w.heap.size, 0, none⟩ = some (.int .i64 0) := (hu.1 0).trans ((World.cell?_of_block (w := W2.drew) (a := ⟨w.heap.size, 0, none⟩) hob).trans m0)
    have p1 : w3.cell? ⟨w.heap.size, 1, none⟩ = some (.int .i64 0) := (hu.1 1).trans ((World.cell?_of_block (w := W2.drew) (a := ⟨w.heap.size, 1, none⟩) hob).trans m1)
    have p2 : w3.frozen? ⟨w.heap.size, 0, none⟩ = false := (hu.2 0).trans ((World.frozen?_of_block (w := W2.drew) (a := ⟨w.heap.size, 0, none⟩) hob).trans m2)
    have p3 : w3.frozen? ⟨w.heap.size, 1, none⟩ = false := (hu.2 1).trans ((World.frozen?_of_block (w := W2.drew) (a := ⟨w.heap.size, 1, none⟩) hob).trans m3)
    have hn3 : ¬ FQ R ov' w.heap.size := fun hF => by
      rcases HT.out.own _ hF with hF | hF
      · have := HS.out.own_lt hF; omega
      · rw [Lib.bytesWorld_size] at hF; simp at hF; omega
    have hgW : Gr w (Lib.bytesWorld W2.drew 5 (s.extract a (a + n))) := g2.drew.bytes _ _
    have hgt : decide (0 < (n : Int)) = true := by simp; omega
    clear hu hob m0 m1 m2 m3 d0 d1 d2 hw
    go_wp2_with fail
    set_option maxRecDepth 100000 in
    go_still_tail 10, (by kernel_rfl)
    go_wp2_with fail
    refine bodyPost_ret (v := .tuple #[.bool true, .bool false, f0]) (by simp [results, Tryz.results208, go_sem, p0, p1]) rfl ⟨rfl, ov', by (repeat (first | exact HR.out | refine RdQ.drew ?_ | refine RdQ.drewN ?_ _ | refine RdQ.alloc ?_ _ | refine RdQ.setCell ?_ (by assumption) _ | refine RdQ.gr ?_ (by assumption))), ?_⟩
    have hst := HT.out
    (repeat (first | exact St.refl _ _ | assumption | exact Gr.st (by assumption) | refine St.drew ?_ | refine St.drewN ?_ _ | refine St.alloc ?_ _ | (refine St.setCell ?_ (.inr (by first | (simp; done) | (simp; omega))) _) | refine St.trans ?_ (by assumption) | refine St.gr ?_ (by assumption))))

end Go.Proofs.YtkcnbhenhmmfgaaGreatDoor
