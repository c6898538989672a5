/-
  Walks: the laws' helpers: root, scalar, fails, SameTexts.
-/
import Derived.Test.YtkcnbhenhmmfgaaGreatDoorVd
set_option linter.all false
set_option linter.unusedVariables false
set_option linter.unusedSimpArgs false
namespace Go.Proofs.YtkcnbhenhmmfgaaGreatDoor
open Go.RowKit Go.Shelf Go.Joins
attribute [local go_sem] Oper.semAt_some

theorem rowC_zero {w : World} {base e size n : Nat} {v : Value} {xs : List Value} (h : RowC w base e size v n xs) (h0 : n = 0) : ∃ a c, v = .slice a 0 c := by
  rcases rowC_form h with ⟨rfl, _⟩ | ⟨g, cap, rfl, _, _⟩
  · exact ⟨none, 0, rfl⟩
  · subst h0; exact ⟨some ⟨g, 0, none⟩, cap, rfl⟩

theorem TreeV.cells {w : World} {base g : Nat} {L : List NdR} (h : TreeV w base g L) (i : Nat) (r : NdR) (hr : L[i]? = some r) :
    w.cell? ⟨g, i * 7, none⟩ = some (.int .u8 r.nd.kind) ∧ w.cell? ⟨g, i * 7 + 1, none⟩ = some (strV r.nd.text) ∧ w.cell? ⟨g, i * 7 + 2, none⟩ = some r.kv ∧ w.cell? ⟨g, i * 7 + 3, none⟩ = some r.sv ∧ w.cell? ⟨g, i * 7 + 4, none⟩ = some r.uv ∧
    w.cell? ⟨g, i * 7 + 5, none⟩ = some (.int .i64 r.nd.sp.1) ∧ w.cell? ⟨g, i * 7 + 6, none⟩ = some (.int .i64 r.nd.sp.2) :=
  ⟨h.cell i r hr 0 _ rfl, h.cell i r hr 1 _ rfl, h.cell i r hr 2 _ rfl, h.cell i r hr 3 _ rfl, h.cell i r hr 4 _ rfl, h.cell i r hr 5 _ rfl, h.cell i r hr 6 _ rfl⟩

set_option maxHeartbeats 2000000 in
set_option maxRecDepth 100000 in
theorem la_scalar (w : World) (base g : Nat) (L : List NdR) (h : TreeV w base g L) (root : Int) (i : Nat) (r : NdR) (hr : L[i]? = some r) (k : Nat) (hk : r.nd.kind = k) (t : ByteArray) (ht : r.nd.text = bs t) (hs : r.nd.subs = []) (n : Nat) (hn : L.length = n) (hn2 : n ≤ 30000000) :
    Calls Tryz.prog 14 #[.agg #[.slice (some ⟨g, 0, none⟩) n n, .int .i64 root], .int .i64 i, .int .u8 k, .string t] w fun e w' => e = .returned (.bool true) ∧ Gr w w' := by
  subst hn
  have hi : i < L.length := (List.getElem?_eq_some_iff.1 hr).1
  obtain ⟨c0, c1, c2, c3, c4, c5, c6⟩ := h.cells i r hr
  obtain ⟨a, c, hu⟩ := rowC_zero (h.rows i r hr).2.2 (by rw [hs]; rfl)
  rw [hk] at c0
  rw [ht, strV_bs] at c1
  rw [hu] at c4
  have hg := h.lt.2
  have hi0 : decide ((0 : Int) ≤ (i : Int)) = true := by simp
  have hi1 : (0 : Int) ≤ (i : Int) := by omega
  have hi2 : (i : Int) < (L.length : Int) := by omega
  have hi3 : decide ((i : Int) < (L.length : Int)) = true := by simp; omega
  clear h hr hs ht hk hu c2 c3 c5 c6
  go_enter Tryz.func14, Tryz.ntmps14
  go_wp2_with fail
  go_ret
  exact ⟨rfl, by (repeat (first | exact Gr.refl _ | assumption | refine Gr.drew ?_ | refine Gr.drewN ?_ _ | refine Gr.alloc ?_ _ | (refine Gr.setCell ?_ (by first | (simp; done) | (simp; omega)) _) | refine Gr.trans ?_ (by assumption)))⟩

set_option maxHeartbeats 2000000 in
set_option maxRecDepth 100000 in
theorem la_root (w : World) (base g : Nat) (L : List NdR) (h : TreeV w base g L) (i : Nat) (r : NdR) (hr : L[i]? = some r) (k : Nat) (hk : r.nd.kind = k) (n : Nat) (hn : L.length = n) (hn2 : n ≤ 30000000) (a1 a2 a3 : Option Addr) (n1 n2 n3 d1 d2 d3 : Nat) (e1 : r.kv = .slice a1 n1 d1) (e2 : r.sv = .slice a2 n2 d2) (e3 : r.uv = .slice a3 n3 d3) :
    Calls Tryz.prog 13 #[.agg #[.slice (some ⟨g, 0, none⟩) n n, .int .i64 i], .int .u8 k] w fun e w' => e = .returned (.agg #[.int .u8 k, strV r.nd.text, .slice a1 n1 d1, .slice a2 n2 d2, .slice a3 n3 d3, .int .i64 r.nd.sp.1, .int .i64 r.nd.sp.2]) ∧ Gr w w' := by
  subst hn
  have hi : i < L.length := (List.getElem?_eq_some_iff.1 hr).1
  obtain ⟨c0, c1, c2, c3, c4, c5, c6⟩ := h.cells i r hr
  rw [hk] at c0
  rw [e1] at c2
  rw [e2] at c3
  rw [e3] at c4
  have hi5 : decide (L.length ≤ i) = false := by simp; omega
  have hg := h.lt.2
  have hi0 : decide ((i : Int) < 0) = false := by simp
  have hi1 : (0 : Int) ≤ (i : Int) := by omega
  have hi2 : (i : Int) < (L.length : Int) := by omega
  have hi3 : decide ((i : Int) ≥ (L.length : Int)) = false := by simp; omega
  have hi4 : decide ((L.length : Int) ≤ (i : Int)) = false := by simp; omega
  clear h hr hk e1 e2 e3
  go_enter Tryz.func13, Tryz.ntmps13
  go_wp2_with fail
  exact bodyPost_ret (v := .agg #[.int .u8 k, strV r.nd.text, .slice a1 n1 d1, .slice a2 n2 d2, .slice a3 n3 d3, .int .i64 r.nd.sp.1, .int .i64 r.nd.sp.2]) (by simp [results, Tryz.results13, go_sem]) rfl ⟨rfl, by (repeat (first | exact Gr.refl _ | assumption | refine Gr.drew ?_ | refine Gr.drewN ?_ _ | refine Gr.alloc ?_ _ | (refine Gr.setCell ?_ (by first | (simp; done) | (simp; omega)) _) | refine Gr.trans ?_ (by assumption)))⟩

set_option maxHeartbeats 2000000 in
set_option maxRecDepth 100000 in
theorem la_fails (w : World) (hw : IntW w) (s : ByteArray) (hs : s.size ≤ 20000000) (around : Int) (k : Nat) (hk : (min (max around 0) 256 : Int) = k) (c p : Nat) (hX : Pl.readS ⟨Pl.strS, Pl.scalS⟩ (bs s) 0 k = .bad c p) :
    Calls Tryz.prog 12 #[.string s, .int .i64 0, .int .i64 around, .int .i64 c, .int .i64 p] w fun e w' => e = .returned (.bool true) ∧ Gr w w' := by
  have HR := Lib.hid (tv_Read w hw s hs 0 0 rfl (by omega) around k hk _ hX (by simp))
  clear hX
  go_enter Tryz.func12, Tryz.ntmps12
  go_wp2_with fail
  refine HR.out.mono ?_
  rintro e w1 ⟨rfl, hc, g1⟩
  go_wp2_with fail
  go_ret
  exact ⟨rfl, by (repeat (first | exact Gr.refl _ | assumption | refine Gr.drew ?_ | refine Gr.drewN ?_ _ | refine Gr.alloc ?_ _ | (refine Gr.setCell ?_ (by first | (simp; done) | (simp; omega)) _) | refine Gr.trans ?_ (by assumption)))⟩

set_option maxHeartbeats 2000000 in
set_option maxRecDepth 100000 in
theorem la_same (w : World) (ga gb n ca cb : Nat) (xs : List Value) (hx : ∀ v ∈ xs, ∃ t, v = .string t) (hn : xs.length = n) (ha : ∀ j v, xs[j]? = some v → w.cell? ⟨ga, j, none⟩ = some v) (hb : ∀ j v, xs[j]? = some v → w.cell? ⟨gb, j, none⟩ = some v) (hn2 : n ≤ 30000000) (a b : Value)
    (hva : a = .slice (some ⟨ga, 0, none⟩) n ca) (hvb : b = .slice (some ⟨gb, 0, none⟩) n cb) :
    Calls Tryz.prog 15 #[a, b] w fun e w' => e = .returned (.bool true) ∧ Gr w w' := by
  subst hva hvb
  have hb0 : ((n : Int) != (n : Int)) = false := by simp
  have HX := Lib.hid hx
  have HN := Lib.hid hn
  have HA := Lib.hid ha
  have HB := Lib.hid hb
  clear hx hn ha hb
  go_enter Tryz.func15, Tryz.ntmps15
  go_wp2_with fail
  go_loopw [5] (fun v wr => ∃ i : Nat, v = .int .i64 i ∧ i ≤ n ∧ ∃ m, wr = w.drewN m) (fun v _ => n - (intOf v).toNat)
  case atStart => exact ⟨0, rfl, by omega, 0, rfl⟩
  case round =>
    obtain ⟨i, rfl, hi, m, rfl⟩ := hrel
    by_cases h : i < n
    · have h0 : decide ((i : Int) < (n : Int)) = true := by simp; omega
      have h0n : decide (i < n) = true := by simp; omega
      have i1 : (0 : Int) ≤ (i : Int) := by omega
      have i2 : (i : Int) < (n : Int) := by omega
      have wi : IntKind.i64.wrap ((i : Int) + 1) = (i : Int) + 1 := IntWalk.i64_in _ ⟨by omega, by omega⟩
      obtain ⟨v, hv⟩ : ∃ v, xs[i]? = some v := ⟨_, List.getElem?_eq_getElem (by rw [HN.out]; exact h)⟩
      obtain ⟨t, rfl⟩ := HX.out v (List.mem_of_getElem? hv)
      have e1 := HA.out i _ hv
      have e2 := HB.out i _ hv
      clear hv
      go_wp2_with fail
      go_quiet (fail)
      go_wp2_with fail
      go_roundw
      case rel => exact ⟨i + 1, by go_num, by omega, _, rfl⟩
      case measure => simp [intOf]; omega
    · have h0 : decide ((i : Int) < (n : Int)) = false := by simp; omega
      have h0n : decide (i < n) = false := by simp; omega
      go_wp2_with fail
      exact bodyPost_ret (v := .bool true) (by simp [results, Tryz.results15, go_sem]) rfl ⟨rfl, (Gr.refl w).drewN _⟩

end Go.Proofs.YtkcnbhenhmmfgaaGreatDoor
