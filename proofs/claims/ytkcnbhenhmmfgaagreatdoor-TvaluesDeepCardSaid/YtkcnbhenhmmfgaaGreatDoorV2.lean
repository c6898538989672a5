/-
  Walks: the reader of tvalues: byte, node.
-/
import Derived.Test.YtkcnbhenhmmfgaaGreatDoorV1b
import Derived.Deep.RegionLaw
import Derived.Deep.DrawnRows
set_option linter.all false
set_option linter.unusedVariables false
set_option linter.unusedSimpArgs false
namespace Go.Proofs.YtkcnbhenhmmfgaaGreatDoor
open Go.RowKit Go.Joins
attribute [local go_sem ↓] Go.wp_at_zero Go.wp_at_succ

theorem byteAt_lt (s : ByteArray) (n : Nat) (h : n < s.size) : Pl.byteAt (bs s) n = s[n].toNat := by
  unfold Pl.byteAt
  rw [List.getElem?_eq_getElem (by rw [bs_length]; exact h)]; rfl
theorem byteAt_ge (s : ByteArray) (n : Nat) (h : ¬ n < s.size) : Pl.byteAt (bs s) n = 0 := by
  unfold Pl.byteAt
  rw [List.getElem?_eq_none (by rw [bs_length]; omega)]

set_option maxHeartbeats 400000 in
theorem tv_byte (w : World) (R : Nat) (s : ByteArray) (hc : w.cell? ⟨R, 2, none⟩ = some (.string s)) (i : Int) (n : Nat) (hi : i = n) :
    Calls Tryz.prog 43 #[.pointer (some ⟨R, 0, none⟩), .int .i64 i] w fun e w' => e = .returned (.int .u8 (Pl.byteAt (bs s) n)) ∧ w = w' := by
  subst hi
  by_cases h : n < s.size
  · rw [byteAt_lt s n h]
    have hd : decide ((n : Int) < (s.size : Int)) = true := by simp; omega
    go_enter Tryz.func43, Tryz.ntmps43
    go_wp2_with fail
    go_ret
    exact ⟨rfl, rfl⟩
  · rw [byteAt_ge s n h]
    have hd : decide ((n : Int) < (s.size : Int)) = false := by simp; omega
    go_enter Tryz.func43, Tryz.ntmps43
    go_wp2_with fail
    go_ret
    exact ⟨rfl, rfl⟩

theorem info42 : (Tryz.prog.info? 46).map (fun i => (i.zero, i.size, i.bytes)) = some (some (.agg #[.int .u8 0, .string ⟨#[]⟩, .slice none 0 0, .slice none 0 0, .slice none 0 0, .int .i64 0, .int .i64 0]), 7, 112) := by kernel_rfl

/-- A node as a value. -/
abbrev ndArg (r : NdR) : Value := .agg #[.int .u8 r.nd.kind, strV r.nd.text, r.kv, r.sv, r.uv, .int .i64 r.nd.sp.1, .int .i64 r.nd.sp.2]

theorem some_ne_own {own : Nat → Nat} {v : Value} {t R : Nat} (h : Tagged own v t) (hR : own R ≠ t) : some R ≠ v.ownBlock := fun e => hR (h R e.symm)

set_option maxHeartbeats 1000000 in
theorem tv_node (w : World) (R B base : Nat) (s : ByteArray) (root : Int) (nv : Value) (L : List NdR) (own : Nat → Nat) (h : RdV w R B base s root nv L own) (hL : L.length ≤ 30000000)
    (r : NdR) (oc : r.uv.oneCell' = true) (hk : r.kv = .slice none 0 0) (hsv : r.sv = .slice none 0 0) (hk0 : r.nd.keys = []) (hs0 : r.nd.spots = []) (ho0 : r.nd.owner = 0)
    (hu : RowC w base 3 1 r.uv r.nd.subs.length (subsV r.nd.subs)) (hu8 : r.nd.kind = 8 → w.ownsRow base 3 1 r.uv r.nd.subs.length (subsV r.nd.subs)) (hu0 : ∀ k, r.uv.ownBlock = some k → own k = 0 ∧ k < w.heap.size)
    (k : Nat) (t : ByteArray) (kv sv uv : Value) (a b : Int) (hV : ndV r = [.int .u8 k, .string t, kv, sv, uv, .int .i64 a, .int .i64 b]) :
    Calls Tryz.prog 57 #[.pointer (some ⟨R, 0, none⟩), .agg #[.int .u8 k, .string t, kv, sv, uv, .int .i64 a, .int .i64 b]] w fun e w' =>
      e = .returned (.int .i64 L.length) ∧ ∃ nv', NodeMore w w' R B base s root L own r nv' := by
  obtain ⟨i0, hi, hz0, hz1, hz2⟩ := info_parts info42
  obtain ⟨c0, c1, c2, c3, fz⟩ := h.cells
  have fz0 := fz 0
  have hR := h.R_lt
  have hbase : base ≤ w.heap.size := by omega
  have hocs : ∀ u ∈ [(.int .u8 k : Value), .string t, kv, sv, uv, .int .i64 a, .int .i64 b], u.oneCell' = true := by
    rw [← hV]; intro u hu
    simp [ndV, hk, hsv] at hu
    rcases hu with rfl | rfl | rfl | rfl | rfl | rfl <;> first | rfl | exact oc
  have hne : some R ≠ nv.ownBlock := some_ne_own h.oN (by rw [h.oR]; omega)
  have hn2 : some w.heap.size ≠ nv.ownBlock := fun e => by have := (h.nodes.lt _ e.symm).2; omega
  have HA : Hid (∀ W w1 g cap, Gr w W → w1.ownsRow base 46 7 (.slice (some ⟨g, 0, none⟩) (L.length + 1) cap) (L.length + 1) (ndsV L ++ [.int .u8 k, .string t, kv, sv, uv, .int .i64 a, .int .i64 b]) → W.grownBy w1 nv.ownBlock → (nv.ownBlock = some g ∨ g = W.heap.size) → g < w1.heap.size → NodeMore w (w1.setCell ⟨R, 0, none⟩ (.slice (some ⟨g, 0, none⟩) (L.length + 1) cap)) R B base s root L own r (.slice (some ⟨g, 0, none⟩) (L.length + 1) cap)) := by
    rw [← hV]; exact fun W w1 g cap g1 ho hg hat hlt => h.appended g1 r hk hsv hk0 hs0 ho0 hu hu8 hu0 g cap ho hg hat hlt
  have HI := Lib.hid hi
  have HZ := Lib.hid hz0
  have HZ1 := Lib.hid hz1
  have HZ2 := Lib.hid hz2
  have HN := Lib.hid h.nodes
  clear fz hi hz0 hz1 hz2 h hu hu8 hu0 hV hk hsv hk0 hs0 ho0 oc
  go_enter Tryz.func57, Tryz.ntmps57
  go_wp2_with fail
  obtain ⟨W, hW⟩ : ∃ W, w.alloc (.cells #[.int .u8 k, .string t, kv, sv, uv, .int .i64 a, .int .i64 b] 46) = W := ⟨_, rfl⟩
  have hRW : ∀ o, W.cell? ⟨R, o, none⟩ = w.cell? ⟨R, o, none⟩ := by subst hW; exact fun o => ((Gr.refl w).alloc _).use.1 R o hR.2
  have hFW : ∀ o, W.frozen? ⟨R, o, none⟩ = w.frozen? ⟨R, o, none⟩ := by subst hW; exact fun o => ((Gr.refl w).alloc _).use.2.1 R o hR.2
  have e0 : W.cell? ⟨R, 0, none⟩ = some nv := by rw [hRW]; exact c0
  have e1 : W.frozen? ⟨R, 0, none⟩ = false := by rw [hFW]; exact fz0
  have n0 : W.cell? ⟨w.heap.size, 0, none⟩ = some (.int .u8 k) := by subst hW; simp
  have n1 : W.cell? ⟨w.heap.size, 1, none⟩ = some (.string t) := by subst hW; simp
  have n2 : W.cell? ⟨w.heap.size, 2, none⟩ = some kv := by subst hW; simp
  have n3 : W.cell? ⟨w.heap.size, 3, none⟩ = some sv := by subst hW; simp
  have n4 : W.cell? ⟨w.heap.size, 4, none⟩ = some uv := by subst hW; simp
  have n5 : W.cell? ⟨w.heap.size, 5, none⟩ = some (.int .i64 a) := by subst hW; simp
  have n6 : W.cell? ⟨w.heap.size, 6, none⟩ = some (.int .i64 b) := by subst hW; simp
  have hWs : w.heap.size + 1 = W.heap.size := by subst hW; simp
  have hGW : Gr w W := by subst hW; exact (Gr.refl w).alloc _
  have hNW : Hid (W.ownsRow base 46 7 nv L.length (ndsV L)) := ownsRow_of_block HN.out fun k e => hGW.block (HN.out.lt k e).2
  have HG := Lib.hid hGW
  have hWl : w.heap.size < W.heap.size := by omega
  have hWR : R < W.heap.size := by omega
  have hWb : base ≤ W.heap.size := by omega
  have hR0 := hR.2
  rw [hW]
  clear hW hRW hFW hGW hWs hR
  set_option maxRecDepth 100000 in
  go_region_law
    ((refine step_append_lies _ (by rfl) (.tmp 10) (.tmp 12) 33 (by rfl) base 46 i0 _ 7 112 Tryz.underlying33 HI.out HZ.out HZ1.out HZ2.out (by rfl) (by decide) nv L.length (ndsV L) (by simp [Act.eval, Act.put]) ((hNW.out.alloc _)) ⟨W.heap.size, 0, none⟩ 1 1 [.int .u8 k, .string t, kv, sv, uv, .int .i64 a, .int .i64 b] (by simp [Act.eval, Act.put]) (by rfl) (World.news_of_block (heap_alloc_new _ _)) hocs (by decide) (by unfold maxLen; omega) (by omega) (by simp; omega) (W.heap.size + 1) (by simp) ?_; intro g cap w1 hown1 hg1 hl1 hz1; have f3 : w1.frozen? ⟨R, 0, none⟩ = false := (hg1.frozen_far ⟨R, 0, none⟩ (by simp; omega) hne).trans ((((Gr.refl W).alloc _).drew.use.2.1 R 0 hWR).trans e1); have f4 : w1.cell? ⟨R, 0, none⟩ = some nv := (hg1.cell_far ⟨R, 0, none⟩ (by simp; omega) hne).trans ((((Gr.refl W).alloc _).drew.use.1 R 0 hWR).trans e0)))
  all_goals go_wp2_with fail
  all_goals go_ret
  all_goals exact ⟨rfl, _, HA.out _ w1 g cap ((HG.out.alloc _).drew) hown1 hg1 (by simpa using hl1) hz1⟩

end Go.Proofs.YtkcnbhenhmmfgaaGreatDoor
