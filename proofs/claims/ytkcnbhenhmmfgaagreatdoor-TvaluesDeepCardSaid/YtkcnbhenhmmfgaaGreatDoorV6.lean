/-
  Walks: the reader of tvalues: sub.
-/
import Derived.Test.YtkcnbhenhmmfgaaGreatDoorV5
import Derived.Test.YtkcnbhenhmmfgaaGreatDoorShelf2
set_option linter.all false
set_option linter.unusedVariables false
set_option linter.unusedSimpArgs false
namespace Go.Proofs.YtkcnbhenhmmfgaaGreatDoor
open Go.RowKit Go.Shelf Go.Joins
attribute [local go_sem] Oper.semAt_some

theorem idx_find (x : ByteArray) : ∀ (ks : List Pl.Bs) (i : Nat), Lib.idxFromS (ks.map fun k => (⟨k.toArray⟩ : ByteArray)) x i = match ks.findIdx? (fun k => k == bs x) with
    | none => -1
    | some j => ((i + j : Nat) : Int)
  | [], _ => rfl
  | k :: ks, i => by
    have e : ((⟨k.toArray⟩ : ByteArray) = x) ↔ (k == bs x) = true := by
      rw [beq_iff_eq]
      constructor
      · intro h; rw [← h]
      · intro h; rw [h]
    rw [List.map_cons, List.findIdx?_cons, Lib.idxFromS]
    cases hk : k == bs x with
    | true => rw [if_pos (e.2 hk)]; simp
    | false =>
      rw [if_neg (fun h => by rw [e.1 h] at hk; cases hk), idx_find x ks (i + 1)]
      cases ks.findIdx? (fun k => k == bs x) with
      | none => rfl
      | some j =>
        show ((i + 1 + j : Nat) : Int) = ((i + (j + 1) : Nat) : Int)
        congr 1
        omega

def subRes : Pl.Sub → Value
  | .yes i => .tuple #[.int .i64 i, .bool true]
  | _ => .tuple #[.int .i64 0, .bool false]

set_option maxHeartbeats 4000000 in
set_option maxRecDepth 100000 in
theorem tv_sub (w : World) (R B base : Nat) (s : ByteArray) (root : Int) (nv : Value) (L : List NdR) (own : Nat → Nat) (h : RdV w R B base s root nv L own)
    (i : Nat) (key : ByteArray) (X : Pl.Sub) (hX : Pl.subOf (L.map (·.nd)) i (bs key) = X) (hne : X ≠ .non) :
    Calls Tryz.prog 72 #[.pointer (some ⟨R, 0, none⟩), .int .i64 i, .string key] w fun e w' => e = .returned (subRes X) ∧ w = w' := by
  unfold Pl.subOf at hX
  rw [List.getElem?_map] at hX
  cases hr : L[i]? with
  | none => rw [hr] at hX; exact absurd hX.symm hne
  | some r =>
  rw [hr] at hX
  simp only [Option.map_some] at hX
  have hi : i < L.length := (List.getElem?_eq_some_iff.1 hr).1
  obtain ⟨g, cap, cur, rfl, hgb, hgl, hgo, hgR, hgB, hgh, hcs, hLc, hcm, htk⟩ := h.form (by omega)
  obtain ⟨c0, c1, c2, c3, fz⟩ := h.cells
  obtain ⟨n0, n1, n2, n3, n4, n5, n6, nf⟩ := h.ndCells rfl i r hr
  have hi1 : (0 : Int) ≤ (i : Int) := by omega
  have hi2 : (i : Int) < (L.length : Int) := by omega
  have hx := h.rows i r hr
  -- the keys' row
  have HI : Hid (Calls Tryz.prog 99 #[r.kv, .string key] w fun e w' => e = .returned (.int .i64 (match r.nd.keys.findIdx? (fun k => k == bs key) with | none => -1 | some j => (j : Int))) ∧ w = w') := by
    have hidx := idx_find key r.nd.keys 0
    rw [show Lib.idxFromS (r.nd.keys.map fun k => (⟨k.toArray⟩ : ByteArray)) key 0 = Lib.idxOfS (r.nd.keys.map fun k => (⟨k.toArray⟩ : ByteArray)) key from rfl] at hidx
    simp only [Nat.zero_add] at hidx
    by_cases hn : 0 < r.nd.keys.length
    · obtain ⟨b, c, hv, hlc, hcm⟩ := (rowC_of hx.k).form hn
      have hcl := (rowC_of hx.k).cells (g := b) (by rw [hv]; rfl)
      rw [hv]
      refine (Tryz.slices_Index_string b 0 r.nd.keys.length c (r.nd.keys.map fun k => (⟨k.toArray⟩ : ByteArray)) key w (by simp) (by unfold maxLen at hcm; omega) ?_).mono ?_
      · intro j hj
        rw [List.length_map] at hj
        rw [Nat.zero_add]
        refine hcl j _ ?_
        simp [keysV, hj, List.getD]
      · rintro e w' ⟨rfl, rfl⟩
        rw [List.take_of_length_le (by simp), hidx]
        exact ⟨rfl, rfl⟩
    · have h0 : r.nd.keys = [] := List.eq_nil_of_length_eq_zero (by omega)
      obtain ⟨a, c, hv⟩ : ∃ a c, r.kv = .slice a 0 c := by
        rcases ownsRow_forms hx.k with ⟨e, _⟩ | ⟨g', c', e⟩
        · exact ⟨none, 0, e⟩
        · exact ⟨some ⟨g', 0, none⟩, c', by rw [e, h0]; rfl⟩
      rw [hv]
      refine (Tryz.slices_Index_string_empty a c key w).mono ?_
      rintro e w' ⟨rfl, rfl⟩
      rw [h0]
      exact ⟨rfl, rfl⟩
  cases hf : r.nd.keys.findIdx? (fun k => k == bs key) with
  | none =>
    rw [hf] at hX HI
    subst hX
    clear hf hx h hne c1 c2 c3 fz n0 n1 n3 n4 n5 n6 nf hgh htk hcs
    go_enter Tryz.func72, Tryz.ntmps72
    go_wp2_with fail
    refine HI.out.mono ?_
    rintro e w1 ⟨rfl, rfl⟩
    go_wp2_with fail
    exact bodyPost_ret (v := .tuple #[.int .i64 0, .bool false]) (by simp [results, Tryz.results72, go_sem]) rfl ⟨rfl, rfl⟩
  | some j =>
    rw [hf] at hX HI
    simp only at hX HI
    cases hu : r.nd.subs[j]? with
    | none => rw [hu] at hX; exact absurd hX.symm hne
    | some u =>
    rw [hu] at hX
    simp only at hX
    split at hX
    · subst hX
      have hj : j < r.nd.subs.length := (List.getElem?_eq_some_iff.1 hu).1
      obtain ⟨b, c, hv, hlc, hcm⟩ := hx.u.form (by omega)
      have hcl := hx.u.cells (g := b) (by rw [hv]; rfl) j (.int .i64 u) (by simp [subsV, hu])
      rw [hv] at n4
      have hj1 : (0 : Int) ≤ (j : Int) := by omega
      have hj2 : (j : Int) < (r.nd.subs.length : Int) := by omega
      have hj3 : decide ((j : Int) < 0) = false := by simp
      clear hf hx h hne c1 c2 c3 fz n0 n1 n3 n5 n6 nf hgh htk hcs hu
      go_enter Tryz.func72, Tryz.ntmps72
      go_wp2_with fail
      refine HI.out.mono ?_
      rintro e w1 ⟨rfl, rfl⟩
      go_wp2_with fail
      exact bodyPost_ret (v := .tuple #[.int .i64 u, .bool true]) (by simp [results, Tryz.results72, go_sem]) rfl ⟨rfl, rfl⟩
    · exact absurd hX.symm hne

end Go.Proofs.YtkcnbhenhmmfgaaGreatDoor
