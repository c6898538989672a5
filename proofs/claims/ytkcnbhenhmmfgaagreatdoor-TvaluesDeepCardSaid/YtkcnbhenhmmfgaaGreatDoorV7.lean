/-
  The memory of the reader of tvalues: the owner of a node is laid. Plain lemma.
-/
import Derived.Test.YtkcnbhenhmmfgaaGreatDoorV6
import Derived.Maps.Own
set_option linter.all false
set_option linter.unusedVariables false
set_option linter.unusedSimpArgs false
namespace Go.Proofs.YtkcnbhenhmmfgaaGreatDoor
open Go.RowKit Go.Joins

def ownR (r : NdR) (t : Nat) : NdR := ⟨{ r.nd with owner := t }, r.kv, r.sv, r.uv⟩

theorem RdV.owned {w w1 : World} {R B base : Nat} {s : ByteArray} {root : Int} {nv : Value} {L : List NdR} {own : Nat → Nat} (h : RdV w R B base s root nv L own) (m : Nat) (r : NdR) (hr : L[m]? = some r) (h0 : r.nd.owner = 0) (t : Nat) (ht : t ≠ 0) (hm : m ≤ 9223372036854775807)
    (D : mapD) (hD : Opens D L) (h1 : w1.ownsMap Tryz.prog 3 (plainElem (H := Unit) Tryz.prog 3) B (cntO L + 1) (D.put (.int .i64 m) (.lit (.int .i64 t)))) (hg : w.grownBy w1 (some B)) :
    RdV w1 R B base s root nv (L.set m (ownR r t)) own ∧ St (FV own) (FV own) w w1 := by
  have hB := h.B_lt
  have hold : ∀ k, k < w.heap.size → k ≠ B → w1.heap[k]? = w.heap[k]? := fun k hk hne => hg.block k hk (fun e => hne (Option.some.inj e))
  have hF : ∀ k t, own k = t → t ≠ 0 → t ≠ 2 → w1.heap[k]? = w.heap[k]? := fun k t e h2 h3 => hold k (h.lt k (by omega)).2 (fun e2 => by subst e2; rw [h.oB] at e; omega)
  have hmL : m < L.length := (List.getElem?_eq_some_iff.1 hr).1
  have hnds : ndsV (L.set m (ownR r t)) = ndsV L := by
    unfold ndsV
    rw [List.flatMap_def, List.flatMap_def]
    congr 1
    apply List.ext_getElem?
    intro j
    simp only [List.getElem?_map, List.getElem?_set]
    split
    · rename_i e
      subst e
      simp [hmL, hr, ndV, ownR]
      have := (List.getElem?_eq_some_iff.1 hr).2
      rw [this]
      simp
    · rfl
  refine ⟨⟨by rw [hF R 1 h.oR (by omega) (by omega)]; exact h.blk, h.oR, h.oB, ?_, h.oN, ?_, ?_, ?_⟩, ?_⟩
  · rw [List.length_set, hnds]
    exact ownsRow_of_block h.nodes fun k e => hF k 3 (h.oN k e) (by omega) (by omega)
  · refine ⟨DataW.put D (.int .i64 m) (.lit (.int .i64 t)), ?_, ?_⟩
    · have e2 := cntO_set L m r (ownR r t) hr
      have e3 : cntO [r] = 0 := by simp [cntO, h0]
      have e4 : cntO [ownR r t] = 1 := by simp [cntO, ownR, ht]
      rw [show cntO (L.set m (ownR r t)) = cntO L + 1 from by omega]
      exact h1
    · have hk : ∀ i : Nat, i ≠ m → (Lit.int IntKind.i64 (i : Int)) ≠ .int .i64 (m : Int) := fun i hi e => hi (by injection e with _ e2; exact Int.ofNat.inj e2)
      refine ⟨Maps.IsMap.put hD.1 _ _, fun i hi => ?_, fun i x hx => ?_⟩
      · rw [List.length_set] at hi
        rw [Maps.atKey_put_other (hk i (by omega))]
        exact hD.2.1 i hi
      · rw [List.getElem?_set] at hx
        split at hx
        · rename_i e
          subst e
          simp only [hmL, if_true, Option.some.injEq] at hx
          subst hx
          rw [Maps.atKey_put_same (k := .int .i64 (m : Int)) hD.1 trivial]
          rfl
        · rename_i e
          rw [Maps.atKey_put_other (hk i (fun e2 => e e2.symm))]
          exact hD.2.2 i x hx
  · intro j x hx
    rw [List.getElem?_set] at hx
    split at hx
    · rename_i e
      subst e
      simp only [hmL, if_true, Option.some.injEq] at hx
      subst hx
      have hk := h.rows m r hr
      have hkk : NdRows w1 base own m r := ⟨ownsRow_of_block hk.k fun k e => hF k _ (hk.tk k e) (by omega) (by omega), ownsRow_of_block hk.s fun k e => hF k _ (hk.ts k e) (by omega) (by omega), hk.u.of_block fun k e => hF k _ (hk.tu k e) (by omega) (by omega), fun h8 => ownsRow_of_block (hk.u8 h8) fun k e => hF k _ (hk.tu k e) (by omega) (by omega), hk.tk, hk.ts, hk.tu⟩
      exact ⟨hkk.k, hkk.s, hkk.u, hkk.u8, hkk.tk, hkk.ts, hkk.tu⟩
    · have hk := h.rows j x hx
      exact ⟨ownsRow_of_block hk.k fun k e => hF k _ (hk.tk k e) (by omega) (by omega), ownsRow_of_block hk.s fun k e => hF k _ (hk.ts k e) (by omega) (by omega), hk.u.of_block fun k e => hF k _ (hk.tu k e) (by omega) (by omega), fun h8 => ownsRow_of_block (hk.u8 h8) fun k e => hF k _ (hk.tu k e) (by omega) (by omega), hk.tk, hk.ts, hk.tu⟩
  · intro k hk
    have := h.lt k hk
    exact ⟨this.1, Nat.lt_of_lt_of_le this.2 hg.size⟩
  · exact (St.refl _ w).grown hg (fun k e => by cases e; exact .inl (by unfold FV; rw [h.oB]; omega))

end Go.Proofs.YtkcnbhenhmmfgaaGreatDoor
