/-
  The memory of the reader of tvalues: what the steps do to it. Plain lemmas, no walk.
-/
import Derived.Test.YtkcnbhenhmmfgaaGreatDoorV1
set_option linter.all false
set_option linter.unusedVariables false
set_option linter.unusedSimpArgs false
namespace Go.Proofs.YtkcnbhenhmmfgaaGreatDoor
open Go.RowKit Go.Joins

theorem nilRow (w : World) (base e size : Nat) : w.ownsRow base e size (.slice none 0 0) 0 [] := World.ownsRow_nil _ _ _ _
theorem tag_nil (own : Nat → Nat) (t : Nat) : Tagged own (.slice none 0 0) t := fun k h => by simp [Value.ownBlock] at h

/-- A row in a block that no store has touched. -/
theorem ownsRow_setCell_ne {w : World} {base e size n : Nat} {v : Value} {xs : List Value} (h : w.ownsRow base e size v n xs) {p : Addr} (hp : ∀ k, v.ownBlock = some k → k ≠ p.block) (x : Value) : (w.setCell p x).ownsRow base e size v n xs :=
  ownsRow_of_block h fun k hk => Below.heap_setCell _ _ _ _ (hp k hk)

/-- What a node more leaves. -/
def NodeMore (w w2 : World) (R B base : Nat) (s : ByteArray) (root : Int) (L : List NdR) (own : Nat → Nat) (r : NdR) (nv' : Value) : Prop :=
  ∃ own', RdV w2 R B base s root nv' (L ++ [r]) own' ∧ St (fun k => FV own k ∨ r.uv.ownBlock = some k) (FV own') w w2 ∧ (∀ k, own' k ≠ 0 → own k ≠ 0 ∨ r.uv.ownBlock = some k ∨ w.heap.size ≤ k)

/-- A node more: behind the append onto the nodes and the store of the new slice. -/
theorem RdV.appended {w W w1 : World} {R B base : Nat} {s : ByteArray} {root : Int} {nv : Value} {L : List NdR} {own : Nat → Nat} (h : RdV w R B base s root nv L own) (g1 : Gr w W)
    (r : NdR) (hk : r.kv = .slice none 0 0) (hsv : r.sv = .slice none 0 0) (hk0 : r.nd.keys = []) (hs0 : r.nd.spots = []) (ho0 : r.nd.owner = 0)
    (hu : RowC w base 3 1 r.uv r.nd.subs.length (subsV r.nd.subs)) (hu8 : r.nd.kind = 8 → w.ownsRow base 3 1 r.uv r.nd.subs.length (subsV r.nd.subs)) (hu0 : ∀ k, r.uv.ownBlock = some k → own k = 0 ∧ k < w.heap.size)
    (g cap : Nat) (hrow : w1.ownsRow base 46 7 (.slice (some ⟨g, 0, none⟩) (L.length + 1) cap) (L.length + 1) (ndsV L ++ ndV r)) (hg : W.grownBy w1 nv.ownBlock)
    (hat : nv.ownBlock = some g ∨ g = W.heap.size) (hlt : g < w1.heap.size) :
    NodeMore w (w1.setCell ⟨R, 0, none⟩ (.slice (some ⟨g, 0, none⟩) (L.length + 1) cap)) R B base s root L own r (.slice (some ⟨g, 0, none⟩) (L.length + 1) cap) := by
  have hR := h.R_lt
  have hB := h.B_lt
  have hz := g1.size
  have hz1 := hg.size
  have hRB : R ≠ B := fun e => by have h1 := h.oR; rw [e, h.oB] at h1; omega
  have hg0 : own g = 3 ∨ (own g = 0 ∧ w.heap.size ≤ g) := by
    rcases hat with ha | ha
    · exact .inl (h.oN g ha)
    · by_cases e : own g = 0
      · exact .inr ⟨e, by omega⟩
      · have := (h.lt g e).2; omega
  have hgR : g ≠ R := fun e => by subst e; rw [h.oR] at hg0; omega
  have hgB : g ≠ B := fun e => by subst e; rw [h.oB] at hg0; omega
  -- blocks that are not the nodes' stand as they stood
  have hold : ∀ k, k < w.heap.size → k ≠ R → own k ≠ 3 → (w1.setCell ⟨R, 0, none⟩ (.slice (some ⟨g, 0, none⟩) (L.length + 1) cap)).heap[k]? = w.heap[k]? := by
    intro k hk hkR h3
    rw [Below.heap_setCell _ _ _ _ (by simpa using hkR), hg.block k (by omega) (fun e => h3 (h.oN k e.symm)), g1.block hk]
  have hu1 : ∀ k, r.uv.ownBlock = some k → k ≠ g := fun k e e2 => by
    have := hu0 k e
    subst e2; omega
  refine ⟨fun k => if r.uv.ownBlock = some k then 6 + 3 * L.length else if k = g then 3 else own k, ⟨?_, ?_, ?_, ?_, ?_, ?_, ?_, ?_⟩, ?_, ?_⟩
  · have hb : w1.heap[R]? = some (.cells #[nv, .int .i64 root, .string s, .map (some B)] 72 (0, 0)) := by
      rw [hg.block R (by omega) (fun e => by have := h.oN R e.symm; rw [h.oR] at this; omega), g1.block hR.2]; exact h.blk
    simpa using block_setCell (i := 0) hb (.slice (some ⟨g, 0, none⟩) (L.length + 1) cap)
  · have : r.uv.ownBlock ≠ some R := fun e => by have := hu0 R e; rw [h.oR] at this; omega
    simp only [this, if_false]; rw [if_neg (Ne.symm hgR)]; exact h.oR
  · have : r.uv.ownBlock ≠ some B := fun e => by have := hu0 B e; rw [h.oB] at this; omega
    simp only [this, if_false]; rw [if_neg (Ne.symm hgB)]; exact h.oB
  · have e : ndsV (L ++ [r]) = ndsV L ++ ndV r := by simp [ndsV]
    rw [e, List.length_append, List.length_singleton]
    exact ownsRow_setCell_ne hrow (fun k hk => by simp [Value.ownBlock] at hk; subst hk; exact hgR) _
  · intro k hk
    simp [Value.ownBlock] at hk
    subst hk
    have : r.uv.ownBlock ≠ some g := fun e => hu1 g e rfl
    simp only [this, if_false, if_true]
  · obtain ⟨D, h1, h2, h3, h4⟩ := h.map
    refine ⟨D, ?_, h2, ?_, ?_⟩
    · exact ownsMap_of_block (h1.mono (by rw [cntO_append]; omega)) (hold B hB.2 (Ne.symm hRB) (by rw [h.oB]; omega))
    · intro i hi; exact h3 i (by simp at hi; omega)
    · intro i x hx
      rw [List.getElem?_append] at hx
      split at hx
      · exact h4 i x hx
      · have : i = L.length := by
          have := List.getElem?_eq_some_iff.1 hx
          obtain ⟨h5, _⟩ := this
          simp at h5; omega
        subst this
        simp at hx
        subst hx
        rw [h3 L.length (Nat.le_refl _), ho0]; rfl
  · intro i x hx
    rw [List.getElem?_append] at hx
    split at hx
    · rename_i hi
      have hr := h.rows i x hx
      have tag : ∀ v t, Tagged own v t → t ≠ 0 → t ≠ 3 → Tagged (fun k => if r.uv.ownBlock = some k then 6 + 3 * L.length else if k = g then 3 else own k) v t := by
        intro v t ht h0 h3 k hk
        have h5 := ht k hk
        have h6 : r.uv.ownBlock ≠ some k := fun e => by have := hu0 k e; omega
        have h7 : k ≠ g := fun e => by subst e; omega
        simp only [h6, if_false]; rw [if_neg h7]; exact h5
      have kp : ∀ {e size n v xs t}, w.ownsRow base e size v n xs → Tagged own v t → 4 ≤ t → (w1.setCell ⟨R, 0, none⟩ (.slice (some ⟨g, 0, none⟩) (L.length + 1) cap)).ownsRow base e size v n xs := by
        intro e size n v xs t ho ht h4
        refine ownsRow_of_block ho fun k hk => hold k ?_ ?_ ?_
        · exact (h.lt k (by rw [ht k hk]; omega)).2
        · intro e; subst e; have := ht k hk; rw [h.oR] at this; omega
        · rw [ht k hk]; omega
      have kc : ∀ {e size n v xs t}, RowC w base e size v n xs → Tagged own v t → 4 ≤ t → RowC (w1.setCell ⟨R, 0, none⟩ (.slice (some ⟨g, 0, none⟩) (L.length + 1) cap)) base e size v n xs := by
        intro e size n v xs t ho ht h4
        refine ho.of_block fun k hk => hold k ?_ ?_ ?_
        · exact (h.lt k (by rw [ht k hk]; omega)).2
        · intro e; subst e; have := ht k hk; rw [h.oR] at this; omega
        · rw [ht k hk]; omega
      exact ⟨kp hr.k hr.tk (by omega), kp hr.s hr.ts (by omega), kc hr.u hr.tu (by omega), fun h8 => kp (hr.u8 h8) hr.tu (by omega), tag _ _ hr.tk (by omega) (by omega), tag _ _ hr.ts (by omega) (by omega), tag _ _ hr.tu (by omega) (by omega)⟩
    · have hiL : i = L.length := by
        obtain ⟨h5, _⟩ := List.getElem?_eq_some_iff.1 hx
        simp at h5; omega
      subst hiL
      simp at hx
      subst hx
      refine ⟨by rw [hk, hk0]; exact nilRow _ _ _ _, by rw [hsv, hs0]; exact nilRow _ _ _ _, ?_, ?_, by rw [hk]; exact tag_nil _ _, by rw [hsv]; exact tag_nil _ _, ?_⟩
      · refine hu.of_block fun k e => hold k (hu0 k e).2 (fun e2 => ?_) (by rw [(hu0 k e).1]; omega)
        have := (hu0 k e).1
        subst e2; rw [h.oR] at this; omega
      · intro h8
        refine ownsRow_of_block (hu8 h8) fun k e => hold k (hu0 k e).2 (fun e2 => ?_) (by rw [(hu0 k e).1]; omega)
        have := (hu0 k e).1
        subst e2; rw [h.oR] at this; omega
      · intro k e
        simp only [e, if_true]
  · intro k hk
    have hs2 : (w1.setCell ⟨R, 0, none⟩ (.slice (some ⟨g, 0, none⟩) (L.length + 1) cap)).heap.size = w1.heap.size := by simp [World.setCell]
    rw [hs2]
    split at hk
    · rename_i e
      have h5 := (hu0 k e).2
      exact ⟨(hu.lt k e).1, by omega⟩
    · split at hk
      · rename_i e
        subst e
        refine ⟨?_, hlt⟩
        rcases hrow.2 with ⟨h6, _⟩ | ⟨g5, c5, u5, h6, h7, _⟩
        · cases h6
        · cases h6; exact h7
      · have := h.lt k hk
        exact ⟨this.1, by omega⟩
  · refine ⟨?_, ?_, ?_, ?_, ?_, ?_⟩
    · exact hg.os.trans (Below.os g1)
    · exact hg.tape.trans (Below.tape g1)
    · exact hg.output.trans (Below.output g1)
    · have : (w1.setCell ⟨R, 0, none⟩ (.slice (some ⟨g, 0, none⟩) (L.length + 1) cap)).heap.size = w1.heap.size := by simp [World.setCell]
      omega
    · intro k hk hn
      refine hold k hk (fun e => hn (.inl ?_)) (fun e => hn (.inl ?_))
      · subst e; unfold FV; rw [h.oR]; omega
      · unfold FV; omega
    · intro k hk
      unfold FV at hk
      replace hk : (if r.uv.ownBlock = some k then 6 + 3 * L.length else if k = g then 3 else own k) ≠ 0 := hk
      split at hk
      · rename_i e; exact .inl (.inr e)
      · split at hk
        · rename_i e
          subst e
          rcases hg0 with h5 | h5
          · exact .inl (.inl (by unfold FV; omega))
          · exact .inr h5.2
        · exact .inl (.inl hk)
  · intro k hk
    replace hk : (if r.uv.ownBlock = some k then 6 + 3 * L.length else if k = g then 3 else own k) ≠ 0 := hk
    split at hk
    · rename_i e; exact .inr (.inl e)
    · split at hk
      · rename_i e
        subst e
        rcases hg0 with h5 | h5
        · exact .inl (by omega)
        · exact .inr (.inr h5.2)
      · exact .inl hk

end Go.Proofs.YtkcnbhenhmmfgaaGreatDoor
