/-
  Walks: tvalues.Read: the reader's start, the value, what is cut off the nodes' rows.
-/
import Derived.Test.YtkcnbhenhmmfgaaGreatDoorVb
set_option linter.all false
set_option linter.unusedVariables false
set_option linter.unusedSimpArgs false
namespace Go.Proofs.YtkcnbhenhmmfgaaGreatDoor
open Go.RowKit Go.Shelf Go.Joins
attribute [local go_sem] Oper.semAt_some

def clipR (r : NdR) : NdR := ⟨r.nd, clipV r.kv, clipV r.sv, clipV r.uv⟩

/-- A tree that is read: the nodes' cells, and their rows. -/
structure TreeV (w : World) (base g : Nat) (L : List NdR) : Prop where
  lt : base ≤ g ∧ g < w.heap.size
  cell : ∀ (i : Nat) r, L[i]? = some r → ∀ (j : Nat) v, (ndV r)[j]? = some v → w.cell? ⟨g, i * 7 + j, none⟩ = some v
  rows : ∀ (i : Nat) r, L[i]? = some r → RowC w base 9 1 r.kv r.nd.keys.length (keysV r.nd.keys) ∧ RowC w base 44 2 r.sv r.nd.spots.length (spotsV r.nd.spots) ∧ RowC w base 3 1 r.uv r.nd.subs.length (subsV r.nd.subs)
theorem TreeV.gr {w w' : World} {base g : Nat} {L : List NdR} (h : TreeV w base g L) (k : Gr w w') : TreeV w' base g L :=
  ⟨⟨h.lt.1, Nat.lt_of_lt_of_le h.lt.2 k.size⟩, fun i r hr j v hv => (k.use.1 _ _ h.lt.2).trans (h.cell i r hr j v hv), fun i r hr => by
    obtain ⟨a, b, c⟩ := h.rows i r hr
    exact ⟨a.of_block fun k2 e => k.block (a.lt k2 e).2, b.of_block fun k2 e => k.block (b.lt k2 e).2, c.of_block fun k2 e => k.block (c.lt k2 e).2⟩⟩

theorem clip_strs_own {w : World} {base n : Nat} {v : Value} {xs : List Value} (h : w.ownsRow base 9 1 v n xs) (W : World) : Calls Tryz.prog 31 #[v] W fun e w' => e = .returned (clipV v) ∧ W = w' := by
  rcases own_form h with ⟨rfl, _⟩ | ⟨g, cap, rfl, h1, h2⟩
  · exact clip_strs0 W
  · exact clip_strs g n cap h1 h2 W
theorem clip_spans_own {w : World} {base n : Nat} {v : Value} {xs : List Value} (h : w.ownsRow base 44 2 v n xs) (W : World) : Calls Tryz.prog 32 #[v] W fun e w' => e = .returned (clipV v) ∧ W = w' := by
  rcases own_form h with ⟨rfl, _⟩ | ⟨g, cap, rfl, h1, h2⟩
  · exact clip_spans0 W
  · exact clip_spans g n cap h1 h2 W
theorem clip_ints_rowC {w : World} {base n : Nat} {v : Value} {xs : List Value} (h : RowC w base 3 1 v n xs) (W : World) : Calls Tryz.prog 33 #[v] W fun e w' => e = .returned (clipV v) ∧ W = w' := by
  rcases rowC_form h with ⟨rfl, _⟩ | ⟨g, cap, rfl, h1, h2⟩
  · exact clip_ints0 W
  · exact clip_ints g n cap h1 h2 W

/-- The root turns. -/
theorem RdV.setRoot {w : World} {R B base : Nat} {s : ByteArray} {root : Int} {nv : Value} {L : List NdR} {own : Nat → Nat} (h : RdV w R B base s root nv L own) (r2 : Int) : RdV (w.setCell ⟨R, 1, none⟩ (.int .i64 r2)) R B base s r2 nv L own := by
  have hb : ∀ k, k ≠ R → (w.setCell ⟨R, 1, none⟩ (.int .i64 r2)).heap[k]? = w.heap[k]? := fun k hk => Below.heap_setCell _ _ _ _ hk
  have ne : ∀ k t, own k = t → t ≠ 1 → k ≠ R := fun k t e h3 e2 => by subst e2; have := h.oR; omega
  obtain ⟨D, h1, h2⟩ := h.map
  refine ⟨by simpa using block_setCell (i := 1) h.blk (.int .i64 r2), h.oR, h.oB, ownsRow_of_block h.nodes fun k e => hb k (ne k _ (h.oN k e) (by omega)), h.oN, ⟨D, ownsMap_of_block h1 (hb B (ne B _ h.oB (by omega))), h2⟩, fun i r hr => ?_, fun k hk => ⟨(h.lt k hk).1, by simpa [World.setCell] using (h.lt k hk).2⟩⟩
  have hx := h.rows i r hr
  exact ⟨ownsRow_of_block hx.k fun k e => hb k (ne k _ (hx.tk k e) (by omega)), ownsRow_of_block hx.s fun k e => hb k (ne k _ (hx.ts k e) (by omega)), hx.u.of_block fun k e => hb k (ne k _ (hx.tu k e) (by omega)), fun h8 => ownsRow_of_block (hx.u8 h8) fun k e => hb k (ne k _ (hx.tu k e) (by omega)), hx.tk, hx.ts, hx.tu⟩

/-- The reader's memory, as Read lays it: the map, then the reader's block. -/
theorem RdV.start (w0 w : World) (s : ByteArray) (hz : w0.heap.size ≤ w.heap.size) :
    RdV ((w.alloc (.map #[] 0)).alloc (.cells #[nilV, .int .i64 0, .string s, .map (some w.heap.size)] 72)) (w.heap.size + 1) w.heap.size w0.heap.size s 0 nilV [] (fun k => if k = w.heap.size + 1 then 1 else if k = w.heap.size then 2 else 0) := by
  refine ⟨?_, by simp, ?_, nilRow _ _ _ _, tag_nil _ _, ?_, fun i r hr => by simp at hr, ?_⟩
  · have := heap_alloc_new (w.alloc (.map #[] 0)) (.cells #[nilV, .int .i64 0, .string s, .map (some w.heap.size)] 72)
    simpa using this
  · rw [if_neg (by omega), if_pos rfl]
  · refine ⟨.map [], ?_, ?_⟩
    · have h1 : (w.alloc (.map #[] 0)).ownsMap Tryz.prog 3 (plainElem (H := Unit) Tryz.prog 3) w.heap.size 0 (.map []) := World.ownsMap_made _ _ _ _
      exact ownsMap_of_block h1 (((Gr.refl _).alloc _).block (by simp))
    · exact ⟨⟨[], rfl⟩, fun i _ => rfl, fun i r hr => by simp at hr⟩
  · intro k hk
    by_cases h1 : k = w.heap.size + 1
    · subst h1
      simp
      omega
    · rw [if_neg h1] at hk
      by_cases h2 : k = w.heap.size
      · subst h2
        simp
        omega
      · rw [if_neg h2] at hk
        exact absurd rfl hk

/-- What Read answers. -/
def ReadPost2 (s : ByteArray) (w : World) (X : Pl.Res (Nat × Nat × Pl.Nds)) (e : Ending) (w' : World) : Prop :=
  match X with
  | .non => True
  | .bad c p => e = .returned (.tuple #[.agg #[nilV, .int .i64 0], .int .i64 0, fv c p]) ∧ c ≠ 0 ∧ Gr w w'
  | .ok (i, m, st) => ∃ g L, e = .returned (.tuple #[.agg #[.slice (some ⟨g, 0, none⟩) st.length st.length, .int .i64 i], .int .i64 m, f0]) ∧ m ≤ s.size ∧ i < st.length ∧ L.map (·.nd) = st ∧ TreeV w' w.heap.size g L ∧ Gr w w'

/-- The loop that cuts: so far the first i nodes. -/
def CutI (w7 : World) (R base g cap : Nat) (L : List NdR) (n : Nat) (wr : World) : Prop :=
  wr.ownsRow base 46 7 (.slice (some ⟨g, 0, none⟩) L.length cap) L.length (ndsV ((L.take n).map clipR ++ L.drop n)) ∧ (∀ k, k < w7.heap.size → k ≠ g → wr.heap[k]? = w7.heap[k]?) ∧ w7.heap.size ≤ wr.heap.size ∧ wr.os = w7.os ∧ wr.tape = w7.tape ∧ wr.output = w7.output

theorem cutR_get (L : List NdR) (n : Nat) (r : NdR) (hr : L[n]? = some r) : ((L.take n).map clipR ++ L.drop n)[n]? = some r := by
  have hn : n < L.length := (List.getElem?_eq_some_iff.1 hr).1
  rw [List.getElem?_append_right (by simp; omega)]
  simp
  rw [show n - min n L.length = 0 from by omega]
  simpa using hr
theorem cutR_set (L : List NdR) (n : Nat) (r : NdR) (hr : L[n]? = some r) : ((L.take n).map clipR ++ L.drop n).set n (clipR r) = (L.take (n + 1)).map clipR ++ L.drop (n + 1) := by
  have hn : n < L.length := (List.getElem?_eq_some_iff.1 hr).1
  have hl : ((L.take n).map clipR).length = n := by simp; omega
  rw [List.set_append_right _ _ (by omega), hl, Nat.sub_self, List.drop_eq_getElem_cons hn, List.set_cons_zero, List.take_add_one, hr]
  simp

theorem CutI.step {w7 wr : World} {R base g cap n : Nat} {L : List NdR} (h : CutI w7 R base g cap L n wr) (r : NdR) (hr : L[n]? = some r) :
    CutI w7 R base g cap L (n + 1) (((wr.setCell ⟨g, n * 7 + 2, none⟩ (clipV r.kv)).setCell ⟨g, n * 7 + 3, none⟩ (clipV r.sv)).setCell ⟨g, n * 7 + 4, none⟩ (clipV r.uv)) := by
  obtain ⟨h1, h2, h3, h4, h5, h6⟩ := h
  have hn : n < L.length := (List.getElem?_eq_some_iff.1 hr).1
  refine ⟨?_, fun k hk hg => ?_, by simpa [World.setCell] using h3, h4, h5, h6⟩
  · have hlen : (ndsV ((L.take n).map clipR ++ L.drop n)).length = L.length * 7 := by rw [ndsV_length]; simp; omega
    have hg0 := cutR_get L n r hr
    have e1 := ownsRow_set h1 (n * 7 + 2) (by omega) (clipV r.kv)
    have e2 := ownsRow_set e1 (n * 7 + 3) (by rw [List.length_set]; omega) (clipV r.sv)
    have e3 := ownsRow_set e2 (n * 7 + 4) (by rw [List.length_set, List.length_set]; omega) (clipV r.uv)
    obtain ⟨M, hM⟩ : ∃ M, (L.take n).map clipR ++ L.drop n = M := ⟨_, rfl⟩
    rw [hM] at e3 hg0
    have hnM : n < M.length := (List.getElem?_eq_some_iff.1 hg0).1
    have f1 := ndsV_set M n 2 (by omega) (clipV r.kv) r ⟨r.nd, clipV r.kv, r.sv, r.uv⟩ hg0 rfl
    have f2 := ndsV_set (M.set n ⟨r.nd, clipV r.kv, r.sv, r.uv⟩) n 3 (by omega) (clipV r.sv) ⟨r.nd, clipV r.kv, r.sv, r.uv⟩ ⟨r.nd, clipV r.kv, clipV r.sv, r.uv⟩ (by simp [hnM]) rfl
    have f3 := ndsV_set ((M.set n ⟨r.nd, clipV r.kv, r.sv, r.uv⟩).set n ⟨r.nd, clipV r.kv, clipV r.sv, r.uv⟩) n 4 (by omega) (clipV r.uv) ⟨r.nd, clipV r.kv, clipV r.sv, r.uv⟩ (clipR r) (by simp [hnM]) rfl
    rw [f1, f2, f3, List.set_set, List.set_set, ← hM, cutR_set L n r hr] at e3
    exact e3
  · rw [Below.heap_setCell _ _ _ _ hg, Below.heap_setCell _ _ _ _ hg, Below.heap_setCell _ _ _ _ hg]
    exact h2 k hk hg

end Go.Proofs.YtkcnbhenhmmfgaaGreatDoor
