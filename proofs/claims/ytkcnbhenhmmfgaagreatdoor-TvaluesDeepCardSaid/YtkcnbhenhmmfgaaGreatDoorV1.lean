/-
  The memory of the reader of tvalues: its block, the map 'open', the nodes and their rows. Plain lemmas, no walk.
-/
import Derived.Test.YtkcnbhenhmmfgaaGreatDoorBase
import Derived.Test.YtkcnbhenhmmfgaaGreatDoorTv
import Derived.Maps.OwnOps
import Derived.Maps.Views
import Derived.Maps.AppendAt
import Derived.Deep.AppendLies
import Derived.Lib.SmallJoins
set_option linter.all false
set_option linter.unusedVariables false
set_option linter.unusedSimpArgs false
namespace Go.Proofs.YtkcnbhenhmmfgaaGreatDoor
open Go.RowKit Go.Joins

/-- A node, and the values of its three rows. -/
structure NdR where
  nd : Pl.Nd
  kv : Value
  sv : Value
  uv : Value

abbrev strV (l : Pl.Bs) : Value := .string ⟨l.toArray⟩
def ndV (r : NdR) : List Value := [.int .u8 r.nd.kind, strV r.nd.text, r.kv, r.sv, r.uv, .int .i64 r.nd.sp.1, .int .i64 r.nd.sp.2]
def ndsV (L : List NdR) : List Value := L.flatMap ndV
def keysV (l : List Pl.Bs) : List Value := l.map strV
def spotsV (l : List (Nat × Nat)) : List Value := l.flatMap fun p => [.int .i64 p.1, .int .i64 p.2]
def subsV (l : List Nat) : List Value := l.map fun (i : Nat) => .int .i64 i

theorem ndV_length (r : NdR) : (ndV r).length = 7 := rfl
theorem ndsV_length (L : List NdR) : (ndsV L).length = L.length * 7 := by
  unfold ndsV
  induction L with
  | nil => rfl
  | cons r L ih => rw [List.flatMap_cons, List.length_append, ih, ndV_length, List.length_cons]; omega
theorem ndsV_append (L M : List NdR) : ndsV (L ++ M) = ndsV L ++ ndsV M := by simp [ndsV]
theorem ndsV_get (L : List NdR) (i j : Nat) (hj : j < 7) : (ndsV L)[i * 7 + j]? = (L[i]?).bind fun r => (ndV r)[j]? := by
  induction L generalizing i with
  | nil => simp [ndsV]
  | cons r L ih =>
    have e : ndsV (r :: L) = ndV r ++ ndsV L := by simp [ndsV]
    rw [e]
    cases i with
    | zero => rw [List.getElem?_append_left (by rw [ndV_length]; omega)]; simp
    | succ i =>
      rw [List.getElem?_append_right (by rw [ndV_length]; omega), ndV_length, show (i + 1) * 7 + j - 7 = i * 7 + j from by omega, ih]
      rfl
/-- A field of a node turns. -/
theorem ndsV_set (L : List NdR) (i j : Nat) (hj : j < 7) (v : Value) (r r' : NdR) (hr : L[i]? = some r) (he : (ndV r).set j v = ndV r') : (ndsV L).set (i * 7 + j) v = ndsV (L.set i r') := by
  induction L generalizing i with
  | nil => simp at hr
  | cons x L ih =>
    have e : ∀ (y : NdR) (M : List NdR), ndsV (y :: M) = ndV y ++ ndsV M := by intro y M; simp [ndsV]
    rw [e]
    cases i with
    | zero =>
      simp at hr
      subst hr
      rw [List.set_append_left _ _ (by rw [ndV_length]; omega), List.set_cons_zero, e, ← he]
      simp
    | succ i =>
      rw [List.set_append_right _ _ (by rw [ndV_length]; omega), ndV_length, show (i + 1) * 7 + j - 7 = i * 7 + j from by omega, ih i (by simpa using hr), List.set_cons_succ, e]

/-- A row that is owned, by its tag. -/
def Tagged (own : Nat → Nat) (v : Value) (t : Nat) : Prop := ∀ k, v.ownBlock = some k → own k = t

/-- A row that is owned, its spare cut off, or not. -/
def RowC (w : World) (base e size : Nat) (v : Value) (n : Nat) (xs : List Value) : Prop :=
  ∃ v0, w.ownsRow base e size v0 n xs ∧ v0.ownBlock = v.ownBlock ∧ (v = v0 ∨ ∃ g c, v0 = .slice (some ⟨g, 0, none⟩) n c ∧ v = .slice (some ⟨g, 0, none⟩) n n)

/-- The rows of one node. -/
structure NdRows (w : World) (base : Nat) (own : Nat → Nat) (i : Nat) (r : NdR) : Prop where
  k : w.ownsRow base 9 1 r.kv r.nd.keys.length (keysV r.nd.keys)
  s : w.ownsRow base 44 2 r.sv r.nd.spots.length (spotsV r.nd.spots)
  u : RowC w base 3 1 r.uv r.nd.subs.length (subsV r.nd.subs)
  u8 : r.nd.kind = 8 → w.ownsRow base 3 1 r.uv r.nd.subs.length (subsV r.nd.subs)
  tk : Tagged own r.kv (4 + 3 * i)
  ts : Tagged own r.sv (5 + 3 * i)
  tu : Tagged own r.uv (6 + 3 * i)

abbrev mapD := DataW Unit

/-- What the map 'open' tells of the nodes. -/
def Opens (D : mapD) (L : List NdR) : Prop := Maps.IsMap D ∧ (∀ i : Nat, L.length ≤ i → D.atKey (.int .i64 i) (.lit (.int .i64 0)) = .lit (.int .i64 0)) ∧
  ∀ (i : Nat) r, L[i]? = some r → D.atKey (.int .i64 i) (.lit (.int .i64 0)) = .lit (.int .i64 r.nd.owner)

/-- How many nodes are of a table: as many as the map has entries. -/
def cntO (L : List NdR) : Nat := (L.filter fun r => r.nd.owner != 0).length
theorem cntO_append (L M : List NdR) : cntO (L ++ M) = cntO L + cntO M := by simp [cntO]
theorem cntO_le (L : List NdR) : cntO L ≤ L.length := List.length_filter_le _ _
theorem cntO_set : ∀ (L : List NdR) (i : Nat) (r r' : NdR), L[i]? = some r → cntO (L.set i r') + cntO [r] = cntO L + cntO [r']
  | [], i, _, _, h => by simp at h
  | x :: L, 0, r, r', h => by
    simp only [List.getElem?_cons_zero, Option.some.injEq] at h
    subst h
    rw [List.set_cons_zero, ← List.singleton_append, ← List.singleton_append (l := L), cntO_append, cntO_append]
    omega
  | x :: L, i + 1, r, r', h => by
    have := cntO_set L i r r' (by simpa using h)
    rw [List.set_cons_succ, ← List.singleton_append, ← List.singleton_append (l := L), cntO_append, cntO_append]
    omega

theorem cntO_one (r r' : NdR) (h : r'.nd.owner = r.nd.owner) : cntO [r'] = cntO [r] := by
  simp only [cntO, List.filter_cons, List.filter_nil, h]
  cases r.nd.owner != 0 <;> rfl
theorem cntO_same (L : List NdR) (i : Nat) (r r' : NdR) (hr : L[i]? = some r) (h : r'.nd.owner = r.nd.owner) : cntO (L.set i r') = cntO L := by
  have := cntO_set L i r r' hr
  have := cntO_one r r' h
  omega

structure RdV (w : World) (R B base : Nat) (s : ByteArray) (root : Int) (nv : Value) (L : List NdR) (own : Nat → Nat) : Prop where
  blk : w.heap[R]? = some (.cells #[nv, .int .i64 root, .string s, .map (some B)] 72 (0, 0))
  oR : own R = 1
  oB : own B = 2
  nodes : w.ownsRow base 46 7 nv L.length (ndsV L)
  oN : Tagged own nv 3
  map : ∃ D : mapD, w.ownsMap Tryz.prog 3 (plainElem (H := Unit) Tryz.prog 3) B (cntO L) D ∧ Opens D L
  rows : ∀ (i : Nat) r, L[i]? = some r → NdRows w base own i r
  lt : ∀ k, own k ≠ 0 → base ≤ k ∧ k < w.heap.size

/-- Its blocks. -/
def FV (own : Nat → Nat) (k : Nat) : Prop := own k ≠ 0

theorem ownsRow_of_block {w w' : World} {base e size n : Nat} {v : Value} {xs : List Value} (h : w.ownsRow base e size v n xs) (hb : ∀ k, v.ownBlock = some k → w'.heap[k]? = w.heap[k]?) : w'.ownsRow base e size v n xs := by
  refine ⟨h.1, ?_⟩
  rcases h.2 with hn | ⟨g, cap, cur, rfl, hbb, hgg, rest⟩
  · exact .inl hn
  · exact .inr ⟨g, cap, cur, rfl, hbb, by rw [hb g rfl]; exact hgg, rest⟩
theorem RowC.of_block {w w' : World} {base e size n : Nat} {v : Value} {xs : List Value} (h : RowC w base e size v n xs) (hb : ∀ k, v.ownBlock = some k → w'.heap[k]? = w.heap[k]?) : RowC w' base e size v n xs := by
  obtain ⟨v0, h1, h2, h3⟩ := h
  exact ⟨v0, ownsRow_of_block h1 (fun k e => hb k (by rw [← h2]; exact e)), h2, h3⟩
theorem rowC_of {w : World} {base e size n : Nat} {v : Value} {xs : List Value} (h : w.ownsRow base e size v n xs) : RowC w base e size v n xs := ⟨v, h, rfl, .inl rfl⟩
theorem RowC.lt {w : World} {base e size n : Nat} {v : Value} {xs : List Value} (h : RowC w base e size v n xs) : ∀ k, v.ownBlock = some k → base ≤ k ∧ k < w.heap.size := by
  obtain ⟨v0, h1, h2, _⟩ := h
  intro k hk
  exact h1.lt k (by rw [h2]; exact hk)
theorem RowC.cells {w : World} {base e size n : Nat} {v : Value} {xs : List Value} (h : RowC w base e size v n xs) {g : Nat} (hg : v.ownBlock = some g) : ∀ j u, xs[j]? = some u → w.cell? ⟨g, j, none⟩ = some u := by
  obtain ⟨v0, h1, h2, _⟩ := h
  intro j u hu
  have := h1.cells (g := g) (by rw [h2]; exact hg) j u hu
  rwa [Addr.add_lit, Nat.zero_add] at this
theorem RowC.form {w : World} {base e size n : Nat} {v : Value} {xs : List Value} (h : RowC w base e size v n xs) (hn : 0 < n) : ∃ g c, v = .slice (some ⟨g, 0, none⟩) n c ∧ n ≤ c ∧ c ≤ maxLen := by
  obtain ⟨v0, h1, h2, h3⟩ := h
  rcases h1.2 with ⟨_, h0⟩ | ⟨g, cap, cur, hv, hbb, hgg, q1, q2, _⟩
  · omega
  · rcases h3 with rfl | ⟨g', c', e1, e2⟩
    · exact ⟨g, cap, hv, q1, q2⟩
    · exact ⟨g', n, e2, Nat.le_refl _, Nat.le_trans q1 q2⟩
theorem ownsMap_of_block {w w' : World} {k b n : Nat} {D : mapD} (h : w.ownsMap Tryz.prog k (plainElem (H := Unit) Tryz.prog 3) b n D) (hb : w'.heap[b]? = w.heap[b]?) : w'.ownsMap Tryz.prog k (plainElem (H := Unit) Tryz.prog 3) b n D := by
  obtain ⟨es, clock, h1, F, hs, hD⟩ := h
  exact ⟨es, clock, hb.trans h1, F, hs, hD⟩
theorem ownsMap_drewN {w : World} {b n : Nat} {D : mapD} (h : w.ownsMap Tryz.prog 3 (plainElem (H := Unit) Tryz.prog 3) b n D) (m : Nat) : (w.drewN m).ownsMap Tryz.prog 3 (plainElem (H := Unit) Tryz.prog 3) b n D := ownsMap_of_block h rfl

theorem NdRows.kept {w w' base own i r} (h : NdRows w base own i r) (hb : ∀ k, FV own k → w'.heap[k]? = w.heap[k]?) : NdRows w' base own i r :=
  ⟨ownsRow_of_block h.k fun k e => hb k (by unfold FV; rw [h.tk k e]; omega), ownsRow_of_block h.s fun k e => hb k (by unfold FV; rw [h.ts k e]; omega), h.u.of_block fun k e => hb k (by unfold FV; rw [h.tu k e]; omega), fun h8 => ownsRow_of_block (h.u8 h8) fun k e => hb k (by unfold FV; rw [h.tu k e]; omega), h.tk, h.ts, h.tu⟩

section
variable {w w' : World} {R B base : Nat} {s : ByteArray} {root : Int} {nv : Value} {L : List NdR} {own : Nat → Nat}

/-- Kept where none of its blocks is touched. -/
theorem RdV.kept (h : RdV w R B base s root nv L own) (hb : ∀ k, FV own k → w'.heap[k]? = w.heap[k]?) (hz : w.heap.size ≤ w'.heap.size) : RdV w' R B base s root nv L own := by
  obtain ⟨D, h1, h2⟩ := h.map
  exact ⟨by rw [hb R (by unfold FV; rw [h.oR]; omega)]; exact h.blk, h.oR, h.oB, ownsRow_of_block h.nodes fun k e => hb k (by unfold FV; rw [h.oN k e]; omega), h.oN,
    ⟨D, ownsMap_of_block h1 (hb B (by unfold FV; rw [h.oB]; omega)), h2⟩, fun i r hr => (h.rows i r hr).kept hb, fun k hk => ⟨(h.lt k hk).1, Nat.lt_of_lt_of_le (h.lt k hk).2 hz⟩⟩
theorem RdV.gr (h : RdV w R B base s root nv L own) (g : Gr w w') : RdV w' R B base s root nv L own := h.kept (fun k hk => g.block (h.lt k hk).2) g.size
theorem RdV.alloc (h : RdV w R B base s root nv L own) (o : Obj) : RdV (w.alloc o) R B base s root nv L own := h.gr ((Gr.refl w).alloc o)
theorem RdV.drew (h : RdV w R B base s root nv L own) : RdV w.drew R B base s root nv L own := h.gr (Gr.refl w).drew
theorem RdV.drewN (h : RdV w R B base s root nv L own) (n : Nat) : RdV (w.drewN n) R B base s root nv L own := h.gr ((Gr.refl w).drewN n)
/-- A store into another block. -/
theorem RdV.setCell (h : RdV w R B base s root nv L own) {p : Addr} (hp : ¬ FV own p.block) (v : Value) : RdV (w.setCell p v) R B base s root nv L own :=
  h.kept (fun k hk => Below.heap_setCell _ _ _ _ (fun e => by subst e; exact hp hk)) (by simp [World.setCell])
theorem RdV.not_new (h : RdV w R B base s root nv L own) {k : Nat} (hk : w.heap.size ≤ k) : ¬ FV own k := fun e => by have := h.lt k e; omega
theorem RdV.R_lt (h : RdV w R B base s root nv L own) : base ≤ R ∧ R < w.heap.size := h.lt R (by rw [h.oR]; omega)
theorem RdV.B_lt (h : RdV w R B base s root nv L own) : base ≤ B ∧ B < w.heap.size := h.lt B (by rw [h.oB]; omega)
theorem RdV.cells (h : RdV w R B base s root nv L own) :
    w.cell? ⟨R, 0, none⟩ = some nv ∧ w.cell? ⟨R, 1, none⟩ = some (.int .i64 root) ∧ w.cell? ⟨R, 2, none⟩ = some (.string s) ∧ w.cell? ⟨R, 3, none⟩ = some (.map (some B)) ∧ (∀ i, w.frozen? ⟨R, i, none⟩ = false) :=
  ⟨by rw [cell_of_block h.blk]; rfl, by rw [cell_of_block h.blk]; rfl, by rw [cell_of_block h.blk]; rfl, by rw [cell_of_block h.blk]; rfl, fun i => unfrozen_of_block h.blk i⟩
/-- What the look-up in 'open' tells. -/
theorem RdV.look (h : RdV w R B base s root nv L own) (i : Nat) (hi : i ≤ 9223372036854775807) (r : NdR) (hr : L[i]? = some r) (W : World) (hW : W.heap[B]? = w.heap[B]?) :
    (Instr.lookup 70 (.map (some B)) (.int .i64 i) false).run Tryz.prog W = .ok (.int .i64 r.nd.owner) W := by
  obtain ⟨D, h1, h2⟩ := h.map
  have h1' := ownsMap_of_block (w' := W) h1 hW
  have hz : (zeroValue 3).run Tryz.prog W = .ok (.int .i64 0) W := by kernel_rfl
  obtain ⟨c, e1, e2, e3⟩ := h1'.lookup_int (Maps.int_keyed Tryz.underlying3) Tryz.underlying70 Tryz.underlying3 hz (Maps.keyOf_int_mk Tryz.underlying3 (show (Lit.int .i64 (i : Int)).wf = true by simp [Lit.wf, IntKind.min, IntKind.max, IntKind.signed, IntKind.bits]; omega))
  rw [h2.2.2 i r hr] at e2
  cases e2
  exact e1

/-- The nodes' block. -/
theorem RdV.form (h : RdV w R B base s root nv L own) (hL : 0 < L.length) : ∃ g cap cur, nv = .slice (some ⟨g, 0, none⟩) L.length cap ∧ base ≤ g ∧ g < w.heap.size ∧ own g = 3 ∧ g ≠ R ∧ g ≠ B ∧
    w.heap[g]? = some (.cells cur 46 (0, 0)) ∧ cur.size = cap * 7 ∧ L.length ≤ cap ∧ cap ≤ maxLen ∧ cur.toList.take (L.length * 7) = ndsV L := by
  rcases h.nodes.2 with ⟨_, h0⟩ | ⟨g, cap, cur, hv, hbb, hgg, h1, h2, h3, h4⟩
  · omega
  · have ho : own g = 3 := h.oN g (by rw [hv]; rfl)
    refine ⟨g, cap, cur, hv, hbb, (h.lt g (by omega)).2, ho, fun e => ?_, fun e => ?_, hgg, h3, h1, h2, h4⟩
    · subst e; rw [h.oR] at ho; omega
    · subst e; rw [h.oB] at ho; omega
/-- A node's cells. -/
theorem RdV.ndCells (h : RdV w R B base s root nv L own) {g cap : Nat} (hv : nv = .slice (some ⟨g, 0, none⟩) L.length cap) (i : Nat) (r : NdR) (hr : L[i]? = some r) :
    w.cell? ⟨g, i * 7, none⟩ = some (.int .u8 r.nd.kind) ∧ w.cell? ⟨g, i * 7 + 1, none⟩ = some (strV r.nd.text) ∧ w.cell? ⟨g, i * 7 + 2, none⟩ = some r.kv ∧ w.cell? ⟨g, i * 7 + 3, none⟩ = some r.sv ∧ w.cell? ⟨g, i * 7 + 4, none⟩ = some r.uv ∧
    w.cell? ⟨g, i * 7 + 5, none⟩ = some (.int .i64 r.nd.sp.1) ∧ w.cell? ⟨g, i * 7 + 6, none⟩ = some (.int .i64 r.nd.sp.2) ∧ (∀ o, w.frozen? ⟨g, o, none⟩ = false) := by
  have hL : 0 < L.length := by cases L with | nil => simp at hr | cons => simp
  have hc := h.nodes.cells (g := g) (by rw [hv]; rfl)
  have hj : ∀ j u, j < 7 → (ndV r)[j]? = some u → w.cell? ⟨g, i * 7 + j, none⟩ = some u := by
    intro j u hj hu
    have := hc (i * 7 + j) u (by rw [ndsV_get _ _ _ hj, hr]; exact hu)
    rwa [Addr.add_lit, Nat.zero_add] at this
  obtain ⟨g', cap', cur, hv', _, _, _, _, _, hgg, _⟩ := h.form hL
  rw [hv] at hv'
  cases hv'
  exact ⟨hj 0 _ (by omega) rfl, hj 1 _ (by omega) rfl, hj 2 _ (by omega) rfl, hj 3 _ (by omega) rfl, hj 4 _ (by omega) rfl, hj 5 _ (by omega) rfl, hj 6 _ (by omega) rfl, fun o => unfrozen_of_block hgg o⟩
end

end Go.Proofs.YtkcnbhenhmmfgaaGreatDoor
