/-
  The memory of the reader of tvalues: a key more in a table; a span; an entry of 'open'. Plain lemmas, no walk.
-/
import Derived.Test.YtkcnbhenhmmfgaaGreatDoorV1b
set_option linter.all false
set_option linter.unusedVariables false
set_option linter.unusedSimpArgs false
namespace Go.Proofs.YtkcnbhenhmmfgaaGreatDoor
open Go.RowKit Go.Joins

/-- Three rows that are appended to, in whatever order; the frame: only the blocks F have changed. -/
structure Rows3 (w0 W : World) (base : Nat) (F : Nat → Prop) (kv sv uv : Value) (nk ns nu : Nat) (xk xs xu : List Value) : Prop where
  st : St F (fun _ => False) w0 W
  k : W.ownsRow base 9 1 kv nk xk
  s : W.ownsRow base 44 2 sv ns xs
  u : W.ownsRow base 3 1 uv nu xu
  fk : ∀ b, kv.ownBlock = some b → F b ∨ w0.heap.size ≤ b
  fs : ∀ b, sv.ownBlock = some b → F b ∨ w0.heap.size ≤ b
  fu : ∀ b, uv.ownBlock = some b → F b ∨ w0.heap.size ≤ b
  ks : ∀ b, kv.ownBlock = some b → sv.ownBlock ≠ some b
  ku : ∀ b, kv.ownBlock = some b → uv.ownBlock ≠ some b
  su : ∀ b, sv.ownBlock = some b → uv.ownBlock ≠ some b

/-- A new block beside the rows. -/
structure NewB (W : World) (b : Nat) (cs : Array Value) (T : TypeId) (kv sv uv : Value) : Prop where
  blk : W.heap[b]? = some (.cells cs T (0, 0))
  k : kv.ownBlock ≠ some b
  s : sv.ownBlock ≠ some b
  u : uv.ownBlock ≠ some b

section
variable {w0 W w1 : World} {base : Nat} {F : Nat → Prop} {kv sv uv : Value} {nk ns nu : Nat} {xk xs xu : List Value}

theorem St.grownF {F F' : Nat → Prop} {a b c : World} {row : Option Nat} (h : St F F' a b) (g : b.grownBy c row) (hr : ∀ k, row = some k → F k ∨ a.heap.size ≤ k) : St F F' a c := h.grown g hr

theorem Rows3.size (h : Rows3 w0 W base F kv sv uv nk ns nu xk xs xu) : w0.heap.size ≤ W.heap.size := h.st.size
theorem Rows3.alloc (h : Rows3 w0 W base F kv sv uv nk ns nu xk xs xu) (o : Obj) : Rows3 w0 (W.alloc o) base F kv sv uv nk ns nu xk xs xu :=
  ⟨h.st.alloc o, h.k.alloc o, h.s.alloc o, h.u.alloc o, h.fk, h.fs, h.fu, h.ks, h.ku, h.su⟩
theorem Rows3.drew (h : Rows3 w0 W base F kv sv uv nk ns nu xk xs xu) : Rows3 w0 W.drew base F kv sv uv nk ns nu xk xs xu :=
  ⟨h.st.drew, h.k, h.s, h.u, h.fk, h.fs, h.fu, h.ks, h.ku, h.su⟩
theorem Rows3.newB (h : Rows3 w0 W base F kv sv uv nk ns nu xk xs xu) (cs : Array Value) (T : TypeId) : NewB (W.alloc (.cells cs T)) W.heap.size cs T kv sv uv :=
  ⟨heap_alloc_new _ _, fun e => by have := (h.k.lt _ e).2; omega, fun e => by have := (h.s.lt _ e).2; omega, fun e => by have := (h.u.lt _ e).2; omega⟩
theorem NewB.lt {b : Nat} {cs : Array Value} {T : TypeId} (h : NewB W b cs T kv sv uv) : b < W.heap.size := (Array.getElem?_eq_some_iff.1 h.blk).1
theorem NewB.alloc {b : Nat} {cs : Array Value} {T : TypeId} (h : NewB W b cs T kv sv uv) (o : Obj) : NewB (W.alloc o) b cs T kv sv uv :=
  ⟨((Gr.refl W).alloc o).block h.lt |>.trans h.blk, h.k, h.s, h.u⟩
theorem NewB.drew {b : Nat} {cs : Array Value} {T : TypeId} (h : NewB W b cs T kv sv uv) : NewB W.drew b cs T kv sv uv := ⟨h.blk, h.k, h.s, h.u⟩

theorem row_apart {base e size n : Nat} {v : Value} {xs : List Value} (h : W.ownsRow base e size v n xs) {row : Option Nat} (hg : W.grownBy w1 row) (hne : ∀ b, row = some b → v.ownBlock ≠ some b) : w1.ownsRow base e size v n xs :=
  h.kept hg (by cases hv : v.ownBlock with
    | none => exact .inl rfl
    | some b => exact .inr (fun e => hne b e.symm hv))

theorem Rows3.appK (h : Rows3 w0 W base F kv sv uv nk ns nu xk xs xu) {g cap : Nat} {ys : List Value} (ho : w1.ownsRow base 9 1 (.slice (some ⟨g, 0, none⟩) (nk + 1) cap) (nk + 1) ys) (hg : W.grownBy w1 kv.ownBlock)
    (hat : kv.ownBlock = some g ∨ g = W.heap.size) : Rows3 w0 w1 base F (.slice (some ⟨g, 0, none⟩) (nk + 1) cap) sv uv (nk + 1) ns nu ys xs xu := by
  have hgf : F g ∨ w0.heap.size ≤ g := by
    rcases hat with e | e
    · exact h.fk g e
    · exact .inr (by have := h.size; omega)
  have hs : sv.ownBlock ≠ some g := by
    rcases hat with e | e
    · exact h.ks g e
    · intro e2; have := (h.s.lt g e2).2; omega
  have hu : uv.ownBlock ≠ some g := by
    rcases hat with e | e
    · exact h.ku g e
    · intro e2; have := (h.u.lt g e2).2; omega
  exact ⟨h.st.grown hg h.fk, ho, row_apart h.s hg h.ks, row_apart h.u hg h.ku, fun b e => by simp [Value.ownBlock] at e; subst e; exact hgf, h.fs, h.fu,
    fun b e => by simp [Value.ownBlock] at e; subst e; exact hs, fun b e => by simp [Value.ownBlock] at e; subst e; exact hu, h.su⟩
theorem Rows3.appS (h : Rows3 w0 W base F kv sv uv nk ns nu xk xs xu) {g cap : Nat} {ys : List Value} (ho : w1.ownsRow base 44 2 (.slice (some ⟨g, 0, none⟩) (ns + 1) cap) (ns + 1) ys) (hg : W.grownBy w1 sv.ownBlock)
    (hat : sv.ownBlock = some g ∨ g = W.heap.size) : Rows3 w0 w1 base F kv (.slice (some ⟨g, 0, none⟩) (ns + 1) cap) uv nk (ns + 1) nu xk ys xu := by
  have hgf : F g ∨ w0.heap.size ≤ g := by
    rcases hat with e | e
    · exact h.fs g e
    · exact .inr (by have := h.size; omega)
  have hk : kv.ownBlock ≠ some g := by
    rcases hat with e | e
    · intro e2; exact h.ks g e2 e
    · intro e2; have := (h.k.lt g e2).2; omega
  have hu : uv.ownBlock ≠ some g := by
    rcases hat with e | e
    · exact h.su g e
    · intro e2; have := (h.u.lt g e2).2; omega
  exact ⟨h.st.grown hg h.fs, row_apart h.k hg (fun b e e2 => h.ks b e2 e), ho, row_apart h.u hg h.su, h.fk, fun b e => by simp [Value.ownBlock] at e; subst e; exact hgf, h.fu,
    fun b e e2 => by simp [Value.ownBlock] at e2; subst e2; exact hk e, h.ku, fun b e => by simp [Value.ownBlock] at e; subst e; exact hu⟩
theorem Rows3.appU (h : Rows3 w0 W base F kv sv uv nk ns nu xk xs xu) {g cap : Nat} {ys : List Value} (ho : w1.ownsRow base 3 1 (.slice (some ⟨g, 0, none⟩) (nu + 1) cap) (nu + 1) ys) (hg : W.grownBy w1 uv.ownBlock)
    (hat : uv.ownBlock = some g ∨ g = W.heap.size) : Rows3 w0 w1 base F kv sv (.slice (some ⟨g, 0, none⟩) (nu + 1) cap) nk ns (nu + 1) xk xs ys := by
  have hgf : F g ∨ w0.heap.size ≤ g := by
    rcases hat with e | e
    · exact h.fu g e
    · exact .inr (by have := h.size; omega)
  have hk : kv.ownBlock ≠ some g := by
    rcases hat with e | e
    · intro e2; exact h.ku g e2 e
    · intro e2; have := (h.k.lt g e2).2; omega
  have hs : sv.ownBlock ≠ some g := by
    rcases hat with e | e
    · intro e2; exact h.su g e2 e
    · intro e2; have := (h.s.lt g e2).2; omega
  exact ⟨h.st.grown hg h.fu, row_apart h.k hg (fun b e e2 => h.ku b e2 e), row_apart h.s hg (fun b e e2 => h.su b e2 e), ho, h.fk, h.fs, fun b e => by simp [Value.ownBlock] at e; subst e; exact hgf,
    h.ks, fun b e e2 => by simp [Value.ownBlock] at e2; subst e2; exact hk e, fun b e e2 => by simp [Value.ownBlock] at e2; subst e2; exact hs e⟩
/-- The new block is as it was behind an append onto one of the rows. -/
theorem NewB.app {b g n cap : Nat} {cs : Array Value} {T : TypeId} (h : NewB W b cs T kv sv uv) {v : Value} (hv : v.ownBlock ≠ some b) (hg : W.grownBy w1 v.ownBlock) (hat : v.ownBlock = some g ∨ g = W.heap.size) :
    w1.heap[b]? = some (.cells cs T (0, 0)) ∧ (Value.slice (some ⟨g, 0, none⟩) n cap).ownBlock ≠ some b := by
  refine ⟨by rw [hg.block b h.lt (fun e => hv e.symm)]; exact h.blk, fun e => ?_⟩
  simp [Value.ownBlock] at e
  subst e
  rcases hat with e | e
  · exact hv e
  · have := h.lt; omega
theorem NewB.appK {b g n cap : Nat} {cs : Array Value} {T : TypeId} (h : NewB W b cs T kv sv uv) (hg : W.grownBy w1 kv.ownBlock) (hat : kv.ownBlock = some g ∨ g = W.heap.size) : NewB w1 b cs T (.slice (some ⟨g, 0, none⟩) n cap) sv uv :=
  ⟨(h.app (n := n) (cap := cap) h.k hg hat).1, (h.app h.k hg hat).2, h.s, h.u⟩
theorem NewB.appS {b g n cap : Nat} {cs : Array Value} {T : TypeId} (h : NewB W b cs T kv sv uv) (hg : W.grownBy w1 sv.ownBlock) (hat : sv.ownBlock = some g ∨ g = W.heap.size) : NewB w1 b cs T kv (.slice (some ⟨g, 0, none⟩) n cap) uv :=
  ⟨(h.app (n := n) (cap := cap) h.s hg hat).1, h.k, (h.app h.s hg hat).2, h.u⟩
theorem NewB.appU {b g n cap : Nat} {cs : Array Value} {T : TypeId} (h : NewB W b cs T kv sv uv) (hg : W.grownBy w1 uv.ownBlock) (hat : uv.ownBlock = some g ∨ g = W.heap.size) : NewB w1 b cs T kv sv (.slice (some ⟨g, 0, none⟩) n cap) :=
  ⟨(h.app (n := n) (cap := cap) h.u hg hat).1, h.k, h.s, (h.app h.u hg hat).2⟩
end

/-- A cell of an owned row turns. -/
theorem ownsRow_set {w : World} {base e size n g cap : Nat} {xs : List Value} (h : w.ownsRow base e size (.slice (some ⟨g, 0, none⟩) n cap) n xs) (j : Nat) (hj : j < xs.length) (x : Value) :
    (w.setCell ⟨g, j, none⟩ x).ownsRow base e size (.slice (some ⟨g, 0, none⟩) n cap) n (xs.set j x) := by
  refine ⟨by rw [List.length_set]; exact h.1, ?_⟩
  have h1 := h.1
  rcases h.2 with ⟨h2, _⟩ | ⟨g', cap', cur, h2, h3, h4, h5, h6, h7, h8⟩
  · cases h2
  · cases h2
    refine .inr ⟨g, cap, cur.setIfInBounds j x, rfl, h3, block_setCell h4 x, h5, h6, by simpa using h7, ?_⟩
    rw [← h8, Array.toList_setIfInBounds, List.take_set]

/-- The blocks of a node's rows. -/
def FI (own : Nat → Nat) (i : Nat) (k : Nat) : Prop := own k = 4 + 3 * i ∨ own k = 5 + 3 * i ∨ own k = 6 + 3 * i

theorem RdV.start3 {w W : World} {R B base : Nat} {s : ByteArray} {root : Int} {nv : Value} {L : List NdR} {own : Nat → Nat} (h : RdV w R B base s root nv L own) (g1 : Gr w W) (i : Nat) (r : NdR) (hr : L[i]? = some r) (h8 : r.nd.kind = 8) :
    Rows3 w W base (FI own i) r.kv r.sv r.uv r.nd.keys.length r.nd.spots.length r.nd.subs.length (keysV r.nd.keys) (spotsV r.nd.spots) (subsV r.nd.subs) := by
  have hx := h.rows i r hr
  have kp : ∀ {e size n v xs t}, w.ownsRow base e size v n xs → Tagged own v t → t ≠ 0 → W.ownsRow base e size v n xs := fun ho ht h0 => ownsRow_of_block ho fun k e => g1.block (h.lt k (by rw [ht k e]; exact h0)).2
  refine ⟨(g1.st).to (fun _ e => e.elim), kp hx.k hx.tk (by omega), kp hx.s hx.ts (by omega), kp (hx.u8 h8) hx.tu (by omega), fun b e => .inl (.inl (hx.tk b e)), fun b e => .inl (.inr (.inl (hx.ts b e))), fun b e => .inl (.inr (.inr (hx.tu b e))), ?_, ?_, ?_⟩
  · intro b e e2; have := hx.tk b e; have := hx.ts b e2; omega
  · intro b e e2; have := hx.tk b e; have := hx.tu b e2; omega
  · intro b e e2; have := hx.ts b e; have := hx.tu b e2; omega

/-- What a key more leaves. -/
def PutMore (w w2 : World) (R B base : Nat) (s : ByteArray) (root : Int) (nv : Value) (L : List NdR) (own : Nat → Nat) (i : Nat) (nd : Pl.Nd) : Prop :=
  ∃ own' kv sv uv, RdV w2 R B base s root nv (L.set i ⟨nd, kv, sv, uv⟩) own' ∧ St (FV own) (FV own') w w2 ∧ (∀ k, own' k ≠ 0 → own k ≠ 0 ∨ w.heap.size ≤ k)

theorem RdV.putDone {w W : World} {R B base : Nat} {s : ByteArray} {root : Int} {L : List NdR} {own : Nat → Nat} {g cap : Nat} (h : RdV w R B base s root (.slice (some ⟨g, 0, none⟩) L.length cap) L own) (i : Nat) (r : NdR) (hr : L[i]? = some r)
    (nd : Pl.Nd) (hk1 : nd.kind = r.nd.kind) (hk2 : nd.text = r.nd.text) (hk3 : nd.sp = r.nd.sp) (hk4 : nd.owner = r.nd.owner) {kv sv uv : Value}
    (H : Rows3 w W base (FI own i) kv sv uv nd.keys.length nd.spots.length nd.subs.length (keysV nd.keys) (spotsV nd.spots) (subsV nd.subs)) :
    PutMore w (((W.setCell ⟨g, i * 7 + 2, none⟩ kv).setCell ⟨g, i * 7 + 3, none⟩ sv).setCell ⟨g, i * 7 + 4, none⟩ uv) R B base s root (.slice (some ⟨g, 0, none⟩) L.length cap) L own i nd := by
  have hi : i < L.length := (List.getElem?_eq_some_iff.1 hr).1
  have hgo : own g = 3 := h.oN g rfl
  have hgl := h.lt g (by omega)
  have hz := H.size
  have hR := h.R_lt
  have hB := h.B_lt
  obtain ⟨WF, hWF⟩ : ∃ WF, ((W.setCell ⟨g, i * 7 + 2, none⟩ kv).setCell ⟨g, i * 7 + 3, none⟩ sv).setCell ⟨g, i * 7 + 4, none⟩ uv = WF := ⟨_, rfl⟩
  have hsz : WF.heap.size = W.heap.size := by subst hWF; simp [World.setCell]
  have hbl : ∀ k, k ≠ g → WF.heap[k]? = W.heap[k]? := by
    intro k hk
    subst hWF
    rw [Below.heap_setCell _ _ _ _ hk, Below.heap_setCell _ _ _ _ hk, Below.heap_setCell _ _ _ _ hk]
  have hwg : ∀ k, k < w.heap.size → k ≠ g → ¬ FI own i k → WF.heap[k]? = w.heap[k]? := fun k hk h1 h2 => (hbl k h1).trans (H.st.block k hk h2)
  -- the nodes' row
  have hnW : W.ownsRow base 46 7 (.slice (some ⟨g, 0, none⟩) L.length cap) L.length (ndsV L) :=
    ownsRow_of_block h.nodes fun k e => by
      simp [Value.ownBlock] at e; subst e
      exact H.st.block g hgl.2 (fun e => by unfold FI at e; omega)
  have hlen : (ndsV L).length = L.length * 7 := ndsV_length L
  have hnF : WF.ownsRow base 46 7 (.slice (some ⟨g, 0, none⟩) L.length cap) L.length (ndsV (L.set i ⟨nd, kv, sv, uv⟩)) := by
    subst hWF
    have e1 := ownsRow_set hnW (i * 7 + 2) (by omega) kv
    have e2 := ownsRow_set e1 (i * 7 + 3) (by rw [List.length_set]; omega) sv
    have e3 := ownsRow_set e2 (i * 7 + 4) (by rw [List.length_set, List.length_set]; omega) uv
    have f1 := ndsV_set L i 2 (by omega) kv r ⟨r.nd, kv, r.sv, r.uv⟩ hr rfl
    have f2 := ndsV_set (L.set i ⟨r.nd, kv, r.sv, r.uv⟩) i 3 (by omega) sv ⟨r.nd, kv, r.sv, r.uv⟩ ⟨r.nd, kv, sv, r.uv⟩ (by simp [hi]) rfl
    have f3 := ndsV_set ((L.set i ⟨r.nd, kv, r.sv, r.uv⟩).set i ⟨r.nd, kv, sv, r.uv⟩) i 4 (by omega) uv ⟨r.nd, kv, sv, r.uv⟩ ⟨nd, kv, sv, uv⟩ (by simp [hi]) (by simp [ndV, hk1, hk2, hk3])
    rw [f1, f2, f3] at e3
    simpa using e3
  rw [hWF]
  refine ⟨fun k => if kv.ownBlock = some k then 4 + 3 * i else if sv.ownBlock = some k then 5 + 3 * i else if uv.ownBlock = some k then 6 + 3 * i else own k, kv, sv, uv, ?_, ?_, ?_⟩
  · -- tags that are not this node's stay
    have tg : ∀ k, own k ≠ 0 → ¬ FI own i k → (if kv.ownBlock = some k then 4 + 3 * i else if sv.ownBlock = some k then 5 + 3 * i else if uv.ownBlock = some k then 6 + 3 * i else own k) = own k := by
      intro k h0 hF
      have hk := (h.lt k h0).2
      have a1 : kv.ownBlock ≠ some k := fun e => (H.fk k e).elim hF (fun e => by omega)
      have a2 : sv.ownBlock ≠ some k := fun e => (H.fs k e).elim hF (fun e => by omega)
      have a3 : uv.ownBlock ≠ some k := fun e => (H.fu k e).elim hF (fun e => by omega)
      simp only [a1, a2, a3, if_false]
    have nF : ∀ k t, own k = t → t < 4 → ¬ FI own i k := fun k t e h4 e2 => by unfold FI at e2; omega
    have hng : ∀ k, own k ≠ 3 → k ≠ g := fun k e e2 => by subst e2; exact e hgo
    have hgn : ∀ {v : Value} {e size n xs}, W.ownsRow base e size v n xs → (∀ b, v.ownBlock = some b → FI own i b ∨ w.heap.size ≤ b) → ∀ k, v.ownBlock = some k → k ≠ g := by
      intro v e size n xs _ hv k hk e2
      subst e2
      rcases hv k hk with h1 | h1
      · unfold FI at h1; omega
      · omega
    refine ⟨?_, ?_, ?_, ?_, ?_, ?_, ?_, ?_⟩
    · rw [hwg R hR.2 (hng R (by rw [h.oR]; omega)) (nF R 1 h.oR (by omega))]; exact h.blk
    · rw [tg R (by rw [h.oR]; omega) (nF R 1 h.oR (by omega))]; exact h.oR
    · rw [tg B (by rw [h.oB]; omega) (nF B 2 h.oB (by omega))]; exact h.oB
    · rw [List.length_set]; exact hnF
    · intro k e
      simp [Value.ownBlock] at e; subst e
      show (if _ then _ else _) = 3
      rw [tg g (by omega) (nF g 3 hgo (by omega))]; exact hgo
    · obtain ⟨D, h1, h2, h3, h4⟩ := h.map
      refine ⟨D, ownsMap_of_block (by rw [cntO_same L i r ⟨nd, kv, sv, uv⟩ hr hk4]; exact h1) (hwg B hB.2 (hng B (by rw [h.oB]; omega)) (nF B 2 h.oB (by omega))), h2, by rw [List.length_set]; exact h3, fun j x hx => ?_⟩
      rw [List.getElem?_set] at hx
      split at hx
      · rename_i hji
        subst hji
        cases hx
        rw [h4 i r hr]
        simp only [hk4]
      · exact h4 j x hx
    · intro j x hx
      rw [List.getElem?_set] at hx
      split at hx
      · rename_i hji
        subst hji
        cases hx
        refine ⟨ownsRow_of_block H.k fun k e => hbl k (hgn H.k H.fk k e), ownsRow_of_block H.s fun k e => hbl k (hgn H.s H.fs k e), rowC_of (ownsRow_of_block H.u fun k e => hbl k (hgn H.u H.fu k e)), fun _ => ownsRow_of_block H.u fun k e => hbl k (hgn H.u H.fu k e), ?_, ?_, ?_⟩
        · intro k e; simp only at e; simp only [e, if_true]
        · intro k e
          simp only at e
          have a1 : kv.ownBlock ≠ some k := fun e2 => H.ks k e2 e
          simp only [a1, e, if_true, if_false]
        · intro k e
          simp only at e
          have a1 : kv.ownBlock ≠ some k := fun e2 => H.ku k e2 e
          have a2 : sv.ownBlock ≠ some k := fun e2 => H.su k e2 e
          simp only [a1, a2, e, if_true, if_false]
      · rename_i hji
        have hxr := h.rows j x hx
        have kp : ∀ {e size n v xs t}, w.ownsRow base e size v n xs → Tagged own v t → 4 ≤ t → (t ≠ 4 + 3 * i ∧ t ≠ 5 + 3 * i ∧ t ≠ 6 + 3 * i) →
            WF.ownsRow base e size v n xs ∧ Tagged (fun k => if kv.ownBlock = some k then 4 + 3 * i else if sv.ownBlock = some k then 5 + 3 * i else if uv.ownBlock = some k then 6 + 3 * i else own k) v t := by
          intro e size n v xs t ho ht h4 hne
          have hF : ∀ k, v.ownBlock = some k → ¬ FI own i k := fun k e e2 => by have := ht k e; unfold FI at e2; omega
          refine ⟨ownsRow_of_block ho fun k e => hwg k (h.lt k (by rw [ht k e]; omega)).2 (hng k (by rw [ht k e]; omega)) (hF k e), fun k e => ?_⟩
          show (if _ then _ else _) = t
          rw [tg k (by rw [ht k e]; omega) (hF k e)]; exact ht k e
        have a := kp hxr.k hxr.tk (by omega) (by omega)
        have b := kp hxr.s hxr.ts (by omega) (by omega)
        have c : RowC WF base 3 1 x.uv x.nd.subs.length (subsV x.nd.subs) ∧ _ := ⟨hxr.u.of_block fun k e => hwg k (h.lt k (by rw [hxr.tu k e]; omega)).2 (hng k (by rw [hxr.tu k e]; omega)) (fun e2 => by have := hxr.tu k e; unfold FI at e2; omega), fun h8 => (kp (hxr.u8 h8) hxr.tu (by omega) (by omega)).1⟩
        have ct : Tagged (fun k => if kv.ownBlock = some k then 4 + 3 * i else if sv.ownBlock = some k then 5 + 3 * i else if uv.ownBlock = some k then 6 + 3 * i else own k) x.uv (6 + 3 * j) := fun k e => by
          show (if _ then _ else _) = _
          rw [tg k (by rw [hxr.tu k e]; omega) (fun e2 => by have := hxr.tu k e; unfold FI at e2; omega)]; exact hxr.tu k e
        exact ⟨a.1, b.1, c.1, c.2, a.2, b.2, ct⟩
    · intro k hk
      rw [hsz]
      by_cases h0 : own k = 0
      · split at hk
        · rename_i e; have := H.k.lt k e; exact this
        · split at hk
          · rename_i e; have := H.s.lt k e; exact this
          · split at hk
            · rename_i e; have := H.u.lt k e; exact this
            · exact absurd h0 hk
      · have := h.lt k h0; exact ⟨this.1, by omega⟩
  · refine ⟨?_, ?_, ?_, by omega, ?_, ?_⟩
    · subst hWF; exact H.st.os
    · subst hWF; exact H.st.tape
    · subst hWF; exact H.st.output
    · intro k hk hn
      refine hwg k hk (fun e => hn ?_) (fun e => hn ?_)
      · subst e; unfold FV; omega
      · unfold FI at e; unfold FV; omega
    · intro k hk
      replace hk : (if kv.ownBlock = some k then 4 + 3 * i else if sv.ownBlock = some k then 5 + 3 * i else if uv.ownBlock = some k then 6 + 3 * i else own k) ≠ 0 := hk
      have fi : ∀ b, FI own i b ∨ w.heap.size ≤ b → FV own b ∨ w.heap.size ≤ b := fun b e => e.imp (fun e => by unfold FI at e; unfold FV; omega) id
      split at hk
      · rename_i e; exact fi k (H.fk k e)
      · split at hk
        · rename_i e; exact fi k (H.fs k e)
        · split at hk
          · rename_i e; exact fi k (H.fu k e)
          · exact .inl hk
  · intro k hk
    replace hk : (if kv.ownBlock = some k then 4 + 3 * i else if sv.ownBlock = some k then 5 + 3 * i else if uv.ownBlock = some k then 6 + 3 * i else own k) ≠ 0 := hk
    have fi : ∀ b, FI own i b ∨ w.heap.size ≤ b → own b ≠ 0 ∨ w.heap.size ≤ b := fun b e => e.imp (fun e => by unfold FI at e; omega) id
    split at hk
    · rename_i e; exact fi k (H.fk k e)
    · split at hk
      · rename_i e; exact fi k (H.fs k e)
      · split at hk
        · rename_i e; exact fi k (H.fu k e)
        · exact .inl hk

end Go.Proofs.YtkcnbhenhmmfgaaGreatDoor
