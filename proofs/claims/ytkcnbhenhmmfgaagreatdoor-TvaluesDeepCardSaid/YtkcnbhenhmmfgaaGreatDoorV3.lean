/-
  Walk: the reader of tvalues: put.
-/
import Derived.Test.YtkcnbhenhmmfgaaGreatDoorV2
import Derived.Test.YtkcnbhenhmmfgaaGreatDoorV1c
import Derived.Test.YtkcnbhenhmmfgaaGreatDoorReg
set_option linter.all false
set_option linter.unusedVariables false
set_option linter.unusedSimpArgs false
namespace Go.Proofs.YtkcnbhenhmmfgaaGreatDoor
open Go.RowKit Go.Joins

theorem infoStr : (Tryz.prog.info? 9).map (fun i => (i.zero, i.size, i.bytes)) = some (some (.string ⟨#[]⟩), 1, 16) := by kernel_rfl
theorem infoSpan : (Tryz.prog.info? 44).map (fun i => (i.zero, i.size, i.bytes)) = some (some (.agg #[.int .i64 0, .int .i64 0]), 2, 16) := by kernel_rfl
theorem infoInt : (Tryz.prog.info? 3).map (fun i => (i.zero, i.size, i.bytes)) = some (some (.int .i64 0), 1, 8) := by kernel_rfl

/-- What put's loads read. -/
def PutS (g i T0 : Nat) (r : NdR) (a b : Nat) (w' : World) : Prop :=
  w'.cell? ⟨g, i * 7 + 2, none⟩ = some r.kv ∧ w'.cell? ⟨g, i * 7 + 3, none⟩ = some r.sv ∧ w'.cell? ⟨g, i * 7 + 4, none⟩ = some r.uv ∧ w'.cell? ⟨T0, 0, none⟩ = some (.int .i64 a) ∧ w'.cell? ⟨T0, 1, none⟩ = some (.int .i64 b)
/-- The node's cells, as the call begins. -/
def PutC (w : World) (own : Nat → Nat) (g i : Nat) (r : NdR) : Prop :=
  g < w.heap.size ∧ own g = 3 ∧ w.cell? ⟨g, i * 7 + 2, none⟩ = some r.kv ∧ w.cell? ⟨g, i * 7 + 3, none⟩ = some r.sv ∧ w.cell? ⟨g, i * 7 + 4, none⟩ = some r.uv ∧ (∀ o, w.frozen? ⟨g, o, none⟩ = false)

section
variable {w V : World} {base g i T0 : Nat} {own : Nat → Nat} {r : NdR} {a b : Nat} {kv sv uv : Value} {nk ns nu : Nat} {xk xs xu : List Value}
theorem putF_of (H : Rows3 w V base (FI own i) kv sv uv nk ns nu xk xs xu) (hc : PutC w own g i r) :
    V.cell? ⟨g, i * 7 + 2, none⟩ = some r.kv ∧ V.cell? ⟨g, i * 7 + 3, none⟩ = some r.sv ∧ V.cell? ⟨g, i * 7 + 4, none⟩ = some r.uv ∧ (∀ o, V.frozen? ⟨g, o, none⟩ = false) := by
  obtain ⟨h1, h2, h3, h4, h5, h6⟩ := hc
  have hu := H.st.use g h1 (fun e => by unfold FI at e; omega)
  exact ⟨(hu.1 _).trans h3, (hu.1 _).trans h4, (hu.1 _).trans h5, fun o => (hu.2 o).trans (h6 o)⟩
theorem putS_of (H : Rows3 w V base (FI own i) kv sv uv nk ns nu xk xs xu) (N : NewB V T0 #[.int .i64 a, .int .i64 b] 44 kv sv uv) (hc : PutC w own g i r) : PutS g i T0 r a b V := by
  obtain ⟨h1, h2, h3, _⟩ := putF_of H hc
  exact ⟨h1, h2, h3, by rw [cell_of_block N.blk]; rfl, by rw [cell_of_block N.blk]; rfl⟩
end

theorem bs_mk (s : ByteArray) : (⟨(bs s).toArray⟩ : ByteArray) = s := by cases s; simp [bs]
theorem strV_bs (s : ByteArray) : strV (bs s) = .string s := by show Value.string _ = _; rw [bs_mk]

set_option maxHeartbeats 4000000 in
set_option maxRecDepth 100000 in
theorem tv_put (w : World) (R B base : Nat) (s : ByteArray) (root : Int) (nv : Value) (L : List NdR) (own : Nat → Nat) (h : RdV w R B base s root nv L own) (hL : L.length ≤ 30000000)
    (i : Nat) (r : NdR) (hr : L[i]? = some r) (h8 : r.nd.kind = 8) (hrk : r.nd.keys.length ≤ 30000000) (hrs : r.nd.spots.length ≤ 30000000) (hru : r.nd.subs.length ≤ 30000000) (key : ByteArray) (a b n : Nat) :
    Calls Tryz.prog 73 #[.pointer (some ⟨R, 0, none⟩), .int .i64 i, .string key, .agg #[.int .i64 a, .int .i64 b], .int .i64 n] w fun e w' =>
      e = .returned (.tuple #[]) ∧ PutMore w w' R B base s root nv L own i (Pl.putNd r.nd (bs key) (a, b) n) := by
  have hi : i < L.length := (List.getElem?_eq_some_iff.1 hr).1
  obtain ⟨g, cap, cur, rfl, hgb, hgl, hgo, hgR, hgB, hgh, hcs, hLc, hcm, htk⟩ := h.form (by omega)
  obtain ⟨c0, c1, c2, c3, fz⟩ := h.cells
  obtain ⟨n0, n1, n2, n3, n4, n5, n6, nf⟩ := h.ndCells rfl i r hr
  have HC : Hid (PutC w own g i r) := ⟨hgl, hgo, n2, n3, n4, nf⟩
  have hR := h.R_lt
  have hbase : base ≤ w.heap.size := by omega
  have HEND : Hid (∀ V kv sv uv, Rows3 w V base (FI own i) kv sv uv (r.nd.keys.length + 1) (r.nd.spots.length + 1) (r.nd.subs.length + 1) (keysV r.nd.keys ++ [.string key]) (spotsV r.nd.spots ++ [.int .i64 a, .int .i64 b]) (subsV r.nd.subs ++ [.int .i64 n]) →
      PutMore w (((V.setCell ⟨g, i * 7 + 2, none⟩ kv).setCell ⟨g, i * 7 + 3, none⟩ sv).setCell ⟨g, i * 7 + 4, none⟩ uv) R B base s root (.slice (some ⟨g, 0, none⟩) L.length cap) L own i (Pl.putNd r.nd (bs key) (a, b) n)) := by
    intro V kv sv uv H
    refine h.putDone i r hr (Pl.putNd r.nd (bs key) (a, b) n) rfl rfl rfl rfl ?_
    have e1 : (Pl.putNd r.nd (bs key) (a, b) n).keys.length = r.nd.keys.length + 1 := by simp [Pl.putNd]
    have e2 : (Pl.putNd r.nd (bs key) (a, b) n).spots.length = r.nd.spots.length + 1 := by simp [Pl.putNd]
    have e3 : (Pl.putNd r.nd (bs key) (a, b) n).subs.length = r.nd.subs.length + 1 := by simp [Pl.putNd]
    have e4 : keysV (Pl.putNd r.nd (bs key) (a, b) n).keys = keysV r.nd.keys ++ [.string key] := by simp only [Pl.putNd, keysV, List.map_append, List.map_cons, List.map_nil, strV_bs]
    have e5 : spotsV (Pl.putNd r.nd (bs key) (a, b) n).spots = spotsV r.nd.spots ++ [.int .i64 a, .int .i64 b] := by simp [Pl.putNd, spotsV]
    have e6 : subsV (Pl.putNd r.nd (bs key) (a, b) n).subs = subsV r.nd.subs ++ [.int .i64 n] := by simp [Pl.putNd, subsV]
    rw [e1, e2, e3, e4, e5, e6]
    exact H
  have HST : Hid (∀ V, Gr w V → Rows3 w V base (FI own i) r.kv r.sv r.uv r.nd.keys.length r.nd.spots.length r.nd.subs.length (keysV r.nd.keys) (spotsV r.nd.spots) (subsV r.nd.subs)) := fun V g1 => h.start3 g1 i r hr h8
  obtain ⟨iK, k1, k2, k3, k4⟩ := info_parts infoStr
  obtain ⟨iS, s1, s2, s3, s4⟩ := info_parts infoSpan
  obtain ⟨iU, u1, u2, u3, u4⟩ := info_parts infoInt
  have HIK := Lib.hid (And.intro k1 (And.intro k2 (And.intro k3 k4)))
  have HIS := Lib.hid (And.intro s1 (And.intro s2 (And.intro s3 s4)))
  have HIU := Lib.hid (And.intro u1 (And.intro u2 (And.intro u3 u4)))
  have hi1 : (0 : Int) ≤ (i : Int) := by omega
  have hi2 : (i : Int) < (L.length : Int) := by omega
  clear h8 k1 k2 k3 k4 s1 s2 s3 s4 u1 u2 u3 u4 fz h hgh hcs htk hr n0 n1 n2 n3 n4 n5 n6 nf
  go_enter Tryz.func73, Tryz.ntmps73
  go_wp2_with fail
  have HR0' := HST.out _ ((Gr.refl w).alloc (.cells #[.int .i64 a, .int .i64 b] 44)).drew
  have NBT' := (HST.out w (Gr.refl w)).newB #[.int .i64 a, .int .i64 b] 44
  refine Reg.begin' (W := fun i => i != 26 && i != 29 && i != 32) (S := PutS g i w.heap.size r a b) (by kernel_rfl) ?_
  obtain ⟨V0, hV⟩ : ∃ V0, (w.alloc (.cells #[.int .i64 a, .int .i64 b] 44)).drew = V0 := ⟨_, rfl⟩
  have NBT0' := NBT'.drew
  rw [hV] at HR0' NBT0' ⊢
  clear hV NBT'
  have HR0 := Lib.hid HR0'
  have NBT0 := Lib.hid NBT0'
  clear HR0' NBT0'
  have hS0 := putS_of HR0.out NBT0.out HC.out
  refine Reg.takeY (i := 0) (v := ?_) rfl (by kernel_rfl) (by kernel_rfl) (by kernel_rfl) (fun _ _ _ h => h) (by rfl) ?_ ?_
  rotate_left
  · (intro w; go_simp; try with_reducible rfl)
  try simp only [Act.put, List.setIfInBounds_toArray, List.set_cons_zero, List.set_cons_succ]
  refine Reg.takeY (i := 1) (v := ?_) rfl (by kernel_rfl) (by kernel_rfl) (by kernel_rfl) (fun _ _ _ h => h) (by rfl) ?_ ?_
  rotate_left
  · (intro w; go_simp; try with_reducible rfl)
  try simp only [Act.put, List.setIfInBounds_toArray, List.set_cons_zero, List.set_cons_succ]
  refine Reg.takeY (i := 2) (v := ?_) rfl (by kernel_rfl) (by kernel_rfl) (by kernel_rfl) (fun _ _ _ h => h) (by rfl) ?_ ?_
  rotate_left
  · (intro w; go_simp; try with_reducible rfl)
  try simp only [Act.put, List.setIfInBounds_toArray, List.set_cons_zero, List.set_cons_succ]
  refine Reg.takeY (i := 3) (v := ?_) rfl (by kernel_rfl) (by kernel_rfl) (by kernel_rfl) (fun _ _ _ h => h) (by rfl) ?_ ?_
  rotate_left
  · (intro w; go_simp; try with_reducible rfl)
  try simp only [Act.put, List.setIfInBounds_toArray, List.set_cons_zero, List.set_cons_succ]
  refine Reg.takeY (i := 4) (v := ?_) rfl (by kernel_rfl) (by kernel_rfl) (by kernel_rfl) (fun _ _ _ h => h) (by rfl) ?_ ?_
  rotate_left
  · (intro w; go_simp; try with_reducible rfl)
  try simp only [Act.put, List.setIfInBounds_toArray, List.set_cons_zero, List.set_cons_succ]
  refine Reg.takeY (i := 5) (v := ?_) rfl (by kernel_rfl) (by kernel_rfl) (by kernel_rfl) (fun _ _ _ h => h) (by rfl) ?_ ?_
  rotate_left
  · (intro w; go_simp; try with_reducible rfl)
  try simp only [Act.put, List.setIfInBounds_toArray, List.set_cons_zero, List.set_cons_succ]
  refine Reg.takeY (i := 7) (v := ?_) rfl (by kernel_rfl) (by kernel_rfl) (by kernel_rfl) (fun _ _ _ h => h) (by rfl) ?_ ?_
  rotate_left
  · (intro w; go_simp; try with_reducible rfl)
  try simp only [Act.put, List.setIfInBounds_toArray, List.set_cons_zero, List.set_cons_succ]
  refine Reg.takeY (i := 10) (v := ?_) rfl (by kernel_rfl) (by kernel_rfl) (by kernel_rfl) (fun _ _ _ h => h) (by rfl) ?_ ?_
  rotate_left
  · (intro w; go_simp; try with_reducible rfl)
  try simp only [Act.put, List.setIfInBounds_toArray, List.set_cons_zero, List.set_cons_succ]
  refine Reg.takeY (i := 11) (v := ?_) rfl (by kernel_rfl) (by kernel_rfl) (by kernel_rfl) (fun _ _ _ h => h) (by rfl) ?_ ?_
  rotate_left
  · (intro w; go_simp; try with_reducible rfl)
  try simp only [Act.put, List.setIfInBounds_toArray, List.set_cons_zero, List.set_cons_succ]
  refine Reg.takeY (i := 12) (v := ?_) rfl (by kernel_rfl) (by kernel_rfl) (by kernel_rfl) (fun _ _ _ h => h) (by rfl) ?_ ?_
  rotate_left
  · (intro w; go_simp; try with_reducible rfl)
  try simp only [Act.put, List.setIfInBounds_toArray, List.set_cons_zero, List.set_cons_succ]
  refine Reg.takeY (i := 17) (v := ?_) rfl (by kernel_rfl) (by kernel_rfl) (by kernel_rfl) (fun _ _ _ h => h) (by rfl) ?_ ?_
  rotate_left
  · (intro w; go_simp; try with_reducible rfl)
  try simp only [Act.put, List.setIfInBounds_toArray, List.set_cons_zero, List.set_cons_succ]
  refine Reg.takeY (i := 18) (v := ?_) rfl (by kernel_rfl) (by kernel_rfl) (by kernel_rfl) (fun _ _ _ h => h) (by rfl) ?_ ?_
  rotate_left
  · (intro w; go_simp; try with_reducible rfl)
  try simp only [Act.put, List.setIfInBounds_toArray, List.set_cons_zero, List.set_cons_succ]
  refine Reg.takeY (i := 19) (v := ?_) rfl (by kernel_rfl) (by kernel_rfl) (by kernel_rfl) (fun _ _ _ h => h) (by rfl) ?_ ?_
  rotate_left
  · (intro w; go_simp; try with_reducible rfl)
  try simp only [Act.put, List.setIfInBounds_toArray, List.set_cons_zero, List.set_cons_succ]
  refine Reg.takeY (i := 21) (v := ?_) rfl (by kernel_rfl) (by kernel_rfl) (by kernel_rfl) (fun _ _ _ h => h) (by rfl) ?_ ?_
  rotate_left
  · (intro w; go_simp; try with_reducible rfl)
  try simp only [Act.put, List.setIfInBounds_toArray, List.set_cons_zero, List.set_cons_succ]
  refine Reg.take (i := 6) (v := ?_) rfl (by kernel_rfl) (by kernel_rfl) (by kernel_rfl) (by kernel_rfl) (by kernel_rfl) (fun _ _ _ h => h) hS0 (by rfl) ?_ ?_
  rotate_left
  · (intro w hSw; obtain ⟨q1, q2, q3, q4, q5⟩ := hSw; go_simp; try with_reducible rfl)
  try simp only [Act.put, List.setIfInBounds_toArray, List.set_cons_zero, List.set_cons_succ]
  refine Reg.take (i := 13) (v := ?_) rfl (by kernel_rfl) (by kernel_rfl) (by kernel_rfl) (by kernel_rfl) (by kernel_rfl) (fun _ _ _ h => h) hS0 (by rfl) ?_ ?_
  rotate_left
  · (intro w hSw; obtain ⟨q1, q2, q3, q4, q5⟩ := hSw; go_simp; try with_reducible rfl)
  try simp only [Act.put, List.setIfInBounds_toArray, List.set_cons_zero, List.set_cons_succ]
  refine Reg.take (i := 14) (v := ?_) rfl (by kernel_rfl) (by kernel_rfl) (by kernel_rfl) (by kernel_rfl) (by kernel_rfl) (fun _ _ _ h => h) hS0 (by rfl) ?_ ?_
  rotate_left
  · (intro w hSw; obtain ⟨q1, q2, q3, q4, q5⟩ := hSw; go_simp; try with_reducible rfl)
  try simp only [Act.put, List.setIfInBounds_toArray, List.set_cons_zero, List.set_cons_succ]
  refine Reg.take (i := 20) (v := ?_) rfl (by kernel_rfl) (by kernel_rfl) (by kernel_rfl) (by kernel_rfl) (by kernel_rfl) (fun _ _ _ h => h) hS0 (by rfl) ?_ ?_
  rotate_left
  · (intro w hSw; obtain ⟨q1, q2, q3, q4, q5⟩ := hSw; go_simp; try with_reducible rfl)
  try simp only [Act.put, List.setIfInBounds_toArray, List.set_cons_zero, List.set_cons_succ]
  refine Reg.all (rs := [8, 15, 22]) (by kernel_rfl) (by simp) ?_
  intro j hj
  simp only [List.mem_cons, List.not_mem_nil, or_false] at hj
  rcases hj with rfl | rfl | rfl
  · refine Reg.one (i := 8) rfl (by rfl) ?_
    go_simp
    have HR' := HR0.out.alloc (.cells #[.string key] 9)
    have NBK' := HR0.out.newB #[.string key] 9
    have NBT' := NBT0.out.alloc (.cells #[.string key] 9)
    obtain ⟨V1, hV⟩ : ∃ V', V0.alloc (.cells #[.string key] 9) = V' := ⟨_, rfl⟩
    rw [hV] at HR' NBK' NBT' ⊢
    clear hV
    have HR1 := Lib.hid HR'
    have NBT1 := Lib.hid NBT'
    have NBK1 := Lib.hid NBK'
    clear HR' NBK' NBT'
    have hS1 := putS_of HR1.out NBT1.out HC.out
    refine ⟨by first | exact hS1 | exact fun _ => hS1, ?_⟩
    try simp only [Act.put, List.setIfInBounds_toArray, List.set_cons_zero, List.set_cons_succ]
    refine Reg.all (rs := [9, 15, 22]) (by kernel_rfl) (by simp) ?_
    intro j hj
    simp only [List.mem_cons, List.not_mem_nil, or_false] at hj
    rcases hj with rfl | rfl | rfl
    · refine Reg.one (i := 9) rfl (by rfl) ?_
      refine wp_append_lies _ (.tmp 24) (.tmp 26) 32 (by rfl) base 9 iK _ 1 16 Tryz.underlying32 HIK.out.1 HIK.out.2.1 HIK.out.2.2.1 HIK.out.2.2.2 (by rfl) (by decide) r.kv r.nd.keys.length (keysV r.nd.keys) (by rfl) HR1.out.k _ 1 1 [.string key] (by rfl) (by rfl) (World.news_of_block NBK1.out.blk) (by simp [Value.oneCell']) (by decide) (by unfold maxLen; omega) (by omega) (Nat.le_trans hbase HR1.out.size) _ rfl ?_
      intro gK capK V2 ho hg ha hz
      have HR2 := Lib.hid (HR1.out.appK ho hg ha)
      have NBT2 := Lib.hid (NBT1.out.appK (n := r.nd.keys.length + 1) (cap := capK) hg ha)
      clear ho hg ha hz
      have hS2 := putS_of HR2.out NBT2.out HC.out
      refine ⟨fun _ _ => hS2, ?_⟩
      try simp only [Act.put, List.setIfInBounds_toArray, List.set_cons_zero, List.set_cons_succ]
      refine Reg.all (rs := [15, 22]) (by kernel_rfl) (by simp) ?_
      intro j hj
      simp only [List.mem_cons, List.not_mem_nil, or_false] at hj
      rcases hj with rfl | rfl
      · refine Reg.one (i := 15) rfl (by rfl) ?_
        go_simp
        have HR' := HR2.out.alloc (.cells #[.int .i64 a, .int .i64 b] 44)
        have NBS' := HR2.out.newB #[.int .i64 a, .int .i64 b] 44
        have NBT' := NBT2.out.alloc (.cells #[.int .i64 a, .int .i64 b] 44)
        obtain ⟨V3, hV⟩ : ∃ V', V2.alloc (.cells #[.int .i64 a, .int .i64 b] 44) = V' := ⟨_, rfl⟩
        rw [hV] at HR' NBS' NBT' ⊢
        clear hV
        have HR3 := Lib.hid HR'
        have NBT3 := Lib.hid NBT'
        have NBS3 := Lib.hid NBS'
        clear HR' NBS' NBT'
        have hS3 := putS_of HR3.out NBT3.out HC.out
        refine ⟨by first | exact hS3 | exact fun _ => hS3, ?_⟩
        try simp only [Act.put, List.setIfInBounds_toArray, List.set_cons_zero, List.set_cons_succ]
        refine Reg.all (rs := [16, 22]) (by kernel_rfl) (by simp) ?_
        intro j hj
        simp only [List.mem_cons, List.not_mem_nil, or_false] at hj
        rcases hj with rfl | rfl
        · refine Reg.one (i := 16) rfl (by rfl) ?_
          refine wp_append_lies _ (.tmp 31) (.tmp 33) 41 (by rfl) base 44 iS _ 2 16 Tryz.underlying41 HIS.out.1 HIS.out.2.1 HIS.out.2.2.1 HIS.out.2.2.2 (by rfl) (by decide) r.sv r.nd.spots.length (spotsV r.nd.spots) (by rfl) HR3.out.s _ 1 1 [.int .i64 a, .int .i64 b] (by rfl) (by rfl) (World.news_of_block NBS3.out.blk) (by simp [Value.oneCell']) (by decide) (by unfold maxLen; omega) (by omega) (Nat.le_trans hbase HR3.out.size) _ rfl ?_
          intro gS capS V4 ho hg ha hz
          have HR4 := Lib.hid (HR3.out.appS ho hg ha)
          have NBT4 := Lib.hid (NBT3.out.appS (n := r.nd.spots.length + 1) (cap := capS) hg ha)
          clear ho hg ha hz
          have hS4 := putS_of HR4.out NBT4.out HC.out
          refine ⟨fun _ _ => hS4, ?_⟩
          try simp only [Act.put, List.setIfInBounds_toArray, List.set_cons_zero, List.set_cons_succ]
          refine Reg.all (rs := [22]) (by kernel_rfl) (by simp) ?_
          intro j hj
          simp only [List.mem_cons, List.not_mem_nil, or_false] at hj
          obtain rfl := hj
          · refine Reg.one (i := 22) rfl (by rfl) ?_
            go_simp
            have HR' := HR4.out.alloc (.cells #[.int .i64 n] 3)
            have NBU' := HR4.out.newB #[.int .i64 n] 3
            have NBT' := NBT4.out.alloc (.cells #[.int .i64 n] 3)
            obtain ⟨V5, hV⟩ : ∃ V', V4.alloc (.cells #[.int .i64 n] 3) = V' := ⟨_, rfl⟩
            rw [hV] at HR' NBU' NBT' ⊢
            clear hV
            have HR5 := Lib.hid HR'
            have NBT5 := Lib.hid NBT'
            have NBU5 := Lib.hid NBU'
            clear HR' NBU' NBT'
            have hS5 := putS_of HR5.out NBT5.out HC.out
            refine ⟨by first | exact hS5 | exact fun _ => hS5, ?_⟩
            try simp only [Act.put, List.setIfInBounds_toArray, List.set_cons_zero, List.set_cons_succ]
            refine Reg.all (rs := [23]) (by kernel_rfl) (by simp) ?_
            intro j hj
            simp only [List.mem_cons, List.not_mem_nil, or_false] at hj
            obtain rfl := hj
            · refine Reg.one (i := 23) rfl (by rfl) ?_
              refine wp_append_lies _ (.tmp 38) (.tmp 40) 42 (by rfl) base 3 iU _ 1 8 Tryz.underlying42 HIU.out.1 HIU.out.2.1 HIU.out.2.2.1 HIU.out.2.2.2 (by rfl) (by decide) r.uv r.nd.subs.length (subsV r.nd.subs) (by rfl) HR5.out.u _ 1 1 [.int .i64 n] (by rfl) (by rfl) (World.news_of_block NBU5.out.blk) (by simp [Value.oneCell']) (by decide) (by unfold maxLen; omega) (by omega) (Nat.le_trans hbase HR5.out.size) _ rfl ?_
              intro gU capU V6 ho hg ha hz
              have HR6 := Lib.hid (HR5.out.appU ho hg ha)
              have NBT6 := Lib.hid (NBT5.out.appU (n := r.nd.subs.length + 1) (cap := capU) hg ha)
              clear ho hg ha hz
              have hS6 := putS_of HR6.out NBT6.out HC.out
              refine ⟨fun _ _ => hS6, ?_⟩
              try simp only [Act.put, List.setIfInBounds_toArray, List.set_cons_zero, List.set_cons_succ]
              refine Reg.takeY (i := 24) (v := ?_) rfl (by kernel_rfl) (by kernel_rfl) (by kernel_rfl) (fun _ _ _ h => h) (by rfl) ?_ ?_
              rotate_left
              · (intro w; go_simp; try with_reducible rfl)
              try simp only [Act.put, List.setIfInBounds_toArray, List.set_cons_zero, List.set_cons_succ]
              refine Reg.takeY (i := 25) (v := ?_) rfl (by kernel_rfl) (by kernel_rfl) (by kernel_rfl) (fun _ _ _ h => h) (by rfl) ?_ ?_
              rotate_left
              · (intro w; go_simp; try with_reducible rfl)
              try simp only [Act.put, List.setIfInBounds_toArray, List.set_cons_zero, List.set_cons_succ]
              obtain ⟨hcg2, hcg3, hcg4, hfg⟩ := putF_of HR6.out HC.out
              refine Reg.all (rs := [26]) (by kernel_rfl) (by simp) ?_
              intro j hj
              obtain rfl := List.mem_singleton.1 hj
              clear hj
              refine Reg.one (i := 26) rfl (by rfl) ?_
              go_simp
              try simp only [Act.put, List.setIfInBounds_toArray, List.set_cons_zero, List.set_cons_succ]
              refine Reg.takeY (i := 27) (v := ?_) rfl (by kernel_rfl) (by kernel_rfl) (by kernel_rfl) (fun _ _ _ h => h) (by rfl) ?_ ?_
              rotate_left
              · (intro w; go_simp; try with_reducible rfl)
              try simp only [Act.put, List.setIfInBounds_toArray, List.set_cons_zero, List.set_cons_succ]
              refine Reg.takeY (i := 28) (v := ?_) rfl (by kernel_rfl) (by kernel_rfl) (by kernel_rfl) (fun _ _ _ h => h) (by rfl) ?_ ?_
              rotate_left
              · (intro w; go_simp; try with_reducible rfl)
              try simp only [Act.put, List.setIfInBounds_toArray, List.set_cons_zero, List.set_cons_succ]
              refine Reg.all (rs := [29]) (by kernel_rfl) (by simp) ?_
              intro j hj
              obtain rfl := List.mem_singleton.1 hj
              clear hj
              refine Reg.one (i := 29) rfl (by rfl) ?_
              go_simp
              try simp only [Act.put, List.setIfInBounds_toArray, List.set_cons_zero, List.set_cons_succ]
              refine Reg.takeY (i := 30) (v := ?_) rfl (by kernel_rfl) (by kernel_rfl) (by kernel_rfl) (fun _ _ _ h => h) (by rfl) ?_ ?_
              rotate_left
              · (intro w; go_simp; try with_reducible rfl)
              try simp only [Act.put, List.setIfInBounds_toArray, List.set_cons_zero, List.set_cons_succ]
              refine Reg.takeY (i := 31) (v := ?_) rfl (by kernel_rfl) (by kernel_rfl) (by kernel_rfl) (fun _ _ _ h => h) (by rfl) ?_ ?_
              rotate_left
              · (intro w; go_simp; try with_reducible rfl)
              try simp only [Act.put, List.setIfInBounds_toArray, List.set_cons_zero, List.set_cons_succ]
              refine Reg.all (rs := [32]) (by kernel_rfl) (by simp) ?_
              intro j hj
              obtain rfl := List.mem_singleton.1 hj
              clear hj
              refine Reg.one (i := 32) rfl (by rfl) ?_
              go_simp
              try simp only [Act.put, List.setIfInBounds_toArray, List.set_cons_zero, List.set_cons_succ]
              refine Reg.done (by kernel_rfl) ?_ _
              go_wp2_with fail
              go_end0
              exact ⟨rfl, HEND.out V6 (.slice (some ⟨gK, 0, none⟩) (r.nd.keys.length + 1) capK) (.slice (some ⟨gS, 0, none⟩) (r.nd.spots.length + 1) capS) (.slice (some ⟨gU, 0, none⟩) (r.nd.subs.length + 1) capU) HR6.out⟩
        · refine Reg.one (i := 22) rfl (by rfl) ?_
          go_simp
          have HR' := HR3.out.alloc (.cells #[.int .i64 n] 3)
          have NBU' := HR3.out.newB #[.int .i64 n] 3
          have NBT' := NBT3.out.alloc (.cells #[.int .i64 n] 3)
          have NBS' := NBS3.out.alloc (.cells #[.int .i64 n] 3)
          obtain ⟨V4, hV⟩ : ∃ V', V3.alloc (.cells #[.int .i64 n] 3) = V' := ⟨_, rfl⟩
          rw [hV] at HR' NBU' NBT' NBS' ⊢
          clear hV
          have HR4 := Lib.hid HR'
          have NBT4 := Lib.hid NBT'
          have NBS4 := Lib.hid NBS'
          have NBU4 := Lib.hid NBU'
          clear HR' NBU' NBT' NBS'
          have hS4 := putS_of HR4.out NBT4.out HC.out
          refine ⟨by first | exact hS4 | exact fun _ => hS4, ?_⟩
          try simp only [Act.put, List.setIfInBounds_toArray, List.set_cons_zero, List.set_cons_succ]
          refine Reg.all (rs := [16]) (by kernel_rfl) (by simp) ?_
          intro j hj
          simp only [List.mem_cons, List.not_mem_nil, or_false] at hj
          obtain rfl := hj
          · refine Reg.one (i := 16) rfl (by rfl) ?_
            refine wp_append_lies _ (.tmp 31) (.tmp 33) 41 (by rfl) base 44 iS _ 2 16 Tryz.underlying41 HIS.out.1 HIS.out.2.1 HIS.out.2.2.1 HIS.out.2.2.2 (by rfl) (by decide) r.sv r.nd.spots.length (spotsV r.nd.spots) (by rfl) HR4.out.s _ 1 1 [.int .i64 a, .int .i64 b] (by rfl) (by rfl) (World.news_of_block NBS4.out.blk) (by simp [Value.oneCell']) (by decide) (by unfold maxLen; omega) (by omega) (Nat.le_trans hbase HR4.out.size) _ rfl ?_
            intro gS capS V5 ho hg ha hz
            have HR5 := Lib.hid (HR4.out.appS ho hg ha)
            have NBT5 := Lib.hid (NBT4.out.appS (n := r.nd.spots.length + 1) (cap := capS) hg ha)
            have NBU5 := Lib.hid (NBU4.out.appS (n := r.nd.spots.length + 1) (cap := capS) hg ha)
            clear ho hg ha hz
            have hS5 := putS_of HR5.out NBT5.out HC.out
            refine ⟨fun _ _ => hS5, ?_⟩
            try simp only [Act.put, List.setIfInBounds_toArray, List.set_cons_zero, List.set_cons_succ]
            refine Reg.all (rs := [23]) (by kernel_rfl) (by simp) ?_
            intro j hj
            simp only [List.mem_cons, List.not_mem_nil, or_false] at hj
            obtain rfl := hj
            · refine Reg.one (i := 23) rfl (by rfl) ?_
              refine wp_append_lies _ (.tmp 38) (.tmp 40) 42 (by rfl) base 3 iU _ 1 8 Tryz.underlying42 HIU.out.1 HIU.out.2.1 HIU.out.2.2.1 HIU.out.2.2.2 (by rfl) (by decide) r.uv r.nd.subs.length (subsV r.nd.subs) (by rfl) HR5.out.u _ 1 1 [.int .i64 n] (by rfl) (by rfl) (World.news_of_block NBU5.out.blk) (by simp [Value.oneCell']) (by decide) (by unfold maxLen; omega) (by omega) (Nat.le_trans hbase HR5.out.size) _ rfl ?_
              intro gU capU V6 ho hg ha hz
              have HR6 := Lib.hid (HR5.out.appU ho hg ha)
              have NBT6 := Lib.hid (NBT5.out.appU (n := r.nd.subs.length + 1) (cap := capU) hg ha)
              clear ho hg ha hz
              have hS6 := putS_of HR6.out NBT6.out HC.out
              refine ⟨fun _ _ => hS6, ?_⟩
              try simp only [Act.put, List.setIfInBounds_toArray, List.set_cons_zero, List.set_cons_succ]
              refine Reg.takeY (i := 24) (v := ?_) rfl (by kernel_rfl) (by kernel_rfl) (by kernel_rfl) (fun _ _ _ h => h) (by rfl) ?_ ?_
              rotate_left
              · (intro w; go_simp; try with_reducible rfl)
              try simp only [Act.put, List.setIfInBounds_toArray, List.set_cons_zero, List.set_cons_succ]
              refine Reg.takeY (i := 25) (v := ?_) rfl (by kernel_rfl) (by kernel_rfl) (by kernel_rfl) (fun _ _ _ h => h) (by rfl) ?_ ?_
              rotate_left
              · (intro w; go_simp; try with_reducible rfl)
              try simp only [Act.put, List.setIfInBounds_toArray, List.set_cons_zero, List.set_cons_succ]
              obtain ⟨hcg2, hcg3, hcg4, hfg⟩ := putF_of HR6.out HC.out
              refine Reg.all (rs := [26]) (by kernel_rfl) (by simp) ?_
              intro j hj
              obtain rfl := List.mem_singleton.1 hj
              clear hj
              refine Reg.one (i := 26) rfl (by rfl) ?_
              go_simp
              try simp only [Act.put, List.setIfInBounds_toArray, List.set_cons_zero, List.set_cons_succ]
              refine Reg.takeY (i := 27) (v := ?_) rfl (by kernel_rfl) (by kernel_rfl) (by kernel_rfl) (fun _ _ _ h => h) (by rfl) ?_ ?_
              rotate_left
              · (intro w; go_simp; try with_reducible rfl)
              try simp only [Act.put, List.setIfInBounds_toArray, List.set_cons_zero, List.set_cons_succ]
              refine Reg.takeY (i := 28) (v := ?_) rfl (by kernel_rfl) (by kernel_rfl) (by kernel_rfl) (fun _ _ _ h => h) (by rfl) ?_ ?_
              rotate_left
              · (intro w; go_simp; try with_reducible rfl)
              try simp only [Act.put, List.setIfInBounds_toArray, List.set_cons_zero, List.set_cons_succ]
              refine Reg.all (rs := [29]) (by kernel_rfl) (by simp) ?_
              intro j hj
              obtain rfl := List.mem_singleton.1 hj
              clear hj
              refine Reg.one (i := 29) rfl (by rfl) ?_
              go_simp
              try simp only [Act.put, List.setIfInBounds_toArray, List.set_cons_zero, List.set_cons_succ]
              refine Reg.takeY (i := 30) (v := ?_) rfl (by kernel_rfl) (by kernel_rfl) (by kernel_rfl) (fun _ _ _ h => h) (by rfl) ?_ ?_
              rotate_left
              · (intro w; go_simp; try with_reducible rfl)
              try simp only [Act.put, List.setIfInBounds_toArray, List.set_cons_zero, List.set_cons_succ]
              refine Reg.takeY (i := 31) (v := ?_) rfl (by kernel_rfl) (by kernel_rfl) (by kernel_rfl) (fun _ _ _ h => h) (by rfl) ?_ ?_
              rotate_left
              · (intro w; go_simp; try with_reducible rfl)
              try simp only [Act.put, List.setIfInBounds_toArray, List.set_cons_zero, List.set_cons_succ]
              refine Reg.all (rs := [32]) (by kernel_rfl) (by simp) ?_
              intro j hj
              obtain rfl := List.mem_singleton.1 hj
              clear hj
              refine Reg.one (i := 32) rfl (by rfl) ?_
              go_simp
              try simp only [Act.put, List.setIfInBounds_toArray, List.set_cons_zero, List.set_cons_succ]
              refine Reg.done (by kernel_rfl) ?_ _
              go_wp2_with fail
              go_end0
              exact ⟨rfl, HEND.out V6 (.slice (some ⟨gK, 0, none⟩) (r.nd.keys.length + 1) capK) (.slice (some ⟨gS, 0, none⟩) (r.nd.spots.length + 1) capS) (.slice (some ⟨gU, 0, none⟩) (r.nd.subs.length + 1) capU) HR6.out⟩
      · refine Reg.one (i := 22) rfl (by rfl) ?_
        go_simp
        have HR' := HR2.out.alloc (.cells #[.int .i64 n] 3)
        have NBU' := HR2.out.newB #[.int .i64 n] 3
        have NBT' := NBT2.out.alloc (.cells #[.int .i64 n] 3)
        obtain ⟨V3, hV⟩ : ∃ V', V2.alloc (.cells #[.int .i64 n] 3) = V' := ⟨_, rfl⟩
        rw [hV] at HR' NBU' NBT' ⊢
        clear hV
        have HR3 := Lib.hid HR'
        have NBT3 := Lib.hid NBT'
        have NBU3 := Lib.hid NBU'
        clear HR' NBU' NBT'
        have hS3 := putS_of HR3.out NBT3.out HC.out
        refine ⟨by first | exact hS3 | exact fun _ => hS3, ?_⟩
        try simp only [Act.put, List.setIfInBounds_toArray, List.set_cons_zero, List.set_cons_succ]
        refine Reg.all (rs := [15]) (by kernel_rfl) (by simp) ?_
        intro j hj
        simp only [List.mem_cons, List.not_mem_nil, or_false] at hj
        obtain rfl := hj
        · refine Reg.one (i := 15) rfl (by rfl) ?_
          go_simp
          have HR' := HR3.out.alloc (.cells #[.int .i64 a, .int .i64 b] 44)
          have NBS' := HR3.out.newB #[.int .i64 a, .int .i64 b] 44
          have NBT' := NBT3.out.alloc (.cells #[.int .i64 a, .int .i64 b] 44)
          have NBU' := NBU3.out.alloc (.cells #[.int .i64 a, .int .i64 b] 44)
          obtain ⟨V4, hV⟩ : ∃ V', V3.alloc (.cells #[.int .i64 a, .int .i64 b] 44) = V' := ⟨_, rfl⟩
          rw [hV] at HR' NBS' NBT' NBU' ⊢
          clear hV
          have HR4 := Lib.hid HR'
          have NBT4 := Lib.hid NBT'
          have NBU4 := Lib.hid NBU'
          have NBS4 := Lib.hid NBS'
          clear HR' NBS' NBT' NBU'
          have hS4 := putS_of HR4.out NBT4.out HC.out
          refine ⟨by first | exact hS4 | exact fun _ => hS4, ?_⟩
          try simp only [Act.put, List.setIfInBounds_toArray, List.set_cons_zero, List.set_cons_succ]
          refine Reg.all (rs := [16]) (by kernel_rfl) (by simp) ?_
          intro j hj
          simp only [List.mem_cons, List.not_mem_nil, or_false] at hj
          obtain rfl := hj
          · refine Reg.one (i := 16) rfl (by rfl) ?_
            refine wp_append_lies _ (.tmp 31) (.tmp 33) 41 (by rfl) base 44 iS _ 2 16 Tryz.underlying41 HIS.out.1 HIS.out.2.1 HIS.out.2.2.1 HIS.out.2.2.2 (by rfl) (by decide) r.sv r.nd.spots.length (spotsV r.nd.spots) (by rfl) HR4.out.s _ 1 1 [.int .i64 a, .int .i64 b] (by rfl) (by rfl) (World.news_of_block NBS4.out.blk) (by simp [Value.oneCell']) (by decide) (by unfold maxLen; omega) (by omega) (Nat.le_trans hbase HR4.out.size) _ rfl ?_
            intro gS capS V5 ho hg ha hz
            have HR5 := Lib.hid (HR4.out.appS ho hg ha)
            have NBT5 := Lib.hid (NBT4.out.appS (n := r.nd.spots.length + 1) (cap := capS) hg ha)
            have NBU5 := Lib.hid (NBU4.out.appS (n := r.nd.spots.length + 1) (cap := capS) hg ha)
            clear ho hg ha hz
            have hS5 := putS_of HR5.out NBT5.out HC.out
            refine ⟨fun _ _ => hS5, ?_⟩
            try simp only [Act.put, List.setIfInBounds_toArray, List.set_cons_zero, List.set_cons_succ]
            refine Reg.all (rs := [23]) (by kernel_rfl) (by simp) ?_
            intro j hj
            simp only [List.mem_cons, List.not_mem_nil, or_false] at hj
            obtain rfl := hj
            · refine Reg.one (i := 23) rfl (by rfl) ?_
              refine wp_append_lies _ (.tmp 38) (.tmp 40) 42 (by rfl) base 3 iU _ 1 8 Tryz.underlying42 HIU.out.1 HIU.out.2.1 HIU.out.2.2.1 HIU.out.2.2.2 (by rfl) (by decide) r.uv r.nd.subs.length (subsV r.nd.subs) (by rfl) HR5.out.u _ 1 1 [.int .i64 n] (by rfl) (by rfl) (World.news_of_block NBU5.out.blk) (by simp [Value.oneCell']) (by decide) (by unfold maxLen; omega) (by omega) (Nat.le_trans hbase HR5.out.size) _ rfl ?_
              intro gU capU V6 ho hg ha hz
              have HR6 := Lib.hid (HR5.out.appU ho hg ha)
              have NBT6 := Lib.hid (NBT5.out.appU (n := r.nd.subs.length + 1) (cap := capU) hg ha)
              clear ho hg ha hz
              have hS6 := putS_of HR6.out NBT6.out HC.out
              refine ⟨fun _ _ => hS6, ?_⟩
              try simp only [Act.put, List.setIfInBounds_toArray, List.set_cons_zero, List.set_cons_succ]
              refine Reg.takeY (i := 24) (v := ?_) rfl (by kernel_rfl) (by kernel_rfl) (by kernel_rfl) (fun _ _ _ h => h) (by rfl) ?_ ?_
              rotate_left
              · (intro w; go_simp; try with_reducible rfl)
              try simp only [Act.put, List.setIfInBounds_toArray, List.set_cons_zero, List.set_cons_succ]
              refine Reg.takeY (i := 25) (v := ?_) rfl (by kernel_rfl) (by kernel_rfl) (by kernel_rfl) (fun _ _ _ h => h) (by rfl) ?_ ?_
              rotate_left
              · (intro w; go_simp; try with_reducible rfl)
              try simp only [Act.put, List.setIfInBounds_toArray, List.set_cons_zero, List.set_cons_succ]
              obtain ⟨hcg2, hcg3, hcg4, hfg⟩ := putF_of HR6.out HC.out
              refine Reg.all (rs := [26]) (by kernel_rfl) (by simp) ?_
              intro j hj
              obtain rfl := List.mem_singleton.1 hj
              clear hj
              refine Reg.one (i := 26) rfl (by rfl) ?_
              go_simp
              try simp only [Act.put, List.setIfInBounds_toArray, List.set_cons_zero, List.set_cons_succ]
              refine Reg.takeY (i := 27) (v := ?_) rfl (by kernel_rfl) (by kernel_rfl) (by kernel_rfl) (fun _ _ _ h => h) (by rfl) ?_ ?_
              rotate_left
              · (intro w; go_simp; try with_reducible rfl)
              try simp only [Act.put, List.setIfInBounds_toArray, List.set_cons_zero, List.set_cons_succ]
              refine Reg.takeY (i := 28) (v := ?_) rfl (by kernel_rfl) (by kernel_rfl) (by kernel_rfl) (fun _ _ _ h => h) (by rfl) ?_ ?_
              rotate_left
              · (intro w; go_simp; try with_reducible rfl)
              try simp only [Act.put, List.setIfInBounds_toArray, List.set_cons_zero, List.set_cons_succ]
              refine Reg.all (rs := [29]) (by kernel_rfl) (by simp) ?_
              intro j hj
              obtain rfl := List.mem_singleton.1 hj
              clear hj
              refine Reg.one (i := 29) rfl (by rfl) ?_
              go_simp
              try simp only [Act.put, List.setIfInBounds_toArray, List.set_cons_zero, List.set_cons_succ]
              refine Reg.takeY (i := 30) (v := ?_) rfl (by kernel_rfl) (by kernel_rfl) (by kernel_rfl) (fun _ _ _ h => h) (by rfl) ?_ ?_
              rotate_left
              · (intro w; go_simp; try with_reducible rfl)
              try simp only [Act.put, List.setIfInBounds_toArray, List.set_cons_zero, List.set_cons_succ]
              refine Reg.takeY (i := 31) (v := ?_) rfl (by kernel_rfl) (by kernel_rfl) (by kernel_rfl) (fun _ _ _ h => h) (by rfl) ?_ ?_
              rotate_left
              · (intro w; go_simp; try with_reducible rfl)
              try simp only [Act.put, List.setIfInBounds_toArray, List.set_cons_zero, List.set_cons_succ]
              refine Reg.all (rs := [32]) (by kernel_rfl) (by simp) ?_
              intro j hj
              obtain rfl := List.mem_singleton.1 hj
              clear hj
              refine Reg.one (i := 32) rfl (by rfl) ?_
              go_simp
              try simp only [Act.put, List.setIfInBounds_toArray, List.set_cons_zero, List.set_cons_succ]
              refine Reg.done (by kernel_rfl) ?_ _
              go_wp2_with fail
              go_end0
              exact ⟨rfl, HEND.out V6 (.slice (some ⟨gK, 0, none⟩) (r.nd.keys.length + 1) capK) (.slice (some ⟨gS, 0, none⟩) (r.nd.spots.length + 1) capS) (.slice (some ⟨gU, 0, none⟩) (r.nd.subs.length + 1) capU) HR6.out⟩
    · refine Reg.one (i := 15) rfl (by rfl) ?_
      go_simp
      have HR' := HR1.out.alloc (.cells #[.int .i64 a, .int .i64 b] 44)
      have NBS' := HR1.out.newB #[.int .i64 a, .int .i64 b] 44
      have NBT' := NBT1.out.alloc (.cells #[.int .i64 a, .int .i64 b] 44)
      have NBK' := NBK1.out.alloc (.cells #[.int .i64 a, .int .i64 b] 44)
      obtain ⟨V2, hV⟩ : ∃ V', V1.alloc (.cells #[.int .i64 a, .int .i64 b] 44) = V' := ⟨_, rfl⟩
      rw [hV] at HR' NBS' NBT' NBK' ⊢
      clear hV
      have HR2 := Lib.hid HR'
      have NBT2 := Lib.hid NBT'
      have NBK2 := Lib.hid NBK'
      have NBS2 := Lib.hid NBS'
      clear HR' NBS' NBT' NBK'
      have hS2 := putS_of HR2.out NBT2.out HC.out
      refine ⟨by first | exact hS2 | exact fun _ => hS2, ?_⟩
      try simp only [Act.put, List.setIfInBounds_toArray, List.set_cons_zero, List.set_cons_succ]
      refine Reg.all (rs := [9, 22]) (by kernel_rfl) (by simp) ?_
      intro j hj
      simp only [List.mem_cons, List.not_mem_nil, or_false] at hj
      rcases hj with rfl | rfl
      · refine Reg.one (i := 9) rfl (by rfl) ?_
        refine wp_append_lies _ (.tmp 24) (.tmp 26) 32 (by rfl) base 9 iK _ 1 16 Tryz.underlying32 HIK.out.1 HIK.out.2.1 HIK.out.2.2.1 HIK.out.2.2.2 (by rfl) (by decide) r.kv r.nd.keys.length (keysV r.nd.keys) (by rfl) HR2.out.k _ 1 1 [.string key] (by rfl) (by rfl) (World.news_of_block NBK2.out.blk) (by simp [Value.oneCell']) (by decide) (by unfold maxLen; omega) (by omega) (Nat.le_trans hbase HR2.out.size) _ rfl ?_
        intro gK capK V3 ho hg ha hz
        have HR3 := Lib.hid (HR2.out.appK ho hg ha)
        have NBT3 := Lib.hid (NBT2.out.appK (n := r.nd.keys.length + 1) (cap := capK) hg ha)
        have NBS3 := Lib.hid (NBS2.out.appK (n := r.nd.keys.length + 1) (cap := capK) hg ha)
        clear ho hg ha hz
        have hS3 := putS_of HR3.out NBT3.out HC.out
        refine ⟨fun _ _ => hS3, ?_⟩
        try simp only [Act.put, List.setIfInBounds_toArray, List.set_cons_zero, List.set_cons_succ]
        refine Reg.all (rs := [16, 22]) (by kernel_rfl) (by simp) ?_
        intro j hj
        simp only [List.mem_cons, List.not_mem_nil, or_false] at hj
        rcases hj with rfl | rfl
        · refine Reg.one (i := 16) rfl (by rfl) ?_
          refine wp_append_lies _ (.tmp 31) (.tmp 33) 41 (by rfl) base 44 iS _ 2 16 Tryz.underlying41 HIS.out.1 HIS.out.2.1 HIS.out.2.2.1 HIS.out.2.2.2 (by rfl) (by decide) r.sv r.nd.spots.length (spotsV r.nd.spots) (by rfl) HR3.out.s _ 1 1 [.int .i64 a, .int .i64 b] (by rfl) (by rfl) (World.news_of_block NBS3.out.blk) (by simp [Value.oneCell']) (by decide) (by unfold maxLen; omega) (by omega) (Nat.le_trans hbase HR3.out.size) _ rfl ?_
          intro gS capS V4 ho hg ha hz
          have HR4 := Lib.hid (HR3.out.appS ho hg ha)
          have NBT4 := Lib.hid (NBT3.out.appS (n := r.nd.spots.length + 1) (cap := capS) hg ha)
          clear ho hg ha hz
          have hS4 := putS_of HR4.out NBT4.out HC.out
          refine ⟨fun _ _ => hS4, ?_⟩
          try simp only [Act.put, List.setIfInBounds_toArray, List.set_cons_zero, List.set_cons_succ]
          refine Reg.all (rs := [22]) (by kernel_rfl) (by simp) ?_
          intro j hj
          simp only [List.mem_cons, List.not_mem_nil, or_false] at hj
          obtain rfl := hj
          · refine Reg.one (i := 22) rfl (by rfl) ?_
            go_simp
            have HR' := HR4.out.alloc (.cells #[.int .i64 n] 3)
            have NBU' := HR4.out.newB #[.int .i64 n] 3
            have NBT' := NBT4.out.alloc (.cells #[.int .i64 n] 3)
            obtain ⟨V5, hV⟩ : ∃ V', V4.alloc (.cells #[.int .i64 n] 3) = V' := ⟨_, rfl⟩
            rw [hV] at HR' NBU' NBT' ⊢
            clear hV
            have HR5 := Lib.hid HR'
            have NBT5 := Lib.hid NBT'
            have NBU5 := Lib.hid NBU'
            clear HR' NBU' NBT'
            have hS5 := putS_of HR5.out NBT5.out HC.out
            refine ⟨by first | exact hS5 | exact fun _ => hS5, ?_⟩
            try simp only [Act.put, List.setIfInBounds_toArray, List.set_cons_zero, List.set_cons_succ]
            refine Reg.all (rs := [23]) (by kernel_rfl) (by simp) ?_
            intro j hj
            simp only [List.mem_cons, List.not_mem_nil, or_false] at hj
            obtain rfl := hj
            · refine Reg.one (i := 23) rfl (by rfl) ?_
              refine wp_append_lies _ (.tmp 38) (.tmp 40) 42 (by rfl) base 3 iU _ 1 8 Tryz.underlying42 HIU.out.1 HIU.out.2.1 HIU.out.2.2.1 HIU.out.2.2.2 (by rfl) (by decide) r.uv r.nd.subs.length (subsV r.nd.subs) (by rfl) HR5.out.u _ 1 1 [.int .i64 n] (by rfl) (by rfl) (World.news_of_block NBU5.out.blk) (by simp [Value.oneCell']) (by decide) (by unfold maxLen; omega) (by omega) (Nat.le_trans hbase HR5.out.size) _ rfl ?_
              intro gU capU V6 ho hg ha hz
              have HR6 := Lib.hid (HR5.out.appU ho hg ha)
              have NBT6 := Lib.hid (NBT5.out.appU (n := r.nd.subs.length + 1) (cap := capU) hg ha)
              clear ho hg ha hz
              have hS6 := putS_of HR6.out NBT6.out HC.out
              refine ⟨fun _ _ => hS6, ?_⟩
              try simp only [Act.put, List.setIfInBounds_toArray, List.set_cons_zero, List.set_cons_succ]
              refine Reg.takeY (i := 24) (v := ?_) rfl (by kernel_rfl) (by kernel_rfl) (by kernel_rfl) (fun _ _ _ h => h) (by rfl) ?_ ?_
              rotate_left
              · (intro w; go_simp; try with_reducible rfl)
              try simp only [Act.put, List.setIfInBounds_toArray, List.set_cons_zero, List.set_cons_succ]
              refine Reg.takeY (i := 25) (v := ?_) rfl (by kernel_rfl) (by kernel_rfl) (by kernel_rfl) (fun _ _ _ h => h) (by rfl) ?_ ?_
              rotate_left
              · (intro w; go_simp; try with_reducible rfl)
              try simp only [Act.put, List.setIfInBounds_toArray, List.set_cons_zero, List.set_cons_succ]
              obtain ⟨hcg2, hcg3, hcg4, hfg⟩ := putF_of HR6.out HC.out
              refine Reg.all (rs := [26]) (by kernel_rfl) (by simp) ?_
              intro j hj
              obtain rfl := List.mem_singleton.1 hj
              clear hj
              refine Reg.one (i := 26) rfl (by rfl) ?_
              go_simp
              try simp only [Act.put, List.setIfInBounds_toArray, List.set_cons_zero, List.set_cons_succ]
              refine Reg.takeY (i := 27) (v := ?_) rfl (by kernel_rfl) (by kernel_rfl) (by kernel_rfl) (fun _ _ _ h => h) (by rfl) ?_ ?_
              rotate_left
              · (intro w; go_simp; try with_reducible rfl)
              try simp only [Act.put, List.setIfInBounds_toArray, List.set_cons_zero, List.set_cons_succ]
              refine Reg.takeY (i := 28) (v := ?_) rfl (by kernel_rfl) (by kernel_rfl) (by kernel_rfl) (fun _ _ _ h => h) (by rfl) ?_ ?_
              rotate_left
              · (intro w; go_simp; try with_reducible rfl)
              try simp only [Act.put, List.setIfInBounds_toArray, List.set_cons_zero, List.set_cons_succ]
              refine Reg.all (rs := [29]) (by kernel_rfl) (by simp) ?_
              intro j hj
              obtain rfl := List.mem_singleton.1 hj
              clear hj
              refine Reg.one (i := 29) rfl (by rfl) ?_
              go_simp
              try simp only [Act.put, List.setIfInBounds_toArray, List.set_cons_zero, List.set_cons_succ]
              refine Reg.takeY (i := 30) (v := ?_) rfl (by kernel_rfl) (by kernel_rfl) (by kernel_rfl) (fun _ _ _ h => h) (by rfl) ?_ ?_
              rotate_left
              · (intro w; go_simp; try with_reducible rfl)
              try simp only [Act.put, List.setIfInBounds_toArray, List.set_cons_zero, List.set_cons_succ]
              refine Reg.takeY (i := 31) (v := ?_) rfl (by kernel_rfl) (by kernel_rfl) (by kernel_rfl) (fun _ _ _ h => h) (by rfl) ?_ ?_
              rotate_left
              · (intro w; go_simp; try with_reducible rfl)
              try simp only [Act.put, List.setIfInBounds_toArray, List.set_cons_zero, List.set_cons_succ]
              refine Reg.all (rs := [32]) (by kernel_rfl) (by simp) ?_
              intro j hj
              obtain rfl := List.mem_singleton.1 hj
              clear hj
              refine Reg.one (i := 32) rfl (by rfl) ?_
              go_simp
              try simp only [Act.put, List.setIfInBounds_toArray, List.set_cons_zero, List.set_cons_succ]
              refine Reg.done (by kernel_rfl) ?_ _
              go_wp2_with fail
              go_end0
              exact ⟨rfl, HEND.out V6 (.slice (some ⟨gK, 0, none⟩) (r.nd.keys.length + 1) capK) (.slice (some ⟨gS, 0, none⟩) (r.nd.spots.length + 1) capS) (.slice (some ⟨gU, 0, none⟩) (r.nd.subs.length + 1) capU) HR6.out⟩
        · refine Reg.one (i := 22) rfl (by rfl) ?_
          go_simp
          have HR' := HR3.out.alloc (.cells #[.int .i64 n] 3)
          have NBU' := HR3.out.newB #[.int .i64 n] 3
          have NBT' := NBT3.out.alloc (.cells #[.int .i64 n] 3)
          have NBS' := NBS3.out.alloc (.cells #[.int .i64 n] 3)
          obtain ⟨V4, hV⟩ : ∃ V', V3.alloc (.cells #[.int .i64 n] 3) = V' := ⟨_, rfl⟩
          rw [hV] at HR' NBU' NBT' NBS' ⊢
          clear hV
          have HR4 := Lib.hid HR'
          have NBT4 := Lib.hid NBT'
          have NBS4 := Lib.hid NBS'
          have NBU4 := Lib.hid NBU'
          clear HR' NBU' NBT' NBS'
          have hS4 := putS_of HR4.out NBT4.out HC.out
          refine ⟨by first | exact hS4 | exact fun _ => hS4, ?_⟩
          try simp only [Act.put, List.setIfInBounds_toArray, List.set_cons_zero, List.set_cons_succ]
          refine Reg.all (rs := [16]) (by kernel_rfl) (by simp) ?_
          intro j hj
          simp only [List.mem_cons, List.not_mem_nil, or_false] at hj
          obtain rfl := hj
          · refine Reg.one (i := 16) rfl (by rfl) ?_
            refine wp_append_lies _ (.tmp 31) (.tmp 33) 41 (by rfl) base 44 iS _ 2 16 Tryz.underlying41 HIS.out.1 HIS.out.2.1 HIS.out.2.2.1 HIS.out.2.2.2 (by rfl) (by decide) r.sv r.nd.spots.length (spotsV r.nd.spots) (by rfl) HR4.out.s _ 1 1 [.int .i64 a, .int .i64 b] (by rfl) (by rfl) (World.news_of_block NBS4.out.blk) (by simp [Value.oneCell']) (by decide) (by unfold maxLen; omega) (by omega) (Nat.le_trans hbase HR4.out.size) _ rfl ?_
            intro gS capS V5 ho hg ha hz
            have HR5 := Lib.hid (HR4.out.appS ho hg ha)
            have NBT5 := Lib.hid (NBT4.out.appS (n := r.nd.spots.length + 1) (cap := capS) hg ha)
            have NBU5 := Lib.hid (NBU4.out.appS (n := r.nd.spots.length + 1) (cap := capS) hg ha)
            clear ho hg ha hz
            have hS5 := putS_of HR5.out NBT5.out HC.out
            refine ⟨fun _ _ => hS5, ?_⟩
            try simp only [Act.put, List.setIfInBounds_toArray, List.set_cons_zero, List.set_cons_succ]
            refine Reg.all (rs := [23]) (by kernel_rfl) (by simp) ?_
            intro j hj
            simp only [List.mem_cons, List.not_mem_nil, or_false] at hj
            obtain rfl := hj
            · refine Reg.one (i := 23) rfl (by rfl) ?_
              refine wp_append_lies _ (.tmp 38) (.tmp 40) 42 (by rfl) base 3 iU _ 1 8 Tryz.underlying42 HIU.out.1 HIU.out.2.1 HIU.out.2.2.1 HIU.out.2.2.2 (by rfl) (by decide) r.uv r.nd.subs.length (subsV r.nd.subs) (by rfl) HR5.out.u _ 1 1 [.int .i64 n] (by rfl) (by rfl) (World.news_of_block NBU5.out.blk) (by simp [Value.oneCell']) (by decide) (by unfold maxLen; omega) (by omega) (Nat.le_trans hbase HR5.out.size) _ rfl ?_
              intro gU capU V6 ho hg ha hz
              have HR6 := Lib.hid (HR5.out.appU ho hg ha)
              have NBT6 := Lib.hid (NBT5.out.appU (n := r.nd.subs.length + 1) (cap := capU) hg ha)
              clear ho hg ha hz
              have hS6 := putS_of HR6.out NBT6.out HC.out
              refine ⟨fun _ _ => hS6, ?_⟩
              try simp only [Act.put, List.setIfInBounds_toArray, List.set_cons_zero, List.set_cons_succ]
              refine Reg.takeY (i := 24) (v := ?_) rfl (by kernel_rfl) (by kernel_rfl) (by kernel_rfl) (fun _ _ _ h => h) (by rfl) ?_ ?_
              rotate_left
              · (intro w; go_simp; try with_reducible rfl)
              try simp only [Act.put, List.setIfInBounds_toArray, List.set_cons_zero, List.set_cons_succ]
              refine Reg.takeY (i := 25) (v := ?_) rfl (by kernel_rfl) (by kernel_rfl) (by kernel_rfl) (fun _ _ _ h => h) (by rfl) ?_ ?_
              rotate_left
              · (intro w; go_simp; try with_reducible rfl)
              try simp only [Act.put, List.setIfInBounds_toArray, List.set_cons_zero, List.set_cons_succ]
              obtain ⟨hcg2, hcg3, hcg4, hfg⟩ := putF_of HR6.out HC.out
              refine Reg.all (rs := [26]) (by kernel_rfl) (by simp) ?_
              intro j hj
              obtain rfl := List.mem_singleton.1 hj
              clear hj
              refine Reg.one (i := 26) rfl (by rfl) ?_
              go_simp
              try simp only [Act.put, List.setIfInBounds_toArray, List.set_cons_zero, List.set_cons_succ]
              refine Reg.takeY (i := 27) (v := ?_) rfl (by kernel_rfl) (by kernel_rfl) (by kernel_rfl) (fun _ _ _ h => h) (by rfl) ?_ ?_
              rotate_left
              · (intro w; go_simp; try with_reducible rfl)
              try simp only [Act.put, List.setIfInBounds_toArray, List.set_cons_zero, List.set_cons_succ]
              refine Reg.takeY (i := 28) (v := ?_) rfl (by kernel_rfl) (by kernel_rfl) (by kernel_rfl) (fun _ _ _ h => h) (by rfl) ?_ ?_
              rotate_left
              · (intro w; go_simp; try with_reducible rfl)
              try simp only [Act.put, List.setIfInBounds_toArray, List.set_cons_zero, List.set_cons_succ]
              refine Reg.all (rs := [29]) (by kernel_rfl) (by simp) ?_
              intro j hj
              obtain rfl := List.mem_singleton.1 hj
              clear hj
              refine Reg.one (i := 29) rfl (by rfl) ?_
              go_simp
              try simp only [Act.put, List.setIfInBounds_toArray, List.set_cons_zero, List.set_cons_succ]
              refine Reg.takeY (i := 30) (v := ?_) rfl (by kernel_rfl) (by kernel_rfl) (by kernel_rfl) (fun _ _ _ h => h) (by rfl) ?_ ?_
              rotate_left
              · (intro w; go_simp; try with_reducible rfl)
              try simp only [Act.put, List.setIfInBounds_toArray, List.set_cons_zero, List.set_cons_succ]
              refine Reg.takeY (i := 31) (v := ?_) rfl (by kernel_rfl) (by kernel_rfl) (by kernel_rfl) (fun _ _ _ h => h) (by rfl) ?_ ?_
              rotate_left
              · (intro w; go_simp; try with_reducible rfl)
              try simp only [Act.put, List.setIfInBounds_toArray, List.set_cons_zero, List.set_cons_succ]
              refine Reg.all (rs := [32]) (by kernel_rfl) (by simp) ?_
              intro j hj
              obtain rfl := List.mem_singleton.1 hj
              clear hj
              refine Reg.one (i := 32) rfl (by rfl) ?_
              go_simp
              try simp only [Act.put, List.setIfInBounds_toArray, List.set_cons_zero, List.set_cons_succ]
              refine Reg.done (by kernel_rfl) ?_ _
              go_wp2_with fail
              go_end0
              exact ⟨rfl, HEND.out V6 (.slice (some ⟨gK, 0, none⟩) (r.nd.keys.length + 1) capK) (.slice (some ⟨gS, 0, none⟩) (r.nd.spots.length + 1) capS) (.slice (some ⟨gU, 0, none⟩) (r.nd.subs.length + 1) capU) HR6.out⟩
      · refine Reg.one (i := 22) rfl (by rfl) ?_
        go_simp
        have HR' := HR2.out.alloc (.cells #[.int .i64 n] 3)
        have NBU' := HR2.out.newB #[.int .i64 n] 3
        have NBT' := NBT2.out.alloc (.cells #[.int .i64 n] 3)
        have NBK' := NBK2.out.alloc (.cells #[.int .i64 n] 3)
        have NBS' := NBS2.out.alloc (.cells #[.int .i64 n] 3)
        obtain ⟨V3, hV⟩ : ∃ V', V2.alloc (.cells #[.int .i64 n] 3) = V' := ⟨_, rfl⟩
        rw [hV] at HR' NBU' NBT' NBK' NBS' ⊢
        clear hV
        have HR3 := Lib.hid HR'
        have NBT3 := Lib.hid NBT'
        have NBK3 := Lib.hid NBK'
        have NBS3 := Lib.hid NBS'
        have NBU3 := Lib.hid NBU'
        clear HR' NBU' NBT' NBK' NBS'
        have hS3 := putS_of HR3.out NBT3.out HC.out
        refine ⟨by first | exact hS3 | exact fun _ => hS3, ?_⟩
        try simp only [Act.put, List.setIfInBounds_toArray, List.set_cons_zero, List.set_cons_succ]
        refine Reg.all (rs := [9]) (by kernel_rfl) (by simp) ?_
        intro j hj
        simp only [List.mem_cons, List.not_mem_nil, or_false] at hj
        obtain rfl := hj
        · refine Reg.one (i := 9) rfl (by rfl) ?_
          refine wp_append_lies _ (.tmp 24) (.tmp 26) 32 (by rfl) base 9 iK _ 1 16 Tryz.underlying32 HIK.out.1 HIK.out.2.1 HIK.out.2.2.1 HIK.out.2.2.2 (by rfl) (by decide) r.kv r.nd.keys.length (keysV r.nd.keys) (by rfl) HR3.out.k _ 1 1 [.string key] (by rfl) (by rfl) (World.news_of_block NBK3.out.blk) (by simp [Value.oneCell']) (by decide) (by unfold maxLen; omega) (by omega) (Nat.le_trans hbase HR3.out.size) _ rfl ?_
          intro gK capK V4 ho hg ha hz
          have HR4 := Lib.hid (HR3.out.appK ho hg ha)
          have NBT4 := Lib.hid (NBT3.out.appK (n := r.nd.keys.length + 1) (cap := capK) hg ha)
          have NBS4 := Lib.hid (NBS3.out.appK (n := r.nd.keys.length + 1) (cap := capK) hg ha)
          have NBU4 := Lib.hid (NBU3.out.appK (n := r.nd.keys.length + 1) (cap := capK) hg ha)
          clear ho hg ha hz
          have hS4 := putS_of HR4.out NBT4.out HC.out
          refine ⟨fun _ _ => hS4, ?_⟩
          try simp only [Act.put, List.setIfInBounds_toArray, List.set_cons_zero, List.set_cons_succ]
          refine Reg.all (rs := [16]) (by kernel_rfl) (by simp) ?_
          intro j hj
          simp only [List.mem_cons, List.not_mem_nil, or_false] at hj
          obtain rfl := hj
          · refine Reg.one (i := 16) rfl (by rfl) ?_
            refine wp_append_lies _ (.tmp 31) (.tmp 33) 41 (by rfl) base 44 iS _ 2 16 Tryz.underlying41 HIS.out.1 HIS.out.2.1 HIS.out.2.2.1 HIS.out.2.2.2 (by rfl) (by decide) r.sv r.nd.spots.length (spotsV r.nd.spots) (by rfl) HR4.out.s _ 1 1 [.int .i64 a, .int .i64 b] (by rfl) (by rfl) (World.news_of_block NBS4.out.blk) (by simp [Value.oneCell']) (by decide) (by unfold maxLen; omega) (by omega) (Nat.le_trans hbase HR4.out.size) _ rfl ?_
            intro gS capS V5 ho hg ha hz
            have HR5 := Lib.hid (HR4.out.appS ho hg ha)
            have NBT5 := Lib.hid (NBT4.out.appS (n := r.nd.spots.length + 1) (cap := capS) hg ha)
            have NBU5 := Lib.hid (NBU4.out.appS (n := r.nd.spots.length + 1) (cap := capS) hg ha)
            clear ho hg ha hz
            have hS5 := putS_of HR5.out NBT5.out HC.out
            refine ⟨fun _ _ => hS5, ?_⟩
            try simp only [Act.put, List.setIfInBounds_toArray, List.set_cons_zero, List.set_cons_succ]
            refine Reg.all (rs := [23]) (by kernel_rfl) (by simp) ?_
            intro j hj
            simp only [List.mem_cons, List.not_mem_nil, or_false] at hj
            obtain rfl := hj
            · refine Reg.one (i := 23) rfl (by rfl) ?_
              refine wp_append_lies _ (.tmp 38) (.tmp 40) 42 (by rfl) base 3 iU _ 1 8 Tryz.underlying42 HIU.out.1 HIU.out.2.1 HIU.out.2.2.1 HIU.out.2.2.2 (by rfl) (by decide) r.uv r.nd.subs.length (subsV r.nd.subs) (by rfl) HR5.out.u _ 1 1 [.int .i64 n] (by rfl) (by rfl) (World.news_of_block NBU5.out.blk) (by simp [Value.oneCell']) (by decide) (by unfold maxLen; omega) (by omega) (Nat.le_trans hbase HR5.out.size) _ rfl ?_
              intro gU capU V6 ho hg ha hz
              have HR6 := Lib.hid (HR5.out.appU ho hg ha)
              have NBT6 := Lib.hid (NBT5.out.appU (n := r.nd.subs.length + 1) (cap := capU) hg ha)
              clear ho hg ha hz
              have hS6 := putS_of HR6.out NBT6.out HC.out
              refine ⟨fun _ _ => hS6, ?_⟩
              try simp only [Act.put, List.setIfInBounds_toArray, List.set_cons_zero, List.set_cons_succ]
              refine Reg.takeY (i := 24) (v := ?_) rfl (by kernel_rfl) (by kernel_rfl) (by kernel_rfl) (fun _ _ _ h => h) (by rfl) ?_ ?_
              rotate_left
              · (intro w; go_simp; try with_reducible rfl)
              try simp only [Act.put, List.setIfInBounds_toArray, List.set_cons_zero, List.set_cons_succ]
              refine Reg.takeY (i := 25) (v := ?_) rfl (by kernel_rfl) (by kernel_rfl) (by kernel_rfl) (fun _ _ _ h => h) (by rfl) ?_ ?_
              rotate_left
              · (intro w; go_simp; try with_reducible rfl)
              try simp only [Act.put, List.setIfInBounds_toArray, List.set_cons_zero, List.set_cons_succ]
              obtain ⟨hcg2, hcg3, hcg4, hfg⟩ := putF_of HR6.out HC.out
              refine Reg.all (rs := [26]) (by kernel_rfl) (by simp) ?_
              intro j hj
              obtain rfl := List.mem_singleton.1 hj
              clear hj
              refine Reg.one (i := 26) rfl (by rfl) ?_
              go_simp
              try simp only [Act.put, List.setIfInBounds_toArray, List.set_cons_zero, List.set_cons_succ]
              refine Reg.takeY (i := 27) (v := ?_) rfl (by kernel_rfl) (by kernel_rfl) (by kernel_rfl) (fun _ _ _ h => h) (by rfl) ?_ ?_
              rotate_left
              · (intro w; go_simp; try with_reducible rfl)
              try simp only [Act.put, List.setIfInBounds_toArray, List.set_cons_zero, List.set_cons_succ]
              refine Reg.takeY (i := 28) (v := ?_) rfl (by kernel_rfl) (by kernel_rfl) (by kernel_rfl) (fun _ _ _ h => h) (by rfl) ?_ ?_
              rotate_left
              · (intro w; go_simp; try with_reducible rfl)
              try simp only [Act.put, List.setIfInBounds_toArray, List.set_cons_zero, List.set_cons_succ]
              refine Reg.all (rs := [29]) (by kernel_rfl) (by simp) ?_
              intro j hj
              obtain rfl := List.mem_singleton.1 hj
              clear hj
              refine Reg.one (i := 29) rfl (by rfl) ?_
              go_simp
              try simp only [Act.put, List.setIfInBounds_toArray, List.set_cons_zero, List.set_cons_succ]
              refine Reg.takeY (i := 30) (v := ?_) rfl (by kernel_rfl) (by kernel_rfl) (by kernel_rfl) (fun _ _ _ h => h) (by rfl) ?_ ?_
              rotate_left
              · (intro w; go_simp; try with_reducible rfl)
              try simp only [Act.put, List.setIfInBounds_toArray, List.set_cons_zero, List.set_cons_succ]
              refine Reg.takeY (i := 31) (v := ?_) rfl (by kernel_rfl) (by kernel_rfl) (by kernel_rfl) (fun _ _ _ h => h) (by rfl) ?_ ?_
              rotate_left
              · (intro w; go_simp; try with_reducible rfl)
              try simp only [Act.put, List.setIfInBounds_toArray, List.set_cons_zero, List.set_cons_succ]
              refine Reg.all (rs := [32]) (by kernel_rfl) (by simp) ?_
              intro j hj
              obtain rfl := List.mem_singleton.1 hj
              clear hj
              refine Reg.one (i := 32) rfl (by rfl) ?_
              go_simp
              try simp only [Act.put, List.setIfInBounds_toArray, List.set_cons_zero, List.set_cons_succ]
              refine Reg.done (by kernel_rfl) ?_ _
              go_wp2_with fail
              go_end0
              exact ⟨rfl, HEND.out V6 (.slice (some ⟨gK, 0, none⟩) (r.nd.keys.length + 1) capK) (.slice (some ⟨gS, 0, none⟩) (r.nd.spots.length + 1) capS) (.slice (some ⟨gU, 0, none⟩) (r.nd.subs.length + 1) capU) HR6.out⟩
    · refine Reg.one (i := 22) rfl (by rfl) ?_
      go_simp
      have HR' := HR1.out.alloc (.cells #[.int .i64 n] 3)
      have NBU' := HR1.out.newB #[.int .i64 n] 3
      have NBT' := NBT1.out.alloc (.cells #[.int .i64 n] 3)
      have NBK' := NBK1.out.alloc (.cells #[.int .i64 n] 3)
      obtain ⟨V2, hV⟩ : ∃ V', V1.alloc (.cells #[.int .i64 n] 3) = V' := ⟨_, rfl⟩
      rw [hV] at HR' NBU' NBT' NBK' ⊢
      clear hV
      have HR2 := Lib.hid HR'
      have NBT2 := Lib.hid NBT'
      have NBK2 := Lib.hid NBK'
      have NBU2 := Lib.hid NBU'
      clear HR' NBU' NBT' NBK'
      have hS2 := putS_of HR2.out NBT2.out HC.out
      refine ⟨by first | exact hS2 | exact fun _ => hS2, ?_⟩
      try simp only [Act.put, List.setIfInBounds_toArray, List.set_cons_zero, List.set_cons_succ]
      refine Reg.all (rs := [9, 15]) (by kernel_rfl) (by simp) ?_
      intro j hj
      simp only [List.mem_cons, List.not_mem_nil, or_false] at hj
      rcases hj with rfl | rfl
      · refine Reg.one (i := 9) rfl (by rfl) ?_
        refine wp_append_lies _ (.tmp 24) (.tmp 26) 32 (by rfl) base 9 iK _ 1 16 Tryz.underlying32 HIK.out.1 HIK.out.2.1 HIK.out.2.2.1 HIK.out.2.2.2 (by rfl) (by decide) r.kv r.nd.keys.length (keysV r.nd.keys) (by rfl) HR2.out.k _ 1 1 [.string key] (by rfl) (by rfl) (World.news_of_block NBK2.out.blk) (by simp [Value.oneCell']) (by decide) (by unfold maxLen; omega) (by omega) (Nat.le_trans hbase HR2.out.size) _ rfl ?_
        intro gK capK V3 ho hg ha hz
        have HR3 := Lib.hid (HR2.out.appK ho hg ha)
        have NBT3 := Lib.hid (NBT2.out.appK (n := r.nd.keys.length + 1) (cap := capK) hg ha)
        have NBU3 := Lib.hid (NBU2.out.appK (n := r.nd.keys.length + 1) (cap := capK) hg ha)
        clear ho hg ha hz
        have hS3 := putS_of HR3.out NBT3.out HC.out
        refine ⟨fun _ _ => hS3, ?_⟩
        try simp only [Act.put, List.setIfInBounds_toArray, List.set_cons_zero, List.set_cons_succ]
        refine Reg.all (rs := [15]) (by kernel_rfl) (by simp) ?_
        intro j hj
        simp only [List.mem_cons, List.not_mem_nil, or_false] at hj
        obtain rfl := hj
        · refine Reg.one (i := 15) rfl (by rfl) ?_
          go_simp
          have HR' := HR3.out.alloc (.cells #[.int .i64 a, .int .i64 b] 44)
          have NBS' := HR3.out.newB #[.int .i64 a, .int .i64 b] 44
          have NBT' := NBT3.out.alloc (.cells #[.int .i64 a, .int .i64 b] 44)
          have NBU' := NBU3.out.alloc (.cells #[.int .i64 a, .int .i64 b] 44)
          obtain ⟨V4, hV⟩ : ∃ V', V3.alloc (.cells #[.int .i64 a, .int .i64 b] 44) = V' := ⟨_, rfl⟩
          rw [hV] at HR' NBS' NBT' NBU' ⊢
          clear hV
          have HR4 := Lib.hid HR'
          have NBT4 := Lib.hid NBT'
          have NBU4 := Lib.hid NBU'
          have NBS4 := Lib.hid NBS'
          clear HR' NBS' NBT' NBU'
          have hS4 := putS_of HR4.out NBT4.out HC.out
          refine ⟨by first | exact hS4 | exact fun _ => hS4, ?_⟩
          try simp only [Act.put, List.setIfInBounds_toArray, List.set_cons_zero, List.set_cons_succ]
          refine Reg.all (rs := [16]) (by kernel_rfl) (by simp) ?_
          intro j hj
          simp only [List.mem_cons, List.not_mem_nil, or_false] at hj
          obtain rfl := hj
          · refine Reg.one (i := 16) rfl (by rfl) ?_
            refine wp_append_lies _ (.tmp 31) (.tmp 33) 41 (by rfl) base 44 iS _ 2 16 Tryz.underlying41 HIS.out.1 HIS.out.2.1 HIS.out.2.2.1 HIS.out.2.2.2 (by rfl) (by decide) r.sv r.nd.spots.length (spotsV r.nd.spots) (by rfl) HR4.out.s _ 1 1 [.int .i64 a, .int .i64 b] (by rfl) (by rfl) (World.news_of_block NBS4.out.blk) (by simp [Value.oneCell']) (by decide) (by unfold maxLen; omega) (by omega) (Nat.le_trans hbase HR4.out.size) _ rfl ?_
            intro gS capS V5 ho hg ha hz
            have HR5 := Lib.hid (HR4.out.appS ho hg ha)
            have NBT5 := Lib.hid (NBT4.out.appS (n := r.nd.spots.length + 1) (cap := capS) hg ha)
            have NBU5 := Lib.hid (NBU4.out.appS (n := r.nd.spots.length + 1) (cap := capS) hg ha)
            clear ho hg ha hz
            have hS5 := putS_of HR5.out NBT5.out HC.out
            refine ⟨fun _ _ => hS5, ?_⟩
            try simp only [Act.put, List.setIfInBounds_toArray, List.set_cons_zero, List.set_cons_succ]
            refine Reg.all (rs := [23]) (by kernel_rfl) (by simp) ?_
            intro j hj
            simp only [List.mem_cons, List.not_mem_nil, or_false] at hj
            obtain rfl := hj
            · refine Reg.one (i := 23) rfl (by rfl) ?_
              refine wp_append_lies _ (.tmp 38) (.tmp 40) 42 (by rfl) base 3 iU _ 1 8 Tryz.underlying42 HIU.out.1 HIU.out.2.1 HIU.out.2.2.1 HIU.out.2.2.2 (by rfl) (by decide) r.uv r.nd.subs.length (subsV r.nd.subs) (by rfl) HR5.out.u _ 1 1 [.int .i64 n] (by rfl) (by rfl) (World.news_of_block NBU5.out.blk) (by simp [Value.oneCell']) (by decide) (by unfold maxLen; omega) (by omega) (Nat.le_trans hbase HR5.out.size) _ rfl ?_
              intro gU capU V6 ho hg ha hz
              have HR6 := Lib.hid (HR5.out.appU ho hg ha)
              have NBT6 := Lib.hid (NBT5.out.appU (n := r.nd.subs.length + 1) (cap := capU) hg ha)
              clear ho hg ha hz
              have hS6 := putS_of HR6.out NBT6.out HC.out
              refine ⟨fun _ _ => hS6, ?_⟩
              try simp only [Act.put, List.setIfInBounds_toArray, List.set_cons_zero, List.set_cons_succ]
              refine Reg.takeY (i := 24) (v := ?_) rfl (by kernel_rfl) (by kernel_rfl) (by kernel_rfl) (fun _ _ _ h => h) (by rfl) ?_ ?_
              rotate_left
              · (intro w; go_simp; try with_reducible rfl)
              try simp only [Act.put, List.setIfInBounds_toArray, List.set_cons_zero, List.set_cons_succ]
              refine Reg.takeY (i := 25) (v := ?_) rfl (by kernel_rfl) (by kernel_rfl) (by kernel_rfl) (fun _ _ _ h => h) (by rfl) ?_ ?_
              rotate_left
              · (intro w; go_simp; try with_reducible rfl)
              try simp only [Act.put, List.setIfInBounds_toArray, List.set_cons_zero, List.set_cons_succ]
              obtain ⟨hcg2, hcg3, hcg4, hfg⟩ := putF_of HR6.out HC.out
              refine Reg.all (rs := [26]) (by kernel_rfl) (by simp) ?_
              intro j hj
              obtain rfl := List.mem_singleton.1 hj
              clear hj
              refine Reg.one (i := 26) rfl (by rfl) ?_
              go_simp
              try simp only [Act.put, List.setIfInBounds_toArray, List.set_cons_zero, List.set_cons_succ]
              refine Reg.takeY (i := 27) (v := ?_) rfl (by kernel_rfl) (by kernel_rfl) (by kernel_rfl) (fun _ _ _ h => h) (by rfl) ?_ ?_
              rotate_left
              · (intro w; go_simp; try with_reducible rfl)
              try simp only [Act.put, List.setIfInBounds_toArray, List.set_cons_zero, List.set_cons_succ]
              refine Reg.takeY (i := 28) (v := ?_) rfl (by kernel_rfl) (by kernel_rfl) (by kernel_rfl) (fun _ _ _ h => h) (by rfl) ?_ ?_
              rotate_left
              · (intro w; go_simp; try with_reducible rfl)
              try simp only [Act.put, List.setIfInBounds_toArray, List.set_cons_zero, List.set_cons_succ]
              refine Reg.all (rs := [29]) (by kernel_rfl) (by simp) ?_
              intro j hj
              obtain rfl := List.mem_singleton.1 hj
              clear hj
              refine Reg.one (i := 29) rfl (by rfl) ?_
              go_simp
              try simp only [Act.put, List.setIfInBounds_toArray, List.set_cons_zero, List.set_cons_succ]
              refine Reg.takeY (i := 30) (v := ?_) rfl (by kernel_rfl) (by kernel_rfl) (by kernel_rfl) (fun _ _ _ h => h) (by rfl) ?_ ?_
              rotate_left
              · (intro w; go_simp; try with_reducible rfl)
              try simp only [Act.put, List.setIfInBounds_toArray, List.set_cons_zero, List.set_cons_succ]
              refine Reg.takeY (i := 31) (v := ?_) rfl (by kernel_rfl) (by kernel_rfl) (by kernel_rfl) (fun _ _ _ h => h) (by rfl) ?_ ?_
              rotate_left
              · (intro w; go_simp; try with_reducible rfl)
              try simp only [Act.put, List.setIfInBounds_toArray, List.set_cons_zero, List.set_cons_succ]
              refine Reg.all (rs := [32]) (by kernel_rfl) (by simp) ?_
              intro j hj
              obtain rfl := List.mem_singleton.1 hj
              clear hj
              refine Reg.one (i := 32) rfl (by rfl) ?_
              go_simp
              try simp only [Act.put, List.setIfInBounds_toArray, List.set_cons_zero, List.set_cons_succ]
              refine Reg.done (by kernel_rfl) ?_ _
              go_wp2_with fail
              go_end0
              exact ⟨rfl, HEND.out V6 (.slice (some ⟨gK, 0, none⟩) (r.nd.keys.length + 1) capK) (.slice (some ⟨gS, 0, none⟩) (r.nd.spots.length + 1) capS) (.slice (some ⟨gU, 0, none⟩) (r.nd.subs.length + 1) capU) HR6.out⟩
      · refine Reg.one (i := 15) rfl (by rfl) ?_
        go_simp
        have HR' := HR2.out.alloc (.cells #[.int .i64 a, .int .i64 b] 44)
        have NBS' := HR2.out.newB #[.int .i64 a, .int .i64 b] 44
        have NBT' := NBT2.out.alloc (.cells #[.int .i64 a, .int .i64 b] 44)
        have NBK' := NBK2.out.alloc (.cells #[.int .i64 a, .int .i64 b] 44)
        have NBU' := NBU2.out.alloc (.cells #[.int .i64 a, .int .i64 b] 44)
        obtain ⟨V3, hV⟩ : ∃ V', V2.alloc (.cells #[.int .i64 a, .int .i64 b] 44) = V' := ⟨_, rfl⟩
        rw [hV] at HR' NBS' NBT' NBK' NBU' ⊢
        clear hV
        have HR3 := Lib.hid HR'
        have NBT3 := Lib.hid NBT'
        have NBK3 := Lib.hid NBK'
        have NBU3 := Lib.hid NBU'
        have NBS3 := Lib.hid NBS'
        clear HR' NBS' NBT' NBK' NBU'
        have hS3 := putS_of HR3.out NBT3.out HC.out
        refine ⟨by first | exact hS3 | exact fun _ => hS3, ?_⟩
        try simp only [Act.put, List.setIfInBounds_toArray, List.set_cons_zero, List.set_cons_succ]
        refine Reg.all (rs := [9]) (by kernel_rfl) (by simp) ?_
        intro j hj
        simp only [List.mem_cons, List.not_mem_nil, or_false] at hj
        obtain rfl := hj
        · refine Reg.one (i := 9) rfl (by rfl) ?_
          refine wp_append_lies _ (.tmp 24) (.tmp 26) 32 (by rfl) base 9 iK _ 1 16 Tryz.underlying32 HIK.out.1 HIK.out.2.1 HIK.out.2.2.1 HIK.out.2.2.2 (by rfl) (by decide) r.kv r.nd.keys.length (keysV r.nd.keys) (by rfl) HR3.out.k _ 1 1 [.string key] (by rfl) (by rfl) (World.news_of_block NBK3.out.blk) (by simp [Value.oneCell']) (by decide) (by unfold maxLen; omega) (by omega) (Nat.le_trans hbase HR3.out.size) _ rfl ?_
          intro gK capK V4 ho hg ha hz
          have HR4 := Lib.hid (HR3.out.appK ho hg ha)
          have NBT4 := Lib.hid (NBT3.out.appK (n := r.nd.keys.length + 1) (cap := capK) hg ha)
          have NBU4 := Lib.hid (NBU3.out.appK (n := r.nd.keys.length + 1) (cap := capK) hg ha)
          have NBS4 := Lib.hid (NBS3.out.appK (n := r.nd.keys.length + 1) (cap := capK) hg ha)
          clear ho hg ha hz
          have hS4 := putS_of HR4.out NBT4.out HC.out
          refine ⟨fun _ _ => hS4, ?_⟩
          try simp only [Act.put, List.setIfInBounds_toArray, List.set_cons_zero, List.set_cons_succ]
          refine Reg.all (rs := [16]) (by kernel_rfl) (by simp) ?_
          intro j hj
          simp only [List.mem_cons, List.not_mem_nil, or_false] at hj
          obtain rfl := hj
          · refine Reg.one (i := 16) rfl (by rfl) ?_
            refine wp_append_lies _ (.tmp 31) (.tmp 33) 41 (by rfl) base 44 iS _ 2 16 Tryz.underlying41 HIS.out.1 HIS.out.2.1 HIS.out.2.2.1 HIS.out.2.2.2 (by rfl) (by decide) r.sv r.nd.spots.length (spotsV r.nd.spots) (by rfl) HR4.out.s _ 1 1 [.int .i64 a, .int .i64 b] (by rfl) (by rfl) (World.news_of_block NBS4.out.blk) (by simp [Value.oneCell']) (by decide) (by unfold maxLen; omega) (by omega) (Nat.le_trans hbase HR4.out.size) _ rfl ?_
            intro gS capS V5 ho hg ha hz
            have HR5 := Lib.hid (HR4.out.appS ho hg ha)
            have NBT5 := Lib.hid (NBT4.out.appS (n := r.nd.spots.length + 1) (cap := capS) hg ha)
            have NBU5 := Lib.hid (NBU4.out.appS (n := r.nd.spots.length + 1) (cap := capS) hg ha)
            clear ho hg ha hz
            have hS5 := putS_of HR5.out NBT5.out HC.out
            refine ⟨fun _ _ => hS5, ?_⟩
            try simp only [Act.put, List.setIfInBounds_toArray, List.set_cons_zero, List.set_cons_succ]
            refine Reg.all (rs := [23]) (by kernel_rfl) (by simp) ?_
            intro j hj
            simp only [List.mem_cons, List.not_mem_nil, or_false] at hj
            obtain rfl := hj
            · refine Reg.one (i := 23) rfl (by rfl) ?_
              refine wp_append_lies _ (.tmp 38) (.tmp 40) 42 (by rfl) base 3 iU _ 1 8 Tryz.underlying42 HIU.out.1 HIU.out.2.1 HIU.out.2.2.1 HIU.out.2.2.2 (by rfl) (by decide) r.uv r.nd.subs.length (subsV r.nd.subs) (by rfl) HR5.out.u _ 1 1 [.int .i64 n] (by rfl) (by rfl) (World.news_of_block NBU5.out.blk) (by simp [Value.oneCell']) (by decide) (by unfold maxLen; omega) (by omega) (Nat.le_trans hbase HR5.out.size) _ rfl ?_
              intro gU capU V6 ho hg ha hz
              have HR6 := Lib.hid (HR5.out.appU ho hg ha)
              have NBT6 := Lib.hid (NBT5.out.appU (n := r.nd.subs.length + 1) (cap := capU) hg ha)
              clear ho hg ha hz
              have hS6 := putS_of HR6.out NBT6.out HC.out
              refine ⟨fun _ _ => hS6, ?_⟩
              try simp only [Act.put, List.setIfInBounds_toArray, List.set_cons_zero, List.set_cons_succ]
              refine Reg.takeY (i := 24) (v := ?_) rfl (by kernel_rfl) (by kernel_rfl) (by kernel_rfl) (fun _ _ _ h => h) (by rfl) ?_ ?_
              rotate_left
              · (intro w; go_simp; try with_reducible rfl)
              try simp only [Act.put, List.setIfInBounds_toArray, List.set_cons_zero, List.set_cons_succ]
              refine Reg.takeY (i := 25) (v := ?_) rfl (by kernel_rfl) (by kernel_rfl) (by kernel_rfl) (fun _ _ _ h => h) (by rfl) ?_ ?_
              rotate_left
              · (intro w; go_simp; try with_reducible rfl)
              try simp only [Act.put, List.setIfInBounds_toArray, List.set_cons_zero, List.set_cons_succ]
              obtain ⟨hcg2, hcg3, hcg4, hfg⟩ := putF_of HR6.out HC.out
              refine Reg.all (rs := [26]) (by kernel_rfl) (by simp) ?_
              intro j hj
              obtain rfl := List.mem_singleton.1 hj
              clear hj
              refine Reg.one (i := 26) rfl (by rfl) ?_
              go_simp
              try simp only [Act.put, List.setIfInBounds_toArray, List.set_cons_zero, List.set_cons_succ]
              refine Reg.takeY (i := 27) (v := ?_) rfl (by kernel_rfl) (by kernel_rfl) (by kernel_rfl) (fun _ _ _ h => h) (by rfl) ?_ ?_
              rotate_left
              · (intro w; go_simp; try with_reducible rfl)
              try simp only [Act.put, List.setIfInBounds_toArray, List.set_cons_zero, List.set_cons_succ]
              refine Reg.takeY (i := 28) (v := ?_) rfl (by kernel_rfl) (by kernel_rfl) (by kernel_rfl) (fun _ _ _ h => h) (by rfl) ?_ ?_
              rotate_left
              · (intro w; go_simp; try with_reducible rfl)
              try simp only [Act.put, List.setIfInBounds_toArray, List.set_cons_zero, List.set_cons_succ]
              refine Reg.all (rs := [29]) (by kernel_rfl) (by simp) ?_
              intro j hj
              obtain rfl := List.mem_singleton.1 hj
              clear hj
              refine Reg.one (i := 29) rfl (by rfl) ?_
              go_simp
              try simp only [Act.put, List.setIfInBounds_toArray, List.set_cons_zero, List.set_cons_succ]
              refine Reg.takeY (i := 30) (v := ?_) rfl (by kernel_rfl) (by kernel_rfl) (by kernel_rfl) (fun _ _ _ h => h) (by rfl) ?_ ?_
              rotate_left
              · (intro w; go_simp; try with_reducible rfl)
              try simp only [Act.put, List.setIfInBounds_toArray, List.set_cons_zero, List.set_cons_succ]
              refine Reg.takeY (i := 31) (v := ?_) rfl (by kernel_rfl) (by kernel_rfl) (by kernel_rfl) (fun _ _ _ h => h) (by rfl) ?_ ?_
              rotate_left
              · (intro w; go_simp; try with_reducible rfl)
              try simp only [Act.put, List.setIfInBounds_toArray, List.set_cons_zero, List.set_cons_succ]
              refine Reg.all (rs := [32]) (by kernel_rfl) (by simp) ?_
              intro j hj
              obtain rfl := List.mem_singleton.1 hj
              clear hj
              refine Reg.one (i := 32) rfl (by rfl) ?_
              go_simp
              try simp only [Act.put, List.setIfInBounds_toArray, List.set_cons_zero, List.set_cons_succ]
              refine Reg.done (by kernel_rfl) ?_ _
              go_wp2_with fail
              go_end0
              exact ⟨rfl, HEND.out V6 (.slice (some ⟨gK, 0, none⟩) (r.nd.keys.length + 1) capK) (.slice (some ⟨gS, 0, none⟩) (r.nd.spots.length + 1) capS) (.slice (some ⟨gU, 0, none⟩) (r.nd.subs.length + 1) capU) HR6.out⟩
  · refine Reg.one (i := 15) rfl (by rfl) ?_
    go_simp
    have HR' := HR0.out.alloc (.cells #[.int .i64 a, .int .i64 b] 44)
    have NBS' := HR0.out.newB #[.int .i64 a, .int .i64 b] 44
    have NBT' := NBT0.out.alloc (.cells #[.int .i64 a, .int .i64 b] 44)
    obtain ⟨V1, hV⟩ : ∃ V', V0.alloc (.cells #[.int .i64 a, .int .i64 b] 44) = V' := ⟨_, rfl⟩
    rw [hV] at HR' NBS' NBT' ⊢
    clear hV
    have HR1 := Lib.hid HR'
    have NBT1 := Lib.hid NBT'
    have NBS1 := Lib.hid NBS'
    clear HR' NBS' NBT'
    have hS1 := putS_of HR1.out NBT1.out HC.out
    refine ⟨by first | exact hS1 | exact fun _ => hS1, ?_⟩
    try simp only [Act.put, List.setIfInBounds_toArray, List.set_cons_zero, List.set_cons_succ]
    refine Reg.all (rs := [8, 22]) (by kernel_rfl) (by simp) ?_
    intro j hj
    simp only [List.mem_cons, List.not_mem_nil, or_false] at hj
    rcases hj with rfl | rfl
    · refine Reg.one (i := 8) rfl (by rfl) ?_
      go_simp
      have HR' := HR1.out.alloc (.cells #[.string key] 9)
      have NBK' := HR1.out.newB #[.string key] 9
      have NBT' := NBT1.out.alloc (.cells #[.string key] 9)
      have NBS' := NBS1.out.alloc (.cells #[.string key] 9)
      obtain ⟨V2, hV⟩ : ∃ V', V1.alloc (.cells #[.string key] 9) = V' := ⟨_, rfl⟩
      rw [hV] at HR' NBK' NBT' NBS' ⊢
      clear hV
      have HR2 := Lib.hid HR'
      have NBT2 := Lib.hid NBT'
      have NBS2 := Lib.hid NBS'
      have NBK2 := Lib.hid NBK'
      clear HR' NBK' NBT' NBS'
      have hS2 := putS_of HR2.out NBT2.out HC.out
      refine ⟨by first | exact hS2 | exact fun _ => hS2, ?_⟩
      try simp only [Act.put, List.setIfInBounds_toArray, List.set_cons_zero, List.set_cons_succ]
      refine Reg.all (rs := [9, 22]) (by kernel_rfl) (by simp) ?_
      intro j hj
      simp only [List.mem_cons, List.not_mem_nil, or_false] at hj
      rcases hj with rfl | rfl
      · refine Reg.one (i := 9) rfl (by rfl) ?_
        refine wp_append_lies _ (.tmp 24) (.tmp 26) 32 (by rfl) base 9 iK _ 1 16 Tryz.underlying32 HIK.out.1 HIK.out.2.1 HIK.out.2.2.1 HIK.out.2.2.2 (by rfl) (by decide) r.kv r.nd.keys.length (keysV r.nd.keys) (by rfl) HR2.out.k _ 1 1 [.string key] (by rfl) (by rfl) (World.news_of_block NBK2.out.blk) (by simp [Value.oneCell']) (by decide) (by unfold maxLen; omega) (by omega) (Nat.le_trans hbase HR2.out.size) _ rfl ?_
        intro gK capK V3 ho hg ha hz
        have HR3 := Lib.hid (HR2.out.appK ho hg ha)
        have NBT3 := Lib.hid (NBT2.out.appK (n := r.nd.keys.length + 1) (cap := capK) hg ha)
        have NBS3 := Lib.hid (NBS2.out.appK (n := r.nd.keys.length + 1) (cap := capK) hg ha)
        clear ho hg ha hz
        have hS3 := putS_of HR3.out NBT3.out HC.out
        refine ⟨fun _ _ => hS3, ?_⟩
        try simp only [Act.put, List.setIfInBounds_toArray, List.set_cons_zero, List.set_cons_succ]
        refine Reg.all (rs := [16, 22]) (by kernel_rfl) (by simp) ?_
        intro j hj
        simp only [List.mem_cons, List.not_mem_nil, or_false] at hj
        rcases hj with rfl | rfl
        · refine Reg.one (i := 16) rfl (by rfl) ?_
          refine wp_append_lies _ (.tmp 31) (.tmp 33) 41 (by rfl) base 44 iS _ 2 16 Tryz.underlying41 HIS.out.1 HIS.out.2.1 HIS.out.2.2.1 HIS.out.2.2.2 (by rfl) (by decide) r.sv r.nd.spots.length (spotsV r.nd.spots) (by rfl) HR3.out.s _ 1 1 [.int .i64 a, .int .i64 b] (by rfl) (by rfl) (World.news_of_block NBS3.out.blk) (by simp [Value.oneCell']) (by decide) (by unfold maxLen; omega) (by omega) (Nat.le_trans hbase HR3.out.size) _ rfl ?_
          intro gS capS V4 ho hg ha hz
          have HR4 := Lib.hid (HR3.out.appS ho hg ha)
          have NBT4 := Lib.hid (NBT3.out.appS (n := r.nd.spots.length + 1) (cap := capS) hg ha)
          clear ho hg ha hz
          have hS4 := putS_of HR4.out NBT4.out HC.out
          refine ⟨fun _ _ => hS4, ?_⟩
          try simp only [Act.put, List.setIfInBounds_toArray, List.set_cons_zero, List.set_cons_succ]
          refine Reg.all (rs := [22]) (by kernel_rfl) (by simp) ?_
          intro j hj
          simp only [List.mem_cons, List.not_mem_nil, or_false] at hj
          obtain rfl := hj
          · refine Reg.one (i := 22) rfl (by rfl) ?_
            go_simp
            have HR' := HR4.out.alloc (.cells #[.int .i64 n] 3)
            have NBU' := HR4.out.newB #[.int .i64 n] 3
            have NBT' := NBT4.out.alloc (.cells #[.int .i64 n] 3)
            obtain ⟨V5, hV⟩ : ∃ V', V4.alloc (.cells #[.int .i64 n] 3) = V' := ⟨_, rfl⟩
            rw [hV] at HR' NBU' NBT' ⊢
            clear hV
            have HR5 := Lib.hid HR'
            have NBT5 := Lib.hid NBT'
            have NBU5 := Lib.hid NBU'
            clear HR' NBU' NBT'
            have hS5 := putS_of HR5.out NBT5.out HC.out
            refine ⟨by first | exact hS5 | exact fun _ => hS5, ?_⟩
            try simp only [Act.put, List.setIfInBounds_toArray, List.set_cons_zero, List.set_cons_succ]
            refine Reg.all (rs := [23]) (by kernel_rfl) (by simp) ?_
            intro j hj
            simp only [List.mem_cons, List.not_mem_nil, or_false] at hj
            obtain rfl := hj
            · refine Reg.one (i := 23) rfl (by rfl) ?_
              refine wp_append_lies _ (.tmp 38) (.tmp 40) 42 (by rfl) base 3 iU _ 1 8 Tryz.underlying42 HIU.out.1 HIU.out.2.1 HIU.out.2.2.1 HIU.out.2.2.2 (by rfl) (by decide) r.uv r.nd.subs.length (subsV r.nd.subs) (by rfl) HR5.out.u _ 1 1 [.int .i64 n] (by rfl) (by rfl) (World.news_of_block NBU5.out.blk) (by simp [Value.oneCell']) (by decide) (by unfold maxLen; omega) (by omega) (Nat.le_trans hbase HR5.out.size) _ rfl ?_
              intro gU capU V6 ho hg ha hz
              have HR6 := Lib.hid (HR5.out.appU ho hg ha)
              have NBT6 := Lib.hid (NBT5.out.appU (n := r.nd.subs.length + 1) (cap := capU) hg ha)
              clear ho hg ha hz
              have hS6 := putS_of HR6.out NBT6.out HC.out
              refine ⟨fun _ _ => hS6, ?_⟩
              try simp only [Act.put, List.setIfInBounds_toArray, List.set_cons_zero, List.set_cons_succ]
              refine Reg.takeY (i := 24) (v := ?_) rfl (by kernel_rfl) (by kernel_rfl) (by kernel_rfl) (fun _ _ _ h => h) (by rfl) ?_ ?_
              rotate_left
              · (intro w; go_simp; try with_reducible rfl)
              try simp only [Act.put, List.setIfInBounds_toArray, List.set_cons_zero, List.set_cons_succ]
              refine Reg.takeY (i := 25) (v := ?_) rfl (by kernel_rfl) (by kernel_rfl) (by kernel_rfl) (fun _ _ _ h => h) (by rfl) ?_ ?_
              rotate_left
              · (intro w; go_simp; try with_reducible rfl)
              try simp only [Act.put, List.setIfInBounds_toArray, List.set_cons_zero, List.set_cons_succ]
              obtain ⟨hcg2, hcg3, hcg4, hfg⟩ := putF_of HR6.out HC.out
              refine Reg.all (rs := [26]) (by kernel_rfl) (by simp) ?_
              intro j hj
              obtain rfl := List.mem_singleton.1 hj
              clear hj
              refine Reg.one (i := 26) rfl (by rfl) ?_
              go_simp
              try simp only [Act.put, List.setIfInBounds_toArray, List.set_cons_zero, List.set_cons_succ]
              refine Reg.takeY (i := 27) (v := ?_) rfl (by kernel_rfl) (by kernel_rfl) (by kernel_rfl) (fun _ _ _ h => h) (by rfl) ?_ ?_
              rotate_left
              · (intro w; go_simp; try with_reducible rfl)
              try simp only [Act.put, List.setIfInBounds_toArray, List.set_cons_zero, List.set_cons_succ]
              refine Reg.takeY (i := 28) (v := ?_) rfl (by kernel_rfl) (by kernel_rfl) (by kernel_rfl) (fun _ _ _ h => h) (by rfl) ?_ ?_
              rotate_left
              · (intro w; go_simp; try with_reducible rfl)
              try simp only [Act.put, List.setIfInBounds_toArray, List.set_cons_zero, List.set_cons_succ]
              refine Reg.all (rs := [29]) (by kernel_rfl) (by simp) ?_
              intro j hj
              obtain rfl := List.mem_singleton.1 hj
              clear hj
              refine Reg.one (i := 29) rfl (by rfl) ?_
              go_simp
              try simp only [Act.put, List.setIfInBounds_toArray, List.set_cons_zero, List.set_cons_succ]
              refine Reg.takeY (i := 30) (v := ?_) rfl (by kernel_rfl) (by kernel_rfl) (by kernel_rfl) (fun _ _ _ h => h) (by rfl) ?_ ?_
              rotate_left
              · (intro w; go_simp; try with_reducible rfl)
              try simp only [Act.put, List.setIfInBounds_toArray, List.set_cons_zero, List.set_cons_succ]
              refine Reg.takeY (i := 31) (v := ?_) rfl (by kernel_rfl) (by kernel_rfl) (by kernel_rfl) (fun _ _ _ h => h) (by rfl) ?_ ?_
              rotate_left
              · (intro w; go_simp; try with_reducible rfl)
              try simp only [Act.put, List.setIfInBounds_toArray, List.set_cons_zero, List.set_cons_succ]
              refine Reg.all (rs := [32]) (by kernel_rfl) (by simp) ?_
              intro j hj
              obtain rfl := List.mem_singleton.1 hj
              clear hj
              refine Reg.one (i := 32) rfl (by rfl) ?_
              go_simp
              try simp only [Act.put, List.setIfInBounds_toArray, List.set_cons_zero, List.set_cons_succ]
              refine Reg.done (by kernel_rfl) ?_ _
              go_wp2_with fail
              go_end0
              exact ⟨rfl, HEND.out V6 (.slice (some ⟨gK, 0, none⟩) (r.nd.keys.length + 1) capK) (.slice (some ⟨gS, 0, none⟩) (r.nd.spots.length + 1) capS) (.slice (some ⟨gU, 0, none⟩) (r.nd.subs.length + 1) capU) HR6.out⟩
        · refine Reg.one (i := 22) rfl (by rfl) ?_
          go_simp
          have HR' := HR3.out.alloc (.cells #[.int .i64 n] 3)
          have NBU' := HR3.out.newB #[.int .i64 n] 3
          have NBT' := NBT3.out.alloc (.cells #[.int .i64 n] 3)
          have NBS' := NBS3.out.alloc (.cells #[.int .i64 n] 3)
          obtain ⟨V4, hV⟩ : ∃ V', V3.alloc (.cells #[.int .i64 n] 3) = V' := ⟨_, rfl⟩
          rw [hV] at HR' NBU' NBT' NBS' ⊢
          clear hV
          have HR4 := Lib.hid HR'
          have NBT4 := Lib.hid NBT'
          have NBS4 := Lib.hid NBS'
          have NBU4 := Lib.hid NBU'
          clear HR' NBU' NBT' NBS'
          have hS4 := putS_of HR4.out NBT4.out HC.out
          refine ⟨by first | exact hS4 | exact fun _ => hS4, ?_⟩
          try simp only [Act.put, List.setIfInBounds_toArray, List.set_cons_zero, List.set_cons_succ]
          refine Reg.all (rs := [16]) (by kernel_rfl) (by simp) ?_
          intro j hj
          simp only [List.mem_cons, List.not_mem_nil, or_false] at hj
          obtain rfl := hj
          · refine Reg.one (i := 16) rfl (by rfl) ?_
            refine wp_append_lies _ (.tmp 31) (.tmp 33) 41 (by rfl) base 44 iS _ 2 16 Tryz.underlying41 HIS.out.1 HIS.out.2.1 HIS.out.2.2.1 HIS.out.2.2.2 (by rfl) (by decide) r.sv r.nd.spots.length (spotsV r.nd.spots) (by rfl) HR4.out.s _ 1 1 [.int .i64 a, .int .i64 b] (by rfl) (by rfl) (World.news_of_block NBS4.out.blk) (by simp [Value.oneCell']) (by decide) (by unfold maxLen; omega) (by omega) (Nat.le_trans hbase HR4.out.size) _ rfl ?_
            intro gS capS V5 ho hg ha hz
            have HR5 := Lib.hid (HR4.out.appS ho hg ha)
            have NBT5 := Lib.hid (NBT4.out.appS (n := r.nd.spots.length + 1) (cap := capS) hg ha)
            have NBU5 := Lib.hid (NBU4.out.appS (n := r.nd.spots.length + 1) (cap := capS) hg ha)
            clear ho hg ha hz
            have hS5 := putS_of HR5.out NBT5.out HC.out
            refine ⟨fun _ _ => hS5, ?_⟩
            try simp only [Act.put, List.setIfInBounds_toArray, List.set_cons_zero, List.set_cons_succ]
            refine Reg.all (rs := [23]) (by kernel_rfl) (by simp) ?_
            intro j hj
            simp only [List.mem_cons, List.not_mem_nil, or_false] at hj
            obtain rfl := hj
            · refine Reg.one (i := 23) rfl (by rfl) ?_
              refine wp_append_lies _ (.tmp 38) (.tmp 40) 42 (by rfl) base 3 iU _ 1 8 Tryz.underlying42 HIU.out.1 HIU.out.2.1 HIU.out.2.2.1 HIU.out.2.2.2 (by rfl) (by decide) r.uv r.nd.subs.length (subsV r.nd.subs) (by rfl) HR5.out.u _ 1 1 [.int .i64 n] (by rfl) (by rfl) (World.news_of_block NBU5.out.blk) (by simp [Value.oneCell']) (by decide) (by unfold maxLen; omega) (by omega) (Nat.le_trans hbase HR5.out.size) _ rfl ?_
              intro gU capU V6 ho hg ha hz
              have HR6 := Lib.hid (HR5.out.appU ho hg ha)
              have NBT6 := Lib.hid (NBT5.out.appU (n := r.nd.subs.length + 1) (cap := capU) hg ha)
              clear ho hg ha hz
              have hS6 := putS_of HR6.out NBT6.out HC.out
              refine ⟨fun _ _ => hS6, ?_⟩
              try simp only [Act.put, List.setIfInBounds_toArray, List.set_cons_zero, List.set_cons_succ]
              refine Reg.takeY (i := 24) (v := ?_) rfl (by kernel_rfl) (by kernel_rfl) (by kernel_rfl) (fun _ _ _ h => h) (by rfl) ?_ ?_
              rotate_left
              · (intro w; go_simp; try with_reducible rfl)
              try simp only [Act.put, List.setIfInBounds_toArray, List.set_cons_zero, List.set_cons_succ]
              refine Reg.takeY (i := 25) (v := ?_) rfl (by kernel_rfl) (by kernel_rfl) (by kernel_rfl) (fun _ _ _ h => h) (by rfl) ?_ ?_
              rotate_left
              · (intro w; go_simp; try with_reducible rfl)
              try simp only [Act.put, List.setIfInBounds_toArray, List.set_cons_zero, List.set_cons_succ]
              obtain ⟨hcg2, hcg3, hcg4, hfg⟩ := putF_of HR6.out HC.out
              refine Reg.all (rs := [26]) (by kernel_rfl) (by simp) ?_
              intro j hj
              obtain rfl := List.mem_singleton.1 hj
              clear hj
              refine Reg.one (i := 26) rfl (by rfl) ?_
              go_simp
              try simp only [Act.put, List.setIfInBounds_toArray, List.set_cons_zero, List.set_cons_succ]
              refine Reg.takeY (i := 27) (v := ?_) rfl (by kernel_rfl) (by kernel_rfl) (by kernel_rfl) (fun _ _ _ h => h) (by rfl) ?_ ?_
              rotate_left
              · (intro w; go_simp; try with_reducible rfl)
              try simp only [Act.put, List.setIfInBounds_toArray, List.set_cons_zero, List.set_cons_succ]
              refine Reg.takeY (i := 28) (v := ?_) rfl (by kernel_rfl) (by kernel_rfl) (by kernel_rfl) (fun _ _ _ h => h) (by rfl) ?_ ?_
              rotate_left
              · (intro w; go_simp; try with_reducible rfl)
              try simp only [Act.put, List.setIfInBounds_toArray, List.set_cons_zero, List.set_cons_succ]
              refine Reg.all (rs := [29]) (by kernel_rfl) (by simp) ?_
              intro j hj
              obtain rfl := List.mem_singleton.1 hj
              clear hj
              refine Reg.one (i := 29) rfl (by rfl) ?_
              go_simp
              try simp only [Act.put, List.setIfInBounds_toArray, List.set_cons_zero, List.set_cons_succ]
              refine Reg.takeY (i := 30) (v := ?_) rfl (by kernel_rfl) (by kernel_rfl) (by kernel_rfl) (fun _ _ _ h => h) (by rfl) ?_ ?_
              rotate_left
              · (intro w; go_simp; try with_reducible rfl)
              try simp only [Act.put, List.setIfInBounds_toArray, List.set_cons_zero, List.set_cons_succ]
              refine Reg.takeY (i := 31) (v := ?_) rfl (by kernel_rfl) (by kernel_rfl) (by kernel_rfl) (fun _ _ _ h => h) (by rfl) ?_ ?_
              rotate_left
              · (intro w; go_simp; try with_reducible rfl)
              try simp only [Act.put, List.setIfInBounds_toArray, List.set_cons_zero, List.set_cons_succ]
              refine Reg.all (rs := [32]) (by kernel_rfl) (by simp) ?_
              intro j hj
              obtain rfl := List.mem_singleton.1 hj
              clear hj
              refine Reg.one (i := 32) rfl (by rfl) ?_
              go_simp
              try simp only [Act.put, List.setIfInBounds_toArray, List.set_cons_zero, List.set_cons_succ]
              refine Reg.done (by kernel_rfl) ?_ _
              go_wp2_with fail
              go_end0
              exact ⟨rfl, HEND.out V6 (.slice (some ⟨gK, 0, none⟩) (r.nd.keys.length + 1) capK) (.slice (some ⟨gS, 0, none⟩) (r.nd.spots.length + 1) capS) (.slice (some ⟨gU, 0, none⟩) (r.nd.subs.length + 1) capU) HR6.out⟩
      · refine Reg.one (i := 22) rfl (by rfl) ?_
        go_simp
        have HR' := HR2.out.alloc (.cells #[.int .i64 n] 3)
        have NBU' := HR2.out.newB #[.int .i64 n] 3
        have NBT' := NBT2.out.alloc (.cells #[.int .i64 n] 3)
        have NBS' := NBS2.out.alloc (.cells #[.int .i64 n] 3)
        have NBK' := NBK2.out.alloc (.cells #[.int .i64 n] 3)
        obtain ⟨V3, hV⟩ : ∃ V', V2.alloc (.cells #[.int .i64 n] 3) = V' := ⟨_, rfl⟩
        rw [hV] at HR' NBU' NBT' NBS' NBK' ⊢
        clear hV
        have HR3 := Lib.hid HR'
        have NBT3 := Lib.hid NBT'
        have NBS3 := Lib.hid NBS'
        have NBK3 := Lib.hid NBK'
        have NBU3 := Lib.hid NBU'
        clear HR' NBU' NBT' NBS' NBK'
        have hS3 := putS_of HR3.out NBT3.out HC.out
        refine ⟨by first | exact hS3 | exact fun _ => hS3, ?_⟩
        try simp only [Act.put, List.setIfInBounds_toArray, List.set_cons_zero, List.set_cons_succ]
        refine Reg.all (rs := [9]) (by kernel_rfl) (by simp) ?_
        intro j hj
        simp only [List.mem_cons, List.not_mem_nil, or_false] at hj
        obtain rfl := hj
        · refine Reg.one (i := 9) rfl (by rfl) ?_
          refine wp_append_lies _ (.tmp 24) (.tmp 26) 32 (by rfl) base 9 iK _ 1 16 Tryz.underlying32 HIK.out.1 HIK.out.2.1 HIK.out.2.2.1 HIK.out.2.2.2 (by rfl) (by decide) r.kv r.nd.keys.length (keysV r.nd.keys) (by rfl) HR3.out.k _ 1 1 [.string key] (by rfl) (by rfl) (World.news_of_block NBK3.out.blk) (by simp [Value.oneCell']) (by decide) (by unfold maxLen; omega) (by omega) (Nat.le_trans hbase HR3.out.size) _ rfl ?_
          intro gK capK V4 ho hg ha hz
          have HR4 := Lib.hid (HR3.out.appK ho hg ha)
          have NBT4 := Lib.hid (NBT3.out.appK (n := r.nd.keys.length + 1) (cap := capK) hg ha)
          have NBS4 := Lib.hid (NBS3.out.appK (n := r.nd.keys.length + 1) (cap := capK) hg ha)
          have NBU4 := Lib.hid (NBU3.out.appK (n := r.nd.keys.length + 1) (cap := capK) hg ha)
          clear ho hg ha hz
          have hS4 := putS_of HR4.out NBT4.out HC.out
          refine ⟨fun _ _ => hS4, ?_⟩
          try simp only [Act.put, List.setIfInBounds_toArray, List.set_cons_zero, List.set_cons_succ]
          refine Reg.all (rs := [16]) (by kernel_rfl) (by simp) ?_
          intro j hj
          simp only [List.mem_cons, List.not_mem_nil, or_false] at hj
          obtain rfl := hj
          · refine Reg.one (i := 16) rfl (by rfl) ?_
            refine wp_append_lies _ (.tmp 31) (.tmp 33) 41 (by rfl) base 44 iS _ 2 16 Tryz.underlying41 HIS.out.1 HIS.out.2.1 HIS.out.2.2.1 HIS.out.2.2.2 (by rfl) (by decide) r.sv r.nd.spots.length (spotsV r.nd.spots) (by rfl) HR4.out.s _ 1 1 [.int .i64 a, .int .i64 b] (by rfl) (by rfl) (World.news_of_block NBS4.out.blk) (by simp [Value.oneCell']) (by decide) (by unfold maxLen; omega) (by omega) (Nat.le_trans hbase HR4.out.size) _ rfl ?_
            intro gS capS V5 ho hg ha hz
            have HR5 := Lib.hid (HR4.out.appS ho hg ha)
            have NBT5 := Lib.hid (NBT4.out.appS (n := r.nd.spots.length + 1) (cap := capS) hg ha)
            have NBU5 := Lib.hid (NBU4.out.appS (n := r.nd.spots.length + 1) (cap := capS) hg ha)
            clear ho hg ha hz
            have hS5 := putS_of HR5.out NBT5.out HC.out
            refine ⟨fun _ _ => hS5, ?_⟩
            try simp only [Act.put, List.setIfInBounds_toArray, List.set_cons_zero, List.set_cons_succ]
            refine Reg.all (rs := [23]) (by kernel_rfl) (by simp) ?_
            intro j hj
            simp only [List.mem_cons, List.not_mem_nil, or_false] at hj
            obtain rfl := hj
            · refine Reg.one (i := 23) rfl (by rfl) ?_
              refine wp_append_lies _ (.tmp 38) (.tmp 40) 42 (by rfl) base 3 iU _ 1 8 Tryz.underlying42 HIU.out.1 HIU.out.2.1 HIU.out.2.2.1 HIU.out.2.2.2 (by rfl) (by decide) r.uv r.nd.subs.length (subsV r.nd.subs) (by rfl) HR5.out.u _ 1 1 [.int .i64 n] (by rfl) (by rfl) (World.news_of_block NBU5.out.blk) (by simp [Value.oneCell']) (by decide) (by unfold maxLen; omega) (by omega) (Nat.le_trans hbase HR5.out.size) _ rfl ?_
              intro gU capU V6 ho hg ha hz
              have HR6 := Lib.hid (HR5.out.appU ho hg ha)
              have NBT6 := Lib.hid (NBT5.out.appU (n := r.nd.subs.length + 1) (cap := capU) hg ha)
              clear ho hg ha hz
              have hS6 := putS_of HR6.out NBT6.out HC.out
              refine ⟨fun _ _ => hS6, ?_⟩
              try simp only [Act.put, List.setIfInBounds_toArray, List.set_cons_zero, List.set_cons_succ]
              refine Reg.takeY (i := 24) (v := ?_) rfl (by kernel_rfl) (by kernel_rfl) (by kernel_rfl) (fun _ _ _ h => h) (by rfl) ?_ ?_
              rotate_left
              · (intro w; go_simp; try with_reducible rfl)
              try simp only [Act.put, List.setIfInBounds_toArray, List.set_cons_zero, List.set_cons_succ]
              refine Reg.takeY (i := 25) (v := ?_) rfl (by kernel_rfl) (by kernel_rfl) (by kernel_rfl) (fun _ _ _ h => h) (by rfl) ?_ ?_
              rotate_left
              · (intro w; go_simp; try with_reducible rfl)
              try simp only [Act.put, List.setIfInBounds_toArray, List.set_cons_zero, List.set_cons_succ]
              obtain ⟨hcg2, hcg3, hcg4, hfg⟩ := putF_of HR6.out HC.out
              refine Reg.all (rs := [26]) (by kernel_rfl) (by simp) ?_
              intro j hj
              obtain rfl := List.mem_singleton.1 hj
              clear hj
              refine Reg.one (i := 26) rfl (by rfl) ?_
              go_simp
              try simp only [Act.put, List.setIfInBounds_toArray, List.set_cons_zero, List.set_cons_succ]
              refine Reg.takeY (i := 27) (v := ?_) rfl (by kernel_rfl) (by kernel_rfl) (by kernel_rfl) (fun _ _ _ h => h) (by rfl) ?_ ?_
              rotate_left
              · (intro w; go_simp; try with_reducible rfl)
              try simp only [Act.put, List.setIfInBounds_toArray, List.set_cons_zero, List.set_cons_succ]
              refine Reg.takeY (i := 28) (v := ?_) rfl (by kernel_rfl) (by kernel_rfl) (by kernel_rfl) (fun _ _ _ h => h) (by rfl) ?_ ?_
              rotate_left
              · (intro w; go_simp; try with_reducible rfl)
              try simp only [Act.put, List.setIfInBounds_toArray, List.set_cons_zero, List.set_cons_succ]
              refine Reg.all (rs := [29]) (by kernel_rfl) (by simp) ?_
              intro j hj
              obtain rfl := List.mem_singleton.1 hj
              clear hj
              refine Reg.one (i := 29) rfl (by rfl) ?_
              go_simp
              try simp only [Act.put, List.setIfInBounds_toArray, List.set_cons_zero, List.set_cons_succ]
              refine Reg.takeY (i := 30) (v := ?_) rfl (by kernel_rfl) (by kernel_rfl) (by kernel_rfl) (fun _ _ _ h => h) (by rfl) ?_ ?_
              rotate_left
              · (intro w; go_simp; try with_reducible rfl)
              try simp only [Act.put, List.setIfInBounds_toArray, List.set_cons_zero, List.set_cons_succ]
              refine Reg.takeY (i := 31) (v := ?_) rfl (by kernel_rfl) (by kernel_rfl) (by kernel_rfl) (fun _ _ _ h => h) (by rfl) ?_ ?_
              rotate_left
              · (intro w; go_simp; try with_reducible rfl)
              try simp only [Act.put, List.setIfInBounds_toArray, List.set_cons_zero, List.set_cons_succ]
              refine Reg.all (rs := [32]) (by kernel_rfl) (by simp) ?_
              intro j hj
              obtain rfl := List.mem_singleton.1 hj
              clear hj
              refine Reg.one (i := 32) rfl (by rfl) ?_
              go_simp
              try simp only [Act.put, List.setIfInBounds_toArray, List.set_cons_zero, List.set_cons_succ]
              refine Reg.done (by kernel_rfl) ?_ _
              go_wp2_with fail
              go_end0
              exact ⟨rfl, HEND.out V6 (.slice (some ⟨gK, 0, none⟩) (r.nd.keys.length + 1) capK) (.slice (some ⟨gS, 0, none⟩) (r.nd.spots.length + 1) capS) (.slice (some ⟨gU, 0, none⟩) (r.nd.subs.length + 1) capU) HR6.out⟩
    · refine Reg.one (i := 22) rfl (by rfl) ?_
      go_simp
      have HR' := HR1.out.alloc (.cells #[.int .i64 n] 3)
      have NBU' := HR1.out.newB #[.int .i64 n] 3
      have NBT' := NBT1.out.alloc (.cells #[.int .i64 n] 3)
      have NBS' := NBS1.out.alloc (.cells #[.int .i64 n] 3)
      obtain ⟨V2, hV⟩ : ∃ V', V1.alloc (.cells #[.int .i64 n] 3) = V' := ⟨_, rfl⟩
      rw [hV] at HR' NBU' NBT' NBS' ⊢
      clear hV
      have HR2 := Lib.hid HR'
      have NBT2 := Lib.hid NBT'
      have NBS2 := Lib.hid NBS'
      have NBU2 := Lib.hid NBU'
      clear HR' NBU' NBT' NBS'
      have hS2 := putS_of HR2.out NBT2.out HC.out
      refine ⟨by first | exact hS2 | exact fun _ => hS2, ?_⟩
      try simp only [Act.put, List.setIfInBounds_toArray, List.set_cons_zero, List.set_cons_succ]
      refine Reg.all (rs := [8]) (by kernel_rfl) (by simp) ?_
      intro j hj
      simp only [List.mem_cons, List.not_mem_nil, or_false] at hj
      obtain rfl := hj
      · refine Reg.one (i := 8) rfl (by rfl) ?_
        go_simp
        have HR' := HR2.out.alloc (.cells #[.string key] 9)
        have NBK' := HR2.out.newB #[.string key] 9
        have NBT' := NBT2.out.alloc (.cells #[.string key] 9)
        have NBS' := NBS2.out.alloc (.cells #[.string key] 9)
        have NBU' := NBU2.out.alloc (.cells #[.string key] 9)
        obtain ⟨V3, hV⟩ : ∃ V', V2.alloc (.cells #[.string key] 9) = V' := ⟨_, rfl⟩
        rw [hV] at HR' NBK' NBT' NBS' NBU' ⊢
        clear hV
        have HR3 := Lib.hid HR'
        have NBT3 := Lib.hid NBT'
        have NBS3 := Lib.hid NBS'
        have NBU3 := Lib.hid NBU'
        have NBK3 := Lib.hid NBK'
        clear HR' NBK' NBT' NBS' NBU'
        have hS3 := putS_of HR3.out NBT3.out HC.out
        refine ⟨by first | exact hS3 | exact fun _ => hS3, ?_⟩
        try simp only [Act.put, List.setIfInBounds_toArray, List.set_cons_zero, List.set_cons_succ]
        refine Reg.all (rs := [9]) (by kernel_rfl) (by simp) ?_
        intro j hj
        simp only [List.mem_cons, List.not_mem_nil, or_false] at hj
        obtain rfl := hj
        · refine Reg.one (i := 9) rfl (by rfl) ?_
          refine wp_append_lies _ (.tmp 24) (.tmp 26) 32 (by rfl) base 9 iK _ 1 16 Tryz.underlying32 HIK.out.1 HIK.out.2.1 HIK.out.2.2.1 HIK.out.2.2.2 (by rfl) (by decide) r.kv r.nd.keys.length (keysV r.nd.keys) (by rfl) HR3.out.k _ 1 1 [.string key] (by rfl) (by rfl) (World.news_of_block NBK3.out.blk) (by simp [Value.oneCell']) (by decide) (by unfold maxLen; omega) (by omega) (Nat.le_trans hbase HR3.out.size) _ rfl ?_
          intro gK capK V4 ho hg ha hz
          have HR4 := Lib.hid (HR3.out.appK ho hg ha)
          have NBT4 := Lib.hid (NBT3.out.appK (n := r.nd.keys.length + 1) (cap := capK) hg ha)
          have NBS4 := Lib.hid (NBS3.out.appK (n := r.nd.keys.length + 1) (cap := capK) hg ha)
          have NBU4 := Lib.hid (NBU3.out.appK (n := r.nd.keys.length + 1) (cap := capK) hg ha)
          clear ho hg ha hz
          have hS4 := putS_of HR4.out NBT4.out HC.out
          refine ⟨fun _ _ => hS4, ?_⟩
          try simp only [Act.put, List.setIfInBounds_toArray, List.set_cons_zero, List.set_cons_succ]
          refine Reg.all (rs := [16]) (by kernel_rfl) (by simp) ?_
          intro j hj
          simp only [List.mem_cons, List.not_mem_nil, or_false] at hj
          obtain rfl := hj
          · refine Reg.one (i := 16) rfl (by rfl) ?_
            refine wp_append_lies _ (.tmp 31) (.tmp 33) 41 (by rfl) base 44 iS _ 2 16 Tryz.underlying41 HIS.out.1 HIS.out.2.1 HIS.out.2.2.1 HIS.out.2.2.2 (by rfl) (by decide) r.sv r.nd.spots.length (spotsV r.nd.spots) (by rfl) HR4.out.s _ 1 1 [.int .i64 a, .int .i64 b] (by rfl) (by rfl) (World.news_of_block NBS4.out.blk) (by simp [Value.oneCell']) (by decide) (by unfold maxLen; omega) (by omega) (Nat.le_trans hbase HR4.out.size) _ rfl ?_
            intro gS capS V5 ho hg ha hz
            have HR5 := Lib.hid (HR4.out.appS ho hg ha)
            have NBT5 := Lib.hid (NBT4.out.appS (n := r.nd.spots.length + 1) (cap := capS) hg ha)
            have NBU5 := Lib.hid (NBU4.out.appS (n := r.nd.spots.length + 1) (cap := capS) hg ha)
            clear ho hg ha hz
            have hS5 := putS_of HR5.out NBT5.out HC.out
            refine ⟨fun _ _ => hS5, ?_⟩
            try simp only [Act.put, List.setIfInBounds_toArray, List.set_cons_zero, List.set_cons_succ]
            refine Reg.all (rs := [23]) (by kernel_rfl) (by simp) ?_
            intro j hj
            simp only [List.mem_cons, List.not_mem_nil, or_false] at hj
            obtain rfl := hj
            · refine Reg.one (i := 23) rfl (by rfl) ?_
              refine wp_append_lies _ (.tmp 38) (.tmp 40) 42 (by rfl) base 3 iU _ 1 8 Tryz.underlying42 HIU.out.1 HIU.out.2.1 HIU.out.2.2.1 HIU.out.2.2.2 (by rfl) (by decide) r.uv r.nd.subs.length (subsV r.nd.subs) (by rfl) HR5.out.u _ 1 1 [.int .i64 n] (by rfl) (by rfl) (World.news_of_block NBU5.out.blk) (by simp [Value.oneCell']) (by decide) (by unfold maxLen; omega) (by omega) (Nat.le_trans hbase HR5.out.size) _ rfl ?_
              intro gU capU V6 ho hg ha hz
              have HR6 := Lib.hid (HR5.out.appU ho hg ha)
              have NBT6 := Lib.hid (NBT5.out.appU (n := r.nd.subs.length + 1) (cap := capU) hg ha)
              clear ho hg ha hz
              have hS6 := putS_of HR6.out NBT6.out HC.out
              refine ⟨fun _ _ => hS6, ?_⟩
              try simp only [Act.put, List.setIfInBounds_toArray, List.set_cons_zero, List.set_cons_succ]
              refine Reg.takeY (i := 24) (v := ?_) rfl (by kernel_rfl) (by kernel_rfl) (by kernel_rfl) (fun _ _ _ h => h) (by rfl) ?_ ?_
              rotate_left
              · (intro w; go_simp; try with_reducible rfl)
              try simp only [Act.put, List.setIfInBounds_toArray, List.set_cons_zero, List.set_cons_succ]
              refine Reg.takeY (i := 25) (v := ?_) rfl (by kernel_rfl) (by kernel_rfl) (by kernel_rfl) (fun _ _ _ h => h) (by rfl) ?_ ?_
              rotate_left
              · (intro w; go_simp; try with_reducible rfl)
              try simp only [Act.put, List.setIfInBounds_toArray, List.set_cons_zero, List.set_cons_succ]
              obtain ⟨hcg2, hcg3, hcg4, hfg⟩ := putF_of HR6.out HC.out
              refine Reg.all (rs := [26]) (by kernel_rfl) (by simp) ?_
              intro j hj
              obtain rfl := List.mem_singleton.1 hj
              clear hj
              refine Reg.one (i := 26) rfl (by rfl) ?_
              go_simp
              try simp only [Act.put, List.setIfInBounds_toArray, List.set_cons_zero, List.set_cons_succ]
              refine Reg.takeY (i := 27) (v := ?_) rfl (by kernel_rfl) (by kernel_rfl) (by kernel_rfl) (fun _ _ _ h => h) (by rfl) ?_ ?_
              rotate_left
              · (intro w; go_simp; try with_reducible rfl)
              try simp only [Act.put, List.setIfInBounds_toArray, List.set_cons_zero, List.set_cons_succ]
              refine Reg.takeY (i := 28) (v := ?_) rfl (by kernel_rfl) (by kernel_rfl) (by kernel_rfl) (fun _ _ _ h => h) (by rfl) ?_ ?_
              rotate_left
              · (intro w; go_simp; try with_reducible rfl)
              try simp only [Act.put, List.setIfInBounds_toArray, List.set_cons_zero, List.set_cons_succ]
              refine Reg.all (rs := [29]) (by kernel_rfl) (by simp) ?_
              intro j hj
              obtain rfl := List.mem_singleton.1 hj
              clear hj
              refine Reg.one (i := 29) rfl (by rfl) ?_
              go_simp
              try simp only [Act.put, List.setIfInBounds_toArray, List.set_cons_zero, List.set_cons_succ]
              refine Reg.takeY (i := 30) (v := ?_) rfl (by kernel_rfl) (by kernel_rfl) (by kernel_rfl) (fun _ _ _ h => h) (by rfl) ?_ ?_
              rotate_left
              · (intro w; go_simp; try with_reducible rfl)
              try simp only [Act.put, List.setIfInBounds_toArray, List.set_cons_zero, List.set_cons_succ]
              refine Reg.takeY (i := 31) (v := ?_) rfl (by kernel_rfl) (by kernel_rfl) (by kernel_rfl) (fun _ _ _ h => h) (by rfl) ?_ ?_
              rotate_left
              · (intro w; go_simp; try with_reducible rfl)
              try simp only [Act.put, List.setIfInBounds_toArray, List.set_cons_zero, List.set_cons_succ]
              refine Reg.all (rs := [32]) (by kernel_rfl) (by simp) ?_
              intro j hj
              obtain rfl := List.mem_singleton.1 hj
              clear hj
              refine Reg.one (i := 32) rfl (by rfl) ?_
              go_simp
              try simp only [Act.put, List.setIfInBounds_toArray, List.set_cons_zero, List.set_cons_succ]
              refine Reg.done (by kernel_rfl) ?_ _
              go_wp2_with fail
              go_end0
              exact ⟨rfl, HEND.out V6 (.slice (some ⟨gK, 0, none⟩) (r.nd.keys.length + 1) capK) (.slice (some ⟨gS, 0, none⟩) (r.nd.spots.length + 1) capS) (.slice (some ⟨gU, 0, none⟩) (r.nd.subs.length + 1) capU) HR6.out⟩
  · refine Reg.one (i := 22) rfl (by rfl) ?_
    go_simp
    have HR' := HR0.out.alloc (.cells #[.int .i64 n] 3)
    have NBU' := HR0.out.newB #[.int .i64 n] 3
    have NBT' := NBT0.out.alloc (.cells #[.int .i64 n] 3)
    obtain ⟨V1, hV⟩ : ∃ V', V0.alloc (.cells #[.int .i64 n] 3) = V' := ⟨_, rfl⟩
    rw [hV] at HR' NBU' NBT' ⊢
    clear hV
    have HR1 := Lib.hid HR'
    have NBT1 := Lib.hid NBT'
    have NBU1 := Lib.hid NBU'
    clear HR' NBU' NBT'
    have hS1 := putS_of HR1.out NBT1.out HC.out
    refine ⟨by first | exact hS1 | exact fun _ => hS1, ?_⟩
    try simp only [Act.put, List.setIfInBounds_toArray, List.set_cons_zero, List.set_cons_succ]
    refine Reg.all (rs := [8, 15]) (by kernel_rfl) (by simp) ?_
    intro j hj
    simp only [List.mem_cons, List.not_mem_nil, or_false] at hj
    rcases hj with rfl | rfl
    · refine Reg.one (i := 8) rfl (by rfl) ?_
      go_simp
      have HR' := HR1.out.alloc (.cells #[.string key] 9)
      have NBK' := HR1.out.newB #[.string key] 9
      have NBT' := NBT1.out.alloc (.cells #[.string key] 9)
      have NBU' := NBU1.out.alloc (.cells #[.string key] 9)
      obtain ⟨V2, hV⟩ : ∃ V', V1.alloc (.cells #[.string key] 9) = V' := ⟨_, rfl⟩
      rw [hV] at HR' NBK' NBT' NBU' ⊢
      clear hV
      have HR2 := Lib.hid HR'
      have NBT2 := Lib.hid NBT'
      have NBU2 := Lib.hid NBU'
      have NBK2 := Lib.hid NBK'
      clear HR' NBK' NBT' NBU'
      have hS2 := putS_of HR2.out NBT2.out HC.out
      refine ⟨by first | exact hS2 | exact fun _ => hS2, ?_⟩
      try simp only [Act.put, List.setIfInBounds_toArray, List.set_cons_zero, List.set_cons_succ]
      refine Reg.all (rs := [9, 15]) (by kernel_rfl) (by simp) ?_
      intro j hj
      simp only [List.mem_cons, List.not_mem_nil, or_false] at hj
      rcases hj with rfl | rfl
      · refine Reg.one (i := 9) rfl (by rfl) ?_
        refine wp_append_lies _ (.tmp 24) (.tmp 26) 32 (by rfl) base 9 iK _ 1 16 Tryz.underlying32 HIK.out.1 HIK.out.2.1 HIK.out.2.2.1 HIK.out.2.2.2 (by rfl) (by decide) r.kv r.nd.keys.length (keysV r.nd.keys) (by rfl) HR2.out.k _ 1 1 [.string key] (by rfl) (by rfl) (World.news_of_block NBK2.out.blk) (by simp [Value.oneCell']) (by decide) (by unfold maxLen; omega) (by omega) (Nat.le_trans hbase HR2.out.size) _ rfl ?_
        intro gK capK V3 ho hg ha hz
        have HR3 := Lib.hid (HR2.out.appK ho hg ha)
        have NBT3 := Lib.hid (NBT2.out.appK (n := r.nd.keys.length + 1) (cap := capK) hg ha)
        have NBU3 := Lib.hid (NBU2.out.appK (n := r.nd.keys.length + 1) (cap := capK) hg ha)
        clear ho hg ha hz
        have hS3 := putS_of HR3.out NBT3.out HC.out
        refine ⟨fun _ _ => hS3, ?_⟩
        try simp only [Act.put, List.setIfInBounds_toArray, List.set_cons_zero, List.set_cons_succ]
        refine Reg.all (rs := [15]) (by kernel_rfl) (by simp) ?_
        intro j hj
        simp only [List.mem_cons, List.not_mem_nil, or_false] at hj
        obtain rfl := hj
        · refine Reg.one (i := 15) rfl (by rfl) ?_
          go_simp
          have HR' := HR3.out.alloc (.cells #[.int .i64 a, .int .i64 b] 44)
          have NBS' := HR3.out.newB #[.int .i64 a, .int .i64 b] 44
          have NBT' := NBT3.out.alloc (.cells #[.int .i64 a, .int .i64 b] 44)
          have NBU' := NBU3.out.alloc (.cells #[.int .i64 a, .int .i64 b] 44)
          obtain ⟨V4, hV⟩ : ∃ V', V3.alloc (.cells #[.int .i64 a, .int .i64 b] 44) = V' := ⟨_, rfl⟩
          rw [hV] at HR' NBS' NBT' NBU' ⊢
          clear hV
          have HR4 := Lib.hid HR'
          have NBT4 := Lib.hid NBT'
          have NBU4 := Lib.hid NBU'
          have NBS4 := Lib.hid NBS'
          clear HR' NBS' NBT' NBU'
          have hS4 := putS_of HR4.out NBT4.out HC.out
          refine ⟨by first | exact hS4 | exact fun _ => hS4, ?_⟩
          try simp only [Act.put, List.setIfInBounds_toArray, List.set_cons_zero, List.set_cons_succ]
          refine Reg.all (rs := [16]) (by kernel_rfl) (by simp) ?_
          intro j hj
          simp only [List.mem_cons, List.not_mem_nil, or_false] at hj
          obtain rfl := hj
          · refine Reg.one (i := 16) rfl (by rfl) ?_
            refine wp_append_lies _ (.tmp 31) (.tmp 33) 41 (by rfl) base 44 iS _ 2 16 Tryz.underlying41 HIS.out.1 HIS.out.2.1 HIS.out.2.2.1 HIS.out.2.2.2 (by rfl) (by decide) r.sv r.nd.spots.length (spotsV r.nd.spots) (by rfl) HR4.out.s _ 1 1 [.int .i64 a, .int .i64 b] (by rfl) (by rfl) (World.news_of_block NBS4.out.blk) (by simp [Value.oneCell']) (by decide) (by unfold maxLen; omega) (by omega) (Nat.le_trans hbase HR4.out.size) _ rfl ?_
            intro gS capS V5 ho hg ha hz
            have HR5 := Lib.hid (HR4.out.appS ho hg ha)
            have NBT5 := Lib.hid (NBT4.out.appS (n := r.nd.spots.length + 1) (cap := capS) hg ha)
            have NBU5 := Lib.hid (NBU4.out.appS (n := r.nd.spots.length + 1) (cap := capS) hg ha)
            clear ho hg ha hz
            have hS5 := putS_of HR5.out NBT5.out HC.out
            refine ⟨fun _ _ => hS5, ?_⟩
            try simp only [Act.put, List.setIfInBounds_toArray, List.set_cons_zero, List.set_cons_succ]
            refine Reg.all (rs := [23]) (by kernel_rfl) (by simp) ?_
            intro j hj
            simp only [List.mem_cons, List.not_mem_nil, or_false] at hj
            obtain rfl := hj
            · refine Reg.one (i := 23) rfl (by rfl) ?_
              refine wp_append_lies _ (.tmp 38) (.tmp 40) 42 (by rfl) base 3 iU _ 1 8 Tryz.underlying42 HIU.out.1 HIU.out.2.1 HIU.out.2.2.1 HIU.out.2.2.2 (by rfl) (by decide) r.uv r.nd.subs.length (subsV r.nd.subs) (by rfl) HR5.out.u _ 1 1 [.int .i64 n] (by rfl) (by rfl) (World.news_of_block NBU5.out.blk) (by simp [Value.oneCell']) (by decide) (by unfold maxLen; omega) (by omega) (Nat.le_trans hbase HR5.out.size) _ rfl ?_
              intro gU capU V6 ho hg ha hz
              have HR6 := Lib.hid (HR5.out.appU ho hg ha)
              have NBT6 := Lib.hid (NBT5.out.appU (n := r.nd.subs.length + 1) (cap := capU) hg ha)
              clear ho hg ha hz
              have hS6 := putS_of HR6.out NBT6.out HC.out
              refine ⟨fun _ _ => hS6, ?_⟩
              try simp only [Act.put, List.setIfInBounds_toArray, List.set_cons_zero, List.set_cons_succ]
              refine Reg.takeY (i := 24) (v := ?_) rfl (by kernel_rfl) (by kernel_rfl) (by kernel_rfl) (fun _ _ _ h => h) (by rfl) ?_ ?_
              rotate_left
              · (intro w; go_simp; try with_reducible rfl)
              try simp only [Act.put, List.setIfInBounds_toArray, List.set_cons_zero, List.set_cons_succ]
              refine Reg.takeY (i := 25) (v := ?_) rfl (by kernel_rfl) (by kernel_rfl) (by kernel_rfl) (fun _ _ _ h => h) (by rfl) ?_ ?_
              rotate_left
              · (intro w; go_simp; try with_reducible rfl)
              try simp only [Act.put, List.setIfInBounds_toArray, List.set_cons_zero, List.set_cons_succ]
              obtain ⟨hcg2, hcg3, hcg4, hfg⟩ := putF_of HR6.out HC.out
              refine Reg.all (rs := [26]) (by kernel_rfl) (by simp) ?_
              intro j hj
              obtain rfl := List.mem_singleton.1 hj
              clear hj
              refine Reg.one (i := 26) rfl (by rfl) ?_
              go_simp
              try simp only [Act.put, List.setIfInBounds_toArray, List.set_cons_zero, List.set_cons_succ]
              refine Reg.takeY (i := 27) (v := ?_) rfl (by kernel_rfl) (by kernel_rfl) (by kernel_rfl) (fun _ _ _ h => h) (by rfl) ?_ ?_
              rotate_left
              · (intro w; go_simp; try with_reducible rfl)
              try simp only [Act.put, List.setIfInBounds_toArray, List.set_cons_zero, List.set_cons_succ]
              refine Reg.takeY (i := 28) (v := ?_) rfl (by kernel_rfl) (by kernel_rfl) (by kernel_rfl) (fun _ _ _ h => h) (by rfl) ?_ ?_
              rotate_left
              · (intro w; go_simp; try with_reducible rfl)
              try simp only [Act.put, List.setIfInBounds_toArray, List.set_cons_zero, List.set_cons_succ]
              refine Reg.all (rs := [29]) (by kernel_rfl) (by simp) ?_
              intro j hj
              obtain rfl := List.mem_singleton.1 hj
              clear hj
              refine Reg.one (i := 29) rfl (by rfl) ?_
              go_simp
              try simp only [Act.put, List.setIfInBounds_toArray, List.set_cons_zero, List.set_cons_succ]
              refine Reg.takeY (i := 30) (v := ?_) rfl (by kernel_rfl) (by kernel_rfl) (by kernel_rfl) (fun _ _ _ h => h) (by rfl) ?_ ?_
              rotate_left
              · (intro w; go_simp; try with_reducible rfl)
              try simp only [Act.put, List.setIfInBounds_toArray, List.set_cons_zero, List.set_cons_succ]
              refine Reg.takeY (i := 31) (v := ?_) rfl (by kernel_rfl) (by kernel_rfl) (by kernel_rfl) (fun _ _ _ h => h) (by rfl) ?_ ?_
              rotate_left
              · (intro w; go_simp; try with_reducible rfl)
              try simp only [Act.put, List.setIfInBounds_toArray, List.set_cons_zero, List.set_cons_succ]
              refine Reg.all (rs := [32]) (by kernel_rfl) (by simp) ?_
              intro j hj
              obtain rfl := List.mem_singleton.1 hj
              clear hj
              refine Reg.one (i := 32) rfl (by rfl) ?_
              go_simp
              try simp only [Act.put, List.setIfInBounds_toArray, List.set_cons_zero, List.set_cons_succ]
              refine Reg.done (by kernel_rfl) ?_ _
              go_wp2_with fail
              go_end0
              exact ⟨rfl, HEND.out V6 (.slice (some ⟨gK, 0, none⟩) (r.nd.keys.length + 1) capK) (.slice (some ⟨gS, 0, none⟩) (r.nd.spots.length + 1) capS) (.slice (some ⟨gU, 0, none⟩) (r.nd.subs.length + 1) capU) HR6.out⟩
      · refine Reg.one (i := 15) rfl (by rfl) ?_
        go_simp
        have HR' := HR2.out.alloc (.cells #[.int .i64 a, .int .i64 b] 44)
        have NBS' := HR2.out.newB #[.int .i64 a, .int .i64 b] 44
        have NBT' := NBT2.out.alloc (.cells #[.int .i64 a, .int .i64 b] 44)
        have NBU' := NBU2.out.alloc (.cells #[.int .i64 a, .int .i64 b] 44)
        have NBK' := NBK2.out.alloc (.cells #[.int .i64 a, .int .i64 b] 44)
        obtain ⟨V3, hV⟩ : ∃ V', V2.alloc (.cells #[.int .i64 a, .int .i64 b] 44) = V' := ⟨_, rfl⟩
        rw [hV] at HR' NBS' NBT' NBU' NBK' ⊢
        clear hV
        have HR3 := Lib.hid HR'
        have NBT3 := Lib.hid NBT'
        have NBU3 := Lib.hid NBU'
        have NBK3 := Lib.hid NBK'
        have NBS3 := Lib.hid NBS'
        clear HR' NBS' NBT' NBU' NBK'
        have hS3 := putS_of HR3.out NBT3.out HC.out
        refine ⟨by first | exact hS3 | exact fun _ => hS3, ?_⟩
        try simp only [Act.put, List.setIfInBounds_toArray, List.set_cons_zero, List.set_cons_succ]
        refine Reg.all (rs := [9]) (by kernel_rfl) (by simp) ?_
        intro j hj
        simp only [List.mem_cons, List.not_mem_nil, or_false] at hj
        obtain rfl := hj
        · refine Reg.one (i := 9) rfl (by rfl) ?_
          refine wp_append_lies _ (.tmp 24) (.tmp 26) 32 (by rfl) base 9 iK _ 1 16 Tryz.underlying32 HIK.out.1 HIK.out.2.1 HIK.out.2.2.1 HIK.out.2.2.2 (by rfl) (by decide) r.kv r.nd.keys.length (keysV r.nd.keys) (by rfl) HR3.out.k _ 1 1 [.string key] (by rfl) (by rfl) (World.news_of_block NBK3.out.blk) (by simp [Value.oneCell']) (by decide) (by unfold maxLen; omega) (by omega) (Nat.le_trans hbase HR3.out.size) _ rfl ?_
          intro gK capK V4 ho hg ha hz
          have HR4 := Lib.hid (HR3.out.appK ho hg ha)
          have NBT4 := Lib.hid (NBT3.out.appK (n := r.nd.keys.length + 1) (cap := capK) hg ha)
          have NBU4 := Lib.hid (NBU3.out.appK (n := r.nd.keys.length + 1) (cap := capK) hg ha)
          have NBS4 := Lib.hid (NBS3.out.appK (n := r.nd.keys.length + 1) (cap := capK) hg ha)
          clear ho hg ha hz
          have hS4 := putS_of HR4.out NBT4.out HC.out
          refine ⟨fun _ _ => hS4, ?_⟩
          try simp only [Act.put, List.setIfInBounds_toArray, List.set_cons_zero, List.set_cons_succ]
          refine Reg.all (rs := [16]) (by kernel_rfl) (by simp) ?_
          intro j hj
          simp only [List.mem_cons, List.not_mem_nil, or_false] at hj
          obtain rfl := hj
          · refine Reg.one (i := 16) rfl (by rfl) ?_
            refine wp_append_lies _ (.tmp 31) (.tmp 33) 41 (by rfl) base 44 iS _ 2 16 Tryz.underlying41 HIS.out.1 HIS.out.2.1 HIS.out.2.2.1 HIS.out.2.2.2 (by rfl) (by decide) r.sv r.nd.spots.length (spotsV r.nd.spots) (by rfl) HR4.out.s _ 1 1 [.int .i64 a, .int .i64 b] (by rfl) (by rfl) (World.news_of_block NBS4.out.blk) (by simp [Value.oneCell']) (by decide) (by unfold maxLen; omega) (by omega) (Nat.le_trans hbase HR4.out.size) _ rfl ?_
            intro gS capS V5 ho hg ha hz
            have HR5 := Lib.hid (HR4.out.appS ho hg ha)
            have NBT5 := Lib.hid (NBT4.out.appS (n := r.nd.spots.length + 1) (cap := capS) hg ha)
            have NBU5 := Lib.hid (NBU4.out.appS (n := r.nd.spots.length + 1) (cap := capS) hg ha)
            clear ho hg ha hz
            have hS5 := putS_of HR5.out NBT5.out HC.out
            refine ⟨fun _ _ => hS5, ?_⟩
            try simp only [Act.put, List.setIfInBounds_toArray, List.set_cons_zero, List.set_cons_succ]
            refine Reg.all (rs := [23]) (by kernel_rfl) (by simp) ?_
            intro j hj
            simp only [List.mem_cons, List.not_mem_nil, or_false] at hj
            obtain rfl := hj
            · refine Reg.one (i := 23) rfl (by rfl) ?_
              refine wp_append_lies _ (.tmp 38) (.tmp 40) 42 (by rfl) base 3 iU _ 1 8 Tryz.underlying42 HIU.out.1 HIU.out.2.1 HIU.out.2.2.1 HIU.out.2.2.2 (by rfl) (by decide) r.uv r.nd.subs.length (subsV r.nd.subs) (by rfl) HR5.out.u _ 1 1 [.int .i64 n] (by rfl) (by rfl) (World.news_of_block NBU5.out.blk) (by simp [Value.oneCell']) (by decide) (by unfold maxLen; omega) (by omega) (Nat.le_trans hbase HR5.out.size) _ rfl ?_
              intro gU capU V6 ho hg ha hz
              have HR6 := Lib.hid (HR5.out.appU ho hg ha)
              have NBT6 := Lib.hid (NBT5.out.appU (n := r.nd.subs.length + 1) (cap := capU) hg ha)
              clear ho hg ha hz
              have hS6 := putS_of HR6.out NBT6.out HC.out
              refine ⟨fun _ _ => hS6, ?_⟩
              try simp only [Act.put, List.setIfInBounds_toArray, List.set_cons_zero, List.set_cons_succ]
              refine Reg.takeY (i := 24) (v := ?_) rfl (by kernel_rfl) (by kernel_rfl) (by kernel_rfl) (fun _ _ _ h => h) (by rfl) ?_ ?_
              rotate_left
              · (intro w; go_simp; try with_reducible rfl)
              try simp only [Act.put, List.setIfInBounds_toArray, List.set_cons_zero, List.set_cons_succ]
              refine Reg.takeY (i := 25) (v := ?_) rfl (by kernel_rfl) (by kernel_rfl) (by kernel_rfl) (fun _ _ _ h => h) (by rfl) ?_ ?_
              rotate_left
              · (intro w; go_simp; try with_reducible rfl)
              try simp only [Act.put, List.setIfInBounds_toArray, List.set_cons_zero, List.set_cons_succ]
              obtain ⟨hcg2, hcg3, hcg4, hfg⟩ := putF_of HR6.out HC.out
              refine Reg.all (rs := [26]) (by kernel_rfl) (by simp) ?_
              intro j hj
              obtain rfl := List.mem_singleton.1 hj
              clear hj
              refine Reg.one (i := 26) rfl (by rfl) ?_
              go_simp
              try simp only [Act.put, List.setIfInBounds_toArray, List.set_cons_zero, List.set_cons_succ]
              refine Reg.takeY (i := 27) (v := ?_) rfl (by kernel_rfl) (by kernel_rfl) (by kernel_rfl) (fun _ _ _ h => h) (by rfl) ?_ ?_
              rotate_left
              · (intro w; go_simp; try with_reducible rfl)
              try simp only [Act.put, List.setIfInBounds_toArray, List.set_cons_zero, List.set_cons_succ]
              refine Reg.takeY (i := 28) (v := ?_) rfl (by kernel_rfl) (by kernel_rfl) (by kernel_rfl) (fun _ _ _ h => h) (by rfl) ?_ ?_
              rotate_left
              · (intro w; go_simp; try with_reducible rfl)
              try simp only [Act.put, List.setIfInBounds_toArray, List.set_cons_zero, List.set_cons_succ]
              refine Reg.all (rs := [29]) (by kernel_rfl) (by simp) ?_
              intro j hj
              obtain rfl := List.mem_singleton.1 hj
              clear hj
              refine Reg.one (i := 29) rfl (by rfl) ?_
              go_simp
              try simp only [Act.put, List.setIfInBounds_toArray, List.set_cons_zero, List.set_cons_succ]
              refine Reg.takeY (i := 30) (v := ?_) rfl (by kernel_rfl) (by kernel_rfl) (by kernel_rfl) (fun _ _ _ h => h) (by rfl) ?_ ?_
              rotate_left
              · (intro w; go_simp; try with_reducible rfl)
              try simp only [Act.put, List.setIfInBounds_toArray, List.set_cons_zero, List.set_cons_succ]
              refine Reg.takeY (i := 31) (v := ?_) rfl (by kernel_rfl) (by kernel_rfl) (by kernel_rfl) (fun _ _ _ h => h) (by rfl) ?_ ?_
              rotate_left
              · (intro w; go_simp; try with_reducible rfl)
              try simp only [Act.put, List.setIfInBounds_toArray, List.set_cons_zero, List.set_cons_succ]
              refine Reg.all (rs := [32]) (by kernel_rfl) (by simp) ?_
              intro j hj
              obtain rfl := List.mem_singleton.1 hj
              clear hj
              refine Reg.one (i := 32) rfl (by rfl) ?_
              go_simp
              try simp only [Act.put, List.setIfInBounds_toArray, List.set_cons_zero, List.set_cons_succ]
              refine Reg.done (by kernel_rfl) ?_ _
              go_wp2_with fail
              go_end0
              exact ⟨rfl, HEND.out V6 (.slice (some ⟨gK, 0, none⟩) (r.nd.keys.length + 1) capK) (.slice (some ⟨gS, 0, none⟩) (r.nd.spots.length + 1) capS) (.slice (some ⟨gU, 0, none⟩) (r.nd.subs.length + 1) capU) HR6.out⟩
    · refine Reg.one (i := 15) rfl (by rfl) ?_
      go_simp
      have HR' := HR1.out.alloc (.cells #[.int .i64 a, .int .i64 b] 44)
      have NBS' := HR1.out.newB #[.int .i64 a, .int .i64 b] 44
      have NBT' := NBT1.out.alloc (.cells #[.int .i64 a, .int .i64 b] 44)
      have NBU' := NBU1.out.alloc (.cells #[.int .i64 a, .int .i64 b] 44)
      obtain ⟨V2, hV⟩ : ∃ V', V1.alloc (.cells #[.int .i64 a, .int .i64 b] 44) = V' := ⟨_, rfl⟩
      rw [hV] at HR' NBS' NBT' NBU' ⊢
      clear hV
      have HR2 := Lib.hid HR'
      have NBT2 := Lib.hid NBT'
      have NBU2 := Lib.hid NBU'
      have NBS2 := Lib.hid NBS'
      clear HR' NBS' NBT' NBU'
      have hS2 := putS_of HR2.out NBT2.out HC.out
      refine ⟨by first | exact hS2 | exact fun _ => hS2, ?_⟩
      try simp only [Act.put, List.setIfInBounds_toArray, List.set_cons_zero, List.set_cons_succ]
      refine Reg.all (rs := [8]) (by kernel_rfl) (by simp) ?_
      intro j hj
      simp only [List.mem_cons, List.not_mem_nil, or_false] at hj
      obtain rfl := hj
      · refine Reg.one (i := 8) rfl (by rfl) ?_
        go_simp
        have HR' := HR2.out.alloc (.cells #[.string key] 9)
        have NBK' := HR2.out.newB #[.string key] 9
        have NBT' := NBT2.out.alloc (.cells #[.string key] 9)
        have NBU' := NBU2.out.alloc (.cells #[.string key] 9)
        have NBS' := NBS2.out.alloc (.cells #[.string key] 9)
        obtain ⟨V3, hV⟩ : ∃ V', V2.alloc (.cells #[.string key] 9) = V' := ⟨_, rfl⟩
        rw [hV] at HR' NBK' NBT' NBU' NBS' ⊢
        clear hV
        have HR3 := Lib.hid HR'
        have NBT3 := Lib.hid NBT'
        have NBU3 := Lib.hid NBU'
        have NBS3 := Lib.hid NBS'
        have NBK3 := Lib.hid NBK'
        clear HR' NBK' NBT' NBU' NBS'
        have hS3 := putS_of HR3.out NBT3.out HC.out
        refine ⟨by first | exact hS3 | exact fun _ => hS3, ?_⟩
        try simp only [Act.put, List.setIfInBounds_toArray, List.set_cons_zero, List.set_cons_succ]
        refine Reg.all (rs := [9]) (by kernel_rfl) (by simp) ?_
        intro j hj
        simp only [List.mem_cons, List.not_mem_nil, or_false] at hj
        obtain rfl := hj
        · refine Reg.one (i := 9) rfl (by rfl) ?_
          refine wp_append_lies _ (.tmp 24) (.tmp 26) 32 (by rfl) base 9 iK _ 1 16 Tryz.underlying32 HIK.out.1 HIK.out.2.1 HIK.out.2.2.1 HIK.out.2.2.2 (by rfl) (by decide) r.kv r.nd.keys.length (keysV r.nd.keys) (by rfl) HR3.out.k _ 1 1 [.string key] (by rfl) (by rfl) (World.news_of_block NBK3.out.blk) (by simp [Value.oneCell']) (by decide) (by unfold maxLen; omega) (by omega) (Nat.le_trans hbase HR3.out.size) _ rfl ?_
          intro gK capK V4 ho hg ha hz
          have HR4 := Lib.hid (HR3.out.appK ho hg ha)
          have NBT4 := Lib.hid (NBT3.out.appK (n := r.nd.keys.length + 1) (cap := capK) hg ha)
          have NBU4 := Lib.hid (NBU3.out.appK (n := r.nd.keys.length + 1) (cap := capK) hg ha)
          have NBS4 := Lib.hid (NBS3.out.appK (n := r.nd.keys.length + 1) (cap := capK) hg ha)
          clear ho hg ha hz
          have hS4 := putS_of HR4.out NBT4.out HC.out
          refine ⟨fun _ _ => hS4, ?_⟩
          try simp only [Act.put, List.setIfInBounds_toArray, List.set_cons_zero, List.set_cons_succ]
          refine Reg.all (rs := [16]) (by kernel_rfl) (by simp) ?_
          intro j hj
          simp only [List.mem_cons, List.not_mem_nil, or_false] at hj
          obtain rfl := hj
          · refine Reg.one (i := 16) rfl (by rfl) ?_
            refine wp_append_lies _ (.tmp 31) (.tmp 33) 41 (by rfl) base 44 iS _ 2 16 Tryz.underlying41 HIS.out.1 HIS.out.2.1 HIS.out.2.2.1 HIS.out.2.2.2 (by rfl) (by decide) r.sv r.nd.spots.length (spotsV r.nd.spots) (by rfl) HR4.out.s _ 1 1 [.int .i64 a, .int .i64 b] (by rfl) (by rfl) (World.news_of_block NBS4.out.blk) (by simp [Value.oneCell']) (by decide) (by unfold maxLen; omega) (by omega) (Nat.le_trans hbase HR4.out.size) _ rfl ?_
            intro gS capS V5 ho hg ha hz
            have HR5 := Lib.hid (HR4.out.appS ho hg ha)
            have NBT5 := Lib.hid (NBT4.out.appS (n := r.nd.spots.length + 1) (cap := capS) hg ha)
            have NBU5 := Lib.hid (NBU4.out.appS (n := r.nd.spots.length + 1) (cap := capS) hg ha)
            clear ho hg ha hz
            have hS5 := putS_of HR5.out NBT5.out HC.out
            refine ⟨fun _ _ => hS5, ?_⟩
            try simp only [Act.put, List.setIfInBounds_toArray, List.set_cons_zero, List.set_cons_succ]
            refine Reg.all (rs := [23]) (by kernel_rfl) (by simp) ?_
            intro j hj
            simp only [List.mem_cons, List.not_mem_nil, or_false] at hj
            obtain rfl := hj
            · refine Reg.one (i := 23) rfl (by rfl) ?_
              refine wp_append_lies _ (.tmp 38) (.tmp 40) 42 (by rfl) base 3 iU _ 1 8 Tryz.underlying42 HIU.out.1 HIU.out.2.1 HIU.out.2.2.1 HIU.out.2.2.2 (by rfl) (by decide) r.uv r.nd.subs.length (subsV r.nd.subs) (by rfl) HR5.out.u _ 1 1 [.int .i64 n] (by rfl) (by rfl) (World.news_of_block NBU5.out.blk) (by simp [Value.oneCell']) (by decide) (by unfold maxLen; omega) (by omega) (Nat.le_trans hbase HR5.out.size) _ rfl ?_
              intro gU capU V6 ho hg ha hz
              have HR6 := Lib.hid (HR5.out.appU ho hg ha)
              have NBT6 := Lib.hid (NBT5.out.appU (n := r.nd.subs.length + 1) (cap := capU) hg ha)
              clear ho hg ha hz
              have hS6 := putS_of HR6.out NBT6.out HC.out
              refine ⟨fun _ _ => hS6, ?_⟩
              try simp only [Act.put, List.setIfInBounds_toArray, List.set_cons_zero, List.set_cons_succ]
              refine Reg.takeY (i := 24) (v := ?_) rfl (by kernel_rfl) (by kernel_rfl) (by kernel_rfl) (fun _ _ _ h => h) (by rfl) ?_ ?_
              rotate_left
              · (intro w; go_simp; try with_reducible rfl)
              try simp only [Act.put, List.setIfInBounds_toArray, List.set_cons_zero, List.set_cons_succ]
              refine Reg.takeY (i := 25) (v := ?_) rfl (by kernel_rfl) (by kernel_rfl) (by kernel_rfl) (fun _ _ _ h => h) (by rfl) ?_ ?_
              rotate_left
              · (intro w; go_simp; try with_reducible rfl)
              try simp only [Act.put, List.setIfInBounds_toArray, List.set_cons_zero, List.set_cons_succ]
              obtain ⟨hcg2, hcg3, hcg4, hfg⟩ := putF_of HR6.out HC.out
              refine Reg.all (rs := [26]) (by kernel_rfl) (by simp) ?_
              intro j hj
              obtain rfl := List.mem_singleton.1 hj
              clear hj
              refine Reg.one (i := 26) rfl (by rfl) ?_
              go_simp
              try simp only [Act.put, List.setIfInBounds_toArray, List.set_cons_zero, List.set_cons_succ]
              refine Reg.takeY (i := 27) (v := ?_) rfl (by kernel_rfl) (by kernel_rfl) (by kernel_rfl) (fun _ _ _ h => h) (by rfl) ?_ ?_
              rotate_left
              · (intro w; go_simp; try with_reducible rfl)
              try simp only [Act.put, List.setIfInBounds_toArray, List.set_cons_zero, List.set_cons_succ]
              refine Reg.takeY (i := 28) (v := ?_) rfl (by kernel_rfl) (by kernel_rfl) (by kernel_rfl) (fun _ _ _ h => h) (by rfl) ?_ ?_
              rotate_left
              · (intro w; go_simp; try with_reducible rfl)
              try simp only [Act.put, List.setIfInBounds_toArray, List.set_cons_zero, List.set_cons_succ]
              refine Reg.all (rs := [29]) (by kernel_rfl) (by simp) ?_
              intro j hj
              obtain rfl := List.mem_singleton.1 hj
              clear hj
              refine Reg.one (i := 29) rfl (by rfl) ?_
              go_simp
              try simp only [Act.put, List.setIfInBounds_toArray, List.set_cons_zero, List.set_cons_succ]
              refine Reg.takeY (i := 30) (v := ?_) rfl (by kernel_rfl) (by kernel_rfl) (by kernel_rfl) (fun _ _ _ h => h) (by rfl) ?_ ?_
              rotate_left
              · (intro w; go_simp; try with_reducible rfl)
              try simp only [Act.put, List.setIfInBounds_toArray, List.set_cons_zero, List.set_cons_succ]
              refine Reg.takeY (i := 31) (v := ?_) rfl (by kernel_rfl) (by kernel_rfl) (by kernel_rfl) (fun _ _ _ h => h) (by rfl) ?_ ?_
              rotate_left
              · (intro w; go_simp; try with_reducible rfl)
              try simp only [Act.put, List.setIfInBounds_toArray, List.set_cons_zero, List.set_cons_succ]
              refine Reg.all (rs := [32]) (by kernel_rfl) (by simp) ?_
              intro j hj
              obtain rfl := List.mem_singleton.1 hj
              clear hj
              refine Reg.one (i := 32) rfl (by rfl) ?_
              go_simp
              try simp only [Act.put, List.setIfInBounds_toArray, List.set_cons_zero, List.set_cons_succ]
              refine Reg.done (by kernel_rfl) ?_ _
              go_wp2_with fail
              go_end0
              exact ⟨rfl, HEND.out V6 (.slice (some ⟨gK, 0, none⟩) (r.nd.keys.length + 1) capK) (.slice (some ⟨gS, 0, none⟩) (r.nd.spots.length + 1) capS) (.slice (some ⟨gU, 0, none⟩) (r.nd.subs.length + 1) capU) HR6.out⟩

end Go.Proofs.YtkcnbhenhmmfgaaGreatDoor
