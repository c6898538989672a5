/-
  Walks: strings.SplitSeq at a text without a low mark; ints' right digits.
-/
import Derived.Test.YtkcnbhenhmmfgaaGreatDoorI1
import Derived.Test.YtkcnbhenhmmfgaaGreatDoorShelf2
set_option linter.all false
set_option linter.unusedVariables false
set_option linter.unusedSimpArgs false
namespace Go.Proofs.YtkcnbhenhmmfgaaGreatDoor
open Go.RowKit Go.Shelf Go.Joins
attribute [local go_sem] Oper.semAt_some

theorem indexByte_no (l : List UInt8) (h : ∀ c ∈ l, c.toNat ≠ 95) : Lib.indexByte l 95 = -1 := by
  induction l with
  | nil => rfl
  | cons b l ih =>
    unfold Lib.indexByte
    have hb : b ≠ 95 := fun e => h b (by simp) (by rw [e]; rfl)
    rw [if_neg (by simpa using hb), ih (fun c hc => h c (List.mem_cons_of_mem _ hc))]
    rfl

set_option maxHeartbeats 2000000 in
set_option maxRecDepth 100000 in
/-- The iterator over the parts: at a text without a low mark the text alone comes. -/
theorem split_stops (n : Nat) (hn : 1 ≤ n) (Kp : World → World → Prop) (B1 B2 : Nat) (s : ByteArray) (hs : ∀ c ∈ bs s, c.toNat ≠ 95) (w : World) (hB1 : B1 < w.heap.size) (hB2 : B2 < w.heap.size)
    (h1 : w.cell? ⟨B1, 0, none⟩ = some (.string ⟨#[95]⟩)) (h2 : w.cell? ⟨B2, 0, none⟩ = some (.string s)) (b3 : Value) :
    SeqStopsK Fence.wide n Tryz.prog 154 #[.pointer (some ⟨B1, 0, none⟩), .pointer (some ⟨B2, 0, none⟩), b3] (fun x : { x : ByteArray // x = s } => #[.string x.1]) Kp (fun xs => xs = [⟨s, rfl⟩]) (fun pre => pre = [⟨s, rfl⟩]) 1 w := fun l J Jx W hW _ _ hY h0 => by
  have c1 : W.cell? ⟨B1, 0, none⟩ = some (.string ⟨#[95]⟩) := (Below.cell hW (p := ⟨B1, 0, none⟩) hB1).trans h1
  have c2 : W.cell? ⟨B2, 0, none⟩ = some (.string s) := (Below.cell hW (p := ⟨B2, 0, none⟩) hB2).trans h2
  have hi : Hid (Lib.indexByte s.data.toList 95 = -1) := indexByte_no _ hs
  clear hs h1 h2 hW
  refine callsIn_of_wp Tryz.func154 rfl trivial ?_ rfl
  simp only [Tryz.ntmps154, List.size_toArray, List.length_cons, List.length_nil, Nat.reduceAdd, Nat.reduceSub, Array.replicate_succ, Array.replicate_zero, List.push_toArray, List.append_toArray, List.nil_append, List.cons_append]
  obtain ⟨f1, t1, a1, b1, hy1, hR1⟩ := hY [] ⟨s, rfl⟩ W h0 (by simp)
  dsimp only at hy1
  gi_wp2_with fail
  gi_loopw [7] (fun _ wr => wr = W) (fun _ _ => 0)
  case atStart => exact rfl
  case round =>
    subst hrel
    gi_wp2_with (refine ⟨trivial, ?_⟩; gi_at_call 141; refine (callsIn_wide.2 (Tryz.strings_Index_one s 95 _)).mono ?_; rw [hi.out]; rintro e w1 ⟨rfl, rfl⟩)
    refine hR1.mono ?_
    rintro e W' (⟨rfl, hJ', _⟩ | ⟨rfl, hJx'⟩)
    · gi_wp2
      go_end0
      exact ⟨⟨_, rfl⟩, .inl ⟨[⟨s, rfl⟩], rfl, hJ'⟩⟩
    · gi_wp2
      go_end0
      exact ⟨⟨_, rfl⟩, .inr ⟨[⟨s, rfl⟩], rfl, hJx'⟩⟩

theorem sp_make (s : ByteArray) (w : World) :
    Calls Tryz.prog 110 #[.string s, .string ⟨#[95]⟩] w fun e w' => e = .returned (.func (.func 154) #[] #[.pointer (some ⟨w.heap.size + 1, 0, none⟩), .pointer (some ⟨w.heap.size, 0, none⟩), .pointer (some ⟨w.heap.size + 1 + 1, 0, none⟩)]) ∧
      w' = ((w.alloc (.cells #[.string s] 9)).alloc (.cells #[.string ⟨#[95]⟩] 9)).alloc (.cells #[.int .i64 0] 3) := by
  go_enter Tryz.func110, Tryz.ntmps110
  go_wp2
  go_ret
  exact ⟨rfl, rfl⟩

theorem KeepsOthers.of_gr {W W' : World} (g : Gr W W') : KeepsOthers W W' := ⟨g.size, fun k o hk _ => (g.block (Array.getElem?_eq_some_iff.1 hk).1).trans hk⟩

/-- Digits of base ten alone. -/
def isDec (c : UInt8) : Bool := decide (48 ≤ c.toNat) && decide (c.toNat ≤ 57)
theorem trim_dec (l : List UInt8) (h : ∀ c ∈ l, isDec c = true) : Lib.trimS l (bs decD) = [] := by
  have hd : ∀ c, isDec c = true → (bs decD).contains c = true := by
    intro c hc
    simp [isDec] at hc
    have : c = 48 ∨ c = 49 ∨ c = 50 ∨ c = 51 ∨ c = 52 ∨ c = 53 ∨ c = 54 ∨ c = 55 ∨ c = 56 ∨ c = 57 := by
      simp only [← UInt8.toNat_inj]
      simp
      omega
    rcases this with rfl | rfl | rfl | rfl | rfl | rfl | rfl | rfl | rfl | rfl <;> decide
  have H : ∀ m : List UInt8, (∀ c ∈ m, isDec c = true) → m.dropWhile ((bs decD).contains ·) = [] := by
    intro m
    induction m with
    | nil => intro _; rfl
    | cons c m ih =>
      intro hm
      rw [List.dropWhile_cons, if_pos (hd c (hm c (by simp)))]
      exact ih (fun x hx => hm x (List.mem_cons_of_mem _ hx))
  unfold Lib.trimS Lib.trimRightS Lib.trimLeftS
  rw [H l.reverse (fun c hc => h c (List.mem_reverse.1 hc))]
  rfl

theorem dec_low (c : UInt8) (h : isDec c = true) : c.toNat ≠ 95 := by simp [isDec] at h; omega

theorem trim_digits (s : ByteArray) (hd : ∀ c ∈ bs s, isDec c = true) (hs : s.size ≤ 9223372036854775807) (w : World) :
    Calls Tryz.prog 111 #[.string s, .string decD] w fun e w' => e = .returned (.string ⟨#[]⟩) ∧ Gr w w' := by
  refine (Any.strings_Trim_laid Tryz.lays160 bool256 s decD w hs (by decide) ?_).mono ?_
  · intro j b h
    have : b ∈ bs decD := List.mem_of_getElem? h
    simp [bs] at this
    rcases this with rfl | rfl | rfl | rfl | rfl | rfl | rfl | rfl | rfl | rfl <;> decide
  · rintro e w' ⟨rfl, hb⟩
    exact ⟨ret_str (by rw [show Lib.trimS s.data.toList decD.data.toList = [] from trim_dec _ hd]), hb⟩

set_option maxHeartbeats 4000000 in
set_option maxRecDepth 100000 in
theorem in_right (s : ByteArray) (hd : ∀ c ∈ bs s, isDec c = true) (h0 : s.size ≠ 0) (hs : s.size ≤ 2147483647) (w : World) :
    Calls Tryz.prog 85 #[tensV, .string s] w fun e w' => e = .returned (.bool true) ∧ Gr w w' := by
  have HD : Hid (∀ c ∈ bs s, isDec c = true) := hd
  have HN : Hid (∀ c ∈ bs s, c.toNat ≠ 95) := fun c hc => dec_low c (hd c hc)
  clear hd
  refine (callsIn_wide (n := 6)).1 ?_
  refine callsIn_of_wp_marks Tryz.func85 rfl trivial ?_ rfl
  simp only [Tryz.ntmps85, List.size_toArray, List.length_cons, List.length_nil, Nat.reduceAdd, Nat.reduceSub, Array.replicate_succ, Array.replicate_zero, List.push_toArray, List.append_toArray, List.nil_append, List.cons_append]
  gi_wp2_with (refine ⟨trivial, ?_⟩; gi_at_call 110; refine (callsIn_wide.2 (sp_make s _)).mono ?_; rintro e w' ⟨rfl, rfl⟩)
  obtain ⟨W0, hW0⟩ : ∃ W0, ((((w.alloc (.cells #[.string ⟨#[]⟩, .int .i64 10, .string decD] 143)).alloc (.cells #[.bool false] 4)).alloc (.cells #[.string s] 9)).alloc (.cells #[.string ⟨#[95]⟩] 9)).alloc (.cells #[.int .i64 0] 3) = W0 := ⟨_, rfl⟩
  have hsz : W0.heap.size = w.heap.size + 1 + 1 + 1 + 1 + 1 := by rw [← hW0]; simp only [World.size_alloc]
  have hG0 : Gr w W0 := by rw [← hW0]; exact (((((Gr.refl w).alloc _).alloc _).alloc _).alloc _).alloc _
  have b0 : W0.heap[w.heap.size]? = some (.cells #[.string ⟨#[]⟩, .int .i64 10, .string decD] 143 (0, 0)) := by
    rw [← hW0]
    exact (((((Gr.refl (w.alloc _)).alloc _).alloc _).alloc _).alloc _).block (by simp) |>.trans (heap_alloc_new w _)
  have b1 : W0.heap[w.heap.size + 1]? = some (.cells #[.bool false] 4 (0, 0)) := by
    rw [← hW0]
    refine ((((Gr.refl ((w.alloc _).alloc _)).alloc _).alloc _).alloc _).block (by simp) |>.trans ?_
    have := heap_alloc_new (w.alloc (.cells #[.string ⟨#[]⟩, .int .i64 10, .string decD] 143)) (.cells #[.bool false] 4)
    rwa [World.size_alloc] at this
  have b2 : W0.heap[w.heap.size + 1 + 1]? = some (.cells #[.string s] 9 (0, 0)) := by
    rw [← hW0]
    refine (((Gr.refl (((w.alloc _).alloc _).alloc _)).alloc _).alloc _).block (by simp) |>.trans ?_
    have := heap_alloc_new ((w.alloc (.cells #[.string ⟨#[]⟩, .int .i64 10, .string decD] 143)).alloc (.cells #[.bool false] 4)) (.cells #[.string s] 9)
    simp only [World.size_alloc] at this
    exact this
  have b3 : W0.heap[w.heap.size + 1 + 1 + 1]? = some (.cells #[.string ⟨#[95]⟩] 9 (0, 0)) := by
    rw [← hW0]
    refine ((Gr.refl ((((w.alloc _).alloc _).alloc _).alloc _)).alloc _).block (by simp) |>.trans ?_
    have := heap_alloc_new (((w.alloc (.cells #[.string ⟨#[]⟩, .int .i64 10, .string decD] 143)).alloc (.cells #[.bool false] 4)).alloc (.cells #[.string s] 9)) (.cells #[.string ⟨#[95]⟩] 9)
    simp only [World.size_alloc] at this
    exact this
  have k2 : W0.cell? ⟨w.heap.size, 2, none⟩ = some (.string decD) := by rw [cell_of_block b0]; rfl
  have k4 : W0.cell? ⟨w.heap.size + 1, 0, none⟩ = some (.bool false) := by rw [cell_of_block b1]; rfl
  have z4 : W0.frozen? ⟨w.heap.size + 1, 0, none⟩ = false := unfrozen_of_block b1 0
  have ks : W0.cell? ⟨w.heap.size + 1 + 1, 0, none⟩ = some (.string s) := by rw [cell_of_block b2]; rfl
  have kp : W0.cell? ⟨w.heap.size + 1 + 1 + 1, 0, none⟩ = some (.string ⟨#[95]⟩) := by rw [cell_of_block b3]; rfl
  clear b0 b1 b2 b3
  rw [hW0]
  clear hW0
  refine wpIn_rangeFunc_ownF rfl (by omega) (gf := 154) (lb := #[.pointer (some ⟨w.heap.size + 1 + 1 + 1, 0, none⟩), .pointer (some ⟨w.heap.size + 1 + 1, 0, none⟩), .pointer (some ⟨w.heap.size + 1 + 1 + 1 + 1, 0, none⟩)]) rfl trivial (enters_of Tryz.func154 (by kernel_rfl) rfl)
    (split_stops 5 (by omega) (Below w.heap.size) (w.heap.size + 1 + 1 + 1) (w.heap.size + 1 + 1) s HN.out W0 (by omega) (by omega) kp ks _) belowK_t (belowK_b (by omega)) (Below.refl _ _) (fun _ => rfl)
    (fun _ W => (W.cell? ⟨w.heap.size, 2, none⟩ = some (.string decD) ∧ W.cell? ⟨w.heap.size + 1, 0, none⟩ = some (.bool false) ∧ W.frozen? ⟨w.heap.size + 1, 0, none⟩ = false) ∧ Below w.heap.size w W)
    (fun _ _ _ => False)
    (OwnFrom.and (Own.from (fun s A B row hs hg hr => ⟨cell_kept hs.1 hg hr, cell_kept hs.2.1 hg hr, (frozen_kept hs.2.1 hg hr).trans hs.2.2⟩) _) (ownFrom_below (Nat.le_refl _) (by omega)))
    (fun _ _ _ _ _ hs _ _ => hs)
    ⟨⟨k2, k4, z4⟩, hG0⟩
    (fun x => { tmps := #[tensV, .string s, .pointer (some ⟨w.heap.size, 0, none⟩), undef, .pointer (some ⟨w.heap.size + 1, 0, none⟩), .string x.1, .string s, .func (.func 154) #[] #[.pointer (some ⟨w.heap.size + 1 + 1 + 1, 0, none⟩), .pointer (some ⟨w.heap.size + 1 + 1, 0, none⟩), .pointer (some ⟨w.heap.size + 1 + 1 + 1 + 1, 0, none⟩)], .string x.1, undef, undef, undef, undef, undef, undef, undef, undef, undef], defers := [] }) ?assign ?body ?done ?stop
  case assign =>
    intro l x W K hK
    gi_wp2
    exact hK
  case body =>
    rintro l pre ⟨x, hx⟩ W ⟨⟨hc, hr, hf⟩, hB⟩ _
    subst hx
    dsimp only
    have hlen : ¬ x.toList = [] := fun e => h0 (by rw [Lib.toList_data] at e; have := congrArg List.length e; simpa using this)
    have hemp : x.toList.isEmpty = false := by simpa using hlen
    gi_wp2_with (refine ⟨trivial, ?_⟩; gi_at_call 111; refine (CallsIn.inRound l (callsIn_wide.2 (trim_digits x HD.out (by omega) _))).mono ?_; rintro e w1 ⟨rfl, g1⟩)
    obtain ⟨hc1, hf1, hz1⟩ := g1.use
    have hwW : w.heap.size + 1 < W.heap.size := Lib.lt_of_cell hr
    refine ⟨KeepsOthers.of_gr g1, Below.mono g1 hB.size, ⟨(hc1 _ _ (by omega)).trans hc, (hc1 _ _ hwW).trans hr, (hf1 _ _ hwW).trans hf⟩, hB.trans (Below.mono g1 hB.size)⟩
  case done =>
    rintro D ys W hD rfl ⟨⟨hc, hr, hf⟩, hB⟩ hK
    gi_wp2
    have hK' := (KeepsOthers.setCell W ⟨w.heap.size + 1, 0, none⟩ (.bool true)).same D _ hK rfl
    refine ⟨by simp, .inl ⟨_, _, rfl, run_takeDeferred hK', ?_⟩⟩
    have hc5 := cell_kept (World.cell?_setCell_same' W ⟨w.heap.size + 1, 0, none⟩ (.bool true) (by rw [hr]; rfl)) (grownBy_putObj' _ D (.deferred none)) (fun r e => by cases e; exact ⟨_, hK', rfl⟩)
    refine ⟨.bool true, ?_, rfl, (hB.setCell (p := ⟨w.heap.size + 1, 0, none⟩) (by simp) _).trans (belowK_b (w := w) (Nat.le_refl _) _ D _ _ (by omega) hK' rfl rfl)⟩
    simp [results, Tryz.f85, go_sem, hc5]
  case stop =>
    rintro D c pre W _ _ h _
    exact h.elim

end Go.Proofs.YtkcnbhenhmmfgaaGreatDoor
