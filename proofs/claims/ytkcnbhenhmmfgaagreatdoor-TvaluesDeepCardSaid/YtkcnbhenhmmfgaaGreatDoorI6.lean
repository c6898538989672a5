/-
  Walks: tvalues.part; the trimming of a token; tvalues.plain at digits.
-/
import Derived.Test.YtkcnbhenhmmfgaaGreatDoorI5
import Derived.Test.YtkcnbhenhmmfgaaGreatDoorTw
import Derived.Shelf.Strings.FuncGrows
set_option linter.all false
set_option linter.unusedVariables false
set_option linter.unusedSimpArgs false
namespace Go.Proofs.YtkcnbhenhmmfgaaGreatDoor
open Go.RowKit Go.Shelf Go.Joins
attribute [local go_sem] Oper.semAt_some

theorem contains_low (x : Nat) (h : x < 128) (w : World) :
    Calls Tryz.prog 62 #[.string pmD, .int .i32 x] w fun e w' => e = .returned (.bool (x == 43 || x == 45 || x == 95 || x == 46)) ∧ Gr w w' := by
  refine (Tryz.strings_ContainsRune_ascii pmD x w (by omega) (by omega)).mono ?_
  rintro e w' ⟨rfl, rfl⟩
  refine ⟨?_, Gr.refl _⟩
  have : ∀ x : Fin 128, decide (0 ≤ Lib.indexByte pmD.data.toList ((x.val : Int)).toNat.toUInt8) = (x.val == 43 || x.val == 45 || x.val == 95 || x.val == 46) := by decide
  rw [this ⟨x, h⟩]

theorem contains_any (x : Nat) (h : x ≤ 1114111) (w : World) :
    Calls Tryz.prog 62 #[.string pmD, .int .i32 x] w fun e w' => e = .returned (.bool (x == 43 || x == 45 || x == 95 || x == 46)) ∧ Gr w w' := by
  by_cases h1 : x < 128
  · exact contains_low x h1 w
  · refine (contains_high x (by omega) (by omega) w).mono ?_
    rintro e w' ⟨rfl, g⟩
    refine ⟨?_, g⟩
    have a : (x == 43) = false := by simp; omega
    have b : (x == 45) = false := by simp; omega
    have c : (x == 95) = false := by simp; omega
    have d : (x == 46) = false := by simp; omega
    rw [a, b, c, d]
    rfl

set_option maxHeartbeats 4000000 in
theorem tv_part (x : Nat) (h : x ≤ 1114111) (w : World) :
    Calls Tryz.prog 55 #[.int .i32 x] w fun e w' => e = .returned (.bool (Pl.partN x)) ∧ Gr w w' := by
  have HC := Lib.hid (contains_any x h)
  clear h
  go_enter Tryz.func55, Tryz.ntmps55
  go_wp2_with (go_at_call 62; refine (HC.out _).mono ?_; rintro e w1 ⟨rfl, g1⟩)
  all_goals go_ret
  all_goals (refine ⟨ret_bool ?_, by first | assumption | exact Gr.refl _⟩; rw [Bool.eq_iff_iff]; simp [Pl.partN]; try omega)

theorem part_pays (w : World) : PredGrows Tryz.prog 55 #[] Pl.partN w := by
  intro W x hx _
  exact tv_part x hx W

/-- The first rune that is no part of a token begins at the first such byte. -/
theorem idx_part (s : ByteArray) : ∀ f pos, pos ≤ s.size → s.size - pos ≤ f →
    Lib.idxFuncFrom Pl.partN false s f pos = if pos + (Pl.tok ((bs s).drop pos)).length < s.size then ((pos + (Pl.tok ((bs s).drop pos)).length : Nat) : Int) else -1 := by
  intro f
  induction f with
  | zero =>
    intro pos h1 h2
    have : ¬ pos < s.size := by omega
    rw [Lib.idxFuncFrom, if_neg (by omega)]
  | succ f ih =>
    intro pos h1 h2
    rw [Lib.idxFuncFrom]
    by_cases hp : pos < s.size
    · rw [if_pos hp]
      have hl : pos < (bs s).length := by rw [bs_length]; exact hp
      have hget : (bs s)[pos]'hl = s[pos]'hp := rfl
      by_cases hlow : (s[pos]'hp).toNat < 128
      · rw [decode_low s pos hp hlow]
        cases hc : Pl.partN (s[pos]'hp).toNat with
        | false =>
          simp only [hc, if_true]
          have : Pl.tok ((bs s).drop pos) = [] := by
            unfold Pl.tok
            rw [List.drop_eq_getElem_cons hl, List.takeWhile_cons, if_neg]
            rw [hget]; simp [Pl.isPart, hc]
          rw [this, if_pos (by simpa using hp)]; simp
        | true =>
          rw [if_neg (by simp [hc]), ih (pos + 1) (by omega) (by omega)]
          unfold Pl.tok
          rw [tw_step Pl.isPart (bs s) pos hl (by rw [hget]; simp [Pl.isPart, hc])]
      · have hd := decode_high s pos hp (by omega)
        have hn : Pl.partN (Utf8.decode s pos).1 = false := by simp [Pl.partN]; omega
        rw [hn, if_pos rfl]
        have : Pl.tok ((bs s).drop pos) = [] := by
          unfold Pl.tok
          rw [List.drop_eq_getElem_cons hl, List.takeWhile_cons, if_neg]
          rw [hget]; simp [Pl.isPart, Pl.partN]; omega
        rw [this, if_pos (by simpa using hp)]; simp
    · rw [if_neg hp, if_neg (by omega)]

theorem tok_le (l : List UInt8) : (Pl.tok l).length ≤ l.length := by
  exact (List.takeWhile_sublist Pl.isPart).length_le

theorem trim_part (s : ByteArray) (w : World) :
    Calls Tryz.prog 54 #[.string s, .func (.func 55) #[] #[]] w fun e w' => e = .returned (.string (s.extract (Pl.tok (bs s)).length s.size)) ∧ Gr w w' := by
  refine (Any.strings_TrimLeftFunc_grows Tryz.lays272 55 #[] (enters_of Tryz.func55 (by kernel_rfl) rfl) Pl.partN s w (part_pays w)).mono ?_
  rintro e w' ⟨rfl, hb⟩
  refine ⟨?_, hb⟩
  have h1 := idx_part s s.size 0 (by omega) (by omega)
  have hl := tok_le (bs s)
  rw [bs_length] at hl
  unfold Lib.trimLeftF
  rw [show Lib.idxFunc Pl.partN false s = Lib.idxFuncFrom Pl.partN false s s.size 0 from rfl, h1]
  simp only [List.drop_zero, Nat.zero_add]
  by_cases h2 : (Pl.tok (bs s)).length < s.size
  · rw [if_pos h2, if_neg (by omega)]
    simp
  · rw [if_neg h2, if_pos rfl]
    congr 2
    apply ByteArray.ext
    simp
    omega


set_option maxHeartbeats 1000000 in
theorem tv_plain_one (t : ByteArray) (hd : ∀ c ∈ bs t, isDec c = true) (h1 : t.size = 1) (w : World) (hw : IntW w) :
    Calls Tryz.prog 56 #[.string t, .bool false] w fun e w' => e = .returned (.tuple #[.int .u8 4, .string t, .int .i64 0]) ∧ Gr w w' := by
  have HI := Lib.hid (in_read_one t hd h1)
  have HW := Lib.hid hw
  have e1 := dec_ne t hd 116 [114, 117, 101] (by decide)
  have e2 := dec_ne t hd 102 [97, 108, 115, 101] (by decide)
  clear hd h1 hw
  go_enter Tryz.func56, Tryz.ntmps56
  go_wp2_with fail
  refine (HI.out _ HW.out).mono ?_
  rintro e w1 ⟨rfl, g1⟩
  go_wp2_with fail
  exact bodyPost_ret (v := .tuple #[.int .u8 4, .string t, .int .i64 0]) (by simp [results, Tryz.results56, go_sem]) rfl ⟨rfl, g1⟩

set_option maxHeartbeats 1000000 in
theorem tv_plain_zero (t : ByteArray) (hd : ∀ c ∈ bs t, isDec c = true) (h1 : 1 < t.size) (hz : t[0]'(by omega) = 48) (hs : t.size ≤ 20000000) (w : World) (hw : IntW w) :
    Calls Tryz.prog 56 #[.string t, .bool false] w fun e w' => e = .returned (.tuple #[.int .u8 5, .string ⟨#[]⟩, .int .i64 3]) ∧ Gr w w' := by
  have HI := Lib.hid (in_read_zero t hd h1 hz hs)
  have HF := Lib.hid (fl_Read_dec t hd hs · · ⟨#[]⟩ 3 (in_read_zero t hd h1 hz hs))
  have HW := Lib.hid hw
  have e1 := dec_ne t hd 116 [114, 117, 101] (by decide)
  have e2 := dec_ne t hd 102 [97, 108, 115, 101] (by decide)
  clear hd h1 hw hz
  go_enter Tryz.func56, Tryz.ntmps56
  go_wp2_with fail
  refine (HI.out _ HW.out).mono ?_
  rintro e w1 ⟨rfl, g1⟩
  go_wp2_with fail
  refine (HF.out _ (HW.out.gr g1)).mono ?_
  rintro e w2 ⟨rfl, g2⟩
  go_wp2_with fail
  exact bodyPost_ret (v := .tuple #[.int .u8 5, .string ⟨#[]⟩, .int .i64 3]) (by simp [results, Tryz.results56, go_sem]) rfl ⟨rfl, g1.trans g2⟩

end Go.Proofs.YtkcnbhenhmmfgaaGreatDoor
