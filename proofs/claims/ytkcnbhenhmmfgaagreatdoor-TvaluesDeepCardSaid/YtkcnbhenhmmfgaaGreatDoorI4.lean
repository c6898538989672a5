/-
  Walks: floats.Read at digits: no float.
-/
import Derived.Test.YtkcnbhenhmmfgaaGreatDoorI3
set_option linter.all false
set_option linter.unusedVariables false
set_option linter.unusedSimpArgs false
namespace Go.Proofs.YtkcnbhenhmmfgaaGreatDoor
open Go.RowKit Go.Shelf Go.Joins
attribute [local go_sem] Oper.semAt_some

theorem indexAny_no (l cs : List UInt8) (h : ∀ c ∈ l, cs.contains c = false) : Lib.indexAny l cs = -1 := by
  induction l with
  | nil => rfl
  | cons b l ih =>
    unfold Lib.indexAny
    rw [h b (by simp), ih (fun c hc => h c (List.mem_cons_of_mem _ hc))]
    rfl

theorem trimLeft_no (l cs : List UInt8) (h : ∀ c ∈ l, cs.contains c = false) : Lib.trimLeftS l cs = l := by
  unfold Lib.trimLeftS
  cases l with
  | nil => rfl
  | cons b l => rw [List.dropWhile_cons, if_neg (by rw [h b (by simp)]; simp)]

theorem dec_notin (c : UInt8) (h : isDec c = true) : ([43, 45] : List UInt8).contains c = false ∧ ([101, 69] : List UInt8).contains c = false ∧ ([46] : List UInt8).contains c = false :=
  dec_ten (fun c => ([43, 45] : List UInt8).contains c = false ∧ ([101, 69] : List UInt8).contains c = false ∧ ([46] : List UInt8).contains c = false) (by decide) c h

theorem fl_trim (s : ByteArray) (hd : ∀ c ∈ bs s, isDec c = true) (w : World) :
    Calls Tryz.prog 36 #[.string s, .string ⟨#[43, 45]⟩] w fun e w' => e = .returned (.string s) ∧ Gr w w' := by
  refine (Any.strings_TrimLeft_laid Tryz.lays161 bool256 s ⟨#[43, 45]⟩ w (by decide) (ascii_of_all (by decide))).mono ?_
  rintro e w' ⟨rfl, hb⟩
  refine ⟨?_, hb⟩
  rw [show Lib.trimLeftS s.data.toList (ByteArray.mk #[43, 45]).data.toList = bs s from trimLeft_no _ _ fun c hc => (dec_notin c (hd c hc)).1]

theorem dec_ne (s : ByteArray) (hd : ∀ c ∈ bs s, isDec c = true) (x : UInt8) (l : List UInt8) (hx : isDec x = false) : (s.toList == x :: l) = false := by
  cases h : s.toList == x :: l with
  | false => rfl
  | true =>
    have h1 := beq_iff_eq.1 h
    rw [Lib.toList_data] at h1
    have h2 := hd x (by rw [show bs s = x :: l from h1]; simp)
    rw [hx] at h2
    cases h2

theorem fl_special (s : ByteArray) (hd : ∀ c ∈ bs s, isDec c = true) (w : World) :
    Calls Tryz.prog 90 #[.string s] w fun e w' => e = .returned (.string ⟨#[]⟩) ∧ Gr w w' := by
  have HD := Lib.hid hd
  have h1 := dec_ne s hd 105 [110, 102] (by decide)
  have h2 := dec_ne s hd 110 [97, 110] (by decide)
  clear hd
  go_enter Tryz.func90, Tryz.ntmps90
  go_wp2_with (go_at_call 36; refine (fl_trim s HD.out _).mono ?_; rintro e w1 ⟨rfl, g1⟩)
  go_ret
  exact ⟨rfl, g1⟩

theorem fl_cut (s cs : ByteArray) (hs : s.size ≤ 20000000) (hc : cs.size ≤ 20) (ha : ∀ (j : Nat) b, s.data.toList[j]? = some b → b.toNat < 128) (hb : ∀ (j : Nat) b, cs.data.toList[j]? = some b → b.toNat < 128)
    (hn : ∀ c ∈ bs s, (bs cs).contains c = false) (w : World) :
    Calls Tryz.prog 91 #[.string s, .string cs] w fun e w' => e = .returned (.tuple #[.string s, .string ⟨#[]⟩, .bool false]) ∧ Gr w w' := by
  have HI := Lib.hid (Any.strings_IndexAny_laid Tryz.lays153 bool256 s cs · (by omega) (by omega) ha hb)
  have HN : Hid (Lib.indexAny s.data.toList cs.data.toList = -1) := indexAny_no _ _ hn
  clear ha hb hn
  go_enter Tryz.func91, Tryz.ntmps91
  go_wp2_with (go_at_call 118; refine (HI.out _).mono ?_; rw [HN.out]; rintro e w1 ⟨rfl, g1⟩)
  exact bodyPost_ret (v := .tuple #[.string s, .string ⟨#[]⟩, .bool false]) (by simp [results, Tryz.results91, go_sem]) rfl ⟨rfl, g1⟩

theorem fl_whole (s : ByteArray) (w : World) (t : ByteArray) (c : Int) (h : Calls Tryz.prog 65 #[.string s] w fun e w' => e = .returned (.tuple #[.string t, .int .i64 c]) ∧ Gr w w') :
    Calls Tryz.prog 93 #[.string s] w fun e w' => e = .returned (.bool (c != 3)) ∧ Gr w w' := by
  have H := Lib.hid h
  clear h
  go_enter Tryz.func93, Tryz.ntmps93
  go_wp2_with (go_at_call 65; refine H.out.mono ?_; rintro e w1 ⟨rfl, g1⟩)
  go_ret
  exact ⟨rfl, g1⟩

set_option maxHeartbeats 1000000 in
/-- The first of them does not hold. -/
theorem fl_right (b n c : Nat) (w : World) (hn : 1 ≤ n) (hx : w.cell? ⟨b, 0, none⟩ = some (.bool false)) :
    Calls Tryz.prog 92 #[.slice (some ⟨b, 0, none⟩) n c] w fun e w' => e = .returned (.bool false) ∧ w' = w := by
  have h1 : decide ((0 : Int) < (n : Int)) = true := by simp; omega
  have h2 : (0 : Int) < (n : Int) := by omega
  have h3 : 0 < n := by omega
  go_enter Tryz.func92, Tryz.ntmps92
  go_wp2_with fail
  go_loopw [7] (fun v wr => v = .int .i64 0 ∧ wr = w) (fun _ _ => 0)
  case atStart => exact ⟨rfl, rfl⟩
  case round =>
    obtain ⟨rfl, rfl⟩ := hrel
    go_wp2_with fail
    go_ret
    exact ⟨rfl, rfl⟩

theorem dec_ascii (l : List UInt8) (hd : ∀ c ∈ l, isDec c = true) : ∀ (j : Nat) b, l[j]? = some b → b.toNat < 128 := fun j b hj => by
  have := hd b (List.mem_of_getElem? hj)
  simp [isDec] at this
  omega

set_option maxHeartbeats 2000000 in
set_option maxRecDepth 100000 in
theorem fl_Read_dec (s : ByteArray) (hd : ∀ c ∈ bs s, isDec c = true) (hs : s.size ≤ 20000000) (w : World) (hw : IntW w) (t : ByteArray) (c : Int)
    (h : ∀ W, IntW W → Calls Tryz.prog 65 #[.string s] W fun e w' => e = .returned (.tuple #[.string t, .int .i64 c]) ∧ Gr W w') :
    Calls Tryz.prog 66 #[.string s] w fun e w' => e = .returned (.tuple #[.string ⟨#[]⟩, .int .i64 3]) ∧ Gr w w' := by
  have HD := Lib.hid hd
  have HW := Lib.hid hw
  have HH := Lib.hid h
  have H1 : Hid (∀ W, Calls Tryz.prog 91 #[.string s, .string ⟨#[101, 69]⟩] W fun e w' => e = .returned (.tuple #[.string s, .string ⟨#[]⟩, .bool false]) ∧ Gr W w') :=
    fun W => fl_cut s ⟨#[101, 69]⟩ hs (by decide) (dec_ascii _ hd) (ascii_of_all (by decide)) (fun c hc => (dec_notin c (hd c hc)).2.1) W
  have H2 : Hid (∀ W, Calls Tryz.prog 91 #[.string s, .string ⟨#[46]⟩] W fun e w' => e = .returned (.tuple #[.string s, .string ⟨#[]⟩, .bool false]) ∧ Gr W w') :=
    fun W => fl_cut s ⟨#[46]⟩ hs (by decide) (dec_ascii _ hd) (ascii_of_all (by decide)) (fun c hc => (dec_notin c (hd c hc)).2.2) W
  clear hd hw h
  go_enter Tryz.func66, Tryz.ntmps66
  go_wp2_with fail
  refine (fl_trim s HD.out _).mono ?_
  rintro e w1 ⟨rfl, g1⟩
  go_wp2_with fail
  refine (fl_special s HD.out _).mono ?_
  rintro e w2 ⟨rfl, g2⟩
  go_wp2_with fail
  refine (H1.out _).mono ?_
  rintro e w3 ⟨rfl, g3⟩
  go_wp2_with fail
  refine (H2.out _).mono ?_
  rintro e w4 ⟨rfl, g4⟩
  go_wp2_with fail
  refine (fl_whole s _ t c (HH.out _ (HW.out.gr (by (repeat (first | exact Gr.refl _ | assumption | refine Gr.drew ?_ | refine Gr.drewN ?_ _ | refine Gr.alloc ?_ _ | (refine Gr.setCell ?_ (by first | (simp; done) | (simp; omega)) _) | refine Gr.trans ?_ (by assumption))))))).mono ?_
  rintro e w5 ⟨rfl, g5⟩
  go_wp2_with fail
  refine (fl_right _ 4 4 _ (by omega) (by simp)).mono ?_
  rintro e w6 ⟨rfl, rfl⟩
  go_wp2_with fail
  exact bodyPost_ret (v := .tuple #[.string ⟨#[]⟩, .int .i64 3]) (by simp [results, Tryz.results66, go_sem]) rfl ⟨rfl, by (repeat (first | exact Gr.refl _ | assumption | refine Gr.drew ?_ | refine Gr.drewN ?_ _ | refine Gr.alloc ?_ _ | (refine Gr.setCell ?_ (by first | (simp; done) | (simp; omega)) _) | refine Gr.trans ?_ (by assumption)))⟩

end Go.Proofs.YtkcnbhenhmmfgaaGreatDoor
