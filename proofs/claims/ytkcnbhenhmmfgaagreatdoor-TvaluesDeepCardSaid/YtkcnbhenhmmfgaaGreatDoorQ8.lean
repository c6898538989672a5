/-
  Walks: open; Read, whatever the kind.
-/
import Derived.Test.YtkcnbhenhmmfgaaGreatDoorQ7
import Derived.Test.YtkcnbhenhmmfgaaGreatDoorV1
import Derived.Deep.RegionWith
set_option linter.all false
set_option linter.unusedVariables false
set_option linter.unusedSimpArgs false
namespace Go.Proofs.YtkcnbhenhmmfgaaGreatDoor
open Go.RowKit Go.Joins

def kindT (long : Bool) (q : UInt8) : TypeId := if long then (if q.toNat == 39 then 158 else 159) else (if q.toNat == 39 then 156 else 157)

set_option maxHeartbeats 1000000 in
theorem tq_open (s : ByteArray) (i : Int) (n : Nat) (hi : i = n) (hn : n < s.size) (hs : s.size ≤ 20000000) (long : Bool) (hl : Pl.longAt (bs s) n = long) (w : World) :
    Calls Tryz.prog 68 #[.string s, .int .i64 i] w fun e w' => e = .returned (.tuple #[.pointer (some ⟨w.heap.size, 0, none⟩), .iface (kindT long s[n]) (.agg #[.pointer (some ⟨w.heap.size, 0, none⟩)])]) ∧
      RdQ w' w.heap.size s (n + if long then 3 else 1) s[n] [] (.slice none 0 0) ∧ Gr w w' := by
  subst hi
  have HL := Lib.hid hl
  clear hl
  have hk1 : (0 : Int) ≤ (n : Int) := by omega
  have hk2 : (n : Int) < (s.size : Int) := by omega
  unfold kindT
  cases long
  · cases h39 : (s[n].toNat == 39)
    all_goals
      obtain ⟨b1, b2⟩ := beqs _ 39 _ h39
      clear h39
      go_enter Tryz.func68, Tryz.ntmps68
      go_wp2_with (go_at_call 69; refine (tq_Long s _ n rfl (by omega) hs _).mono ?_; rw [HL.out]; rintro e w1 ⟨rfl, rfl⟩)
      go_ret2
      refine ⟨rfl, ⟨?_, World.ownsRow_nil _ _ _ _⟩, by (repeat (first | exact Gr.refl _ | assumption | refine Gr.drew ?_ | refine Gr.drewN ?_ _ | refine Gr.alloc ?_ _ | (refine Gr.setCell ?_ (by first | (simp; done) | (simp; omega)) _) | refine Gr.trans ?_ (by assumption)))⟩
      simpa using heap_alloc_new w (.cells #[.string s, .int .i64 (n + 1 : Nat), byteV s[n], .slice none 0 0] 125)
  · cases h39 : (s[n].toNat == 39)
    all_goals
      obtain ⟨b1, b2⟩ := beqs _ 39 _ h39
      clear h39
      go_enter Tryz.func68, Tryz.ntmps68
      go_wp2_with (go_at_call 69; refine (tq_Long s _ n rfl (by omega) hs _).mono ?_; rw [HL.out]; rintro e w1 ⟨rfl, rfl⟩)
      go_ret2
      refine ⟨rfl, ⟨?_, World.ownsRow_nil _ _ _ _⟩, by (repeat (first | exact Gr.refl _ | assumption | refine Gr.drew ?_ | refine Gr.drewN ?_ _ | refine Gr.alloc ?_ _ | (refine Gr.setCell ?_ (by first | (simp; done) | (simp; omega)) _) | refine Gr.trans ?_ (by assumption)))⟩
      simpa using heap_alloc_new w (.cells #[.string s, .int .i64 (n + 3 : Nat), byteV s[n], .slice none 0 0] 125)

namespace Pl
def kindStep (long : Bool) (q : UInt8) (l : List UInt8) : Option SR :=
  if long then (if q.toNat == 39 then some (stepLongLit q l) else none) else (if q.toNat == 39 then some (stepLit q l) else stepBas q l)
def readF (step : List UInt8 → Option SR) (l : Bs) : Nat → Nat → Bs → Res (Bs × Nat)
  | 0, _, _ => .non
  | f + 1, n, out =>
    match l.drop n with
    | [] => .bad 3 l.length
    | c :: r =>
      match step (c :: r) with
      | none => .non
      | some (.bad p) => .bad 3 (n + p)
      | some (.go m t over) => if over then .ok (out ++ t, n + m) else readF step l f (n + m) (out ++ t)
/-- A string's text, from its quotation mark on: what it tells, and how long it is. -/
def strS (l : Bs) : Res (Bs × Nat) :=
  match l with
  | [] => .bad 3 0
  | c :: r =>
    if (c.toNat == 34 || c.toNat == 39) = true then
      if long (c :: r) then
        match feed ((c :: r).drop 3) with
        | .bad k p => .bad k (3 + p)
        | .ok m => readF (kindStep true c) (c :: r) ((c :: r).length + 2) (3 + m) []
      else readF (kindStep false c) (c :: r) ((c :: r).length + 2) 1 []
    else .bad 3 0

theorem itself_len (l : List UInt8) (m : Nat) (t : List UInt8) (o : Bool) (h : itself l = .go m t o) : t.length ≤ m ∧ 1 ≤ m ∧ m ≤ l.length := by
  cases l with
  | nil => simp [itself] at h
  | cons c r =>
    unfold itself at h
    by_cases hp : isPlain c = true
    · simp only [hp, if_true, SR.go.injEq] at h; obtain ⟨rfl, rfl, rfl⟩ := h; simp
    · simp only [hp, if_false] at h; cases h
theorem marks_len (q : UInt8) (c : UInt8) (r : List UInt8) (hc : (c.toNat == q.toNat) = true) (m : Nat) (t : List UInt8) (o : Bool) (h : marks q (c :: r) = .go m t o) : t.length ≤ m ∧ 1 ≤ m ∧ m ≤ (c :: r).length := by
  have h1 := run_le q (c :: r)
  have h2 : 1 ≤ run q (c :: r) := by unfold run; rw [List.takeWhile_cons, if_pos hc]; simp
  unfold marks at h
  dsimp only at h
  have h3 : marksN q (c :: r) ≤ run q (c :: r) ∧ 1 ≤ marksN q (c :: r) := by unfold marksN; omega
  split at h
  · cases h; simp at h1 ⊢; omega
  · cases h; simp at h1 ⊢; omega
theorem stepLit_len (q : UInt8) (l : List UInt8) (m : Nat) (t : List UInt8) (o : Bool) (h : stepLit q l = .go m t o) : t.length ≤ m ∧ 1 ≤ m ∧ m ≤ l.length := by
  cases l with
  | nil => simp [stepLit] at h
  | cons c r =>
    unfold stepLit at h
    dsimp only at h
    split at h
    · cases h; simp
    · exact itself_len _ _ _ _ h
theorem stepBas_len (q : UInt8) (l : List UInt8) (m : Nat) (t : List UInt8) (o : Bool) (h : stepBas q l = some (.go m t o)) : t.length ≤ m ∧ 1 ≤ m ∧ m ≤ l.length := by
  cases l with
  | nil => simp [stepBas] at h
  | cons c r =>
    unfold stepBas at h
    dsimp only at h
    split at h
    · cases h; simp
    · split at h
      · cases h
      · simp only [Option.some.injEq] at h; exact itself_len _ _ _ _ h
theorem stepLongLit_len (q : UInt8) (l : List UInt8) (m : Nat) (t : List UInt8) (o : Bool) (h : stepLongLit q l = .go m t o) : t.length ≤ m ∧ 1 ≤ m ∧ m ≤ l.length := by
  unfold stepLongLit at h
  split at h
  · rename_i x hx
    subst h
    cases l with
    | nil => simp [common] at hx
    | cons c r =>
      unfold common at hx
      dsimp only at hx
      split at hx
      · rename_i hc; simp only [Option.some.injEq] at hx; exact marks_len q c r hc m t o hx
      · split at hx
        · cases hx
        · rename_i n hf
          have := feed_le _ _ hf
          cases hx
          refine ⟨by rw [List.length_take]; omega, by omega, this⟩
        · cases hx
  · exact itself_len _ _ _ _ h
theorem kindStep_len (long : Bool) (q : UInt8) (l : List UInt8) (m : Nat) (t : List UInt8) (o : Bool) (h : kindStep long q l = some (.go m t o)) : t.length ≤ m ∧ 1 ≤ m ∧ m ≤ l.length := by
  unfold kindStep at h
  split at h
  · split at h
    · simp only [Option.some.injEq] at h; exact stepLongLit_len _ _ _ _ _ h
    · cases h
  · split at h
    · simp only [Option.some.injEq] at h; exact stepLit_len _ _ _ _ _ h
    · exact stepBas_len _ _ _ _ _ h
end Pl

def kindF (long : Bool) (q : UInt8) : FuncId := if long then (if q.toNat == 39 then 207 else 210) else (if q.toNat == 39 then 197 else 201)

theorem tq_step (long : Bool) (q : UInt8) (w : World) (R : Nat) (s : ByteArray) (a : Nat) (out : List UInt8) (ov : Value) (h : RdQ w R s a q out ov)
    (hlt : a < s.size) (hs : s.size ≤ 20000000) (ho : out.length ≤ a) (sr : Pl.SR) (hsr : Pl.kindStep long q ((bs s).drop a) = some sr) :
    Calls Tryz.prog (kindF long q) #[.agg #[.pointer (some ⟨R, 0, none⟩)]] w (StepPost R s a q out ov w sr) := by
  unfold Pl.kindStep at hsr
  unfold kindF
  split at hsr
  · rename_i hl
    split at hsr
    · rename_i hq
      simp only [Option.some.injEq] at hsr
      rw [if_pos hl, if_pos hq, ← hsr]
      exact tq_longLiteral_step w R s a q out ov h hlt hs ho
    · cases hsr
  · rename_i hl
    split at hsr
    · rename_i hq
      simp only [Option.some.injEq] at hsr
      rw [if_neg hl, if_pos hq, ← hsr]
      exact tq_literal_step w R s a q out ov h hlt hs ho
    · rename_i hq
      rw [if_neg hl, if_neg hq]
      exact tq_basic_step w R s a q out ov h hlt hs ho sr hsr

/-- The position that the reader's block tells. -/
def posQ (R : Nat) (w : World) : Nat := match w.cell? ⟨R, 1, none⟩ with
  | some (.int _ n) => n.toNat
  | _ => 0
theorem posQ_eq {w R s a q out ov} (h : RdQ w R s a q out ov) : posQ R w = a := by
  unfold posQ; rw [h.cells.2.1]; simp

/-- What Read answers. -/
def ReadPost (s : ByteArray) (n : Nat) (w : World) (x : Pl.Res (Pl.Bs × Nat)) (e : Ending) (w' : World) : Prop :=
  match x with
  | .non => True
  | .ok (t, m) => e = .returned (.tuple #[strV t, .int .i64 (n + m : Nat), f0]) ∧ n + m ≤ s.size ∧ 1 ≤ m ∧ Gr w w'
  | .bad c p => e = .returned (.tuple #[.string ⟨#[]⟩, .int .i64 0, fv c (n + p)]) ∧ c ≠ 0 ∧ Gr w w'

end Go.Proofs.YtkcnbhenhmmfgaaGreatDoor
