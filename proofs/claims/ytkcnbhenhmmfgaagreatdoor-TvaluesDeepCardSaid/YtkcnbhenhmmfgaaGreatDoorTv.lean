/-
  The plain functions of tkeys.Read and of tvalues: what the readers of keys and values compute, on lists of bytes and of nodes. No program in sight.
  'non' stands for 'no promise': a reading that goes beyond what the callees' functions promise.
-/
import Derived.Test.YtkcnbhenhmmfgaaGreatDoorPl
set_option linter.all false
set_option linter.unusedVariables false
set_option linter.unusedSimpArgs false
namespace Go.Proofs.YtkcnbhenhmmfgaaGreatDoor.Pl

inductive Res (α : Type) where
  | non
  | ok (a : α)
  | bad (c p : Nat)

/-- A node of a tree, and of which table (and one more) it is, if a dotted key made it. -/
structure Nd where
  kind : Nat
  text : Bs
  keys : List Bs
  spots : List (Nat × Nat)
  subs : List Nat
  sp : Int × Int
  owner : Nat

abbrev Nds := List Nd

/-- What the callees promise: of a string's text, from its quotation mark on: what it tells, and how long it is; of a token: its kind, its text, how long it is. -/
structure Env where
  str : Bs → Res (Bs × Nat)
  scal : Bs → Res (Nat × Bs × Nat)

def byteAt (s : Bs) (n : Nat) : Nat := match s[n]? with
  | some c => c.toNat
  | none => 0

/-! keys -/
def isBare (c : UInt8) : Bool := decide (97 ≤ c.toNat) && decide (c.toNat ≤ 122) || decide (65 ≤ c.toNat) && decide (c.toNat ≤ 90) || decide (48 ≤ c.toNat) && decide (c.toNat ≤ 57) || c.toNat == 95 || c.toNat == 45
def bareRun (l : Bs) : Nat := (l.takeWhile isBare).length
def word (E : Env) (s : Bs) (n : Nat) : Res (Bs × Nat) :=
  if longAt s n then .ok ([], n + 2) else
  if bareRun (s.drop n) = 0 then
    match E.str (s.drop n) with
    | .non => .non
    | .bad c p => .bad c (n + p)
    | .ok (t, k) => .ok (t, n + k)
  else .ok ((s.drop n).take (bareRun (s.drop n)), n + bareRun (s.drop n))

abbrev KW := Bs × Nat × Nat
def keyF (E : Env) (s : Bs) : Nat → Nat → List KW → Res (List KW × Nat)
  | 0, _, _ => .non
  | f + 1, n, acc =>
    match word E s n with
    | .non => .non
    | .bad c p => .bad c p
    | .ok (t, e) =>
      let a := blanksAt s e
      if byteAt s a = 46 then keyF E s f (blanksAt s (a + 1)) (acc ++ [(t, n, e)])
      else .ok (acc ++ [(t, n, e)], e)
def keyS (E : Env) (s : Bs) (n : Nat) : Res (List KW × Nat) := keyF E s (s.length + 2) n []

/-! nodes -/
inductive Sub where
  | non
  | no
  | yes (i : Nat)
def subOf (st : Nds) (t : Nat) (w : Bs) : Sub :=
  match st[t]? with
  | none => .non
  | some nd =>
    match nd.keys.findIdx? (fun x => x == w) with
    | none => .no
    | some j =>
      match nd.subs[j]? with
      | none => .non
      | some i => if i < st.length then .yes i else .non
def putNd (nd : Nd) (w : Bs) (sp : Nat × Nat) (i : Nat) : Nd := { nd with keys := nd.keys ++ [w], spots := nd.spots ++ [sp], subs := nd.subs ++ [i] }
def putAt (st : Nds) (t : Nat) (w : Bs) (sp : Nat × Nat) (i : Nat) : Nds := st.modify t fun nd => putNd nd w sp i
def ownerOf (st : Nds) (i : Nat) : Nat := match st[i]? with
  | some nd => nd.owner
  | none => 0
def leaf (k : Nat) (t : Bs) (a b : Nat) : Nd := ⟨k, t, [], [], [], (a, b), 0⟩
def listNd (subs : List Nat) (a b : Nat) : Nd := ⟨7, [], [], [], subs, (a, b), 0⟩
def tabNd : Nd := ⟨8, [], [], [], [], (0, 0), 0⟩
def dotNd (owner : Nat) : Nd := ⟨8, [], [], [], [], (-1, -1), owner⟩

end Go.Proofs.YtkcnbhenhmmfgaaGreatDoor.Pl
