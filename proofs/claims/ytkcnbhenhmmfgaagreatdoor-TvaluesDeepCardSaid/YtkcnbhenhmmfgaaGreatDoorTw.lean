/-
  The plain functions of tvalues' values, and of its tokens. No program in sight.
-/
import Derived.Test.YtkcnbhenhmmfgaaGreatDoorK2
import Derived.Test.YtkcnbhenhmmfgaaGreatDoorD1
set_option linter.all false
set_option linter.unusedVariables false
set_option linter.unusedSimpArgs false
namespace Go.Proofs.YtkcnbhenhmmfgaaGreatDoor.Pl

def kind8 (st : Nds) (i : Nat) : Bool := decide (st.length ≤ 30000000) && match st[i]? with
  | some nd => nd.kind == 8 && decide (nd.keys.length ≤ 30000000) && decide (nd.spots.length ≤ 30000000) && decide (nd.subs.length ≤ 30000000)
  | none => false
def room (st : Nds) : Bool := decide (st.length ≤ 20000000)

/-- The way over a key's words: the table that the last one is of, and its depth. -/
def way (table : Nat) : List KW → Nat → Nat → Nds → Res (Nat × Nat × Nds)
  | [], _, _, _ => .non
  | (w, a, b) :: rest, into, d, st =>
    match subOf st into w with
    | .non => .non
    | .yes i =>
      match rest with
      | [] => .bad 5 a
      | _ :: _ => if ownerOf st i = table + 1 then way table rest i (d + 1) st else .bad 5 a
    | .no =>
      match rest with
      | [] => .ok (into, d, st)
      | _ :: _ =>
        if 256 < d + 1 then .bad 4 a else
        if kind8 st into && room st then way table rest st.length (d + 1) (putAt (st ++ [dotNd (table + 1)]) into w (a, b) st.length) else .non

abbrev ValF := Nat → Nat → Nds → Res (Nat × Nat × Nds)

def pairS (E : Env) (V : ValF) (s : Bs) (table at' d : Nat) (st : Nds) : Res (Nat × Nds) :=
  match keyS E s at' with
  | .non => .non
  | .bad c p => .bad c p
  | .ok (ws, e) =>
    match way table ws table d st with
    | .non => .non
    | .bad c p => .bad c p
    | .ok (into, d', st') =>
      let e1 := blanksAt s e
      if byteAt s e1 = 61 then
        match V (d' + 1) (blanksAt s (e1 + 1)) st' with
        | .non => .non
        | .bad c p => .bad c p
        | .ok (i, e2, st2) =>
          match ws.getLast? with
          | none => .non
          | some (w, a, b) => if kind8 st2 into then .ok (e2, putAt st2 into w (a, b) i) else .non
      else .bad 3 e1

def tabF (E : Env) (V : ValF) (s : Bs) (table d : Nat) : Nat → Nat → Nds → Res (Nat × Nds)
  | 0, _, _ => .non
  | f + 1, n, st =>
    match pairS E V s table n d st with
    | .non => .non
    | .bad c p => .bad c p
    | .ok (e, st1) =>
      let e2 := blanksAt s e
      if byteAt s e2 = 125 then .ok (e2, st1) else
      if byteAt s e2 = 44 then tabF E V s table d f (blanksAt s (e2 + 1)) st1 else .bad 3 e2

def tableS (E : Env) (V : ValF) (s : Bs) (d n : Nat) (st : Nds) : Res (Nat × Nat × Nds) :=
  if 256 < d then .bad 4 n else
  if room st then
    let e := blanksAt s (n + 1)
    match (if byteAt s e = 125 then .ok (e, st ++ [tabNd]) else tabF E V s st.length d (s.length + 2) e (st ++ [tabNd]) : Res (Nat × Nds)) with
    | .non => .non
    | .bad c p => .bad c p
    | .ok (e1, st1) => if kind8 st1 st.length then .ok (st.length, e1 + 1, st1.modify st.length fun nd => { nd with sp := ((n : Int), ((e1 + 1 : Nat) : Int)) }) else .non
  else .non

def listF (V : ValF) (s : Bs) (d : Nat) : Nat → Nat → List Nat → Nds → Res (List Nat × Nat × Nds)
  | 0, _, _, _ => .non
  | f + 1, n, subs, st =>
    if byteAt s n = 93 then .ok (subs, n, st) else
    match V (d + 1) n st with
    | .non => .non
    | .bad c p => .bad c p
    | .ok (i, e, st1) =>
      if 30000000 < subs.length then .non else
      match gapAt s e with
      | .bad c p => .bad c p
      | .ok g =>
        if byteAt s g = 93 then .ok (subs ++ [i], g, st1) else
        if byteAt s g = 44 then
          match gapAt s (g + 1) with
          | .bad c p => .bad c p
          | .ok g2 => listF V s d f g2 (subs ++ [i]) st1
        else .bad 3 g

def listS (V : ValF) (s : Bs) (d n : Nat) (st : Nds) : Res (Nat × Nat × Nds) :=
  if 256 < d then .bad 4 n else
  match gapAt s (n + 1) with
  | .bad c p => .bad c p
  | .ok g =>
    match listF V s d (s.length + 2) g [] st with
    | .non => .non
    | .bad c p => .bad c p
    | .ok (subs, e, st1) => if room st1 then .ok (st1.length, e + 1, st1 ++ [listNd subs n (e + 1)]) else .non

def valueF (E : Env) (s : Bs) : Nat → ValF
  | 0 => fun _ _ _ => .non
  | f + 1 => fun d n st =>
    let c := byteAt s n
    if c = 34 ∨ c = 39 then
      match E.str (s.drop n) with
      | .non => .non
      | .bad c p => .bad c (n + p)
      | .ok (t, m) => if room st then .ok (st.length, n + m, st ++ [leaf 3 t n (n + m)]) else .non
    else if c = 91 then listS (valueF E s f) s d n st
    else if c = 123 then tableS E (valueF E s f) s d n st
    else
      match E.scal (s.drop n) with
      | .non => .non
      | .bad c _ => .bad c n
      | .ok (k, t, m) => if room st then .ok (st.length, n + m, st ++ [leaf k t n (n + m)]) else .non

/-- tvalues.Read at a place that may be. -/
def readS (E : Env) (s : Bs) (n around : Nat) : Res (Nat × Nat × Nds) := valueF E s 258 (min around 256 + 1) n []

/-! tokens -/
def partN (n : Nat) : Bool := decide (97 ≤ n) && decide (n ≤ 122) || decide (65 ≤ n) && decide (n ≤ 90) || decide (48 ≤ n) && decide (n ≤ 57) || n == 43 || n == 45 || n == 95 || n == 46
def isPart (c : UInt8) : Bool := partN c.toNat
def tok (l : Bs) : Bs := l.takeWhile isPart
/-- A token of digits alone: one of them, or more behind a zero. -/
def digits (t : Bs) : Res (Nat × Bs × Nat) :=
  if t.all (fun c => decide (48 ≤ c.toNat) && decide (c.toNat ≤ 57)) then
    match t with
    | [] => .non
    | [_] => .ok (4, t, 1)
    | c :: _ :: _ => if c.toNat = 48 then .bad 3 0 else .non
  else .non
def scalS (l : Bs) : Res (Nat × Bs × Nat) := if formM l timeF || formM l dateF then .non else digits (tok l)

end Go.Proofs.YtkcnbhenhmmfgaaGreatDoor.Pl
