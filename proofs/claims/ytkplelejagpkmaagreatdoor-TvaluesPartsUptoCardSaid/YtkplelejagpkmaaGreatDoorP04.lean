/-
 The walks and plain laws that the claim rests on, part 4.
-/
import Derived.Test.YtkplelejagpkmaaGreatDoorP02
set_option maxHeartbeats 16000000
set_option linter.all false
set_option linter.unusedVariables false
set_option linter.unusedSimpArgs false
namespace Go.Proofs.YtkplelejagpkmaaGreatDoor.Pl
def bareN (n:Nat):Bool:=decide (97≤n) && decide (n≤122) || decide (65≤n) && decide (n≤90) || decide (48≤n) && decide (n≤57) || n==95 || n==45
def nbare (n:Nat):Bool:=decide (128≤n) || !bareN n
def bareW (l:Bs):Bool := !l.isEmpty && l.all isBare
theorem isBare_nbare (c:UInt8):nbare c.toNat = !isBare c:=by
 unfold nbare;rw[show isBare c=bareN c.toNat from rfl];by_cases h:128≤c.toNat
 · have:bareN c.toNat=false:=by unfold bareN;simp;omega
   rw[this];simp
 simp[h]
end Go.Proofs.YtkplelejagpkmaaGreatDoor.Pl
