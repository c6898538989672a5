/-
 The walks and plain laws that the claim rests on, part 12.
-/
import Derived.Test.YtdgjgcepbkanhaaGreatDoorM01
set_option maxHeartbeats 16000000
set_option linter.all false
set_option linter.unusedVariables false
set_option linter.unusedSimpArgs false
namespace Go.Proofs.YtdgjgcepbkanhaaGreatDoor
theorem word_le (E:Pl.Env) (s:Pl.Bs) (n:Nat) (t:Pl.Bs) (e:Nat) (h:Pl.word E s n = .ok (t,e)):n≤e:=by
 unfold Pl.word at h
 split at h
 · cases h;omega
 split at h
 · split at h
   · cases h
   · cases h
   cases h;omega
 cases h;omega
end Go.Proofs.YtdgjgcepbkanhaaGreatDoor
