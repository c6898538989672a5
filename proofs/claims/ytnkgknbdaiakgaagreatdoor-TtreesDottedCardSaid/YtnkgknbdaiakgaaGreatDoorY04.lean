/- The proof's part 04. -/
import Derived.Test.YtnkgknbdaiakgaaGreatDoorY02
set_option maxHeartbeats 16000000
set_option linter.all false
namespace Go.Proofs.YtnkgknbdaiakgaaGreatDoor.Pl
def V6t(n:Nat):Bool:=decide (97<=n)&&decide (n<=122) || decide (65<=n)&&decide (n<=90) || decide (48<=n)&&decide (n<=57) || n==95 || n==45
def V4n(n:Nat):Bool:=decide (128<=n) || !V6t n
def V5f(l:Bs):Bool := !l.isEmpty&&l.all Vq
theorem V5x(c:UInt8):V4n c.toNat = !Vq c:=by
 unfold V4n;rw[show Vq c=V6t c.toNat from rfl];by_cases h:128<=c.toNat
 have:V6t c.toNat=false:=by unfold V6t;simp;omega
 rw[this];simp
 simp[h]
