/- The proof's part 42. -/
import Derived.Test.YtnkgknbdaiakgaaGreatDoorY29
import Derived.Test.YtnkgknbdaiakgaaGreatDoorY41
set_option maxHeartbeats 16000000
set_option linter.all false
namespace Go.Proofs.YtnkgknbdaiakgaaGreatDoor
open Pl Go.RowKit Go.Shelf Go.Joins
theorem Om2(PT:Lib.PrintTabs)(l:Pl.Bs)(h:l.length<=100060):(V5j PT l).length<=1000602:=by
 unfold V5j;rw[U1n];have h1:=Lib.quoteZ_length_le PT ⟨l.toArray⟩;have h2:(⟨l.toArray⟩:ByteArray).size=l.length:=rfl;omega
theorem V7k.at:∀{its:List Pl.It}{xs:List Value}(_:V7k xs its)(i:Nat)(it:Pl.It)(_:its[i]?=some it),xs[9*i]?=some (.int .u8 it.kind)/\xs[9*i+1]?=some (.int .i64 it.a)/\xs[9*i+2]?=some (.int .i64 it.b)/\xs[9*i+5]?=some (.int .i64 it.va)/\xs[9*i+6]?=some (.int .i64 it.vb)
 |[],xs,_,i,it,hi=>by simp at hi
 | i0::r,xs,h,i,it,hi=>by
  obtain⟨k,s,n,ys,rfl,hy⟩:=h;cases i with
  |zero =>
   simp only[U2e,U1f]at hi;subst hi;exact⟨rfl,rfl,rfl,rfl,rfl⟩
  |succ i =>
   simp only[List.getElem?_cons_succ]at hi;exact hy.at i it hi
