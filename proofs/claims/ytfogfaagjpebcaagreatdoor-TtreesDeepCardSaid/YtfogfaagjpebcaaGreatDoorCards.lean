/-
  DERIVED. GIVEN WITH THE SEED: THE CARDS: each row of YtfogfaagjpebcaaGreatDoorRows.lean that lists a variable, with what it lists TIED to the program's text (the seventh form; the later family's looks); each row that meets fmt, with fmt's text TOLD by the authors' own Lean function (tested against real Go, not proved from fmt's source: count such statements apart). THE CARD IS WHAT COUNTS. Prove the row's statement (the work); the ties are given (YtfogfaagjpebcaaGreatDoorTie.lean); close each card by the builder's one call (the guide's Derived/Test/ToyasCard.lean, 'card_holds'). Laid BY PROGRAM, IN A SANDBOX (cutbox-door.mjs). By AI agents, Wed Nov 11 2026. No macro, syntax, notation, axiom, sorry.
-/
import Derived.Test.YtfogfaagjpebcaaGreatDoorRows
import GoSem.ClaimSeven
namespace Go.Proofs.YtfogfaagjpebcaaGreatDoor
namespace Rows

/-- THE TIED CARD OF 'inarchlaw13.TtreesDeep'. -/
def ttreesDeepCard : Claim7 := { stood := { row := ttreesDeepRow, standIns := [], harness := (true, "d3db25ef4e488d6d10bb3f7bc10562b2f585ae63c2ea7b30a9ed86cd3c408be1"), looks := true }, kinds := [], alts := [], laidByText := true, laidKinds := [.data, .data, .data, .data, .sentinel, .sentinel, .data, .pinned, .pinned, .pinned, .pinned, .pinned, .pinned, .pinned], laidTests := true, laidLooks := .later }
def TtreesDeepCardSaid : Prop := Claim7.holds Tryz.pinned (.plain (OpenSpec.ofChange ttreesDeepSpec)) ttreesDeepCard

/-- THE SECOND FORM's CARD OF 'inarchlaw13.TtreesDeep'. -/
def ttreesDeepUptoCard : Claim7 := { stood := { row := ttreesDeepUptoRow, standIns := [], harness := (true, "d3db25ef4e488d6d10bb3f7bc10562b2f585ae63c2ea7b30a9ed86cd3c408be1"), looks := true }, kinds := [], alts := [], laidByText := true, laidKinds := [.data, .data, .data, .data, .sentinel, .sentinel, .data, .pinned, .pinned, .pinned, .pinned, .pinned, .pinned, .pinned], laidTests := true, laidLooks := .later }
def TtreesDeepUptoCardSaid : Prop := Claim7.holds Tryz.pinned (.plain (OpenSpec.upto ttreesDeepSpec)) ttreesDeepUptoCard
end Rows
end Go.Proofs.YtfogfaagjpebcaaGreatDoor
