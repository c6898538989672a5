/-
  DERIVED. GIVEN WITH THE SEED: THE CARDS: each row of YtnkgknbdaiakgaaGreatDoorRows.lean that lists a variable, with what it lists TIED to the program's text (the seventh form; the later family's looks); each row that meets fmt, with fmt's text TOLD by the authors' own Lean function (tested against real Go, not proved from fmt's source: count such statements apart). THE CARD IS WHAT COUNTS. Prove the row's statement (the work); the ties are given (YtnkgknbdaiakgaaGreatDoorTie.lean); close each card by the builder's one call (the guide's Derived/Test/ToyasCard.lean, 'card_holds'). Laid BY PROGRAM, IN A SANDBOX (cutbox-door.mjs). By AI agents, Wed Nov 11 2026. No macro, syntax, notation, axiom, sorry.
-/
import Derived.Test.YtnkgknbdaiakgaaGreatDoorRows
import GoSem.ClaimSeven
namespace Go.Proofs.YtnkgknbdaiakgaaGreatDoor
namespace Rows

/-- THE TIED CARD OF 'inarchlaw13.TtreesSpans'. -/
def ttreesSpansCard : Claim7 := { stood := { row := ttreesSpansRow, standIns := [], harness := (true, "2a00d67c30909e678029e7418116ab982d9fb24a35f92af1ab2e2141e7dd308a"), looks := true }, kinds := [], alts := [], laidByText := true, laidKinds := [.data, .data, .data, .data, .sentinel, .sentinel, .data, .pinned, .pinned, .pinned, .pinned, .pinned, .pinned, .pinned], laidTests := true, laidLooks := .later }
def TtreesSpansCardSaid : Prop := Claim7.holds Tryz.pinned (.plain (OpenSpec.ofChange ttreesSpansSpec)) ttreesSpansCard

/-- THE TIED CARD OF 'inarchlaw13.TtreesBlanks'. -/
def ttreesBlanksCard : Claim7 := { stood := { row := ttreesBlanksRow, standIns := [], harness := (true, "2a00d67c30909e678029e7418116ab982d9fb24a35f92af1ab2e2141e7dd308a"), looks := true }, kinds := [], alts := [], laidByText := true, laidKinds := [.data, .data, .data, .data, .sentinel, .sentinel, .data, .pinned, .pinned, .pinned, .pinned, .pinned, .pinned, .pinned], laidTests := true, laidLooks := .later }
def TtreesBlanksCardSaid : Prop := Claim7.holds Tryz.pinned (.plain (OpenSpec.ofChange ttreesBlanksSpec)) ttreesBlanksCard

/-- THE TIED CARD OF 'inarchlaw13.TtreesDotted'. -/
def ttreesDottedCard : Claim7 := { stood := { row := ttreesDottedRow, standIns := [], harness := (true, "2a00d67c30909e678029e7418116ab982d9fb24a35f92af1ab2e2141e7dd308a"), looks := true }, kinds := [], alts := [], laidByText := true, laidKinds := [.data, .data, .data, .data, .sentinel, .sentinel, .data, .data, .pinned, .pinned, .pinned, .pinned, .pinned, .pinned, .pinned], laidTests := true, laidLooks := .later }
def TtreesDottedCardSaid : Prop := Claim7.holds Tryz.pinned (.plain (OpenSpec.ofChange ttreesDottedSpec)) ttreesDottedCard

/-- THE SECOND FORM's CARD OF 'inarchlaw13.TtreesSpans'. -/
def ttreesSpansUptoCard : Claim7 := { stood := { row := ttreesSpansUptoRow, standIns := [], harness := (true, "2a00d67c30909e678029e7418116ab982d9fb24a35f92af1ab2e2141e7dd308a"), looks := true }, kinds := [], alts := [], laidByText := true, laidKinds := [.data, .data, .data, .data, .sentinel, .sentinel, .data, .pinned, .pinned, .pinned, .pinned, .pinned, .pinned, .pinned], laidTests := true, laidLooks := .later }
def TtreesSpansUptoCardSaid : Prop := Claim7.holds Tryz.pinned (.plain (OpenSpec.upto ttreesSpansSpec)) ttreesSpansUptoCard

/-- THE SECOND FORM's CARD OF 'inarchlaw13.TtreesBlanks'. -/
def ttreesBlanksUptoCard : Claim7 := { stood := { row := ttreesBlanksUptoRow, standIns := [], harness := (true, "2a00d67c30909e678029e7418116ab982d9fb24a35f92af1ab2e2141e7dd308a"), looks := true }, kinds := [], alts := [], laidByText := true, laidKinds := [.data, .data, .data, .data, .sentinel, .sentinel, .data, .pinned, .pinned, .pinned, .pinned, .pinned, .pinned, .pinned], laidTests := true, laidLooks := .later }
def TtreesBlanksUptoCardSaid : Prop := Claim7.holds Tryz.pinned (.plain (OpenSpec.upto ttreesBlanksSpec)) ttreesBlanksUptoCard

/-- THE SECOND FORM's CARD OF 'inarchlaw13.TtreesDotted'. -/
def ttreesDottedUptoCard : Claim7 := { stood := { row := ttreesDottedUptoRow, standIns := [], harness := (true, "2a00d67c30909e678029e7418116ab982d9fb24a35f92af1ab2e2141e7dd308a"), looks := true }, kinds := [], alts := [], laidByText := true, laidKinds := [.data, .data, .data, .data, .sentinel, .sentinel, .data, .data, .pinned, .pinned, .pinned, .pinned, .pinned, .pinned, .pinned], laidTests := true, laidLooks := .later }
def TtreesDottedUptoCardSaid : Prop := Claim7.holds Tryz.pinned (.plain (OpenSpec.upto ttreesDottedSpec)) ttreesDottedUptoCard
end Rows
end Go.Proofs.YtnkgknbdaiakgaaGreatDoor
