/-
  DERIVED. GIVEN WITH THE SEED: THE CARDS: each row of YtkplelejagpkmaaGreatDoorRows.lean that lists a variable, with what it lists TIED to the program's text (the seventh form; the later family's looks); each row that meets fmt, with fmt's text TOLD by the authors' own Lean function (tested against real Go, not proved from fmt's source: count such statements apart). THE CARD IS WHAT COUNTS. Prove the row's statement (the work); the ties are given (YtkplelejagpkmaaGreatDoorTie.lean); close each card by the builder's one call (the guide's Derived/Test/ToyasCard.lean, 'card_holds'). Laid BY PROGRAM, IN A SANDBOX (cutbox-door.mjs). By AI agents, Wed Nov 11 2026. No macro, syntax, notation, axiom, sorry.
-/
import Derived.Test.YtkplelejagpkmaaGreatDoorRows
import GoSem.ClaimSeven
namespace Go.Proofs.YtkplelejagpkmaaGreatDoor
namespace Rows

/-- THE TIED CARD OF 'inarchlaw11.TvaluesParts'. -/
def tvaluesPartsCard : Claim7 := { stood := { row := tvaluesPartsRow, standIns := [], harness := (true, "7687e7eae5104ac4b389cd2b643441e5c2ea30f1ff0cfc3ad92c216c2e3638e6"), looks := true }, kinds := [], alts := [], laidByText := true, laidKinds := [.data, .data, .data, .data, .sentinel, .sentinel, .data, .data, .pinned, .pinned], laidTests := true, laidLooks := .later }
def TvaluesPartsCardSaid : Prop := Claim7.holds Tryz.pinned (.plain (OpenSpec.ofChange tvaluesPartsSpec)) tvaluesPartsCard

/-- THE TIED CARD OF 'inarchlaw12.TlinesMade'. -/
def tlinesMadeCard : Claim7 := { stood := { row := tlinesMadeRow, standIns := [], harness := (true, "7687e7eae5104ac4b389cd2b643441e5c2ea30f1ff0cfc3ad92c216c2e3638e6"), looks := true }, kinds := [], alts := [], laidByText := true, laidKinds := [.data, .data, .data, .data, .sentinel, .sentinel, .data, .data, .pinned, .pinned], laidTests := true, laidLooks := .later }
def TlinesMadeCardSaid : Prop := Claim7.holds Tryz.pinned (.plain (OpenSpec.ofChange tlinesMadeSpec)) tlinesMadeCard

/-- THE SECOND FORM's CARD OF 'inarchlaw11.TvaluesParts'. -/
def tvaluesPartsUptoCard : Claim7 := { stood := { row := tvaluesPartsUptoRow, standIns := [], harness := (true, "7687e7eae5104ac4b389cd2b643441e5c2ea30f1ff0cfc3ad92c216c2e3638e6"), looks := true }, kinds := [], alts := [], laidByText := true, laidKinds := [.data, .data, .data, .data, .sentinel, .sentinel, .data, .data, .pinned, .pinned], laidTests := true, laidLooks := .later }
def TvaluesPartsUptoCardSaid : Prop := Claim7.holds Tryz.pinned (.plain (OpenSpec.upto tvaluesPartsSpec)) tvaluesPartsUptoCard

/-- THE SECOND FORM's CARD OF 'inarchlaw12.TlinesMade'. -/
def tlinesMadeUptoCard : Claim7 := { stood := { row := tlinesMadeUptoRow, standIns := [], harness := (true, "7687e7eae5104ac4b389cd2b643441e5c2ea30f1ff0cfc3ad92c216c2e3638e6"), looks := true }, kinds := [], alts := [], laidByText := true, laidKinds := [.data, .data, .data, .data, .sentinel, .sentinel, .data, .data, .pinned, .pinned], laidTests := true, laidLooks := .later }
def TlinesMadeUptoCardSaid : Prop := Claim7.holds Tryz.pinned (.plain (OpenSpec.upto tlinesMadeSpec)) tlinesMadeUptoCard
end Rows
end Go.Proofs.YtkplelejagpkmaaGreatDoor
