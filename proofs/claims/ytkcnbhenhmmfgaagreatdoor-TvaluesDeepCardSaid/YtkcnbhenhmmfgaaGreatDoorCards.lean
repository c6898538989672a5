/-
  DERIVED. GIVEN WITH THE SEED: THE CARDS: each row of YtkcnbhenhmmfgaaGreatDoorRows.lean that lists a variable, with what it lists TIED to the program's text (the seventh form; the later family's looks); each row that meets fmt, with fmt's text TOLD by the authors' own Lean function (tested against real Go, not proved from fmt's source: count such statements apart). THE CARD IS WHAT COUNTS. Prove the row's statement (the work); the ties are given (YtkcnbhenhmmfgaaGreatDoorTie.lean); close each card by the builder's one call (the guide's Derived/Test/ToyasCard.lean, 'card_holds'). Laid BY PROGRAM, IN A SANDBOX (cutbox-door.mjs). By AI agents, Wed Nov 11 2026. No macro, syntax, notation, axiom, sorry.
-/
import Derived.Test.YtkcnbhenhmmfgaaGreatDoorRows
import GoSem.ClaimSeven
namespace Go.Proofs.YtkcnbhenhmmfgaaGreatDoor
namespace Rows

/-- THE TIED CARD OF 'inarchlaw11.TvaluesGap'. -/
def tvaluesGapCard : Claim7 := { stood := { row := tvaluesGapRow, standIns := [], harness := (true, "a42d7f19597a0b64c1812f3a6496091c427e7d4e7104c0783ff8b5aea7c699a0"), looks := true }, kinds := [], alts := [], laidByText := true, laidKinds := [.data, .data, .data, .data, .sentinel, .sentinel, .data, .pinned, .pinned], laidTests := true, laidLooks := .later }
def TvaluesGapCardSaid : Prop := Claim7.holds Tryz.pinned (.plain (OpenSpec.ofChange tvaluesGapSpec)) tvaluesGapCard

/-- THE TIED CARD OF 'inarchlaw11.TvaluesDeep'. -/
def tvaluesDeepCard : Claim7 := { stood := { row := tvaluesDeepRow, standIns := [], harness := (true, "a42d7f19597a0b64c1812f3a6496091c427e7d4e7104c0783ff8b5aea7c699a0"), looks := true }, kinds := [], alts := [], laidByText := true, laidKinds := [.data, .data, .data, .data, .sentinel, .sentinel, .data, .pinned, .pinned], laidTests := true, laidLooks := .later }
def TvaluesDeepCardSaid : Prop := Claim7.holds Tryz.pinned (.plain (OpenSpec.ofChange tvaluesDeepSpec)) tvaluesDeepCard

/-- THE SECOND FORM's CARD OF 'inarchlaw11.TvaluesGap'. -/
def tvaluesGapUptoCard : Claim7 := { stood := { row := tvaluesGapUptoRow, standIns := [], harness := (true, "a42d7f19597a0b64c1812f3a6496091c427e7d4e7104c0783ff8b5aea7c699a0"), looks := true }, kinds := [], alts := [], laidByText := true, laidKinds := [.data, .data, .data, .data, .sentinel, .sentinel, .data, .pinned, .pinned], laidTests := true, laidLooks := .later }
def TvaluesGapUptoCardSaid : Prop := Claim7.holds Tryz.pinned (.plain (OpenSpec.upto tvaluesGapSpec)) tvaluesGapUptoCard

/-- THE SECOND FORM's CARD OF 'inarchlaw11.TvaluesDeep'. -/
def tvaluesDeepUptoCard : Claim7 := { stood := { row := tvaluesDeepUptoRow, standIns := [], harness := (true, "a42d7f19597a0b64c1812f3a6496091c427e7d4e7104c0783ff8b5aea7c699a0"), looks := true }, kinds := [], alts := [], laidByText := true, laidKinds := [.data, .data, .data, .data, .sentinel, .sentinel, .data, .pinned, .pinned], laidTests := true, laidLooks := .later }
def TvaluesDeepUptoCardSaid : Prop := Claim7.holds Tryz.pinned (.plain (OpenSpec.upto tvaluesDeepSpec)) tvaluesDeepUptoCard
end Rows
end Go.Proofs.YtkcnbhenhmmfgaaGreatDoor
