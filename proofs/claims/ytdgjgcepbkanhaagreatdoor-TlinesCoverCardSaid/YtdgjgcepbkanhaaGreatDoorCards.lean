/-
  DERIVED. GIVEN WITH THE SEED: THE CARDS: each row of YtdgjgcepbkanhaaGreatDoorRows.lean that lists a variable, with what it lists TIED to the program's text (the seventh form; the later family's looks); each row that meets fmt, with fmt's text TOLD by the authors' own Lean function (tested against real Go, not proved from fmt's source: count such statements apart). THE CARD IS WHAT COUNTS. Prove the row's statement (the work); the ties are given (YtdgjgcepbkanhaaGreatDoorTie.lean); close each card by the builder's one call (the guide's Derived/Test/ToyasCard.lean, 'card_holds'). Laid BY PROGRAM, IN A SANDBOX (cutbox-door.mjs). By AI agents, Wed Nov 11 2026. No macro, syntax, notation, axiom, sorry.
-/
import Derived.Test.YtdgjgcepbkanhaaGreatDoorRows
import GoSem.ClaimSeven
namespace Go.Proofs.YtdgjgcepbkanhaaGreatDoor
namespace Rows

/-- THE TIED CARD OF 'inarchlaw11.TvaluesParts'. -/
def tvaluesPartsCard : Claim7 := { stood := { row := tvaluesPartsRow, standIns := [], harness := (true, "48b95051782ecfbdc715ffae102c797838c24677b34f7c8eb25d44bc3eb9656e"), looks := true }, kinds := [], alts := [], laidByText := true, laidKinds := [.data, .data, .data, .data, .sentinel, .sentinel, .data, .data, .pinned, .pinned], laidTests := true, laidLooks := .later }
def TvaluesPartsCardSaid : Prop := Claim7.holds Tryz.pinned (.plain (OpenSpec.ofChange tvaluesPartsSpec)) tvaluesPartsCard

/-- THE TIED CARD OF 'inarchlaw12.TlinesCover'. -/
def tlinesCoverCard : Claim7 := { stood := { row := tlinesCoverRow, standIns := [], harness := (true, "48b95051782ecfbdc715ffae102c797838c24677b34f7c8eb25d44bc3eb9656e"), looks := true }, kinds := [], alts := [], laidByText := true, laidKinds := [.data, .data, .data, .data, .sentinel, .sentinel, .data, .pinned, .pinned], laidTests := true, laidLooks := .later }
def TlinesCoverCardSaid : Prop := Claim7.holds Tryz.pinned (.plain (OpenSpec.ofChange tlinesCoverSpec)) tlinesCoverCard

/-- THE TIED CARD OF 'inarchlaw12.TlinesJoin'. -/
def tlinesJoinCard : Claim7 := { stood := { row := tlinesJoinRow, standIns := [], harness := (true, "48b95051782ecfbdc715ffae102c797838c24677b34f7c8eb25d44bc3eb9656e"), looks := true }, kinds := [], alts := [], laidByText := true, laidKinds := [.data, .data, .data, .data, .sentinel, .sentinel, .data, .pinned, .pinned], laidTests := true, laidLooks := .later }
def TlinesJoinCardSaid : Prop := Claim7.holds Tryz.pinned (.plain (OpenSpec.ofChange tlinesJoinSpec)) tlinesJoinCard

/-- THE TIED CARD OF 'inarchlaw11.TvaluesPlain'. -/
def tvaluesPlainCard : Claim7 := { stood := { row := tvaluesPlainRow, standIns := [], harness := (true, "48b95051782ecfbdc715ffae102c797838c24677b34f7c8eb25d44bc3eb9656e"), looks := true }, kinds := [], alts := [], laidByText := true, laidKinds := [.data, .data, .data, .data, .sentinel, .sentinel, .data, .data, .pinned, .pinned], laidTests := true, laidLooks := .later }
def TvaluesPlainCardSaid : Prop := Claim7.holds Tryz.pinned (.plain (OpenSpec.ofChange tvaluesPlainSpec)) tvaluesPlainCard

/-- THE TIED CARD OF 'inarchlaw12.TlinesMade'. -/
def tlinesMadeCard : Claim7 := { stood := { row := tlinesMadeRow, standIns := [], harness := (true, "48b95051782ecfbdc715ffae102c797838c24677b34f7c8eb25d44bc3eb9656e"), looks := true }, kinds := [], alts := [], laidByText := true, laidKinds := [.data, .data, .data, .data, .sentinel, .sentinel, .data, .data, .pinned, .pinned], laidTests := true, laidLooks := .later }
def TlinesMadeCardSaid : Prop := Claim7.holds Tryz.pinned (.plain (OpenSpec.ofChange tlinesMadeSpec)) tlinesMadeCard

/-- THE SECOND FORM's CARD OF 'inarchlaw11.TvaluesParts'. -/
def tvaluesPartsUptoCard : Claim7 := { stood := { row := tvaluesPartsUptoRow, standIns := [], harness := (true, "48b95051782ecfbdc715ffae102c797838c24677b34f7c8eb25d44bc3eb9656e"), looks := true }, kinds := [], alts := [], laidByText := true, laidKinds := [.data, .data, .data, .data, .sentinel, .sentinel, .data, .data, .pinned, .pinned], laidTests := true, laidLooks := .later }
def TvaluesPartsUptoCardSaid : Prop := Claim7.holds Tryz.pinned (.plain (OpenSpec.upto tvaluesPartsSpec)) tvaluesPartsUptoCard

/-- THE SECOND FORM's CARD OF 'inarchlaw12.TlinesCover'. -/
def tlinesCoverUptoCard : Claim7 := { stood := { row := tlinesCoverUptoRow, standIns := [], harness := (true, "48b95051782ecfbdc715ffae102c797838c24677b34f7c8eb25d44bc3eb9656e"), looks := true }, kinds := [], alts := [], laidByText := true, laidKinds := [.data, .data, .data, .data, .sentinel, .sentinel, .data, .pinned, .pinned], laidTests := true, laidLooks := .later }
def TlinesCoverUptoCardSaid : Prop := Claim7.holds Tryz.pinned (.plain (OpenSpec.upto tlinesCoverSpec)) tlinesCoverUptoCard

/-- THE SECOND FORM's CARD OF 'inarchlaw12.TlinesJoin'. -/
def tlinesJoinUptoCard : Claim7 := { stood := { row := tlinesJoinUptoRow, standIns := [], harness := (true, "48b95051782ecfbdc715ffae102c797838c24677b34f7c8eb25d44bc3eb9656e"), looks := true }, kinds := [], alts := [], laidByText := true, laidKinds := [.data, .data, .data, .data, .sentinel, .sentinel, .data, .pinned, .pinned], laidTests := true, laidLooks := .later }
def TlinesJoinUptoCardSaid : Prop := Claim7.holds Tryz.pinned (.plain (OpenSpec.upto tlinesJoinSpec)) tlinesJoinUptoCard

/-- THE SECOND FORM's CARD OF 'inarchlaw11.TvaluesPlain'. -/
def tvaluesPlainUptoCard : Claim7 := { stood := { row := tvaluesPlainUptoRow, standIns := [], harness := (true, "48b95051782ecfbdc715ffae102c797838c24677b34f7c8eb25d44bc3eb9656e"), looks := true }, kinds := [], alts := [], laidByText := true, laidKinds := [.data, .data, .data, .data, .sentinel, .sentinel, .data, .data, .pinned, .pinned], laidTests := true, laidLooks := .later }
def TvaluesPlainUptoCardSaid : Prop := Claim7.holds Tryz.pinned (.plain (OpenSpec.upto tvaluesPlainSpec)) tvaluesPlainUptoCard

/-- THE SECOND FORM's CARD OF 'inarchlaw12.TlinesMade'. -/
def tlinesMadeUptoCard : Claim7 := { stood := { row := tlinesMadeUptoRow, standIns := [], harness := (true, "48b95051782ecfbdc715ffae102c797838c24677b34f7c8eb25d44bc3eb9656e"), looks := true }, kinds := [], alts := [], laidByText := true, laidKinds := [.data, .data, .data, .data, .sentinel, .sentinel, .data, .data, .pinned, .pinned], laidTests := true, laidLooks := .later }
def TlinesMadeUptoCardSaid : Prop := Claim7.holds Tryz.pinned (.plain (OpenSpec.upto tlinesMadeSpec)) tlinesMadeUptoCard
end Rows
end Go.Proofs.YtdgjgcepbkanhaaGreatDoor
