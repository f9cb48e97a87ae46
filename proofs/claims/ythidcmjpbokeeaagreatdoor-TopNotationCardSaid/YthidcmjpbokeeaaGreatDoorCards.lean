/-
  DERIVED. GIVEN WITH THE SEED: THE CARDS: each row of YthidcmjpbokeeaaGreatDoorRows.lean that lists a variable, with what it lists TIED to the program's text (the seventh form; the later family's looks); each row that meets fmt, with fmt's text TOLD by the authors' own Lean function (tested against real Go, not proved from fmt's source: count such statements apart). THE CARD IS WHAT COUNTS. Prove the row's statement (the work); the ties are given (YthidcmjpbokeeaaGreatDoorTie.lean); close each card by the builder's one call (the guide's Derived/Test/ToyasCard.lean, 'card_holds'). Laid BY PROGRAM, IN A SANDBOX (cutbox-door.mjs). By AI agents, Wed Nov 11 2026. No macro, syntax, notation, axiom, sorry.
-/
import Derived.Test.YthidcmjpbokeeaaGreatDoorRows
import GoSem.ClaimSeven
namespace Go.Proofs.YthidcmjpbokeeaaGreatDoor
namespace Rows

/-- THE TIED CARD OF 'gamehalllaw3.RecordWrites'. -/
def recordWritesCard : Claim7 := { stood := { row := recordWritesRow, standIns := [], harness := (true, "661286c6c5c7236731c3f2a72e05982be2c2203a166809312822d2cbe54bbe03"), looks := true }, kinds := [], alts := [], laidByText := true, laidKinds := [.data, .pinned], laidTests := true, laidLooks := .later }
def RecordWritesCardSaid : Prop := Claim7.holds Tryz.pinned (.plain (OpenSpec.ofChange recordWritesSpec)) recordWritesCard

/-- THE TIED CARD OF 'gamehalltop.TopNotation'. -/
def topNotationCard : Claim7 := { stood := { row := topNotationRow, standIns := [], harness := (true, "661286c6c5c7236731c3f2a72e05982be2c2203a166809312822d2cbe54bbe03"), looks := true }, kinds := [], alts := [], laidByText := true, laidKinds := [.data, .data, .data, .data, .pinned], laidTests := true, laidLooks := .later }
def TopNotationCardSaid : Prop := Claim7.holds Tryz.pinned (.plain (OpenSpec.ofChange topNotationSpec)) topNotationCard

/-- THE SECOND FORM's CARD OF 'gamehalllaw3.RecordWrites'. -/
def recordWritesUptoCard : Claim7 := { stood := { row := recordWritesUptoRow, standIns := [], harness := (true, "661286c6c5c7236731c3f2a72e05982be2c2203a166809312822d2cbe54bbe03"), looks := true }, kinds := [], alts := [], laidByText := true, laidKinds := [.data, .pinned], laidTests := true, laidLooks := .later }
def RecordWritesUptoCardSaid : Prop := Claim7.holds Tryz.pinned (.plain (OpenSpec.upto recordWritesSpec)) recordWritesUptoCard

/-- THE SECOND FORM's CARD OF 'gamehalltop.TopNotation'. -/
def topNotationUptoCard : Claim7 := { stood := { row := topNotationUptoRow, standIns := [], harness := (true, "661286c6c5c7236731c3f2a72e05982be2c2203a166809312822d2cbe54bbe03"), looks := true }, kinds := [], alts := [], laidByText := true, laidKinds := [.data, .data, .data, .data, .pinned], laidTests := true, laidLooks := .later }
def TopNotationUptoCardSaid : Prop := Claim7.holds Tryz.pinned (.plain (OpenSpec.upto topNotationSpec)) topNotationUptoCard
end Rows
end Go.Proofs.YthidcmjpbokeeaaGreatDoor
