/-
  DERIVED. GIVEN WITH THE SEED: THE CARDS: each row of YteiohidcgimjlaaGreatDoorRows.lean that lists a variable, with what it lists TIED to the program's text (the seventh form; the later family's looks); each row that meets fmt, with fmt's text TOLD by the authors' own Lean function (tested against real Go, not proved from fmt's source: count such statements apart). THE CARD IS WHAT COUNTS. Prove the row's statement (the work); the ties are given (YteiohidcgimjlaaGreatDoorTie.lean); close each card by the builder's one call (the guide's Derived/Test/ToyasCard.lean, 'card_holds'). Laid BY PROGRAM, IN A SANDBOX (cutbox-door.mjs). By AI agents, Wed Nov 11 2026. No macro, syntax, notation, axiom, sorry.
-/
import Derived.Test.YteiohidcgimjlaaGreatDoorRows
import GoSem.ClaimSeven
namespace Go.Proofs.YteiohidcgimjlaaGreatDoor
namespace Rows

/-- THE TIED CARD OF 'gamehalllaw3.MovetextLines'. -/
def movetextLinesCard : Claim7 := { stood := { row := movetextLinesRow, standIns := [], harness := (true, "3c2fa218cf9f33a1e706dd0e3d817a9aee98bfeef7a4e86c08cef7ff7b167c33"), looks := true }, kinds := [], alts := [], laidByText := true, laidKinds := [.data, .pinned], laidTests := true, laidLooks := .later }
def MovetextLinesCardSaid : Prop := Claim7.holds Tryz.pinned (.plain (OpenSpec.ofChange movetextLinesSpec)) movetextLinesCard

/-- THE TIED CARD OF 'gamehalllaw3.RecordWrites'. -/
def recordWritesCard : Claim7 := { stood := { row := recordWritesRow, standIns := [], harness := (true, "3c2fa218cf9f33a1e706dd0e3d817a9aee98bfeef7a4e86c08cef7ff7b167c33"), looks := true }, kinds := [], alts := [], laidByText := true, laidKinds := [.data, .pinned], laidTests := true, laidLooks := .later }
def RecordWritesCardSaid : Prop := Claim7.holds Tryz.pinned (.plain (OpenSpec.ofChange recordWritesSpec)) recordWritesCard

/-- THE SECOND FORM's CARD OF 'gamehalllaw3.MovetextLines'. -/
def movetextLinesUptoCard : Claim7 := { stood := { row := movetextLinesUptoRow, standIns := [], harness := (true, "3c2fa218cf9f33a1e706dd0e3d817a9aee98bfeef7a4e86c08cef7ff7b167c33"), looks := true }, kinds := [], alts := [], laidByText := true, laidKinds := [.data, .pinned], laidTests := true, laidLooks := .later }
def MovetextLinesUptoCardSaid : Prop := Claim7.holds Tryz.pinned (.plain (OpenSpec.upto movetextLinesSpec)) movetextLinesUptoCard

/-- THE SECOND FORM's CARD OF 'gamehalllaw3.RecordWrites'. -/
def recordWritesUptoCard : Claim7 := { stood := { row := recordWritesUptoRow, standIns := [], harness := (true, "3c2fa218cf9f33a1e706dd0e3d817a9aee98bfeef7a4e86c08cef7ff7b167c33"), looks := true }, kinds := [], alts := [], laidByText := true, laidKinds := [.data, .pinned], laidTests := true, laidLooks := .later }
def RecordWritesUptoCardSaid : Prop := Claim7.holds Tryz.pinned (.plain (OpenSpec.upto recordWritesSpec)) recordWritesUptoCard
end Rows
end Go.Proofs.YteiohidcgimjlaaGreatDoor
