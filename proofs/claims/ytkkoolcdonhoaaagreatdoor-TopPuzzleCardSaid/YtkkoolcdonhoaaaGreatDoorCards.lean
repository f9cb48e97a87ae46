/-
  DERIVED. GIVEN WITH THE SEED: THE CARDS: each row of YtkkoolcdonhoaaaGreatDoorRows.lean that lists a variable, with what it lists TIED to the program's text (the seventh form; the later family's looks); each row that meets fmt, with fmt's text TOLD by the authors' own Lean function (tested against real Go, not proved from fmt's source: count such statements apart). THE CARD IS WHAT COUNTS. Prove the row's statement (the work); the ties are given (YtkkoolcdonhoaaaGreatDoorTie.lean); close each card by the builder's one call (the guide's Derived/Test/ToyasCard.lean, 'card_holds'). Laid BY PROGRAM, IN A SANDBOX (cutbox-door.mjs). By AI agents, Wed Nov 11 2026. No macro, syntax, notation, axiom, sorry.
-/
import Derived.Test.YtkkoolcdonhoaaaGreatDoorRows
import GoSem.ClaimSeven
namespace Go.Proofs.YtkkoolcdonhoaaaGreatDoor
namespace Rows

/-- THE TIED CARD OF 'gamehalltop.TopPuzzle'. -/
def topPuzzleCard : Claim7 := { stood := { row := topPuzzleRow, standIns := [], harness := (true, "6562bd0685f35689f5eb49fa5e3de3e95a4b067facb1c0b4f008d5d16095808b"), looks := false }, kinds := [], alts := [], laidByText := true, laidKinds := [.data, .data, .data], laidTests := true, laidLooks := .later }
def TopPuzzleCardSaid : Prop := Claim7.holds Tryz.pinned (.plain (OpenSpec.ofChange topPuzzleSpec)) topPuzzleCard

/-- THE SECOND FORM's CARD OF 'gamehalltop.TopPuzzle'. -/
def topPuzzleUptoCard : Claim7 := { stood := { row := topPuzzleUptoRow, standIns := [], harness := (true, "6562bd0685f35689f5eb49fa5e3de3e95a4b067facb1c0b4f008d5d16095808b"), looks := false }, kinds := [], alts := [], laidByText := true, laidKinds := [.data, .data, .data], laidTests := true, laidLooks := .later }
def TopPuzzleUptoCardSaid : Prop := Claim7.holds Tryz.pinned (.plain (OpenSpec.upto topPuzzleSpec)) topPuzzleUptoCard
end Rows
end Go.Proofs.YtkkoolcdonhoaaaGreatDoor
