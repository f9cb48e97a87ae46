/-
  DERIVED. GIVEN WITH THE SEED: THE CARDS: each row of YteahiolockghkaaGreatDoorRows.lean that lists a variable, with what it lists TIED to the program's text (the seventh form; the later family's looks); each row that meets fmt, with fmt's text TOLD by the authors' own Lean function (tested against real Go, not proved from fmt's source: count such statements apart). THE CARD IS WHAT COUNTS. Prove the row's statement (the work); the ties are given (YteahiolockghkaaGreatDoorTie.lean); close each card by the builder's one call (the guide's Derived/Test/ToyasCard.lean, 'card_holds'). Laid BY PROGRAM, IN A SANDBOX (cutbox-door.mjs). By AI agents, Wed Nov 11 2026. No macro, syntax, notation, axiom, sorry.
-/
import Derived.Test.YteahiolockghkaaGreatDoorRows
import GoSem.ClaimSeven
namespace Go.Proofs.YteahiolockghkaaGreatDoor
namespace Rows

/-- THE TIED CARD OF 'gamehalllaw3.HandicapLevels'. -/
def handicapLevelsCard : Claim7 := { stood := { row := handicapLevelsRow, standIns := [], harness := (true, "275bab47fa4c53edd9baba7ca302b6d964045a304d1253a1544b80754aa33a2a"), looks := true }, kinds := [], alts := [], laidByText := true, laidKinds := [.data, .data, .data, .data, .sentinel, .sentinel, .pinned], laidTests := true, laidLooks := .later }
def HandicapLevelsCardSaid : Prop := Claim7.holds Tryz.pinned (.plain (OpenSpec.ofChange handicapLevelsSpec)) handicapLevelsCard

/-- THE SECOND FORM's CARD OF 'gamehalllaw3.HandicapLevels'. -/
def handicapLevelsUptoCard : Claim7 := { stood := { row := handicapLevelsUptoRow, standIns := [], harness := (true, "275bab47fa4c53edd9baba7ca302b6d964045a304d1253a1544b80754aa33a2a"), looks := true }, kinds := [], alts := [], laidByText := true, laidKinds := [.data, .data, .data, .data, .sentinel, .sentinel, .pinned], laidTests := true, laidLooks := .later }
def HandicapLevelsUptoCardSaid : Prop := Claim7.holds Tryz.pinned (.plain (OpenSpec.upto handicapLevelsSpec)) handicapLevelsUptoCard
end Rows
end Go.Proofs.YteahiolockghkaaGreatDoor
