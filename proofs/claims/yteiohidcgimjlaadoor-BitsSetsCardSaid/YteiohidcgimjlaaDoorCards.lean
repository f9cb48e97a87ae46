/-
  DERIVED. GIVEN WITH THE SEED: THE CARDS: each row of YteiohidcgimjlaaDoorRows.lean that lists a variable, with what it lists TIED to the program's text (the seventh form; the later family's looks); each row that meets fmt, with fmt's text TOLD by the authors' own Lean function (tested against real Go, not proved from fmt's source: count such statements apart). THE CARD IS WHAT COUNTS. Prove the row's statement (the work); the ties are given (YteiohidcgimjlaaDoorTie.lean); close each card by the builder's one call (the guide's Derived/Test/ToyasCard.lean, 'card_holds'). Laid BY PROGRAM, IN A SANDBOX (cutbox-door.mjs). By AI agents, Wed Nov 11 2026. No macro, syntax, notation, axiom, sorry.
-/
import Derived.Test.YteiohidcgimjlaaDoorRows
import GoSem.ClaimSeven
namespace Go.Proofs.YteiohidcgimjlaaDoor
namespace Rows

/-- THE TIED CARD OF 'gamehalllaw1.BitsShifts'. -/
def bitsShiftsCard : Claim7 := { stood := { row := bitsShiftsRow, standIns := [], harness := (true, "e3834542a3f439f19f19d53d13175c04e743115ba10fc01c93e329823c33ff6e"), looks := true }, kinds := [], alts := [], laidByText := true, laidKinds := [.data], laidTests := true, laidLooks := .later }
def BitsShiftsCardSaid : Prop := Claim7.holds Tryd.pinned (.plain (OpenSpec.ofChange bitsShiftsSpec)) bitsShiftsCard

/-- THE TIED CARD OF 'gamehalllaw1.BitsSets'. -/
def bitsSetsCard : Claim7 := { stood := { row := bitsSetsRow, standIns := [], harness := (true, "e3834542a3f439f19f19d53d13175c04e743115ba10fc01c93e329823c33ff6e"), looks := true }, kinds := [], alts := [], laidByText := true, laidKinds := [.data], laidTests := true, laidLooks := .later }
def BitsSetsCardSaid : Prop := Claim7.holds Tryd.pinned (.plain (OpenSpec.ofChange bitsSetsSpec)) bitsSetsCard

/-- THE TIED CARD OF 'gamehalllaw3.JournalSays'. -/
def journalSaysCard : Claim7 := { stood := { row := journalSaysRow, standIns := [], harness := (true, "e3834542a3f439f19f19d53d13175c04e743115ba10fc01c93e329823c33ff6e"), looks := true }, kinds := [], alts := [], laidByText := true, laidKinds := [.data, .data, .data, .data, .sentinel, .sentinel, .pinned], laidTests := true, laidLooks := .later }
def JournalSaysCardSaid : Prop := Claim7.holds Tryd.pinned (.plain (OpenSpec.ofChange journalSaysSpec)) journalSaysCard

/-- THE SECOND FORM's CARD OF 'gamehalllaw1.BitsShifts'. -/
def bitsShiftsUptoCard : Claim7 := { stood := { row := bitsShiftsUptoRow, standIns := [], harness := (true, "e3834542a3f439f19f19d53d13175c04e743115ba10fc01c93e329823c33ff6e"), looks := true }, kinds := [], alts := [], laidByText := true, laidKinds := [.data], laidTests := true, laidLooks := .later }
def BitsShiftsUptoCardSaid : Prop := Claim7.holds Tryd.pinned (.plain (OpenSpec.upto bitsShiftsSpec)) bitsShiftsUptoCard

/-- THE SECOND FORM's CARD OF 'gamehalllaw1.BitsSets'. -/
def bitsSetsUptoCard : Claim7 := { stood := { row := bitsSetsUptoRow, standIns := [], harness := (true, "e3834542a3f439f19f19d53d13175c04e743115ba10fc01c93e329823c33ff6e"), looks := true }, kinds := [], alts := [], laidByText := true, laidKinds := [.data], laidTests := true, laidLooks := .later }
def BitsSetsUptoCardSaid : Prop := Claim7.holds Tryd.pinned (.plain (OpenSpec.upto bitsSetsSpec)) bitsSetsUptoCard

/-- THE SECOND FORM's CARD OF 'gamehalllaw3.JournalSays'. -/
def journalSaysUptoCard : Claim7 := { stood := { row := journalSaysUptoRow, standIns := [], harness := (true, "e3834542a3f439f19f19d53d13175c04e743115ba10fc01c93e329823c33ff6e"), looks := true }, kinds := [], alts := [], laidByText := true, laidKinds := [.data, .data, .data, .data, .sentinel, .sentinel, .pinned], laidTests := true, laidLooks := .later }
def JournalSaysUptoCardSaid : Prop := Claim7.holds Tryd.pinned (.plain (OpenSpec.upto journalSaysSpec)) journalSaysUptoCard
end Rows
end Go.Proofs.YteiohidcgimjlaaDoor
