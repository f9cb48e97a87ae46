/-
  DERIVED. GIVEN WITH THE SEED: THE CARDS: each row of YtlfpfiplndkofaaGreatDoorRows.lean that lists a variable, with what it lists TIED to the program's text (the seventh form; the later family's looks); each row that meets fmt, with fmt's text TOLD by the authors' own Lean function (tested against real Go, not proved from fmt's source: count such statements apart). THE CARD IS WHAT COUNTS. Prove the row's statement (the work); the ties are given (YtlfpfiplndkofaaGreatDoorTie.lean); close each card by the builder's one call (the guide's Derived/Test/ToyasCard.lean, 'card_holds'). Laid BY PROGRAM, IN A SANDBOX (cutbox-door.mjs). By AI agents, Wed Nov 11 2026. No macro, syntax, notation, axiom, sorry.
-/
import Derived.Test.YtlfpfiplndkofaaGreatDoorRows
import GoSem.ClaimSeven
namespace Go.Proofs.YtlfpfiplndkofaaGreatDoor
namespace Rows

/-- THE TIED CARD OF 'gamehalltop.TopJournal'. -/
def topJournalCard : Claim7 := { stood := { row := topJournalRow, standIns := [], harness := (true, "2fcf7cfad58648a270fd62d6fa0d28065b5d9130e4b67740ffcfa086291bda98"), looks := true }, kinds := [], alts := [], laidByText := true, laidKinds := [.data, .data, .data, .data, .sentinel, .sentinel, .pinned], laidTests := true, laidLooks := .later }
def TopJournalCardSaid : Prop := Claim7.holds Tryz.pinned (.plain (OpenSpec.ofChange topJournalSpec)) topJournalCard

/-- THE SECOND FORM's CARD OF 'gamehalltop.TopJournal'. -/
def topJournalUptoCard : Claim7 := { stood := { row := topJournalUptoRow, standIns := [], harness := (true, "2fcf7cfad58648a270fd62d6fa0d28065b5d9130e4b67740ffcfa086291bda98"), looks := true }, kinds := [], alts := [], laidByText := true, laidKinds := [.data, .data, .data, .data, .sentinel, .sentinel, .pinned], laidTests := true, laidLooks := .later }
def TopJournalUptoCardSaid : Prop := Claim7.holds Tryz.pinned (.plain (OpenSpec.upto topJournalSpec)) topJournalUptoCard
end Rows
end Go.Proofs.YtlfpfiplndkofaaGreatDoor
