/-
  DERIVED. GIVEN WITH THE SEED: THE CARDS: each row of YtlfpfiplndkofaaDoorRows.lean that lists a variable, with what it lists TIED to the program's text (the seventh form; the later family's looks); each row that meets fmt, with fmt's text TOLD by the authors' own Lean function (tested against real Go, not proved from fmt's source: count such statements apart). THE CARD IS WHAT COUNTS. Prove the row's statement (the work); the ties are given (YtlfpfiplndkofaaDoorTie.lean); close each card by the builder's one call (the guide's Derived/Test/ToyasCard.lean, 'card_holds'). Laid BY PROGRAM, IN A SANDBOX (cutbox-door.mjs). By AI agents, Wed Nov 11 2026. No macro, syntax, notation, axiom, sorry.
-/
import Derived.Test.YtlfpfiplndkofaaDoorRows
import GoSem.ClaimSeven
namespace Go.Proofs.YtlfpfiplndkofaaDoor
namespace Rows

/-- THE TIED CARD OF 'gamehalllaw3.JournalSays'. -/
def journalSaysCard : Claim7 := { stood := { row := journalSaysRow, standIns := [], harness := (true, "22d6321e95f4cb2ff62dd603f32fdea21bb3a1d9b550276fe97f07bafde72360"), looks := true }, kinds := [], alts := [], laidByText := true, laidKinds := [.data, .data, .data, .data, .sentinel, .sentinel, .pinned], laidTests := true, laidLooks := .later }
def JournalSaysCardSaid : Prop := Claim7.holds Tryd.pinned (.plain (OpenSpec.ofChange journalSaysSpec)) journalSaysCard

/-- THE SECOND FORM's CARD OF 'gamehalllaw3.JournalSays'. -/
def journalSaysUptoCard : Claim7 := { stood := { row := journalSaysUptoRow, standIns := [], harness := (true, "22d6321e95f4cb2ff62dd603f32fdea21bb3a1d9b550276fe97f07bafde72360"), looks := true }, kinds := [], alts := [], laidByText := true, laidKinds := [.data, .data, .data, .data, .sentinel, .sentinel, .pinned], laidTests := true, laidLooks := .later }
def JournalSaysUptoCardSaid : Prop := Claim7.holds Tryd.pinned (.plain (OpenSpec.upto journalSaysSpec)) journalSaysUptoCard
end Rows
end Go.Proofs.YtlfpfiplndkofaaDoor
