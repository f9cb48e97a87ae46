/-
  DERIVED. GIVEN WITH THE SEED: THE CARDS: each row of YtjikbbjjnndcbaaDoorRows.lean that lists a variable, with what it lists TIED to the program's text (the seventh form; the later family's looks); each row that meets fmt, with fmt's text TOLD by the authors' own Lean function (tested against real Go, not proved from fmt's source: count such statements apart). THE CARD IS WHAT COUNTS. Prove the row's statement (the work); the ties are given (YtjikbbjjnndcbaaDoorTie.lean); close each card by the builder's one call (the guide's Derived/Test/ToyasCard.lean, 'card_holds'). Laid BY PROGRAM, IN A SANDBOX (cutbox-door.mjs). By AI agents, Wed Nov 11 2026. No macro, syntax, notation, axiom, sorry.
-/
import Derived.Test.YtjikbbjjnndcbaaDoorRows
import GoSem.ClaimSeven
namespace Go.Proofs.YtjikbbjjnndcbaaDoor
namespace Rows

/-- THE TIED CARD OF 'gamehalllaw1.BitsShifts'. -/
def bitsShiftsCard : Claim7 := { stood := { row := bitsShiftsRow, standIns := [], harness := (true, "3dd7002498a80515124eae62cea5e9f52e99ea7ef61b61d386da1369949c3c97"), looks := true }, kinds := [], alts := [], laidByText := true, laidKinds := [.data], laidTests := true, laidLooks := .later }
def BitsShiftsCardSaid : Prop := Claim7.holds Tryd.pinned (.plain (OpenSpec.ofChange bitsShiftsSpec)) bitsShiftsCard

/-- THE TIED CARD OF 'gamehalllaw1.BitsSets'. -/
def bitsSetsCard : Claim7 := { stood := { row := bitsSetsRow, standIns := [], harness := (true, "3dd7002498a80515124eae62cea5e9f52e99ea7ef61b61d386da1369949c3c97"), looks := true }, kinds := [], alts := [], laidByText := true, laidKinds := [.data], laidTests := true, laidLooks := .later }
def BitsSetsCardSaid : Prop := Claim7.holds Tryd.pinned (.plain (OpenSpec.ofChange bitsSetsSpec)) bitsSetsCard

/-- THE TIED CARD OF 'gamehalllaw1.RuletextPrints'. -/
def ruletextPrintsCard : Claim7 := { stood := { row := ruletextPrintsRow, standIns := [], harness := (true, "3dd7002498a80515124eae62cea5e9f52e99ea7ef61b61d386da1369949c3c97"), looks := true }, kinds := [], alts := [], laidByText := true, laidKinds := [.data, .data, .data], laidTests := true, laidLooks := .later }
def RuletextPrintsCardSaid : Prop := Claim7.holds Tryd.pinned (.plain (OpenSpec.ofChange ruletextPrintsSpec)) ruletextPrintsCard

/-- THE TIED CARD OF 'gamehalllaw1.PlaceChecks'. -/
def placeChecksCard : Claim7 := { stood := { row := placeChecksRow, standIns := [], harness := (true, "3dd7002498a80515124eae62cea5e9f52e99ea7ef61b61d386da1369949c3c97"), looks := true }, kinds := [], alts := [], laidByText := true, laidKinds := [.data, .data, .data], laidTests := true, laidLooks := .later }
def PlaceChecksCardSaid : Prop := Claim7.holds Tryd.pinned (.plain (OpenSpec.ofChange placeChecksSpec)) placeChecksCard

/-- THE TIED CARD OF 'gamehalllaw3.JournalSays'. -/
def journalSaysCard : Claim7 := { stood := { row := journalSaysRow, standIns := [], harness := (true, "3dd7002498a80515124eae62cea5e9f52e99ea7ef61b61d386da1369949c3c97"), looks := true }, kinds := [], alts := [], laidByText := true, laidKinds := [.data, .data, .data, .data, .sentinel, .sentinel, .pinned], laidTests := true, laidLooks := .later }
def JournalSaysCardSaid : Prop := Claim7.holds Tryd.pinned (.plain (OpenSpec.ofChange journalSaysSpec)) journalSaysCard

/-- THE SECOND FORM's CARD OF 'gamehalllaw1.BitsShifts'. -/
def bitsShiftsUptoCard : Claim7 := { stood := { row := bitsShiftsUptoRow, standIns := [], harness := (true, "3dd7002498a80515124eae62cea5e9f52e99ea7ef61b61d386da1369949c3c97"), looks := true }, kinds := [], alts := [], laidByText := true, laidKinds := [.data], laidTests := true, laidLooks := .later }
def BitsShiftsUptoCardSaid : Prop := Claim7.holds Tryd.pinned (.plain (OpenSpec.upto bitsShiftsSpec)) bitsShiftsUptoCard

/-- THE SECOND FORM's CARD OF 'gamehalllaw1.BitsSets'. -/
def bitsSetsUptoCard : Claim7 := { stood := { row := bitsSetsUptoRow, standIns := [], harness := (true, "3dd7002498a80515124eae62cea5e9f52e99ea7ef61b61d386da1369949c3c97"), looks := true }, kinds := [], alts := [], laidByText := true, laidKinds := [.data], laidTests := true, laidLooks := .later }
def BitsSetsUptoCardSaid : Prop := Claim7.holds Tryd.pinned (.plain (OpenSpec.upto bitsSetsSpec)) bitsSetsUptoCard

/-- THE SECOND FORM's CARD OF 'gamehalllaw1.RuletextPrints'. -/
def ruletextPrintsUptoCard : Claim7 := { stood := { row := ruletextPrintsUptoRow, standIns := [], harness := (true, "3dd7002498a80515124eae62cea5e9f52e99ea7ef61b61d386da1369949c3c97"), looks := true }, kinds := [], alts := [], laidByText := true, laidKinds := [.data, .data, .data], laidTests := true, laidLooks := .later }
def RuletextPrintsUptoCardSaid : Prop := Claim7.holds Tryd.pinned (.plain (OpenSpec.upto ruletextPrintsSpec)) ruletextPrintsUptoCard

/-- THE SECOND FORM's CARD OF 'gamehalllaw1.PlaceChecks'. -/
def placeChecksUptoCard : Claim7 := { stood := { row := placeChecksUptoRow, standIns := [], harness := (true, "3dd7002498a80515124eae62cea5e9f52e99ea7ef61b61d386da1369949c3c97"), looks := true }, kinds := [], alts := [], laidByText := true, laidKinds := [.data, .data, .data], laidTests := true, laidLooks := .later }
def PlaceChecksUptoCardSaid : Prop := Claim7.holds Tryd.pinned (.plain (OpenSpec.upto placeChecksSpec)) placeChecksUptoCard

/-- THE SECOND FORM's CARD OF 'gamehalllaw3.JournalSays'. -/
def journalSaysUptoCard : Claim7 := { stood := { row := journalSaysUptoRow, standIns := [], harness := (true, "3dd7002498a80515124eae62cea5e9f52e99ea7ef61b61d386da1369949c3c97"), looks := true }, kinds := [], alts := [], laidByText := true, laidKinds := [.data, .data, .data, .data, .sentinel, .sentinel, .pinned], laidTests := true, laidLooks := .later }
def JournalSaysUptoCardSaid : Prop := Claim7.holds Tryd.pinned (.plain (OpenSpec.upto journalSaysSpec)) journalSaysUptoCard
end Rows
end Go.Proofs.YtjikbbjjnndcbaaDoor
