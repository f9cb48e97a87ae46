/-
  DERIVED. GIVEN WITH THE SEED: THE CARDS: each row of YtijkabgijfdpfaaGreatDoorRows.lean that lists a variable, with what it lists TIED to the program's text (the seventh form; the later family's looks); each row that meets fmt, with fmt's text TOLD by the authors' own Lean function (tested against real Go, not proved from fmt's source: count such statements apart). THE CARD IS WHAT COUNTS. Prove the row's statement (the work); the ties are given (YtijkabgijfdpfaaGreatDoorTie.lean); close each card by the builder's one call (the guide's Derived/Test/ToyasCard.lean, 'card_holds'). Laid BY PROGRAM, IN A SANDBOX (cutbox-door.mjs). By AI agents, Wed Nov 11 2026. No macro, syntax, notation, axiom, sorry.
-/
import Derived.Test.YtijkabgijfdpfaaGreatDoorRows
import GoSem.ClaimSeven
namespace Go.Proofs.YtijkabgijfdpfaaGreatDoor
namespace Rows

/-- THE TIED CARD OF 'gamehalltop.TopClocks'. -/
def topClocksCard : Claim7 := { stood := { row := topClocksRow, standIns := [], harness := (true, "535665d62d723a07157cc5f05377bb00495a3aa8140399c3a57c6a3ddd771c1e"), looks := true }, kinds := [], alts := [], laidByText := true, laidKinds := [.data, .data, .data], laidTests := true, laidLooks := .later }
def TopClocksCardSaid : Prop := Claim7.holds Tryz.pinned (.plain (OpenSpec.ofChange topClocksSpec)) topClocksCard

/-- THE TIED CARD OF 'gamehalltop.TopBook'. -/
def topBookCard : Claim7 := { stood := { row := topBookRow, standIns := [], harness := (true, "535665d62d723a07157cc5f05377bb00495a3aa8140399c3a57c6a3ddd771c1e"), looks := true }, kinds := [], alts := [], laidByText := true, laidKinds := [.data, .data, .data], laidTests := true, laidLooks := .later }
def TopBookCardSaid : Prop := Claim7.holds Tryz.pinned (.plain (OpenSpec.ofChange topBookSpec)) topBookCard

/-- THE TIED CARD OF 'gamehalllaw3.MatchDoes'. -/
def matchDoesCard : Claim7 := { stood := { row := matchDoesRow, standIns := [], harness := (true, "535665d62d723a07157cc5f05377bb00495a3aa8140399c3a57c6a3ddd771c1e"), looks := true }, kinds := [], alts := [], laidByText := true, laidKinds := [.data, .data, .data, .data, .sentinel, .sentinel, .pinned], laidTests := true, laidLooks := .later }
def MatchDoesCardSaid : Prop := Claim7.holds Tryz.pinned (.plain (OpenSpec.ofChange matchDoesSpec)) matchDoesCard

/-- THE TIED CARD OF 'gamehalltop.TopReferee'. -/
def topRefereeCard : Claim7 := { stood := { row := topRefereeRow, standIns := [], harness := (true, "535665d62d723a07157cc5f05377bb00495a3aa8140399c3a57c6a3ddd771c1e"), looks := true }, kinds := [], alts := [], laidByText := true, laidKinds := [.data, .data, .data, .data, .sentinel, .sentinel, .pinned], laidTests := true, laidLooks := .later }
def TopRefereeCardSaid : Prop := Claim7.holds Tryz.pinned (.plain (OpenSpec.ofChange topRefereeSpec)) topRefereeCard

/-- THE TIED CARD OF 'gamehalllaw3.RefereeDecides'. -/
def refereeDecidesCard : Claim7 := { stood := { row := refereeDecidesRow, standIns := [], harness := (true, "535665d62d723a07157cc5f05377bb00495a3aa8140399c3a57c6a3ddd771c1e"), looks := true }, kinds := [], alts := [], laidByText := true, laidKinds := [.data, .data, .data, .data, .sentinel, .sentinel, .pinned], laidTests := true, laidLooks := .later }
def RefereeDecidesCardSaid : Prop := Claim7.holds Tryz.pinned (.plain (OpenSpec.ofChange refereeDecidesSpec)) refereeDecidesCard

/-- THE SECOND FORM's CARD OF 'gamehalltop.TopClocks'. -/
def topClocksUptoCard : Claim7 := { stood := { row := topClocksUptoRow, standIns := [], harness := (true, "535665d62d723a07157cc5f05377bb00495a3aa8140399c3a57c6a3ddd771c1e"), looks := true }, kinds := [], alts := [], laidByText := true, laidKinds := [.data, .data, .data], laidTests := true, laidLooks := .later }
def TopClocksUptoCardSaid : Prop := Claim7.holds Tryz.pinned (.plain (OpenSpec.upto topClocksSpec)) topClocksUptoCard

/-- THE SECOND FORM's CARD OF 'gamehalltop.TopBook'. -/
def topBookUptoCard : Claim7 := { stood := { row := topBookUptoRow, standIns := [], harness := (true, "535665d62d723a07157cc5f05377bb00495a3aa8140399c3a57c6a3ddd771c1e"), looks := true }, kinds := [], alts := [], laidByText := true, laidKinds := [.data, .data, .data], laidTests := true, laidLooks := .later }
def TopBookUptoCardSaid : Prop := Claim7.holds Tryz.pinned (.plain (OpenSpec.upto topBookSpec)) topBookUptoCard

/-- THE SECOND FORM's CARD OF 'gamehalllaw3.MatchDoes'. -/
def matchDoesUptoCard : Claim7 := { stood := { row := matchDoesUptoRow, standIns := [], harness := (true, "535665d62d723a07157cc5f05377bb00495a3aa8140399c3a57c6a3ddd771c1e"), looks := true }, kinds := [], alts := [], laidByText := true, laidKinds := [.data, .data, .data, .data, .sentinel, .sentinel, .pinned], laidTests := true, laidLooks := .later }
def MatchDoesUptoCardSaid : Prop := Claim7.holds Tryz.pinned (.plain (OpenSpec.upto matchDoesSpec)) matchDoesUptoCard

/-- THE SECOND FORM's CARD OF 'gamehalltop.TopReferee'. -/
def topRefereeUptoCard : Claim7 := { stood := { row := topRefereeUptoRow, standIns := [], harness := (true, "535665d62d723a07157cc5f05377bb00495a3aa8140399c3a57c6a3ddd771c1e"), looks := true }, kinds := [], alts := [], laidByText := true, laidKinds := [.data, .data, .data, .data, .sentinel, .sentinel, .pinned], laidTests := true, laidLooks := .later }
def TopRefereeUptoCardSaid : Prop := Claim7.holds Tryz.pinned (.plain (OpenSpec.upto topRefereeSpec)) topRefereeUptoCard

/-- THE SECOND FORM's CARD OF 'gamehalllaw3.RefereeDecides'. -/
def refereeDecidesUptoCard : Claim7 := { stood := { row := refereeDecidesUptoRow, standIns := [], harness := (true, "535665d62d723a07157cc5f05377bb00495a3aa8140399c3a57c6a3ddd771c1e"), looks := true }, kinds := [], alts := [], laidByText := true, laidKinds := [.data, .data, .data, .data, .sentinel, .sentinel, .pinned], laidTests := true, laidLooks := .later }
def RefereeDecidesUptoCardSaid : Prop := Claim7.holds Tryz.pinned (.plain (OpenSpec.upto refereeDecidesSpec)) refereeDecidesUptoCard
end Rows
end Go.Proofs.YtijkabgijfdpfaaGreatDoor
