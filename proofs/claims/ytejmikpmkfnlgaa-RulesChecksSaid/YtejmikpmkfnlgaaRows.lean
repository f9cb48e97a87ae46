/-
  No cell of these rows narrows 'for every input' (looked for: loops, veiled, ifaces, maps, wideKeys, modest, calm, conditions, laid).
  DERIVED. THE GIVEN ROWS OF THIS SEAT. 10 by the template 'for every input the law returns true; each argument reads behind the call as it read before'; 0 by the template 'total and deterministic' (their statements: YtejmikpmkfnlgaaTotals.lean).
  GIVEN WITH THE SEED: the statements are not yours to turn. If you find one false, say at which input.
  Laid BY PROGRAM, IN A SANDBOX (cutbox-rows.mjs): the forced cells as the released guide's own fill.sh prints them over the translation 3299b6b901190a7f… (all of the seat's roots in one cut). By AI agents, Wed Nov 11 2026. No macro, syntax, notation, axiom, sorry.
-/
import Derived.Test.YtejmikpmkfnlgaaChecked
import GoSem.Claim
import GoSem.ClaimJoined
import GoSem.ClaimMapViews
import Derived.JoinedTies
import Derived.KernelRfl
namespace Go.Proofs.Ytejmikpmkfnlgaa
/- THE CELL 'sum', in the pinned program and in every row, IS THE sha256 OF THE DUMP (.gsa) THAT YtejmikpmkfnlgaaProg.lean LOADS. Nothing in Lean hashes anything: it is a label: what it is worth is what the hold of that sum in a sandbox is worth. -/
noncomputable def Try.pinned : Pinned := { name := "ytejmikpmkfnlgaa", sum := "3299b6b901190a7f06993b82a29375afddf2aa23de985157e9589d6c36214dd7", checked := Try.checked }
namespace Rows
def none {H : Type} : Left H := { results := [], args := [] }

/-- 'gamehalllaw1.MinimaxNearer': WHATEVER THE INPUT: true; the input reads as it did. -/
def minimaxNearerSpec : ChangeSpec := { name := "minimaxNearer", fn := fun _ => fun
  | [d] => { results := [.lit (.bool true)], args := [d] }
  | _ => none }
def minimaxNearerRow : OpenClaim := { program := "ytejmikpmkfnlgaa", sum := "3299b6b901190a7f06993b82a29375afddf2aa23de985157e9589d6c36214dd7", func := "gamehall/gamehalllaw1.MinimaxNearer", spec := "minimaxNearer", apart := false }
def MinimaxNearerSaid : Prop := minimaxNearerRow.holds Try.pinned (OpenSpec.ofChange minimaxNearerSpec)

/-- ITS FALSE NEIGHBOUR: 'it returns false'. Refute it at one input. -/
def minimaxNearerWrong : ChangeSpec := { name := "minimaxNearer", fn := fun _ => fun
  | [d] => { results := [.lit (.bool false)], args := [d] }
  | _ => none }
def MinimaxNearerWrongFalsely : Prop := minimaxNearerRow.holds Try.pinned (OpenSpec.ofChange minimaxNearerWrong)

/-- 'gamehalllaw1.NimsumTakes': WHATEVER THE INPUT: true; the input reads as it did. -/
def nimsumTakesSpec : ChangeSpec := { name := "nimsumTakes", fn := fun _ => fun
  | [d] => { results := [.lit (.bool true)], args := [d] }
  | _ => none }
def nimsumTakesRow : OpenClaim := { program := "ytejmikpmkfnlgaa", sum := "3299b6b901190a7f06993b82a29375afddf2aa23de985157e9589d6c36214dd7", func := "gamehall/gamehalllaw1.NimsumTakes", spec := "nimsumTakes", unfollowed := true, recurses := true, apart := false }
def NimsumTakesSaid : Prop := nimsumTakesRow.holds Try.pinned (OpenSpec.ofChange nimsumTakesSpec)

/-- ITS FALSE NEIGHBOUR: 'it returns false'. Refute it at one input. -/
def nimsumTakesWrong : ChangeSpec := { name := "nimsumTakes", fn := fun _ => fun
  | [d] => { results := [.lit (.bool false)], args := [d] }
  | _ => none }
def NimsumTakesWrongFalsely : Prop := nimsumTakesRow.holds Try.pinned (OpenSpec.ofChange nimsumTakesWrong)

/-- 'gamehalllaw1.SymmColours': WHATEVER THE INPUT: true; the input reads as it did. -/
def symmColoursSpec : ChangeSpec := { name := "symmColours", fn := fun _ => fun
  | [d1, d2, d3] => { results := [.lit (.bool true)], args := [d1, d2, d3] }
  | _ => none }
def symmColoursRow : OpenClaim := { program := "ytejmikpmkfnlgaa", sum := "3299b6b901190a7f06993b82a29375afddf2aa23de985157e9589d6c36214dd7", func := "gamehall/gamehalllaw1.SymmColours", spec := "symmColours", apart := false }
def SymmColoursSaid : Prop := symmColoursRow.holds Try.pinned (OpenSpec.ofChange symmColoursSpec)

/-- ITS FALSE NEIGHBOUR: 'it returns false'. Refute it at one input. -/
def symmColoursWrong : ChangeSpec := { name := "symmColours", fn := fun _ => fun
  | [d1, d2, d3] => { results := [.lit (.bool false)], args := [d1, d2, d3] }
  | _ => none }
def SymmColoursWrongFalsely : Prop := symmColoursRow.holds Try.pinned (OpenSpec.ofChange symmColoursWrong)

/-- 'gamehalllaw3.RobinMeets': WHATEVER THE INPUT: true; the input reads as it did. -/
def robinMeetsSpec : ChangeSpec := { name := "robinMeets", fn := fun _ => fun
  | [d1, d2, d3, d4, d5] => { results := [.lit (.bool true)], args := [d1, d2, d3, d4, d5] }
  | _ => none }
def robinMeetsRow : OpenClaim := { program := "ytejmikpmkfnlgaa", sum := "3299b6b901190a7f06993b82a29375afddf2aa23de985157e9589d6c36214dd7", func := "gamehall/gamehalllaw3.RobinMeets", spec := "robinMeets", unfollowed := true, recurses := true, apart := false }
def RobinMeetsSaid : Prop := robinMeetsRow.holds Try.pinned (OpenSpec.ofChange robinMeetsSpec)

/-- ITS FALSE NEIGHBOUR: 'it returns false'. Refute it at one input. -/
def robinMeetsWrong : ChangeSpec := { name := "robinMeets", fn := fun _ => fun
  | [d1, d2, d3, d4, d5] => { results := [.lit (.bool false)], args := [d1, d2, d3, d4, d5] }
  | _ => none }
def RobinMeetsWrongFalsely : Prop := robinMeetsRow.holds Try.pinned (OpenSpec.ofChange robinMeetsWrong)

/-- 'gamehalllaw3.ClockStops': WHATEVER THE INPUT: true; the input reads as it did. -/
def clockStopsSpec : ChangeSpec := { name := "clockStops", fn := fun _ => fun
  | [d1, d2, d3, d4, d5] => { results := [.lit (.bool true)], args := [d1, d2, d3, d4, d5] }
  | _ => none }
def clockStopsRow : OpenClaim := { program := "ytejmikpmkfnlgaa", sum := "3299b6b901190a7f06993b82a29375afddf2aa23de985157e9589d6c36214dd7", func := "gamehall/gamehalllaw3.ClockStops", spec := "clockStops", apart := false }
def ClockStopsSaid : Prop := clockStopsRow.holds Try.pinned (OpenSpec.ofChange clockStopsSpec)

/-- ITS FALSE NEIGHBOUR: 'it returns false'. Refute it at one input. -/
def clockStopsWrong : ChangeSpec := { name := "clockStops", fn := fun _ => fun
  | [d1, d2, d3, d4, d5] => { results := [.lit (.bool false)], args := [d1, d2, d3, d4, d5] }
  | _ => none }
def ClockStopsWrongFalsely : Prop := clockStopsRow.holds Try.pinned (OpenSpec.ofChange clockStopsWrong)

/-- 'gamehalllaw1.SymmCanon': WHATEVER THE INPUT: true; the input reads as it did. -/
def symmCanonSpec : ChangeSpec := { name := "symmCanon", fn := fun _ => fun
  | [d1, d2, d3] => { results := [.lit (.bool true)], args := [d1, d2, d3] }
  | _ => none }
def symmCanonRow : OpenClaim := { program := "ytejmikpmkfnlgaa", sum := "3299b6b901190a7f06993b82a29375afddf2aa23de985157e9589d6c36214dd7", func := "gamehall/gamehalllaw1.SymmCanon", spec := "symmCanon", apart := false }
def SymmCanonSaid : Prop := symmCanonRow.holds Try.pinned (OpenSpec.ofChange symmCanonSpec)

/-- ITS FALSE NEIGHBOUR: 'it returns false'. Refute it at one input. -/
def symmCanonWrong : ChangeSpec := { name := "symmCanon", fn := fun _ => fun
  | [d1, d2, d3] => { results := [.lit (.bool false)], args := [d1, d2, d3] }
  | _ => none }
def SymmCanonWrongFalsely : Prop := symmCanonRow.holds Try.pinned (OpenSpec.ofChange symmCanonWrong)

/-- 'gamehalllaw3.RatingMoves': WHATEVER THE INPUT: true; the input reads as it did. -/
def ratingMovesSpec : ChangeSpec := { name := "ratingMoves", fn := fun _ => fun
  | [d1, d2, d3, d4] => { results := [.lit (.bool true)], args := [d1, d2, d3, d4] }
  | _ => none }
def ratingMovesRow : OpenClaim := { program := "ytejmikpmkfnlgaa", sum := "3299b6b901190a7f06993b82a29375afddf2aa23de985157e9589d6c36214dd7", func := "gamehall/gamehalllaw3.RatingMoves", spec := "ratingMoves", unfollowed := true, recurses := true, apart := false }
def RatingMovesSaid : Prop := ratingMovesRow.holds Try.pinned (OpenSpec.ofChange ratingMovesSpec)

/-- ITS FALSE NEIGHBOUR: 'it returns false'. Refute it at one input. -/
def ratingMovesWrong : ChangeSpec := { name := "ratingMoves", fn := fun _ => fun
  | [d1, d2, d3, d4] => { results := [.lit (.bool false)], args := [d1, d2, d3, d4] }
  | _ => none }
def RatingMovesWrongFalsely : Prop := ratingMovesRow.holds Try.pinned (OpenSpec.ofChange ratingMovesWrong)

/-- 'gamehalllaw3.OfferSays': WHATEVER THE INPUT: true; the input reads as it did. -/
def offerSaysSpec : ChangeSpec := { name := "offerSays", fn := fun _ => fun
  | [d1, d2, d3, d4] => { results := [.lit (.bool true)], args := [d1, d2, d3, d4] }
  | _ => none }
def offerSaysRow : OpenClaim := { program := "ytejmikpmkfnlgaa", sum := "3299b6b901190a7f06993b82a29375afddf2aa23de985157e9589d6c36214dd7", func := "gamehall/gamehalllaw3.OfferSays", spec := "offerSays", apart := false }
def OfferSaysSaid : Prop := offerSaysRow.holds Try.pinned (OpenSpec.ofChange offerSaysSpec)

/-- ITS FALSE NEIGHBOUR: 'it returns false'. Refute it at one input. -/
def offerSaysWrong : ChangeSpec := { name := "offerSays", fn := fun _ => fun
  | [d1, d2, d3, d4] => { results := [.lit (.bool false)], args := [d1, d2, d3, d4] }
  | _ => none }
def OfferSaysWrongFalsely : Prop := offerSaysRow.holds Try.pinned (OpenSpec.ofChange offerSaysWrong)

/-- 'gamehalllaw3.RatingPeriods': WHATEVER THE INPUT: true; the input reads as it did. -/
def ratingPeriodsSpec : ChangeSpec := { name := "ratingPeriods", fn := fun _ => fun
  | [d1, d2, d3, d4] => { results := [.lit (.bool true)], args := [d1, d2, d3, d4] }
  | _ => none }
def ratingPeriodsRow : OpenClaim := { program := "ytejmikpmkfnlgaa", sum := "3299b6b901190a7f06993b82a29375afddf2aa23de985157e9589d6c36214dd7", func := "gamehall/gamehalllaw3.RatingPeriods", spec := "ratingPeriods", unfollowed := true, recurses := true, apart := false }
def RatingPeriodsSaid : Prop := ratingPeriodsRow.holds Try.pinned (OpenSpec.ofChange ratingPeriodsSpec)

/-- ITS FALSE NEIGHBOUR: 'it returns false'. Refute it at one input. -/
def ratingPeriodsWrong : ChangeSpec := { name := "ratingPeriods", fn := fun _ => fun
  | [d1, d2, d3, d4] => { results := [.lit (.bool false)], args := [d1, d2, d3, d4] }
  | _ => none }
def RatingPeriodsWrongFalsely : Prop := ratingPeriodsRow.holds Try.pinned (OpenSpec.ofChange ratingPeriodsWrong)

/-- 'gamehalllaw1.RulesChecks': WHATEVER THE INPUT: true; the input reads as it did. -/
def rulesChecksSpec : ChangeSpec := { name := "rulesChecks", fn := fun _ => fun
  | [d1, d2, d3, d4] => { results := [.lit (.bool true)], args := [d1, d2, d3, d4] }
  | _ => none }
def rulesChecksRow : OpenClaim := { program := "ytejmikpmkfnlgaa", sum := "3299b6b901190a7f06993b82a29375afddf2aa23de985157e9589d6c36214dd7", func := "gamehall/gamehalllaw1.RulesChecks", spec := "rulesChecks", unfollowed := true, recurses := true, apart := false }
def RulesChecksSaid : Prop := rulesChecksRow.holds Try.pinned (OpenSpec.ofChange rulesChecksSpec)

/-- ITS FALSE NEIGHBOUR: 'it returns false'. Refute it at one input. -/
def rulesChecksWrong : ChangeSpec := { name := "rulesChecks", fn := fun _ => fun
  | [d1, d2, d3, d4] => { results := [.lit (.bool false)], args := [d1, d2, d3, d4] }
  | _ => none }
def RulesChecksWrongFalsely : Prop := rulesChecksRow.holds Try.pinned (OpenSpec.ofChange rulesChecksWrong)

/- THE SECOND FORM. 'bulk': how many values and letters a reading holds, each counted each time it is reached (what is shared counts as often as it is met; a slice's spare places count too). A statement '..UptoSaid' is the law's where the arguments, and the package variables that the reading takes, are together of bulk at most 1048576: NARROWER than '..Said'. Prove '..Said' where nothing that the law and all that it calls make is longer than what came in: it says more and counts as full. Else prove '..UptoSaid'. A law counts once. -/
mutual
def uptoBulk {H : Type} : DataW H → Nat
  | .lit (.string bytes) => bytes.length + 1
  | .lit _ => 1
  | .nil => 1
  | .ptr d => uptoBulk d + 1
  | .slice elems spare => uptoBulkAll elems + uptoBulkAll spare + 1
  | .agg parts => uptoBulkAll parts + 1
  | .iface _ d => uptoBulk d + 1
  | .map entries => uptoBulkEntries entries + 1
  | .held _ => 1
def uptoBulkAll {H : Type} : List (DataW H) → Nat
  | [] => 0
  | d :: r => uptoBulk d + uptoBulkAll r
def uptoBulkEntries {H : Type} : List (Lit × DataW H) → Nat
  | [] => 0
  | x :: r => uptoBulkEntry x + uptoBulkEntries r
def uptoBulkEntry {H : Type} : Lit × DataW H → Nat
  | (.string bytes, d) => bytes.length + uptoBulk d + 1
  | (_, d) => uptoBulk d + 1
 end
def uptoSmall : (H : Type) → List (DataW H) → Bool := fun _ ds => decide (uptoBulkAll ds ≤ 1048576)
def OpenSpec.upto (s : _root_.Go.ChangeSpec) : _root_.Go.OpenSpec := { _root_.Go.OpenSpec.ofChange s with cond := some uptoSmall }

/-- 'gamehalllaw1.MinimaxNearer', WHERE WHAT IT READS IS OF BULK AT MOST 1048576: true; the input reads as it did. -/
def minimaxNearerUptoRow : OpenClaim := { program := "ytejmikpmkfnlgaa", sum := "3299b6b901190a7f06993b82a29375afddf2aa23de985157e9589d6c36214dd7", func := "gamehall/gamehalllaw1.MinimaxNearer", spec := "minimaxNearer", apart := false, narrowed := true }
def MinimaxNearerUptoSaid : Prop := minimaxNearerUptoRow.holds Try.pinned (OpenSpec.upto minimaxNearerSpec)

/-- 'gamehalllaw1.NimsumTakes', WHERE WHAT IT READS IS OF BULK AT MOST 1048576: true; the input reads as it did. -/
def nimsumTakesUptoRow : OpenClaim := { program := "ytejmikpmkfnlgaa", sum := "3299b6b901190a7f06993b82a29375afddf2aa23de985157e9589d6c36214dd7", func := "gamehall/gamehalllaw1.NimsumTakes", spec := "nimsumTakes", unfollowed := true, recurses := true, apart := false, narrowed := true }
def NimsumTakesUptoSaid : Prop := nimsumTakesUptoRow.holds Try.pinned (OpenSpec.upto nimsumTakesSpec)

/-- 'gamehalllaw1.SymmColours', WHERE WHAT IT READS IS OF BULK AT MOST 1048576: true; the input reads as it did. -/
def symmColoursUptoRow : OpenClaim := { program := "ytejmikpmkfnlgaa", sum := "3299b6b901190a7f06993b82a29375afddf2aa23de985157e9589d6c36214dd7", func := "gamehall/gamehalllaw1.SymmColours", spec := "symmColours", apart := false, narrowed := true }
def SymmColoursUptoSaid : Prop := symmColoursUptoRow.holds Try.pinned (OpenSpec.upto symmColoursSpec)

/-- 'gamehalllaw3.RobinMeets', WHERE WHAT IT READS IS OF BULK AT MOST 1048576: true; the input reads as it did. -/
def robinMeetsUptoRow : OpenClaim := { program := "ytejmikpmkfnlgaa", sum := "3299b6b901190a7f06993b82a29375afddf2aa23de985157e9589d6c36214dd7", func := "gamehall/gamehalllaw3.RobinMeets", spec := "robinMeets", unfollowed := true, recurses := true, apart := false, narrowed := true }
def RobinMeetsUptoSaid : Prop := robinMeetsUptoRow.holds Try.pinned (OpenSpec.upto robinMeetsSpec)

/-- 'gamehalllaw3.ClockStops', WHERE WHAT IT READS IS OF BULK AT MOST 1048576: true; the input reads as it did. -/
def clockStopsUptoRow : OpenClaim := { program := "ytejmikpmkfnlgaa", sum := "3299b6b901190a7f06993b82a29375afddf2aa23de985157e9589d6c36214dd7", func := "gamehall/gamehalllaw3.ClockStops", spec := "clockStops", apart := false, narrowed := true }
def ClockStopsUptoSaid : Prop := clockStopsUptoRow.holds Try.pinned (OpenSpec.upto clockStopsSpec)

/-- 'gamehalllaw1.SymmCanon', WHERE WHAT IT READS IS OF BULK AT MOST 1048576: true; the input reads as it did. -/
def symmCanonUptoRow : OpenClaim := { program := "ytejmikpmkfnlgaa", sum := "3299b6b901190a7f06993b82a29375afddf2aa23de985157e9589d6c36214dd7", func := "gamehall/gamehalllaw1.SymmCanon", spec := "symmCanon", apart := false, narrowed := true }
def SymmCanonUptoSaid : Prop := symmCanonUptoRow.holds Try.pinned (OpenSpec.upto symmCanonSpec)

/-- 'gamehalllaw3.RatingMoves', WHERE WHAT IT READS IS OF BULK AT MOST 1048576: true; the input reads as it did. -/
def ratingMovesUptoRow : OpenClaim := { program := "ytejmikpmkfnlgaa", sum := "3299b6b901190a7f06993b82a29375afddf2aa23de985157e9589d6c36214dd7", func := "gamehall/gamehalllaw3.RatingMoves", spec := "ratingMoves", unfollowed := true, recurses := true, apart := false, narrowed := true }
def RatingMovesUptoSaid : Prop := ratingMovesUptoRow.holds Try.pinned (OpenSpec.upto ratingMovesSpec)

/-- 'gamehalllaw3.OfferSays', WHERE WHAT IT READS IS OF BULK AT MOST 1048576: true; the input reads as it did. -/
def offerSaysUptoRow : OpenClaim := { program := "ytejmikpmkfnlgaa", sum := "3299b6b901190a7f06993b82a29375afddf2aa23de985157e9589d6c36214dd7", func := "gamehall/gamehalllaw3.OfferSays", spec := "offerSays", apart := false, narrowed := true }
def OfferSaysUptoSaid : Prop := offerSaysUptoRow.holds Try.pinned (OpenSpec.upto offerSaysSpec)

/-- 'gamehalllaw3.RatingPeriods', WHERE WHAT IT READS IS OF BULK AT MOST 1048576: true; the input reads as it did. -/
def ratingPeriodsUptoRow : OpenClaim := { program := "ytejmikpmkfnlgaa", sum := "3299b6b901190a7f06993b82a29375afddf2aa23de985157e9589d6c36214dd7", func := "gamehall/gamehalllaw3.RatingPeriods", spec := "ratingPeriods", unfollowed := true, recurses := true, apart := false, narrowed := true }
def RatingPeriodsUptoSaid : Prop := ratingPeriodsUptoRow.holds Try.pinned (OpenSpec.upto ratingPeriodsSpec)

/-- 'gamehalllaw1.RulesChecks', WHERE WHAT IT READS IS OF BULK AT MOST 1048576: true; the input reads as it did. -/
def rulesChecksUptoRow : OpenClaim := { program := "ytejmikpmkfnlgaa", sum := "3299b6b901190a7f06993b82a29375afddf2aa23de985157e9589d6c36214dd7", func := "gamehall/gamehalllaw1.RulesChecks", spec := "rulesChecks", unfollowed := true, recurses := true, apart := false, narrowed := true }
def RulesChecksUptoSaid : Prop := rulesChecksUptoRow.holds Try.pinned (OpenSpec.upto rulesChecksSpec)

end Rows
end Go.Proofs.Ytejmikpmkfnlgaa
