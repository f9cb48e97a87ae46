/-
  No cell of these rows narrows 'for every input' (looked for: loops, veiled, ifaces, maps, wideKeys, modest, calm, conditions, laid).
  DERIVED. THE GIVEN ROWS OF THIS SEAT. 10 by the template 'for every input the law returns true; each argument reads behind the call as it read before'; 0 by the template 'total and deterministic' (their statements: YtaaigenpmaiodaaTotals.lean).
  GIVEN WITH THE SEED: the statements are not yours to turn. If you find one false, say at which input.
  Laid BY PROGRAM, IN A SANDBOX (cutbox-rows.mjs): the forced cells as the released guide's own fill.sh prints them over the translation 332b1ea1f43e08d5… (all of the seat's roots in one cut). By AI agents, Wed Nov 11 2026. No macro, syntax, notation, axiom, sorry.
-/
import Derived.Test.YtaaigenpmaiodaaChecked
import GoSem.Claim
import GoSem.ClaimJoined
import GoSem.ClaimMapViews
import Derived.JoinedTies
import Derived.KernelRfl
namespace Go.Proofs.Ytaaigenpmaiodaa
/- THE CELL 'sum', in the pinned program and in every row, IS THE sha256 OF THE DUMP (.gsa) THAT YtaaigenpmaiodaaProg.lean LOADS. Nothing in Lean hashes anything: it is a label: what it is worth is what the hold of that sum in a sandbox is worth. -/
noncomputable def Try.pinned : Pinned := { name := "ytaaigenpmaiodaa", sum := "332b1ea1f43e08d5301c7c47b812bf351dd2b557d8dc9286fd71271c6f06dd38", checked := Try.checked }
namespace Rows
def none {H : Type} : Left H := { results := [], args := [] }

/-- 'gamehalllaw3.SwissPairs': WHATEVER THE INPUT: true; the input reads as it did. -/
def swissPairsSpec : ChangeSpec := { name := "swissPairs", fn := fun _ => fun
  | [d1, d2, d3] => { results := [.lit (.bool true)], args := [d1, d2, d3] }
  | _ => none }
def swissPairsRow : OpenClaim := { program := "ytaaigenpmaiodaa", sum := "332b1ea1f43e08d5301c7c47b812bf351dd2b557d8dc9286fd71271c6f06dd38", func := "gamehall/gamehalllaw3.SwissPairs", spec := "swissPairs", unfollowed := true, recurses := true, apart := false }
def SwissPairsSaid : Prop := swissPairsRow.holds Try.pinned (OpenSpec.ofChange swissPairsSpec)

/-- ITS FALSE NEIGHBOUR: 'it returns false'. Refute it at one input. -/
def swissPairsWrong : ChangeSpec := { name := "swissPairs", fn := fun _ => fun
  | [d1, d2, d3] => { results := [.lit (.bool false)], args := [d1, d2, d3] }
  | _ => none }
def SwissPairsWrongFalsely : Prop := swissPairsRow.holds Try.pinned (OpenSpec.ofChange swissPairsWrong)

/-- 'gamehalllaw3.StandingSays': WHATEVER THE INPUT: true; the input reads as it did. -/
def standingSaysSpec : ChangeSpec := { name := "standingSays", fn := fun _ => fun
  | [d1, d2, d3, d4, d5] => { results := [.lit (.bool true)], args := [d1, d2, d3, d4, d5] }
  | _ => none }
def standingSaysRow : OpenClaim := { program := "ytaaigenpmaiodaa", sum := "332b1ea1f43e08d5301c7c47b812bf351dd2b557d8dc9286fd71271c6f06dd38", func := "gamehall/gamehalllaw3.StandingSays", spec := "standingSays", unfollowed := true, recurses := true, apart := false }
def StandingSaysSaid : Prop := standingSaysRow.holds Try.pinned (OpenSpec.ofChange standingSaysSpec)

/-- ITS FALSE NEIGHBOUR: 'it returns false'. Refute it at one input. -/
def standingSaysWrong : ChangeSpec := { name := "standingSays", fn := fun _ => fun
  | [d1, d2, d3, d4, d5] => { results := [.lit (.bool false)], args := [d1, d2, d3, d4, d5] }
  | _ => none }
def StandingSaysWrongFalsely : Prop := standingSaysRow.holds Try.pinned (OpenSpec.ofChange standingSaysWrong)

/-- 'gamehalllaw3.MovetextWrites': WHATEVER THE INPUT: true; the input reads as it did. -/
def movetextWritesSpec : ChangeSpec := { name := "movetextWrites", fn := fun _ => fun
  | [d1, d2, d3, d4] => { results := [.lit (.bool true)], args := [d1, d2, d3, d4] }
  | _ => none }
def movetextWritesRow : OpenClaim := { program := "ytaaigenpmaiodaa", sum := "332b1ea1f43e08d5301c7c47b812bf351dd2b557d8dc9286fd71271c6f06dd38", func := "gamehall/gamehalllaw3.MovetextWrites", spec := "movetextWrites", unfollowed := true, recurses := true, apart := false }
def MovetextWritesSaid : Prop := movetextWritesRow.holds Try.pinned (OpenSpec.ofChange movetextWritesSpec)

/-- ITS FALSE NEIGHBOUR: 'it returns false'. Refute it at one input. -/
def movetextWritesWrong : ChangeSpec := { name := "movetextWrites", fn := fun _ => fun
  | [d1, d2, d3, d4] => { results := [.lit (.bool false)], args := [d1, d2, d3, d4] }
  | _ => none }
def MovetextWritesWrongFalsely : Prop := movetextWritesRow.holds Try.pinned (OpenSpec.ofChange movetextWritesWrong)

/-- 'gamehalllaw3.MovetextReads': WHATEVER THE INPUT: true; the input reads as it did. -/
def movetextReadsSpec : ChangeSpec := { name := "movetextReads", fn := fun _ => fun
  | [d1, d2, d3] => { results := [.lit (.bool true)], args := [d1, d2, d3] }
  | _ => none }
def movetextReadsRow : OpenClaim := { program := "ytaaigenpmaiodaa", sum := "332b1ea1f43e08d5301c7c47b812bf351dd2b557d8dc9286fd71271c6f06dd38", func := "gamehall/gamehalllaw3.MovetextReads", spec := "movetextReads", unfollowed := true, recurses := true, apart := false }
def MovetextReadsSaid : Prop := movetextReadsRow.holds Try.pinned (OpenSpec.ofChange movetextReadsSpec)

/-- ITS FALSE NEIGHBOUR: 'it returns false'. Refute it at one input. -/
def movetextReadsWrong : ChangeSpec := { name := "movetextReads", fn := fun _ => fun
  | [d1, d2, d3] => { results := [.lit (.bool false)], args := [d1, d2, d3] }
  | _ => none }
def MovetextReadsWrongFalsely : Prop := movetextReadsRow.holds Try.pinned (OpenSpec.ofChange movetextReadsWrong)

/-- 'gamehalllaw3.ClaimCounts': WHATEVER THE INPUT: true; the input reads as it did. -/
def claimCountsSpec : ChangeSpec := { name := "claimCounts", fn := fun _ => fun
  | [d1, d2] => { results := [.lit (.bool true)], args := [d1, d2] }
  | _ => none }
def claimCountsRow : OpenClaim := { program := "ytaaigenpmaiodaa", sum := "332b1ea1f43e08d5301c7c47b812bf351dd2b557d8dc9286fd71271c6f06dd38", func := "gamehall/gamehalllaw3.ClaimCounts", spec := "claimCounts", unfollowed := true, recurses := true, apart := false }
def ClaimCountsSaid : Prop := claimCountsRow.holds Try.pinned (OpenSpec.ofChange claimCountsSpec)

/-- ITS FALSE NEIGHBOUR: 'it returns false'. Refute it at one input. -/
def claimCountsWrong : ChangeSpec := { name := "claimCounts", fn := fun _ => fun
  | [d1, d2] => { results := [.lit (.bool false)], args := [d1, d2] }
  | _ => none }
def ClaimCountsWrongFalsely : Prop := claimCountsRow.holds Try.pinned (OpenSpec.ofChange claimCountsWrong)

/-- 'gamehalllaw3.ClaimFalls': WHATEVER THE INPUT: true; the input reads as it did. -/
def claimFallsSpec : ChangeSpec := { name := "claimFalls", fn := fun _ => fun
  | [d1, d2, d3] => { results := [.lit (.bool true)], args := [d1, d2, d3] }
  | _ => none }
def claimFallsRow : OpenClaim := { program := "ytaaigenpmaiodaa", sum := "332b1ea1f43e08d5301c7c47b812bf351dd2b557d8dc9286fd71271c6f06dd38", func := "gamehall/gamehalllaw3.ClaimFalls", spec := "claimFalls", unfollowed := true, recurses := true, apart := false }
def ClaimFallsSaid : Prop := claimFallsRow.holds Try.pinned (OpenSpec.ofChange claimFallsSpec)

/-- ITS FALSE NEIGHBOUR: 'it returns false'. Refute it at one input. -/
def claimFallsWrong : ChangeSpec := { name := "claimFalls", fn := fun _ => fun
  | [d1, d2, d3] => { results := [.lit (.bool false)], args := [d1, d2, d3] }
  | _ => none }
def ClaimFallsWrongFalsely : Prop := claimFallsRow.holds Try.pinned (OpenSpec.ofChange claimFallsWrong)

/-- 'gamehalllaw3.PremoveRuns': WHATEVER THE INPUT: true; the input reads as it did. -/
def premoveRunsSpec : ChangeSpec := { name := "premoveRuns", fn := fun _ => fun
  | [d1, d2, d3, d4, d5] => { results := [.lit (.bool true)], args := [d1, d2, d3, d4, d5] }
  | _ => none }
def premoveRunsRow : OpenClaim := { program := "ytaaigenpmaiodaa", sum := "332b1ea1f43e08d5301c7c47b812bf351dd2b557d8dc9286fd71271c6f06dd38", func := "gamehall/gamehalllaw3.PremoveRuns", spec := "premoveRuns", unfollowed := true, recurses := true, apart := false }
def PremoveRunsSaid : Prop := premoveRunsRow.holds Try.pinned (OpenSpec.ofChange premoveRunsSpec)

/-- ITS FALSE NEIGHBOUR: 'it returns false'. Refute it at one input. -/
def premoveRunsWrong : ChangeSpec := { name := "premoveRuns", fn := fun _ => fun
  | [d1, d2, d3, d4, d5] => { results := [.lit (.bool false)], args := [d1, d2, d3, d4, d5] }
  | _ => none }
def PremoveRunsWrongFalsely : Prop := premoveRunsRow.holds Try.pinned (OpenSpec.ofChange premoveRunsWrong)

/-- 'gamehalllaw3.HandicapMeasures': WHATEVER THE INPUT: true; the input reads as it did. -/
def handicapMeasuresSpec : ChangeSpec := { name := "handicapMeasures", fn := fun _ => fun
  | [d1, d2, d3, d4] => { results := [.lit (.bool true)], args := [d1, d2, d3, d4] }
  | _ => none }
def handicapMeasuresRow : OpenClaim := { program := "ytaaigenpmaiodaa", sum := "332b1ea1f43e08d5301c7c47b812bf351dd2b557d8dc9286fd71271c6f06dd38", func := "gamehall/gamehalllaw3.HandicapMeasures", spec := "handicapMeasures", unfollowed := true, recurses := true, apart := false }
def HandicapMeasuresSaid : Prop := handicapMeasuresRow.holds Try.pinned (OpenSpec.ofChange handicapMeasuresSpec)

/-- ITS FALSE NEIGHBOUR: 'it returns false'. Refute it at one input. -/
def handicapMeasuresWrong : ChangeSpec := { name := "handicapMeasures", fn := fun _ => fun
  | [d1, d2, d3, d4] => { results := [.lit (.bool false)], args := [d1, d2, d3, d4] }
  | _ => none }
def HandicapMeasuresWrongFalsely : Prop := handicapMeasuresRow.holds Try.pinned (OpenSpec.ofChange handicapMeasuresWrong)

/-- 'gamehalllaw3.PatternFinds': WHATEVER THE INPUT: true; the input reads as it did. -/
def patternFindsSpec : ChangeSpec := { name := "patternFinds", fn := fun _ => fun
  | [d1, d2, d3, d4] => { results := [.lit (.bool true)], args := [d1, d2, d3, d4] }
  | _ => none }
def patternFindsRow : OpenClaim := { program := "ytaaigenpmaiodaa", sum := "332b1ea1f43e08d5301c7c47b812bf351dd2b557d8dc9286fd71271c6f06dd38", func := "gamehall/gamehalllaw3.PatternFinds", spec := "patternFinds", unfollowed := true, recurses := true, apart := false }
def PatternFindsSaid : Prop := patternFindsRow.holds Try.pinned (OpenSpec.ofChange patternFindsSpec)

/-- ITS FALSE NEIGHBOUR: 'it returns false'. Refute it at one input. -/
def patternFindsWrong : ChangeSpec := { name := "patternFinds", fn := fun _ => fun
  | [d1, d2, d3, d4] => { results := [.lit (.bool false)], args := [d1, d2, d3, d4] }
  | _ => none }
def PatternFindsWrongFalsely : Prop := patternFindsRow.holds Try.pinned (OpenSpec.ofChange patternFindsWrong)

/-- 'gamehalllaw3.BookMerges': WHATEVER THE INPUT: true; the input reads as it did. -/
def bookMergesSpec : ChangeSpec := { name := "bookMerges", fn := fun _ => fun
  | [d1, d2, d3] => { results := [.lit (.bool true)], args := [d1, d2, d3] }
  | _ => none }
def bookMergesRow : OpenClaim := { program := "ytaaigenpmaiodaa", sum := "332b1ea1f43e08d5301c7c47b812bf351dd2b557d8dc9286fd71271c6f06dd38", func := "gamehall/gamehalllaw3.BookMerges", spec := "bookMerges", inPlace := ["slices.overlaps[gamehall/api.BookEntry]"], unfollowed := true, recurses := true, apart := false }
def BookMergesSaid : Prop := bookMergesRow.holds Try.pinned (OpenSpec.ofChange bookMergesSpec)

/-- ITS FALSE NEIGHBOUR: 'it returns false'. Refute it at one input. -/
def bookMergesWrong : ChangeSpec := { name := "bookMerges", fn := fun _ => fun
  | [d1, d2, d3] => { results := [.lit (.bool false)], args := [d1, d2, d3] }
  | _ => none }
def BookMergesWrongFalsely : Prop := bookMergesRow.holds Try.pinned (OpenSpec.ofChange bookMergesWrong)

/- THE SECOND FORM. 'bulk': how many values and letters a reading holds, each counted each time it is reached (what is shared counts as often as it is met; a slice's spare places count too). A statement '..UptoSaid' is the law's where the arguments, and the package variables that the reading takes, are together of bulk at most 1048576: NARROWER than '..Said'. Prove '..Said' where nothing that the law and all that it calls make is longer than what came in: it says more and counts as full. Else prove '..UptoSaid'. A law counts once. -/
mutual
def uptoBulk {H : Type} : DataW H → Nat
  | .lit (.string bytes) => bytes.length + 1
  | .lit _ => 1
  | .nil => 1
  | .ptr d => uptoBulk d + 1
  | .slice elems spare => uptoBulkAll elems + uptoBulkAll spare + 1
  | .agg parts => uptoBulkAll parts + 1
  | .iface _ d => uptoBulk d + 1
  | .map entries => uptoBulkEntries entries + 1
  | .held _ => 1
def uptoBulkAll {H : Type} : List (DataW H) → Nat
  | [] => 0
  | d :: r => uptoBulk d + uptoBulkAll r
def uptoBulkEntries {H : Type} : List (Lit × DataW H) → Nat
  | [] => 0
  | x :: r => uptoBulkEntry x + uptoBulkEntries r
def uptoBulkEntry {H : Type} : Lit × DataW H → Nat
  | (.string bytes, d) => bytes.length + uptoBulk d + 1
  | (_, d) => uptoBulk d + 1
 end
def uptoSmall : (H : Type) → List (DataW H) → Bool := fun _ ds => decide (uptoBulkAll ds ≤ 1048576)
def OpenSpec.upto (s : _root_.Go.ChangeSpec) : _root_.Go.OpenSpec := { _root_.Go.OpenSpec.ofChange s with cond := some uptoSmall }

/-- 'gamehalllaw3.SwissPairs', WHERE WHAT IT READS IS OF BULK AT MOST 1048576: true; the input reads as it did. -/
def swissPairsUptoRow : OpenClaim := { program := "ytaaigenpmaiodaa", sum := "332b1ea1f43e08d5301c7c47b812bf351dd2b557d8dc9286fd71271c6f06dd38", func := "gamehall/gamehalllaw3.SwissPairs", spec := "swissPairs", unfollowed := true, recurses := true, apart := false, narrowed := true }
def SwissPairsUptoSaid : Prop := swissPairsUptoRow.holds Try.pinned (OpenSpec.upto swissPairsSpec)

/-- 'gamehalllaw3.StandingSays', WHERE WHAT IT READS IS OF BULK AT MOST 1048576: true; the input reads as it did. -/
def standingSaysUptoRow : OpenClaim := { program := "ytaaigenpmaiodaa", sum := "332b1ea1f43e08d5301c7c47b812bf351dd2b557d8dc9286fd71271c6f06dd38", func := "gamehall/gamehalllaw3.StandingSays", spec := "standingSays", unfollowed := true, recurses := true, apart := false, narrowed := true }
def StandingSaysUptoSaid : Prop := standingSaysUptoRow.holds Try.pinned (OpenSpec.upto standingSaysSpec)

/-- 'gamehalllaw3.MovetextWrites', WHERE WHAT IT READS IS OF BULK AT MOST 1048576: true; the input reads as it did. -/
def movetextWritesUptoRow : OpenClaim := { program := "ytaaigenpmaiodaa", sum := "332b1ea1f43e08d5301c7c47b812bf351dd2b557d8dc9286fd71271c6f06dd38", func := "gamehall/gamehalllaw3.MovetextWrites", spec := "movetextWrites", unfollowed := true, recurses := true, apart := false, narrowed := true }
def MovetextWritesUptoSaid : Prop := movetextWritesUptoRow.holds Try.pinned (OpenSpec.upto movetextWritesSpec)

/-- 'gamehalllaw3.MovetextReads', WHERE WHAT IT READS IS OF BULK AT MOST 1048576: true; the input reads as it did. -/
def movetextReadsUptoRow : OpenClaim := { program := "ytaaigenpmaiodaa", sum := "332b1ea1f43e08d5301c7c47b812bf351dd2b557d8dc9286fd71271c6f06dd38", func := "gamehall/gamehalllaw3.MovetextReads", spec := "movetextReads", unfollowed := true, recurses := true, apart := false, narrowed := true }
def MovetextReadsUptoSaid : Prop := movetextReadsUptoRow.holds Try.pinned (OpenSpec.upto movetextReadsSpec)

/-- 'gamehalllaw3.ClaimCounts', WHERE WHAT IT READS IS OF BULK AT MOST 1048576: true; the input reads as it did. -/
def claimCountsUptoRow : OpenClaim := { program := "ytaaigenpmaiodaa", sum := "332b1ea1f43e08d5301c7c47b812bf351dd2b557d8dc9286fd71271c6f06dd38", func := "gamehall/gamehalllaw3.ClaimCounts", spec := "claimCounts", unfollowed := true, recurses := true, apart := false, narrowed := true }
def ClaimCountsUptoSaid : Prop := claimCountsUptoRow.holds Try.pinned (OpenSpec.upto claimCountsSpec)

/-- 'gamehalllaw3.ClaimFalls', WHERE WHAT IT READS IS OF BULK AT MOST 1048576: true; the input reads as it did. -/
def claimFallsUptoRow : OpenClaim := { program := "ytaaigenpmaiodaa", sum := "332b1ea1f43e08d5301c7c47b812bf351dd2b557d8dc9286fd71271c6f06dd38", func := "gamehall/gamehalllaw3.ClaimFalls", spec := "claimFalls", unfollowed := true, recurses := true, apart := false, narrowed := true }
def ClaimFallsUptoSaid : Prop := claimFallsUptoRow.holds Try.pinned (OpenSpec.upto claimFallsSpec)

/-- 'gamehalllaw3.PremoveRuns', WHERE WHAT IT READS IS OF BULK AT MOST 1048576: true; the input reads as it did. -/
def premoveRunsUptoRow : OpenClaim := { program := "ytaaigenpmaiodaa", sum := "332b1ea1f43e08d5301c7c47b812bf351dd2b557d8dc9286fd71271c6f06dd38", func := "gamehall/gamehalllaw3.PremoveRuns", spec := "premoveRuns", unfollowed := true, recurses := true, apart := false, narrowed := true }
def PremoveRunsUptoSaid : Prop := premoveRunsUptoRow.holds Try.pinned (OpenSpec.upto premoveRunsSpec)

/-- 'gamehalllaw3.HandicapMeasures', WHERE WHAT IT READS IS OF BULK AT MOST 1048576: true; the input reads as it did. -/
def handicapMeasuresUptoRow : OpenClaim := { program := "ytaaigenpmaiodaa", sum := "332b1ea1f43e08d5301c7c47b812bf351dd2b557d8dc9286fd71271c6f06dd38", func := "gamehall/gamehalllaw3.HandicapMeasures", spec := "handicapMeasures", unfollowed := true, recurses := true, apart := false, narrowed := true }
def HandicapMeasuresUptoSaid : Prop := handicapMeasuresUptoRow.holds Try.pinned (OpenSpec.upto handicapMeasuresSpec)

/-- 'gamehalllaw3.PatternFinds', WHERE WHAT IT READS IS OF BULK AT MOST 1048576: true; the input reads as it did. -/
def patternFindsUptoRow : OpenClaim := { program := "ytaaigenpmaiodaa", sum := "332b1ea1f43e08d5301c7c47b812bf351dd2b557d8dc9286fd71271c6f06dd38", func := "gamehall/gamehalllaw3.PatternFinds", spec := "patternFinds", unfollowed := true, recurses := true, apart := false, narrowed := true }
def PatternFindsUptoSaid : Prop := patternFindsUptoRow.holds Try.pinned (OpenSpec.upto patternFindsSpec)

/-- 'gamehalllaw3.BookMerges', WHERE WHAT IT READS IS OF BULK AT MOST 1048576: true; the input reads as it did. -/
def bookMergesUptoRow : OpenClaim := { program := "ytaaigenpmaiodaa", sum := "332b1ea1f43e08d5301c7c47b812bf351dd2b557d8dc9286fd71271c6f06dd38", func := "gamehall/gamehalllaw3.BookMerges", spec := "bookMerges", inPlace := ["slices.overlaps[gamehall/api.BookEntry]"], unfollowed := true, recurses := true, apart := false, narrowed := true }
def BookMergesUptoSaid : Prop := bookMergesUptoRow.holds Try.pinned (OpenSpec.upto bookMergesSpec)

end Rows
end Go.Proofs.Ytaaigenpmaiodaa
