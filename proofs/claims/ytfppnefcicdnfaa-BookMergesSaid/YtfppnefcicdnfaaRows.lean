/-
  No cell of these rows narrows 'for every input' (looked for: loops, veiled, ifaces, maps, wideKeys, modest, calm, conditions, laid).
  DERIVED. THE GIVEN ROWS OF THIS SEAT. 5 by the template 'for every input the law returns true; each argument reads behind the call as it read before'; 0 by the template 'total and deterministic' (their statements: YtfppnefcicdnfaaTotals.lean).
  GIVEN WITH THE SEED: the statements are not yours to turn. If you find one false, say at which input.
  Laid BY PROGRAM, IN A SANDBOX (cutbox-rows.mjs): the forced cells as the released guide's own fill.sh prints them over the translation 27d60a5d225deb67… (all of the seat's roots in one cut). By AI agents, Wed Nov 11 2026. No macro, syntax, notation, axiom, sorry.
-/
import Derived.Test.YtfppnefcicdnfaaChecked
import GoSem.Claim
import GoSem.ClaimJoined
import GoSem.ClaimMapViews
import Derived.JoinedTies
import Derived.KernelRfl
namespace Go.Proofs.Ytfppnefcicdnfaa
/- THE CELL 'sum', in the pinned program and in every row, IS THE sha256 OF THE DUMP (.gsa) THAT YtfppnefcicdnfaaProg.lean LOADS. Nothing in Lean hashes anything: it is a label: what it is worth is what the hold of that sum in a sandbox is worth. -/
noncomputable def Try.pinned : Pinned := { name := "ytfppnefcicdnfaa", sum := "27d60a5d225deb6711c0baea9be9e7c77a90da61e3cc80c57f844afa1aac4363", checked := Try.checked }
namespace Rows
def none {H : Type} : Left H := { results := [], args := [] }

/-- 'gamehalllaw3.SwissPairs': WHATEVER THE INPUT: true; the input reads as it did. -/
def swissPairsSpec : ChangeSpec := { name := "swissPairs", fn := fun _ => fun
  | [d1, d2, d3] => { results := [.lit (.bool true)], args := [d1, d2, d3] }
  | _ => none }
def swissPairsRow : OpenClaim := { program := "ytfppnefcicdnfaa", sum := "27d60a5d225deb6711c0baea9be9e7c77a90da61e3cc80c57f844afa1aac4363", func := "gamehall/gamehalllaw3.SwissPairs", spec := "swissPairs", unfollowed := true, recurses := true, apart := false }
def SwissPairsSaid : Prop := swissPairsRow.holds Try.pinned (OpenSpec.ofChange swissPairsSpec)

/-- ITS FALSE NEIGHBOUR: 'it returns false'. Refute it at one input. -/
def swissPairsWrong : ChangeSpec := { name := "swissPairs", fn := fun _ => fun
  | [d1, d2, d3] => { results := [.lit (.bool false)], args := [d1, d2, d3] }
  | _ => none }
def SwissPairsWrongFalsely : Prop := swissPairsRow.holds Try.pinned (OpenSpec.ofChange swissPairsWrong)

/-- 'gamehalllaw3.StandingSays': WHATEVER THE INPUT: true; the input reads as it did. -/
def standingSaysSpec : ChangeSpec := { name := "standingSays", fn := fun _ => fun
  | [d1, d2, d3, d4, d5] => { results := [.lit (.bool true)], args := [d1, d2, d3, d4, d5] }
  | _ => none }
def standingSaysRow : OpenClaim := { program := "ytfppnefcicdnfaa", sum := "27d60a5d225deb6711c0baea9be9e7c77a90da61e3cc80c57f844afa1aac4363", func := "gamehall/gamehalllaw3.StandingSays", spec := "standingSays", unfollowed := true, recurses := true, apart := false }
def StandingSaysSaid : Prop := standingSaysRow.holds Try.pinned (OpenSpec.ofChange standingSaysSpec)

/-- ITS FALSE NEIGHBOUR: 'it returns false'. Refute it at one input. -/
def standingSaysWrong : ChangeSpec := { name := "standingSays", fn := fun _ => fun
  | [d1, d2, d3, d4, d5] => { results := [.lit (.bool false)], args := [d1, d2, d3, d4, d5] }
  | _ => none }
def StandingSaysWrongFalsely : Prop := standingSaysRow.holds Try.pinned (OpenSpec.ofChange standingSaysWrong)

/-- 'gamehalllaw1.ProofnumProves': WHATEVER THE INPUT: true; the input reads as it did. -/
def proofnumProvesSpec : ChangeSpec := { name := "proofnumProves", fn := fun _ => fun
  | [d1, d2, d3] => { results := [.lit (.bool true)], args := [d1, d2, d3] }
  | _ => none }
def proofnumProvesRow : OpenClaim := { program := "ytfppnefcicdnfaa", sum := "27d60a5d225deb6711c0baea9be9e7c77a90da61e3cc80c57f844afa1aac4363", func := "gamehall/gamehalllaw1.ProofnumProves", spec := "proofnumProves", unfollowed := true, recurses := true, apart := false }
def ProofnumProvesSaid : Prop := proofnumProvesRow.holds Try.pinned (OpenSpec.ofChange proofnumProvesSpec)

/-- ITS FALSE NEIGHBOUR: 'it returns false'. Refute it at one input. -/
def proofnumProvesWrong : ChangeSpec := { name := "proofnumProves", fn := fun _ => fun
  | [d1, d2, d3] => { results := [.lit (.bool false)], args := [d1, d2, d3] }
  | _ => none }
def ProofnumProvesWrongFalsely : Prop := proofnumProvesRow.holds Try.pinned (OpenSpec.ofChange proofnumProvesWrong)

/-- 'gamehalllaw1.WalkRuns': WHATEVER THE INPUT: true; the input reads as it did. -/
def walkRunsSpec : ChangeSpec := { name := "walkRuns", fn := fun _ => fun
  | [d1, d2, d3, d4] => { results := [.lit (.bool true)], args := [d1, d2, d3, d4] }
  | _ => none }
def walkRunsRow : OpenClaim := { program := "ytfppnefcicdnfaa", sum := "27d60a5d225deb6711c0baea9be9e7c77a90da61e3cc80c57f844afa1aac4363", func := "gamehall/gamehalllaw1.WalkRuns", spec := "walkRuns", unfollowed := true, recurses := true, apart := false }
def WalkRunsSaid : Prop := walkRunsRow.holds Try.pinned (OpenSpec.ofChange walkRunsSpec)

/-- ITS FALSE NEIGHBOUR: 'it returns false'. Refute it at one input. -/
def walkRunsWrong : ChangeSpec := { name := "walkRuns", fn := fun _ => fun
  | [d1, d2, d3, d4] => { results := [.lit (.bool false)], args := [d1, d2, d3, d4] }
  | _ => none }
def WalkRunsWrongFalsely : Prop := walkRunsRow.holds Try.pinned (OpenSpec.ofChange walkRunsWrong)

/-- 'gamehalllaw3.BookMerges': WHATEVER THE INPUT: true; the input reads as it did. -/
def bookMergesSpec : ChangeSpec := { name := "bookMerges", fn := fun _ => fun
  | [d1, d2, d3] => { results := [.lit (.bool true)], args := [d1, d2, d3] }
  | _ => none }
def bookMergesRow : OpenClaim := { program := "ytfppnefcicdnfaa", sum := "27d60a5d225deb6711c0baea9be9e7c77a90da61e3cc80c57f844afa1aac4363", func := "gamehall/gamehalllaw3.BookMerges", spec := "bookMerges", inPlace := ["slices.overlaps[gamehall/api.BookEntry]"], unfollowed := true, recurses := true, apart := false }
def BookMergesSaid : Prop := bookMergesRow.holds Try.pinned (OpenSpec.ofChange bookMergesSpec)

/-- ITS FALSE NEIGHBOUR: 'it returns false'. Refute it at one input. -/
def bookMergesWrong : ChangeSpec := { name := "bookMerges", fn := fun _ => fun
  | [d1, d2, d3] => { results := [.lit (.bool false)], args := [d1, d2, d3] }
  | _ => none }
def BookMergesWrongFalsely : Prop := bookMergesRow.holds Try.pinned (OpenSpec.ofChange bookMergesWrong)

/- THE SECOND FORM. 'bulk': how many values and letters a reading holds, each counted each time it is reached (what is shared counts as often as it is met; a slice's spare places count too). A statement '..UptoSaid' is the law's where the arguments, and the package variables that the reading takes, are together of bulk at most 1048576: NARROWER than '..Said'. Prove '..Said' where nothing that the law and all that it calls make is longer than what came in: it says more and counts as full. Else prove '..UptoSaid'. A law counts once. -/
mutual
def uptoBulk {H : Type} : DataW H → Nat
  | .lit (.string bytes) => bytes.length + 1
  | .lit _ => 1
  | .nil => 1
  | .ptr d => uptoBulk d + 1
  | .slice elems spare => uptoBulkAll elems + uptoBulkAll spare + 1
  | .agg parts => uptoBulkAll parts + 1
  | .iface _ d => uptoBulk d + 1
  | .map entries => uptoBulkEntries entries + 1
  | .held _ => 1
def uptoBulkAll {H : Type} : List (DataW H) → Nat
  | [] => 0
  | d :: r => uptoBulk d + uptoBulkAll r
def uptoBulkEntries {H : Type} : List (Lit × DataW H) → Nat
  | [] => 0
  | x :: r => uptoBulkEntry x + uptoBulkEntries r
def uptoBulkEntry {H : Type} : Lit × DataW H → Nat
  | (.string bytes, d) => bytes.length + uptoBulk d + 1
  | (_, d) => uptoBulk d + 1
 end
def uptoSmall : (H : Type) → List (DataW H) → Bool := fun _ ds => decide (uptoBulkAll ds ≤ 1048576)
def OpenSpec.upto (s : _root_.Go.ChangeSpec) : _root_.Go.OpenSpec := { _root_.Go.OpenSpec.ofChange s with cond := some uptoSmall }

/-- 'gamehalllaw3.SwissPairs', WHERE WHAT IT READS IS OF BULK AT MOST 1048576: true; the input reads as it did. -/
def swissPairsUptoRow : OpenClaim := { program := "ytfppnefcicdnfaa", sum := "27d60a5d225deb6711c0baea9be9e7c77a90da61e3cc80c57f844afa1aac4363", func := "gamehall/gamehalllaw3.SwissPairs", spec := "swissPairs", unfollowed := true, recurses := true, apart := false, narrowed := true }
def SwissPairsUptoSaid : Prop := swissPairsUptoRow.holds Try.pinned (OpenSpec.upto swissPairsSpec)

/-- 'gamehalllaw3.StandingSays', WHERE WHAT IT READS IS OF BULK AT MOST 1048576: true; the input reads as it did. -/
def standingSaysUptoRow : OpenClaim := { program := "ytfppnefcicdnfaa", sum := "27d60a5d225deb6711c0baea9be9e7c77a90da61e3cc80c57f844afa1aac4363", func := "gamehall/gamehalllaw3.StandingSays", spec := "standingSays", unfollowed := true, recurses := true, apart := false, narrowed := true }
def StandingSaysUptoSaid : Prop := standingSaysUptoRow.holds Try.pinned (OpenSpec.upto standingSaysSpec)

/-- 'gamehalllaw1.ProofnumProves', WHERE WHAT IT READS IS OF BULK AT MOST 1048576: true; the input reads as it did. -/
def proofnumProvesUptoRow : OpenClaim := { program := "ytfppnefcicdnfaa", sum := "27d60a5d225deb6711c0baea9be9e7c77a90da61e3cc80c57f844afa1aac4363", func := "gamehall/gamehalllaw1.ProofnumProves", spec := "proofnumProves", unfollowed := true, recurses := true, apart := false, narrowed := true }
def ProofnumProvesUptoSaid : Prop := proofnumProvesUptoRow.holds Try.pinned (OpenSpec.upto proofnumProvesSpec)

/-- 'gamehalllaw1.WalkRuns', WHERE WHAT IT READS IS OF BULK AT MOST 1048576: true; the input reads as it did. -/
def walkRunsUptoRow : OpenClaim := { program := "ytfppnefcicdnfaa", sum := "27d60a5d225deb6711c0baea9be9e7c77a90da61e3cc80c57f844afa1aac4363", func := "gamehall/gamehalllaw1.WalkRuns", spec := "walkRuns", unfollowed := true, recurses := true, apart := false, narrowed := true }
def WalkRunsUptoSaid : Prop := walkRunsUptoRow.holds Try.pinned (OpenSpec.upto walkRunsSpec)

/-- 'gamehalllaw3.BookMerges', WHERE WHAT IT READS IS OF BULK AT MOST 1048576: true; the input reads as it did. -/
def bookMergesUptoRow : OpenClaim := { program := "ytfppnefcicdnfaa", sum := "27d60a5d225deb6711c0baea9be9e7c77a90da61e3cc80c57f844afa1aac4363", func := "gamehall/gamehalllaw3.BookMerges", spec := "bookMerges", inPlace := ["slices.overlaps[gamehall/api.BookEntry]"], unfollowed := true, recurses := true, apart := false, narrowed := true }
def BookMergesUptoSaid : Prop := bookMergesUptoRow.holds Try.pinned (OpenSpec.upto bookMergesSpec)

end Rows
end Go.Proofs.Ytfppnefcicdnfaa
