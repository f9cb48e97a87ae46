/-
  No cell of these rows narrows 'for every input' (looked for: loops, veiled, ifaces, maps, wideKeys, modest, calm, conditions, laid).
  DERIVED. THE GIVEN ROWS OF THIS SEAT. 5 by the template 'for every input the law returns true; each argument reads behind the call as it read before'; 0 by the template 'total and deterministic' (their statements: YtcifaoaepbidoaaTotals.lean).
  GIVEN WITH THE SEED: the statements are not yours to turn. If you find one false, say at which input.
  Laid BY PROGRAM, IN A SANDBOX (cutbox-rows.mjs): the forced cells as the released guide's own fill.sh prints them over the translation efbfd69a4bb4f51f… (all of the seat's roots in one cut). By AI agents, Wed Nov 11 2026. No macro, syntax, notation, axiom, sorry.
-/
import Derived.Test.YtcifaoaepbidoaaChecked
import GoSem.Claim
import GoSem.ClaimJoined
import GoSem.ClaimMapViews
import Derived.JoinedTies
import Derived.KernelRfl
namespace Go.Proofs.Ytcifaoaepbidoaa
/- THE CELL 'sum', in the pinned program and in every row, IS THE sha256 OF THE DUMP (.gsa) THAT YtcifaoaepbidoaaProg.lean LOADS. Nothing in Lean hashes anything: it is a label: what it is worth is what the hold of that sum in a sandbox is worth. -/
noncomputable def Try.pinned : Pinned := { name := "ytcifaoaepbidoaa", sum := "efbfd69a4bb4f51f610c93c18a79c7279c4bb8e4089471817b06d8dca9b06cb4", checked := Try.checked }
namespace Rows
def none {H : Type} : Left H := { results := [], args := [] }

/-- 'gamehalllaw3.SwissPairs': WHATEVER THE INPUT: true; the input reads as it did. -/
def swissPairsSpec : ChangeSpec := { name := "swissPairs", fn := fun _ => fun
  | [d1, d2, d3] => { results := [.lit (.bool true)], args := [d1, d2, d3] }
  | _ => none }
def swissPairsRow : OpenClaim := { program := "ytcifaoaepbidoaa", sum := "efbfd69a4bb4f51f610c93c18a79c7279c4bb8e4089471817b06d8dca9b06cb4", func := "gamehall/gamehalllaw3.SwissPairs", spec := "swissPairs", unfollowed := true, recurses := true, apart := false }
def SwissPairsSaid : Prop := swissPairsRow.holds Try.pinned (OpenSpec.ofChange swissPairsSpec)

/-- ITS FALSE NEIGHBOUR: 'it returns false'. Refute it at one input. -/
def swissPairsWrong : ChangeSpec := { name := "swissPairs", fn := fun _ => fun
  | [d1, d2, d3] => { results := [.lit (.bool false)], args := [d1, d2, d3] }
  | _ => none }
def SwissPairsWrongFalsely : Prop := swissPairsRow.holds Try.pinned (OpenSpec.ofChange swissPairsWrong)

/-- 'gamehalllaw3.StandingSays': WHATEVER THE INPUT: true; the input reads as it did. -/
def standingSaysSpec : ChangeSpec := { name := "standingSays", fn := fun _ => fun
  | [d1, d2, d3, d4, d5] => { results := [.lit (.bool true)], args := [d1, d2, d3, d4, d5] }
  | _ => none }
def standingSaysRow : OpenClaim := { program := "ytcifaoaepbidoaa", sum := "efbfd69a4bb4f51f610c93c18a79c7279c4bb8e4089471817b06d8dca9b06cb4", func := "gamehall/gamehalllaw3.StandingSays", spec := "standingSays", unfollowed := true, recurses := true, apart := false }
def StandingSaysSaid : Prop := standingSaysRow.holds Try.pinned (OpenSpec.ofChange standingSaysSpec)

/-- ITS FALSE NEIGHBOUR: 'it returns false'. Refute it at one input. -/
def standingSaysWrong : ChangeSpec := { name := "standingSays", fn := fun _ => fun
  | [d1, d2, d3, d4, d5] => { results := [.lit (.bool false)], args := [d1, d2, d3, d4, d5] }
  | _ => none }
def StandingSaysWrongFalsely : Prop := standingSaysRow.holds Try.pinned (OpenSpec.ofChange standingSaysWrong)

/-- 'gamehalllaw1.NimsumHeaps': WHATEVER THE INPUT: true; the input reads as it did. -/
def nimsumHeapsSpec : ChangeSpec := { name := "nimsumHeaps", fn := fun _ => fun
  | [d1, d2, d3] => { results := [.lit (.bool true)], args := [d1, d2, d3] }
  | _ => none }
def nimsumHeapsRow : OpenClaim := { program := "ytcifaoaepbidoaa", sum := "efbfd69a4bb4f51f610c93c18a79c7279c4bb8e4089471817b06d8dca9b06cb4", func := "gamehall/gamehalllaw1.NimsumHeaps", spec := "nimsumHeaps", unfollowed := true, recurses := true, apart := false }
def NimsumHeapsSaid : Prop := nimsumHeapsRow.holds Try.pinned (OpenSpec.ofChange nimsumHeapsSpec)

/-- ITS FALSE NEIGHBOUR: 'it returns false'. Refute it at one input. -/
def nimsumHeapsWrong : ChangeSpec := { name := "nimsumHeaps", fn := fun _ => fun
  | [d1, d2, d3] => { results := [.lit (.bool false)], args := [d1, d2, d3] }
  | _ => none }
def NimsumHeapsWrongFalsely : Prop := nimsumHeapsRow.holds Try.pinned (OpenSpec.ofChange nimsumHeapsWrong)

/-- 'gamehalllaw1.WalkRuns': WHATEVER THE INPUT: true; the input reads as it did. -/
def walkRunsSpec : ChangeSpec := { name := "walkRuns", fn := fun _ => fun
  | [d1, d2, d3, d4] => { results := [.lit (.bool true)], args := [d1, d2, d3, d4] }
  | _ => none }
def walkRunsRow : OpenClaim := { program := "ytcifaoaepbidoaa", sum := "efbfd69a4bb4f51f610c93c18a79c7279c4bb8e4089471817b06d8dca9b06cb4", func := "gamehall/gamehalllaw1.WalkRuns", spec := "walkRuns", unfollowed := true, recurses := true, apart := false }
def WalkRunsSaid : Prop := walkRunsRow.holds Try.pinned (OpenSpec.ofChange walkRunsSpec)

/-- ITS FALSE NEIGHBOUR: 'it returns false'. Refute it at one input. -/
def walkRunsWrong : ChangeSpec := { name := "walkRuns", fn := fun _ => fun
  | [d1, d2, d3, d4] => { results := [.lit (.bool false)], args := [d1, d2, d3, d4] }
  | _ => none }
def WalkRunsWrongFalsely : Prop := walkRunsRow.holds Try.pinned (OpenSpec.ofChange walkRunsWrong)

/-- 'gamehalllaw1.ProofnumProves': WHATEVER THE INPUT: true; the input reads as it did. -/
def proofnumProvesSpec : ChangeSpec := { name := "proofnumProves", fn := fun _ => fun
  | [d1, d2, d3] => { results := [.lit (.bool true)], args := [d1, d2, d3] }
  | _ => none }
def proofnumProvesRow : OpenClaim := { program := "ytcifaoaepbidoaa", sum := "efbfd69a4bb4f51f610c93c18a79c7279c4bb8e4089471817b06d8dca9b06cb4", func := "gamehall/gamehalllaw1.ProofnumProves", spec := "proofnumProves", unfollowed := true, recurses := true, apart := false }
def ProofnumProvesSaid : Prop := proofnumProvesRow.holds Try.pinned (OpenSpec.ofChange proofnumProvesSpec)

/-- ITS FALSE NEIGHBOUR: 'it returns false'. Refute it at one input. -/
def proofnumProvesWrong : ChangeSpec := { name := "proofnumProves", fn := fun _ => fun
  | [d1, d2, d3] => { results := [.lit (.bool false)], args := [d1, d2, d3] }
  | _ => none }
def ProofnumProvesWrongFalsely : Prop := proofnumProvesRow.holds Try.pinned (OpenSpec.ofChange proofnumProvesWrong)

/- THE SECOND FORM. 'bulk': how many values and letters a reading holds, each counted each time it is reached (what is shared counts as often as it is met; a slice's spare places count too). A statement '..UptoSaid' is the law's where the arguments, and the package variables that the reading takes, are together of bulk at most 1048576: NARROWER than '..Said'. Prove '..Said' where nothing that the law and all that it calls make is longer than what came in: it says more and counts as full. Else prove '..UptoSaid'. A law counts once. -/
mutual
def uptoBulk {H : Type} : DataW H → Nat
  | .lit (.string bytes) => bytes.length + 1
  | .lit _ => 1
  | .nil => 1
  | .ptr d => uptoBulk d + 1
  | .slice elems spare => uptoBulkAll elems + uptoBulkAll spare + 1
  | .agg parts => uptoBulkAll parts + 1
  | .iface _ d => uptoBulk d + 1
  | .map entries => uptoBulkEntries entries + 1
  | .held _ => 1
def uptoBulkAll {H : Type} : List (DataW H) → Nat
  | [] => 0
  | d :: r => uptoBulk d + uptoBulkAll r
def uptoBulkEntries {H : Type} : List (Lit × DataW H) → Nat
  | [] => 0
  | x :: r => uptoBulkEntry x + uptoBulkEntries r
def uptoBulkEntry {H : Type} : Lit × DataW H → Nat
  | (.string bytes, d) => bytes.length + uptoBulk d + 1
  | (_, d) => uptoBulk d + 1
 end
def uptoSmall : (H : Type) → List (DataW H) → Bool := fun _ ds => decide (uptoBulkAll ds ≤ 1048576)
def OpenSpec.upto (s : _root_.Go.ChangeSpec) : _root_.Go.OpenSpec := { _root_.Go.OpenSpec.ofChange s with cond := some uptoSmall }

/-- 'gamehalllaw3.SwissPairs', WHERE WHAT IT READS IS OF BULK AT MOST 1048576: true; the input reads as it did. -/
def swissPairsUptoRow : OpenClaim := { program := "ytcifaoaepbidoaa", sum := "efbfd69a4bb4f51f610c93c18a79c7279c4bb8e4089471817b06d8dca9b06cb4", func := "gamehall/gamehalllaw3.SwissPairs", spec := "swissPairs", unfollowed := true, recurses := true, apart := false, narrowed := true }
def SwissPairsUptoSaid : Prop := swissPairsUptoRow.holds Try.pinned (OpenSpec.upto swissPairsSpec)

/-- 'gamehalllaw3.StandingSays', WHERE WHAT IT READS IS OF BULK AT MOST 1048576: true; the input reads as it did. -/
def standingSaysUptoRow : OpenClaim := { program := "ytcifaoaepbidoaa", sum := "efbfd69a4bb4f51f610c93c18a79c7279c4bb8e4089471817b06d8dca9b06cb4", func := "gamehall/gamehalllaw3.StandingSays", spec := "standingSays", unfollowed := true, recurses := true, apart := false, narrowed := true }
def StandingSaysUptoSaid : Prop := standingSaysUptoRow.holds Try.pinned (OpenSpec.upto standingSaysSpec)

/-- 'gamehalllaw1.NimsumHeaps', WHERE WHAT IT READS IS OF BULK AT MOST 1048576: true; the input reads as it did. -/
def nimsumHeapsUptoRow : OpenClaim := { program := "ytcifaoaepbidoaa", sum := "efbfd69a4bb4f51f610c93c18a79c7279c4bb8e4089471817b06d8dca9b06cb4", func := "gamehall/gamehalllaw1.NimsumHeaps", spec := "nimsumHeaps", unfollowed := true, recurses := true, apart := false, narrowed := true }
def NimsumHeapsUptoSaid : Prop := nimsumHeapsUptoRow.holds Try.pinned (OpenSpec.upto nimsumHeapsSpec)

/-- 'gamehalllaw1.WalkRuns', WHERE WHAT IT READS IS OF BULK AT MOST 1048576: true; the input reads as it did. -/
def walkRunsUptoRow : OpenClaim := { program := "ytcifaoaepbidoaa", sum := "efbfd69a4bb4f51f610c93c18a79c7279c4bb8e4089471817b06d8dca9b06cb4", func := "gamehall/gamehalllaw1.WalkRuns", spec := "walkRuns", unfollowed := true, recurses := true, apart := false, narrowed := true }
def WalkRunsUptoSaid : Prop := walkRunsUptoRow.holds Try.pinned (OpenSpec.upto walkRunsSpec)

/-- 'gamehalllaw1.ProofnumProves', WHERE WHAT IT READS IS OF BULK AT MOST 1048576: true; the input reads as it did. -/
def proofnumProvesUptoRow : OpenClaim := { program := "ytcifaoaepbidoaa", sum := "efbfd69a4bb4f51f610c93c18a79c7279c4bb8e4089471817b06d8dca9b06cb4", func := "gamehall/gamehalllaw1.ProofnumProves", spec := "proofnumProves", unfollowed := true, recurses := true, apart := false, narrowed := true }
def ProofnumProvesUptoSaid : Prop := proofnumProvesUptoRow.holds Try.pinned (OpenSpec.upto proofnumProvesSpec)

end Rows
end Go.Proofs.Ytcifaoaepbidoaa
