/-
  No cell of these rows narrows 'for every input' (looked for: loops, veiled, ifaces, maps, wideKeys, modest, calm, conditions, laid).
  DERIVED. THE GIVEN ROWS OF THIS SEAT. 12 by the template 'for every input the law returns true; each argument reads behind the call as it read before'; 0 by the template 'total and deterministic' (their statements: YtpajmeljfpolcaaTotals.lean).
  GIVEN WITH THE SEED: the statements are not yours to turn. If you find one false, say at which input.
  Laid BY PROGRAM, IN A SANDBOX (cutbox-rows.mjs): the forced cells as the released guide's own fill.sh prints them over the translation c7c030e1d255d263… (all of the seat's roots in one cut). By AI agents, Wed Nov 11 2026. No macro, syntax, notation, axiom, sorry.
-/
import Derived.Test.YtpajmeljfpolcaaChecked
import GoSem.Claim
import GoSem.ClaimJoined
import GoSem.ClaimMapViews
import Derived.JoinedTies
import Derived.KernelRfl
namespace Go.Proofs.Ytpajmeljfpolcaa
/- THE CELL 'sum', in the pinned program and in every row, IS THE sha256 OF THE DUMP (.gsa) THAT YtpajmeljfpolcaaProg.lean LOADS. Nothing in Lean hashes anything: it is a label: what it is worth is what the hold of that sum in a sandbox is worth. -/
noncomputable def Try.pinned : Pinned := { name := "ytpajmeljfpolcaa", sum := "c7c030e1d255d2634355a2750e654f3b8e311f0d6a399283216aedb81b05e5d9", checked := Try.checked }
namespace Rows
def none {H : Type} : Left H := { results := [], args := [] }

/-- 'gamehalllaw1.PlainRuns': WHATEVER THE INPUT: true; the input reads as it did. -/
def plainRunsSpec : ChangeSpec := { name := "plainRuns", fn := fun _ => fun
  | [d1, d2] => { results := [.lit (.bool true)], args := [d1, d2] }
  | _ => none }
def plainRunsRow : OpenClaim := { program := "ytpajmeljfpolcaa", sum := "c7c030e1d255d2634355a2750e654f3b8e311f0d6a399283216aedb81b05e5d9", func := "gamehall/gamehalllaw1.PlainRuns", spec := "plainRuns", unfollowed := true, recurses := true, apart := false }
def PlainRunsSaid : Prop := plainRunsRow.holds Try.pinned (OpenSpec.ofChange plainRunsSpec)

/-- ITS FALSE NEIGHBOUR: 'it returns false'. Refute it at one input. -/
def plainRunsWrong : ChangeSpec := { name := "plainRuns", fn := fun _ => fun
  | [d1, d2] => { results := [.lit (.bool false)], args := [d1, d2] }
  | _ => none }
def PlainRunsWrongFalsely : Prop := plainRunsRow.holds Try.pinned (OpenSpec.ofChange plainRunsWrong)

/-- 'gamehalllaw1.PerftCounts': WHATEVER THE INPUT: true; the input reads as it did. -/
def perftCountsSpec : ChangeSpec := { name := "perftCounts", fn := fun _ => fun
  | [d1, d2, d3] => { results := [.lit (.bool true)], args := [d1, d2, d3] }
  | _ => none }
def perftCountsRow : OpenClaim := { program := "ytpajmeljfpolcaa", sum := "c7c030e1d255d2634355a2750e654f3b8e311f0d6a399283216aedb81b05e5d9", func := "gamehall/gamehalllaw1.PerftCounts", spec := "perftCounts", unfollowed := true, recurses := true, apart := false }
def PerftCountsSaid : Prop := perftCountsRow.holds Try.pinned (OpenSpec.ofChange perftCountsSpec)

/-- ITS FALSE NEIGHBOUR: 'it returns false'. Refute it at one input. -/
def perftCountsWrong : ChangeSpec := { name := "perftCounts", fn := fun _ => fun
  | [d1, d2, d3] => { results := [.lit (.bool false)], args := [d1, d2, d3] }
  | _ => none }
def PerftCountsWrongFalsely : Prop := perftCountsRow.holds Try.pinned (OpenSpec.ofChange perftCountsWrong)

/-- 'gamehalllaw1.BoardFollows': WHATEVER THE INPUT: true; the input reads as it did. -/
def boardFollowsSpec : ChangeSpec := { name := "boardFollows", fn := fun _ => fun
  | [d1, d2, d3] => { results := [.lit (.bool true)], args := [d1, d2, d3] }
  | _ => none }
def boardFollowsRow : OpenClaim := { program := "ytpajmeljfpolcaa", sum := "c7c030e1d255d2634355a2750e654f3b8e311f0d6a399283216aedb81b05e5d9", func := "gamehall/gamehalllaw1.BoardFollows", spec := "boardFollows", unfollowed := true, recurses := true, apart := false }
def BoardFollowsSaid : Prop := boardFollowsRow.holds Try.pinned (OpenSpec.ofChange boardFollowsSpec)

/-- ITS FALSE NEIGHBOUR: 'it returns false'. Refute it at one input. -/
def boardFollowsWrong : ChangeSpec := { name := "boardFollows", fn := fun _ => fun
  | [d1, d2, d3] => { results := [.lit (.bool false)], args := [d1, d2, d3] }
  | _ => none }
def BoardFollowsWrongFalsely : Prop := boardFollowsRow.holds Try.pinned (OpenSpec.ofChange boardFollowsWrong)

/-- 'gamehalllaw1.StoreKeeps': WHATEVER THE INPUT: true; the input reads as it did. -/
def storeKeepsSpec : ChangeSpec := { name := "storeKeeps", fn := fun _ => fun
  | [d1, d2, d3, d4] => { results := [.lit (.bool true)], args := [d1, d2, d3, d4] }
  | _ => none }
def storeKeepsRow : OpenClaim := { program := "ytpajmeljfpolcaa", sum := "c7c030e1d255d2634355a2750e654f3b8e311f0d6a399283216aedb81b05e5d9", func := "gamehall/gamehalllaw1.StoreKeeps", spec := "storeKeeps", unfollowed := true, recurses := true, apart := false }
def StoreKeepsSaid : Prop := storeKeepsRow.holds Try.pinned (OpenSpec.ofChange storeKeepsSpec)

/-- ITS FALSE NEIGHBOUR: 'it returns false'. Refute it at one input. -/
def storeKeepsWrong : ChangeSpec := { name := "storeKeeps", fn := fun _ => fun
  | [d1, d2, d3, d4] => { results := [.lit (.bool false)], args := [d1, d2, d3, d4] }
  | _ => none }
def StoreKeepsWrongFalsely : Prop := storeKeepsRow.holds Try.pinned (OpenSpec.ofChange storeKeepsWrong)

/-- 'gamehalllaw1.SymmMaps': WHATEVER THE INPUT: true; the input reads as it did. -/
def symmMapsSpec : ChangeSpec := { name := "symmMaps", fn := fun _ => fun
  | [d1, d2, d3, d4, d5] => { results := [.lit (.bool true)], args := [d1, d2, d3, d4, d5] }
  | _ => none }
def symmMapsRow : OpenClaim := { program := "ytpajmeljfpolcaa", sum := "c7c030e1d255d2634355a2750e654f3b8e311f0d6a399283216aedb81b05e5d9", func := "gamehall/gamehalllaw1.SymmMaps", spec := "symmMaps", recurses := true, apart := false }
def SymmMapsSaid : Prop := symmMapsRow.holds Try.pinned (OpenSpec.ofChange symmMapsSpec)

/-- ITS FALSE NEIGHBOUR: 'it returns false'. Refute it at one input. -/
def symmMapsWrong : ChangeSpec := { name := "symmMaps", fn := fun _ => fun
  | [d1, d2, d3, d4, d5] => { results := [.lit (.bool false)], args := [d1, d2, d3, d4, d5] }
  | _ => none }
def SymmMapsWrongFalsely : Prop := symmMapsRow.holds Try.pinned (OpenSpec.ofChange symmMapsWrong)

/-- 'gamehalllaw1.ProofnumProves': WHATEVER THE INPUT: true; the input reads as it did. -/
def proofnumProvesSpec : ChangeSpec := { name := "proofnumProves", fn := fun _ => fun
  | [d1, d2, d3] => { results := [.lit (.bool true)], args := [d1, d2, d3] }
  | _ => none }
def proofnumProvesRow : OpenClaim := { program := "ytpajmeljfpolcaa", sum := "c7c030e1d255d2634355a2750e654f3b8e311f0d6a399283216aedb81b05e5d9", func := "gamehall/gamehalllaw1.ProofnumProves", spec := "proofnumProves", unfollowed := true, recurses := true, apart := false }
def ProofnumProvesSaid : Prop := proofnumProvesRow.holds Try.pinned (OpenSpec.ofChange proofnumProvesSpec)

/-- ITS FALSE NEIGHBOUR: 'it returns false'. Refute it at one input. -/
def proofnumProvesWrong : ChangeSpec := { name := "proofnumProves", fn := fun _ => fun
  | [d1, d2, d3] => { results := [.lit (.bool false)], args := [d1, d2, d3] }
  | _ => none }
def ProofnumProvesWrongFalsely : Prop := proofnumProvesRow.holds Try.pinned (OpenSpec.ofChange proofnumProvesWrong)

/-- 'gamehalllaw1.MinimaxScores': WHATEVER THE INPUT: true; the input reads as it did. -/
def minimaxScoresSpec : ChangeSpec := { name := "minimaxScores", fn := fun _ => fun
  | [d1, d2, d3] => { results := [.lit (.bool true)], args := [d1, d2, d3] }
  | _ => none }
def minimaxScoresRow : OpenClaim := { program := "ytpajmeljfpolcaa", sum := "c7c030e1d255d2634355a2750e654f3b8e311f0d6a399283216aedb81b05e5d9", func := "gamehall/gamehalllaw1.MinimaxScores", spec := "minimaxScores", unfollowed := true, recurses := true, apart := false }
def MinimaxScoresSaid : Prop := minimaxScoresRow.holds Try.pinned (OpenSpec.ofChange minimaxScoresSpec)

/-- ITS FALSE NEIGHBOUR: 'it returns false'. Refute it at one input. -/
def minimaxScoresWrong : ChangeSpec := { name := "minimaxScores", fn := fun _ => fun
  | [d1, d2, d3] => { results := [.lit (.bool false)], args := [d1, d2, d3] }
  | _ => none }
def MinimaxScoresWrongFalsely : Prop := minimaxScoresRow.holds Try.pinned (OpenSpec.ofChange minimaxScoresWrong)

/-- 'gamehalllaw1.WindowClamps': WHATEVER THE INPUT: true; the input reads as it did. -/
def windowClampsSpec : ChangeSpec := { name := "windowClamps", fn := fun _ => fun
  | [d1, d2, d3, d4, d5] => { results := [.lit (.bool true)], args := [d1, d2, d3, d4, d5] }
  | _ => none }
def windowClampsRow : OpenClaim := { program := "ytpajmeljfpolcaa", sum := "c7c030e1d255d2634355a2750e654f3b8e311f0d6a399283216aedb81b05e5d9", func := "gamehall/gamehalllaw1.WindowClamps", spec := "windowClamps", unfollowed := true, recurses := true, apart := false }
def WindowClampsSaid : Prop := windowClampsRow.holds Try.pinned (OpenSpec.ofChange windowClampsSpec)

/-- ITS FALSE NEIGHBOUR: 'it returns false'. Refute it at one input. -/
def windowClampsWrong : ChangeSpec := { name := "windowClamps", fn := fun _ => fun
  | [d1, d2, d3, d4, d5] => { results := [.lit (.bool false)], args := [d1, d2, d3, d4, d5] }
  | _ => none }
def WindowClampsWrongFalsely : Prop := windowClampsRow.holds Try.pinned (OpenSpec.ofChange windowClampsWrong)

/-- 'gamehalllaw1.DeepenBest': WHATEVER THE INPUT: true; the input reads as it did. -/
def deepenBestSpec : ChangeSpec := { name := "deepenBest", fn := fun _ => fun
  | [d1, d2, d3, d4] => { results := [.lit (.bool true)], args := [d1, d2, d3, d4] }
  | _ => none }
def deepenBestRow : OpenClaim := { program := "ytpajmeljfpolcaa", sum := "c7c030e1d255d2634355a2750e654f3b8e311f0d6a399283216aedb81b05e5d9", func := "gamehall/gamehalllaw1.DeepenBest", spec := "deepenBest", unfollowed := true, recurses := true, apart := false }
def DeepenBestSaid : Prop := deepenBestRow.holds Try.pinned (OpenSpec.ofChange deepenBestSpec)

/-- ITS FALSE NEIGHBOUR: 'it returns false'. Refute it at one input. -/
def deepenBestWrong : ChangeSpec := { name := "deepenBest", fn := fun _ => fun
  | [d1, d2, d3, d4] => { results := [.lit (.bool false)], args := [d1, d2, d3, d4] }
  | _ => none }
def DeepenBestWrongFalsely : Prop := deepenBestRow.holds Try.pinned (OpenSpec.ofChange deepenBestWrong)

/-- 'gamehalllaw1.WalkRuns': WHATEVER THE INPUT: true; the input reads as it did. -/
def walkRunsSpec : ChangeSpec := { name := "walkRuns", fn := fun _ => fun
  | [d1, d2, d3, d4] => { results := [.lit (.bool true)], args := [d1, d2, d3, d4] }
  | _ => none }
def walkRunsRow : OpenClaim := { program := "ytpajmeljfpolcaa", sum := "c7c030e1d255d2634355a2750e654f3b8e311f0d6a399283216aedb81b05e5d9", func := "gamehall/gamehalllaw1.WalkRuns", spec := "walkRuns", unfollowed := true, recurses := true, apart := false }
def WalkRunsSaid : Prop := walkRunsRow.holds Try.pinned (OpenSpec.ofChange walkRunsSpec)

/-- ITS FALSE NEIGHBOUR: 'it returns false'. Refute it at one input. -/
def walkRunsWrong : ChangeSpec := { name := "walkRuns", fn := fun _ => fun
  | [d1, d2, d3, d4] => { results := [.lit (.bool false)], args := [d1, d2, d3, d4] }
  | _ => none }
def WalkRunsWrongFalsely : Prop := walkRunsRow.holds Try.pinned (OpenSpec.ofChange walkRunsWrong)

/-- 'gamehalllaw1.CertChecks': WHATEVER THE INPUT: true; the input reads as it did. -/
def certChecksSpec : ChangeSpec := { name := "certChecks", fn := fun _ => fun
  | [d1, d2, d3] => { results := [.lit (.bool true)], args := [d1, d2, d3] }
  | _ => none }
def certChecksRow : OpenClaim := { program := "ytpajmeljfpolcaa", sum := "c7c030e1d255d2634355a2750e654f3b8e311f0d6a399283216aedb81b05e5d9", func := "gamehall/gamehalllaw1.CertChecks", spec := "certChecks", unfollowed := true, recurses := true, apart := false }
def CertChecksSaid : Prop := certChecksRow.holds Try.pinned (OpenSpec.ofChange certChecksSpec)

/-- ITS FALSE NEIGHBOUR: 'it returns false'. Refute it at one input. -/
def certChecksWrong : ChangeSpec := { name := "certChecks", fn := fun _ => fun
  | [d1, d2, d3] => { results := [.lit (.bool false)], args := [d1, d2, d3] }
  | _ => none }
def CertChecksWrongFalsely : Prop := certChecksRow.holds Try.pinned (OpenSpec.ofChange certChecksWrong)

/-- 'gamehalllaw3.ClaimAdjudicates': WHATEVER THE INPUT: true; the input reads as it did. -/
def claimAdjudicatesSpec : ChangeSpec := { name := "claimAdjudicates", fn := fun _ => fun
  | [d1, d2, d3] => { results := [.lit (.bool true)], args := [d1, d2, d3] }
  | _ => none }
def claimAdjudicatesRow : OpenClaim := { program := "ytpajmeljfpolcaa", sum := "c7c030e1d255d2634355a2750e654f3b8e311f0d6a399283216aedb81b05e5d9", func := "gamehall/gamehalllaw3.ClaimAdjudicates", spec := "claimAdjudicates", unfollowed := true, recurses := true, apart := false }
def ClaimAdjudicatesSaid : Prop := claimAdjudicatesRow.holds Try.pinned (OpenSpec.ofChange claimAdjudicatesSpec)

/-- ITS FALSE NEIGHBOUR: 'it returns false'. Refute it at one input. -/
def claimAdjudicatesWrong : ChangeSpec := { name := "claimAdjudicates", fn := fun _ => fun
  | [d1, d2, d3] => { results := [.lit (.bool false)], args := [d1, d2, d3] }
  | _ => none }
def ClaimAdjudicatesWrongFalsely : Prop := claimAdjudicatesRow.holds Try.pinned (OpenSpec.ofChange claimAdjudicatesWrong)

/- THE SECOND FORM. 'bulk': how many values and letters a reading holds, each counted each time it is reached (what is shared counts as often as it is met; a slice's spare places count too). A statement '..UptoSaid' is the law's where the arguments, and the package variables that the reading takes, are together of bulk at most 1048576: NARROWER than '..Said'. Prove '..Said' where nothing that the law and all that it calls make is longer than what came in: it says more and counts as full. Else prove '..UptoSaid'. A law counts once. -/
mutual
def uptoBulk {H : Type} : DataW H → Nat
  | .lit (.string bytes) => bytes.length + 1
  | .lit _ => 1
  | .nil => 1
  | .ptr d => uptoBulk d + 1
  | .slice elems spare => uptoBulkAll elems + uptoBulkAll spare + 1
  | .agg parts => uptoBulkAll parts + 1
  | .iface _ d => uptoBulk d + 1
  | .map entries => uptoBulkEntries entries + 1
  | .held _ => 1
def uptoBulkAll {H : Type} : List (DataW H) → Nat
  | [] => 0
  | d :: r => uptoBulk d + uptoBulkAll r
def uptoBulkEntries {H : Type} : List (Lit × DataW H) → Nat
  | [] => 0
  | x :: r => uptoBulkEntry x + uptoBulkEntries r
def uptoBulkEntry {H : Type} : Lit × DataW H → Nat
  | (.string bytes, d) => bytes.length + uptoBulk d + 1
  | (_, d) => uptoBulk d + 1
 end
def uptoSmall : (H : Type) → List (DataW H) → Bool := fun _ ds => decide (uptoBulkAll ds ≤ 1048576)
def OpenSpec.upto (s : _root_.Go.ChangeSpec) : _root_.Go.OpenSpec := { _root_.Go.OpenSpec.ofChange s with cond := some uptoSmall }

/-- 'gamehalllaw1.PlainRuns', WHERE WHAT IT READS IS OF BULK AT MOST 1048576: true; the input reads as it did. -/
def plainRunsUptoRow : OpenClaim := { program := "ytpajmeljfpolcaa", sum := "c7c030e1d255d2634355a2750e654f3b8e311f0d6a399283216aedb81b05e5d9", func := "gamehall/gamehalllaw1.PlainRuns", spec := "plainRuns", unfollowed := true, recurses := true, apart := false, narrowed := true }
def PlainRunsUptoSaid : Prop := plainRunsUptoRow.holds Try.pinned (OpenSpec.upto plainRunsSpec)

/-- 'gamehalllaw1.PerftCounts', WHERE WHAT IT READS IS OF BULK AT MOST 1048576: true; the input reads as it did. -/
def perftCountsUptoRow : OpenClaim := { program := "ytpajmeljfpolcaa", sum := "c7c030e1d255d2634355a2750e654f3b8e311f0d6a399283216aedb81b05e5d9", func := "gamehall/gamehalllaw1.PerftCounts", spec := "perftCounts", unfollowed := true, recurses := true, apart := false, narrowed := true }
def PerftCountsUptoSaid : Prop := perftCountsUptoRow.holds Try.pinned (OpenSpec.upto perftCountsSpec)

/-- 'gamehalllaw1.BoardFollows', WHERE WHAT IT READS IS OF BULK AT MOST 1048576: true; the input reads as it did. -/
def boardFollowsUptoRow : OpenClaim := { program := "ytpajmeljfpolcaa", sum := "c7c030e1d255d2634355a2750e654f3b8e311f0d6a399283216aedb81b05e5d9", func := "gamehall/gamehalllaw1.BoardFollows", spec := "boardFollows", unfollowed := true, recurses := true, apart := false, narrowed := true }
def BoardFollowsUptoSaid : Prop := boardFollowsUptoRow.holds Try.pinned (OpenSpec.upto boardFollowsSpec)

/-- 'gamehalllaw1.StoreKeeps', WHERE WHAT IT READS IS OF BULK AT MOST 1048576: true; the input reads as it did. -/
def storeKeepsUptoRow : OpenClaim := { program := "ytpajmeljfpolcaa", sum := "c7c030e1d255d2634355a2750e654f3b8e311f0d6a399283216aedb81b05e5d9", func := "gamehall/gamehalllaw1.StoreKeeps", spec := "storeKeeps", unfollowed := true, recurses := true, apart := false, narrowed := true }
def StoreKeepsUptoSaid : Prop := storeKeepsUptoRow.holds Try.pinned (OpenSpec.upto storeKeepsSpec)

/-- 'gamehalllaw1.SymmMaps', WHERE WHAT IT READS IS OF BULK AT MOST 1048576: true; the input reads as it did. -/
def symmMapsUptoRow : OpenClaim := { program := "ytpajmeljfpolcaa", sum := "c7c030e1d255d2634355a2750e654f3b8e311f0d6a399283216aedb81b05e5d9", func := "gamehall/gamehalllaw1.SymmMaps", spec := "symmMaps", recurses := true, apart := false, narrowed := true }
def SymmMapsUptoSaid : Prop := symmMapsUptoRow.holds Try.pinned (OpenSpec.upto symmMapsSpec)

/-- 'gamehalllaw1.ProofnumProves', WHERE WHAT IT READS IS OF BULK AT MOST 1048576: true; the input reads as it did. -/
def proofnumProvesUptoRow : OpenClaim := { program := "ytpajmeljfpolcaa", sum := "c7c030e1d255d2634355a2750e654f3b8e311f0d6a399283216aedb81b05e5d9", func := "gamehall/gamehalllaw1.ProofnumProves", spec := "proofnumProves", unfollowed := true, recurses := true, apart := false, narrowed := true }
def ProofnumProvesUptoSaid : Prop := proofnumProvesUptoRow.holds Try.pinned (OpenSpec.upto proofnumProvesSpec)

/-- 'gamehalllaw1.MinimaxScores', WHERE WHAT IT READS IS OF BULK AT MOST 1048576: true; the input reads as it did. -/
def minimaxScoresUptoRow : OpenClaim := { program := "ytpajmeljfpolcaa", sum := "c7c030e1d255d2634355a2750e654f3b8e311f0d6a399283216aedb81b05e5d9", func := "gamehall/gamehalllaw1.MinimaxScores", spec := "minimaxScores", unfollowed := true, recurses := true, apart := false, narrowed := true }
def MinimaxScoresUptoSaid : Prop := minimaxScoresUptoRow.holds Try.pinned (OpenSpec.upto minimaxScoresSpec)

/-- 'gamehalllaw1.WindowClamps', WHERE WHAT IT READS IS OF BULK AT MOST 1048576: true; the input reads as it did. -/
def windowClampsUptoRow : OpenClaim := { program := "ytpajmeljfpolcaa", sum := "c7c030e1d255d2634355a2750e654f3b8e311f0d6a399283216aedb81b05e5d9", func := "gamehall/gamehalllaw1.WindowClamps", spec := "windowClamps", unfollowed := true, recurses := true, apart := false, narrowed := true }
def WindowClampsUptoSaid : Prop := windowClampsUptoRow.holds Try.pinned (OpenSpec.upto windowClampsSpec)

/-- 'gamehalllaw1.DeepenBest', WHERE WHAT IT READS IS OF BULK AT MOST 1048576: true; the input reads as it did. -/
def deepenBestUptoRow : OpenClaim := { program := "ytpajmeljfpolcaa", sum := "c7c030e1d255d2634355a2750e654f3b8e311f0d6a399283216aedb81b05e5d9", func := "gamehall/gamehalllaw1.DeepenBest", spec := "deepenBest", unfollowed := true, recurses := true, apart := false, narrowed := true }
def DeepenBestUptoSaid : Prop := deepenBestUptoRow.holds Try.pinned (OpenSpec.upto deepenBestSpec)

/-- 'gamehalllaw1.WalkRuns', WHERE WHAT IT READS IS OF BULK AT MOST 1048576: true; the input reads as it did. -/
def walkRunsUptoRow : OpenClaim := { program := "ytpajmeljfpolcaa", sum := "c7c030e1d255d2634355a2750e654f3b8e311f0d6a399283216aedb81b05e5d9", func := "gamehall/gamehalllaw1.WalkRuns", spec := "walkRuns", unfollowed := true, recurses := true, apart := false, narrowed := true }
def WalkRunsUptoSaid : Prop := walkRunsUptoRow.holds Try.pinned (OpenSpec.upto walkRunsSpec)

/-- 'gamehalllaw1.CertChecks', WHERE WHAT IT READS IS OF BULK AT MOST 1048576: true; the input reads as it did. -/
def certChecksUptoRow : OpenClaim := { program := "ytpajmeljfpolcaa", sum := "c7c030e1d255d2634355a2750e654f3b8e311f0d6a399283216aedb81b05e5d9", func := "gamehall/gamehalllaw1.CertChecks", spec := "certChecks", unfollowed := true, recurses := true, apart := false, narrowed := true }
def CertChecksUptoSaid : Prop := certChecksUptoRow.holds Try.pinned (OpenSpec.upto certChecksSpec)

/-- 'gamehalllaw3.ClaimAdjudicates', WHERE WHAT IT READS IS OF BULK AT MOST 1048576: true; the input reads as it did. -/
def claimAdjudicatesUptoRow : OpenClaim := { program := "ytpajmeljfpolcaa", sum := "c7c030e1d255d2634355a2750e654f3b8e311f0d6a399283216aedb81b05e5d9", func := "gamehall/gamehalllaw3.ClaimAdjudicates", spec := "claimAdjudicates", unfollowed := true, recurses := true, apart := false, narrowed := true }
def ClaimAdjudicatesUptoSaid : Prop := claimAdjudicatesUptoRow.holds Try.pinned (OpenSpec.upto claimAdjudicatesSpec)

end Rows
end Go.Proofs.Ytpajmeljfpolcaa
