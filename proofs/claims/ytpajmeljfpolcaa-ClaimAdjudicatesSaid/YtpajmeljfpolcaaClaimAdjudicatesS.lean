/- What functions compute, in plain Lean: ClaimAdjudicates. No condition of its own. -/
import Derived.Test.YtpajmeljfpolcaaDen0
import Derived.Test.YtpajmeljfpolcaaGameS
namespace Go.Proofs.Ytpajmeljfpolcaa
open Go.Den
set_option linter.unusedVariables false
set_option maxRecDepth 100000
noncomputable def claimAdjudicate (r : ByteArray × Int × Int × (List (Int × Int × Int × (List (Int × Int × Int × Int × Unit)) × Unit)) × (List Int) × Bool × Bool × (List (Int × Int × Int × Bool × Unit)) × Int × Int × Int × Unit) (p : (List Int) × ((List Int) × (List Int) × Unit) × Int × Int × Unit) (depth : Int) : Option (Int × Int × Unit) :=
  Option.bind (endsOf r p) fun r3 =>
  bif ((r3.2.1 != (0 : Int)) || (r3.1 != (0 : Int))) then some r3
  else Option.bind (minimaxScore r p depth) fun r4 =>
  bif (r4.2.1 != (0 : Int)) then some ((0 : Int), r4.2)
  else bif (decide (r4.1 > (0 : Int))) then some ((w64 ((1 : Int) + p.2.2.1)), ((0 : Int), ()))
  else bif (decide (r4.1 < (0 : Int))) then some ((w64 ((2 : Int) - p.2.2.1)), ((0 : Int), ()))
  else some ((3 : Int), ((0 : Int), ()))
noncomputable def law3ClaimAdjudicates (r : ByteArray × Int × Int × (List (Int × Int × Int × (List (Int × Int × Int × Int × Unit)) × Unit)) × (List Int) × Bool × Bool × (List (Int × Int × Int × Bool × Unit)) × Int × Int × Int × Unit) (p : (List Int) × ((List Int) × (List Int) × Unit) × Int × Int × Unit) (depth : Int) : Option (Bool) :=
  Option.bind (law3Claims) fun r6 =>
  bif (!r6) then some false
  else bif ((law3Great r) || (decide (depth > (3 : Int)))) then some true
  else Option.bind (claimAdjudicate r p depth) fun r7 =>
  Option.bind (placeCheck r p) fun r8 =>
  bif (r8 != (0 : Int)) then some ((r7.2.1 == r8) && (r7.1 == (0 : Int)))
  else Option.bind (ref3Result r ([p])) fun r9 =>
  bif ((r9 != (0 : Int)) && ((r.2.2.2.2.2.2.2.2.2.2.1 == (0 : Int)) || (decide (r.2.2.2.2.2.2.2.2.2.2.1 > (1 : Int))))) then some ((r7.2.1 == (0 : Int)) && (r7.1 == r9))
  else Option.bind (minimaxScore r p depth) fun r10 =>
  bif (r10.2.1 != (0 : Int)) then some ((r7.2.1 == r10.2.1) && (r7.1 == (0 : Int)))
  else Option.bind (bif (r10.1 != (0 : Int)) then (Option.bind (bif (decide (r10.1 < (0 : Int))) then some (((w64 ((2 : Int) - p.2.2.1)), ()), ())
  else some (((w64 ((1 : Int) + p.2.2.1)), ()), ())) fun x11 =>
  some ((x11.1.1, ()), ()))
  else some (((3 : Int), ()), ())) fun x12 =>
  some ((r7.2.1 == (0 : Int)) && (r7.1 == x12.1.1))
end Go.Proofs.Ytpajmeljfpolcaa
