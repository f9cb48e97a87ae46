/- What functions compute, in plain Lean: ClaimCounts. No condition of its own. -/
import Derived.Test.YtaaigenpmaiodaaDen0
import Derived.Test.YtaaigenpmaiodaaGameS
namespace Go.Proofs.Ytaaigenpmaiodaa
open Go.Den
set_option linter.unusedVariables false
set_option maxRecDepth 100000
noncomputable def law3ClaimCounts_L1 (r8 : List (Int × Int × Int × Unit)) (r11 : (List ((List Int) × ((List Int) × (List Int) × Unit) × Int × Int × Unit)) × Int × Unit) (x12 : (Int × Int × Unit) × (Unit)) : Option (((Int × Int × Unit) × (Unit)) ⊕ ((Int × Unit) × (Unit))) :=
  bif (decide (x12.1.2.1 < ((r8.length : Nat) : Int))) then (Option.bind (at? r8 x12.1.2.1) fun d13 =>
  req (imp (!(decide (d13.1 < (0 : Int)))) (inb x12.1.2.1 r11.1.length)) (Option.bind (gat (!(decide (d13.1 < (0 : Int)))) (0 : Int) ((getD' r11.1 ((x12.1.2.1).toNat) ([], (([], ([], ())), ((0 : Int), ((0 : Int), ()))))).1) d13.2.1) fun d14 =>
  Option.bind (bif ((decide (d13.1 < (0 : Int))) || (d14 != (0 : Int))) then some (((0 : Int), ()), ())
  else some (((w64 (x12.1.1 + (1 : Int))), ()), ())) fun x15 =>
  some (Sum.inl ((x15.1.1, (w64 (x12.1.2.1 + (1 : Int))), ()), ()))))
  else some (Sum.inr ((x12.1.1, ()), ()))
noncomputable def law3ClaimCounts (r : ByteArray × Int × Int × (List (Int × Int × Int × (List (Int × Int × Int × Int × Unit)) × Unit)) × (List Int) × Bool × Bool × (List (Int × Int × Int × Bool × Unit)) × Int × Int × Int × Unit) (l : List (Int × Int × Int × Unit)) : Option (Bool) :=
  Option.bind (law3Claims) fun r7 =>
  bif (!r7) then some false
  else Option.bind (law3Cut l) fun r8 =>
  bif (law3Great r) then some true
  else Option.bind (claimRepeats r r8) fun r9 =>
  Option.bind (claimQuiet r r8) fun r10 =>
  Option.bind (ref3Places r r8) fun r11 =>
  bif (r11.2.1 != (0 : Int)) then some (((r9.2.1 == r11.2.1) && (r10.2.1 == r11.2.1)) && ((w64 (r9.1 + r10.1)) == (0 : Int)))
  else Option.bind (iterW (law3ClaimCounts_L1 r8 r11) (((0 : Int), (0 : Int), ()), ())) fun x16 =>
  Option.bind (gopt (r9.2.1 == (0 : Int)) (0 : Int) (ref3Times r11.1)) fun r17 =>
  some ((((r9.2.1 == (0 : Int)) && (r9.1 == r17)) && (r10.2.1 == (0 : Int))) && (r10.1 == x16.1.1))
end Go.Proofs.Ytaaigenpmaiodaa
