/- What functions compute, in plain Lean: MovetextReads. No condition of its own. -/
import Derived.Test.YtaaigenpmaiodaaDen0
import Derived.Test.YtaaigenpmaiodaaTextS
namespace Go.Proofs.Ytaaigenpmaiodaa
open Go.Den
set_option linter.unusedVariables false
set_option maxRecDepth 100000
noncomputable def law3MovetextReads_L1 (r8 : (List (Int × Int × Int × Unit)) × Int × Unit) (r : ByteArray × Int × Int × (List (Int × Int × Int × (List (Int × Int × Int × Int × Unit)) × Unit)) × (List Int) × Bool × Bool × (List (Int × Int × Int × Bool × Unit)) × Int × Int × Int × Unit) (p : (List Int) × ((List Int) × (List Int) × Unit) × Int × Int × Unit) (r6 : (List ByteArray) × Int × Unit) (s : ByteArray) (x9 : (Int × Int × Unit) × ((Int × Int × Int × Unit) × Unit)) : Option (((Int × Int × Unit) × ((Int × Int × Int × Unit) × Unit)) ⊕ (((Int × Unit) × ((Int × Int × Int × Unit) × Unit)) ⊕ Bool)) :=
  bif (decide (x9.1.2.1 < ((r8.1.length : Nat) : Int))) then (req (inb x9.1.2.1 r8.1.length) (Option.bind (ref3MoveText r p (getD' r8.1 ((x9.1.2.1).toNat) ((0 : Int), ((0 : Int), ((0 : Int), ()))))) fun r10 =>
  req (inb x9.1.2.1 r6.1.length) (bif (!(r10.toList == (getD' r6.1 ((x9.1.2.1).toNat) ByteArray.empty).toList)) then some (Sum.inr (Sum.inr false))
  else Option.bind (bif (r10.toList == s.toList) then some (((0 : Int), ()), ((getD' r8.1 ((x9.1.2.1).toNat) ((0 : Int), ((0 : Int), ((0 : Int), ())))), ()))
  else some ((x9.1.1, ()), (x9.2.1, ()))) fun x11 =>
  some (Sum.inl ((x11.1.1, (w64 (x9.1.2.1 + (1 : Int))), ()), (x11.2.1, ()))))))
  else some (Sum.inr (Sum.inl ((x9.1.1, ()), (x9.2.1, ()))))
noncomputable def law3MovetextReads (r : ByteArray × Int × Int × (List (Int × Int × Int × (List (Int × Int × Int × Int × Unit)) × Unit)) × (List Int) × Bool × Bool × (List (Int × Int × Int × Bool × Unit)) × Int × Int × Int × Unit) (p : (List Int) × ((List Int) × (List Int) × Unit) × Int × Int × Unit) (s : ByteArray) : Option (Bool) :=
  Option.bind (law3Writes) fun r5 =>
  bif (!r5) then some false
  else bif (law3Great r) then some true
  else Option.bind (movetextList r p) fun r6 =>
  Option.bind (movetextRead r p s) fun r7 =>
  Option.bind (movesAll r p) fun r8 =>
  bif (r8.2.1 != (0 : Int)) then some ((((r6.2.1 == r8.2.1) && (r7.2.1 == r8.2.1)) && (((r6.1.length : Nat) : Int) == (0 : Int))) && ((r7.1.1 == (0 : Int)) && ((r7.1.2.1 == (0 : Int)) && ((r7.1.2.2.1 == (0 : Int)) && true))))
  else bif ((r6.2.1 != (0 : Int)) || (((r6.1.length : Nat) : Int) != ((r8.1.length : Nat) : Int))) then some false
  else Option.bind (α := ((Int × Unit) × ((Int × Int × Int × Unit) × Unit)) ⊕ Bool) (iterW (law3MovetextReads_L1 r8 r p r6 s) (((13 : Int), (0 : Int), ()), (((0 : Int), ((0 : Int), ((0 : Int), ()))), ()))) (Sum.elim (fun x12 =>
  some ((r7.2.1 == x12.1.1) && ((r7.1.1 == x12.2.1.1) && ((r7.1.2.1 == x12.2.1.2.1) && ((r7.1.2.2.1 == x12.2.1.2.2.1) && true))))) some)
end Go.Proofs.Ytaaigenpmaiodaa
