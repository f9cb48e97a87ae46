/- What functions compute, in plain Lean: MovetextWrites. No condition of its own. -/
import Derived.Test.YtaaigenpmaiodaaDen0
import Derived.Test.YtaaigenpmaiodaaTextS
namespace Go.Proofs.Ytaaigenpmaiodaa
open Go.Den
set_option linter.unusedVariables false
set_option maxRecDepth 100000
noncomputable def movetextSquare_i (r : ByteArray × Int × Int × (List (Int × Int × Int × (List (Int × Int × Int × Int × Unit)) × Unit)) × (List Int) × Bool × Bool × (List (Int × Int × Int × Bool × Unit)) × Int × Int × Int × Unit) (n : Int) : Option (ByteArray × Int × Unit) :=
  Option.bind (rulesCheck r) fun r3 =>
  bif (r3 != (0 : Int)) then some ((ByteArray.mk #[]), (r3, ()))
  else bif ((decide (n < (0 : Int))) || (decide (n ≥ (w64 (r.2.1 * r.2.2.1))))) then some ((ByteArray.mk #[]), ((4 : Int), ()))
  else Option.bind (movetextSquare r n) fun r4 =>
  some (r4, ((0 : Int), ()))
noncomputable def law3MovetextWrites (r : ByteArray × Int × Int × (List (Int × Int × Int × (List (Int × Int × Int × Int × Unit)) × Unit)) × (List Int) × Bool × Bool × (List (Int × Int × Int × Bool × Unit)) × Int × Int × Int × Unit) (p : (List Int) × ((List Int) × (List Int) × Unit) × Int × Int × Unit) (m : Int × Int × Int × Unit) (square : Int) : Option (Bool) :=
  Option.bind (law3Writes) fun r7 =>
  bif (!r7) then some false
  else bif (law3Great r) then some true
  else Option.bind (movetextSquare_i r square) fun r8 =>
  Option.bind (rulesCheck r) fun r9 =>
  Option.bind (α := ((Unit) × (Unit)) ⊕ Bool) (bif (r9 != (0 : Int)) then (bif ((r8.2.1 != r9) || (!(r8.1.toList == (ByteArray.mk #[]).toList))) then some (Sum.inr false)
  else some (Sum.inl ((), ())))
  else Option.bind (α := ((Unit) × (Unit)) ⊕ (((Unit) × (Unit)) ⊕ Bool)) (bif ((decide (square < (0 : Int))) || (decide (square ≥ ((r.2.2.2.2.1.length : Nat) : Int)))) then (bif ((r8.2.1 != (4 : Int)) || (!(r8.1.toList == (ByteArray.mk #[]).toList))) then some (Sum.inr (Sum.inr false))
  else some (Sum.inl ((), ())))
  else Option.bind (gopt (!(r8.2.1 != (0 : Int))) ByteArray.empty (ref3Square r.2.1 square)) fun r10 =>
  bif ((r8.2.1 != (0 : Int)) || (!(r8.1.toList == r10.toList))) then some (Sum.inr (Sum.inr false))
  else some (Sum.inl ((), ()))) (Sum.elim (fun x11 =>
  some (Sum.inl ((), ()))) some)) (Sum.elim (fun x12 =>
  Option.bind (movetextText r p m) fun r13 =>
  Option.bind (movesLegal r p m) fun r14 =>
  bif (r14.2.1 != (0 : Int)) then some ((r13.2.1 == r14.2.1) && (r13.1.toList == (ByteArray.mk #[]).toList))
  else bif (!r14.1) then some ((r13.2.1 == (13 : Int)) && (r13.1.toList == (ByteArray.mk #[]).toList))
  else Option.bind (gopt (r13.2.1 == (0 : Int)) ByteArray.empty (ref3MoveText r p m)) fun r15 =>
  some ((r13.2.1 == (0 : Int)) && (r13.1.toList == r15.toList))) some)
end Go.Proofs.Ytaaigenpmaiodaa
