/- What functions compute, in plain Lean: Search. No condition of its own. -/
import Derived.Test.YticeklcmijbjfaaDen0
import Derived.Test.YticeklcmijbjfaaCoreS
namespace Go.Proofs.Yticeklcmijbjfaa
open Go.Den
set_option linter.unusedVariables false
set_option maxRecDepth 100000
noncomputable def minimaxNearer_o (n : Int) : Option (Int) :=
  bif (decide (n > (0 : Int))) then some (w64 (n - (1 : Int)))
  else bif (decide (n < (0 : Int))) then some (w64 (n + (1 : Int)))
  else some (0 : Int)
def minimaxNearer (n : Int) : Int :=
  bif (decide (n > (0 : Int))) then (w64 (n - (1 : Int)))
  else bif (decide (n < (0 : Int))) then (w64 (n + (1 : Int)))
  else (0 : Int)
theorem minimaxNearer_eq (n : Int) : minimaxNearer_o n = some (minimaxNearer n) := by
  unfold minimaxNearer_o minimaxNearer
  first | rfl | simp only [cond_some]
noncomputable def minimaxOver_o (p : (List Int) × ((List Int) × (List Int) × Unit) × Int × Int × Unit) (result : Int) : Option (Int) :=
  bif (result == (w64 ((1 : Int) + p.2.2.1))) then some (1000 : Int)
  else bif (result == (w64 ((2 : Int) - p.2.2.1))) then some (-1000 : Int)
  else some (0 : Int)
def minimaxOver (p : (List Int) × ((List Int) × (List Int) × Unit) × Int × Int × Unit) (result : Int) : Int :=
  bif (result == (w64 ((1 : Int) + p.2.2.1))) then (1000 : Int)
  else bif (result == (w64 ((2 : Int) - p.2.2.1))) then (-1000 : Int)
  else (0 : Int)
theorem minimaxOver_eq (p : (List Int) × ((List Int) × (List Int) × Unit) × Int × Int × Unit) (result : Int) : minimaxOver_o p result = some (minimaxOver p result) := by
  unfold minimaxOver_o minimaxOver
  first | rfl | simp only [cond_some]
noncomputable def perftCounterWalk_L1 (r2 : List (Int × Int × Int × Unit)) (p : (List Int) × ((List Int) × (List Int) × Unit) × Int × Int × Unit) (self : (((ByteArray × Int × Int × (List (Int × Int × Int × (List (Int × Int × Int × Int × Unit)) × Unit)) × (List Int) × Bool × Bool × (List (Int × Int × Int × Bool × Unit)) × Int × Int × Int × Unit) × Int × Int × Unit) × ((List Int) × ((List Int) × (List Int) × Unit) × Int × Int × Unit) × Int × Unit) → Option (((ByteArray × Int × Int × (List (Int × Int × Int × (List (Int × Int × Int × Int × Unit)) × Unit)) × (List Int) × Bool × Bool × (List (Int × Int × Int × Bool × Unit)) × Int × Int × Int × Unit) × Int × Int × Unit) × Bool)) (depth : Int) (x3 : (Int × Unit) × ((ByteArray × Int × Int × (List (Int × Int × Int × (List (Int × Int × Int × Int × Unit)) × Unit)) × (List Int) × Bool × Bool × (List (Int × Int × Int × Bool × Unit)) × Int × Int × Int × Int × Int × Unit) × Unit)) : Option (((Int × Unit) × ((ByteArray × Int × Int × (List (Int × Int × Int × (List (Int × Int × Int × Int × Unit)) × Unit)) × (List Int) × Bool × Bool × (List (Int × Int × Int × Bool × Unit)) × Int × Int × Int × Int × Int × Unit) × Unit)) ⊕ (((Unit) × ((ByteArray × Int × Int × (List (Int × Int × Int × (List (Int × Int × Int × Int × Unit)) × Unit)) × (List Int) × Bool × Bool × (List (Int × Int × Int × Bool × Unit)) × Int × Int × Int × Int × Int × Unit) × Unit)) ⊕ (((ByteArray × Int × Int × (List (Int × Int × Int × (List (Int × Int × Int × Int × Unit)) × Unit)) × (List Int) × Bool × Bool × (List (Int × Int × Int × Bool × Unit)) × Int × Int × Int × Unit) × Int × Int × Unit) × Bool))) :=
  bif (decide (x3.1.1 < ((r2.length : Nat) : Int))) then (req (inb x3.1.1 r2.length) (Option.bind (movesMake (x3.2.1.1, (x3.2.1.2.1, (x3.2.1.2.2.1, (x3.2.1.2.2.2.1, (x3.2.1.2.2.2.2.1, (x3.2.1.2.2.2.2.2.1, (x3.2.1.2.2.2.2.2.2.1, (x3.2.1.2.2.2.2.2.2.2.1, (x3.2.1.2.2.2.2.2.2.2.2.1, (x3.2.1.2.2.2.2.2.2.2.2.2.1, (x3.2.1.2.2.2.2.2.2.2.2.2.2.1, ()))))))))))) p (getD' r2 ((x3.1.1).toNat) ((0 : Int), ((0 : Int), ((0 : Int), ()))))) fun r4 =>
  Option.bind (self (((x3.2.1.1, (x3.2.1.2.1, (x3.2.1.2.2.1, (x3.2.1.2.2.2.1, (x3.2.1.2.2.2.2.1, (x3.2.1.2.2.2.2.2.1, (x3.2.1.2.2.2.2.2.2.1, (x3.2.1.2.2.2.2.2.2.2.1, (x3.2.1.2.2.2.2.2.2.2.2.1, (x3.2.1.2.2.2.2.2.2.2.2.2.1, (x3.2.1.2.2.2.2.2.2.2.2.2.2.1, ()))))))))))), x3.2.1.2.2.2.2.2.2.2.2.2.2.2), (r4.1, ((r4.2.1.1, (r4.2.1.2.1, ())), r4.2.2)), (w64 (depth - (1 : Int))), ())) fun r5 =>
  bif (!r5.2) then some (Sum.inr (Sum.inr (r5.1, false)))
  else some (Sum.inl (((w64 (x3.1.1 + (1 : Int))), ()), ((r5.1.1.1, (r5.1.1.2.1, (r5.1.1.2.2.1, (r5.1.1.2.2.2.1, (r5.1.1.2.2.2.2.1, (r5.1.1.2.2.2.2.2.1, (r5.1.1.2.2.2.2.2.2.1, (r5.1.1.2.2.2.2.2.2.2.1, (r5.1.1.2.2.2.2.2.2.2.2.1, (r5.1.1.2.2.2.2.2.2.2.2.2.1, (r5.1.1.2.2.2.2.2.2.2.2.2.2.1, r5.1.2))))))))))), ())))))
  else some (Sum.inr (Sum.inl ((), (x3.2.1, ()))))
noncomputable def perftCounterWalk_F (self : (((ByteArray × Int × Int × (List (Int × Int × Int × (List (Int × Int × Int × Int × Unit)) × Unit)) × (List Int) × Bool × Bool × (List (Int × Int × Int × Bool × Unit)) × Int × Int × Int × Unit) × Int × Int × Unit) × ((List Int) × ((List Int) × (List Int) × Unit) × Int × Int × Unit) × Int × Unit) → Option (((ByteArray × Int × Int × (List (Int × Int × Int × (List (Int × Int × Int × Int × Unit)) × Unit)) × (List Int) × Bool × Bool × (List (Int × Int × Int × Bool × Unit)) × Int × Int × Int × Unit) × Int × Int × Unit) × Bool)) (c : (ByteArray × Int × Int × (List (Int × Int × Int × (List (Int × Int × Int × Int × Unit)) × Unit)) × (List Int) × Bool × Bool × (List (Int × Int × Int × Bool × Unit)) × Int × Int × Int × Unit) × Int × Int × Unit) (p : (List Int) × ((List Int) × (List Int) × Unit) × Int × Int × Unit) (depth : Int) : Option (((ByteArray × Int × Int × (List (Int × Int × Int × (List (Int × Int × Int × Int × Unit)) × Unit)) × (List Int) × Bool × Bool × (List (Int × Int × Int × Bool × Unit)) × Int × Int × Int × Unit) × Int × Int × Unit) × Bool) :=
  bif (decide ((w64 (c.2.1 + (1 : Int))) > (50000 : Int))) then some ((c.1, ((w64 (c.2.1 + (1 : Int))), c.2.2)), false)
  else bif (depth == (0 : Int)) then some ((c.1, ((w64 (c.2.1 + (1 : Int))), ((w64 (c.2.2.1 + (1 : Int))), ()))), true)
  else Option.bind (endsMoves c.1 p) fun r2 =>
  Option.bind (α := ((Unit) × ((ByteArray × Int × Int × (List (Int × Int × Int × (List (Int × Int × Int × Int × Unit)) × Unit)) × (List Int) × Bool × Bool × (List (Int × Int × Int × Bool × Unit)) × Int × Int × Int × Int × Int × Unit) × Unit)) ⊕ (((ByteArray × Int × Int × (List (Int × Int × Int × (List (Int × Int × Int × Int × Unit)) × Unit)) × (List Int) × Bool × Bool × (List (Int × Int × Int × Bool × Unit)) × Int × Int × Int × Unit) × Int × Int × Unit) × Bool)) (iterW (perftCounterWalk_L1 r2 p self depth) (((0 : Int), ()), ((c.1.1, (c.1.2.1, (c.1.2.2.1, (c.1.2.2.2.1, (c.1.2.2.2.2.1, (c.1.2.2.2.2.2.1, (c.1.2.2.2.2.2.2.1, (c.1.2.2.2.2.2.2.2.1, (c.1.2.2.2.2.2.2.2.2.1, (c.1.2.2.2.2.2.2.2.2.2.1, (c.1.2.2.2.2.2.2.2.2.2.2.1, ((w64 (c.2.1 + (1 : Int))), c.2.2)))))))))))), ()))) (Sum.elim (fun x6 =>
  some (((x6.2.1.1, (x6.2.1.2.1, (x6.2.1.2.2.1, (x6.2.1.2.2.2.1, (x6.2.1.2.2.2.2.1, (x6.2.1.2.2.2.2.2.1, (x6.2.1.2.2.2.2.2.2.1, (x6.2.1.2.2.2.2.2.2.2.1, (x6.2.1.2.2.2.2.2.2.2.2.1, (x6.2.1.2.2.2.2.2.2.2.2.2.1, (x6.2.1.2.2.2.2.2.2.2.2.2.2.1, ()))))))))))), x6.2.1.2.2.2.2.2.2.2.2.2.2.2), true)) some)
noncomputable def perftCounterWalk_G (self : (((ByteArray × Int × Int × (List (Int × Int × Int × (List (Int × Int × Int × Int × Unit)) × Unit)) × (List Int) × Bool × Bool × (List (Int × Int × Int × Bool × Unit)) × Int × Int × Int × Unit) × Int × Int × Unit) × ((List Int) × ((List Int) × (List Int) × Unit) × Int × Int × Unit) × Int × Unit) → Option (((ByteArray × Int × Int × (List (Int × Int × Int × (List (Int × Int × Int × Int × Unit)) × Unit)) × (List Int) × Bool × Bool × (List (Int × Int × Int × Bool × Unit)) × Int × Int × Int × Unit) × Int × Int × Unit) × Bool)) (x : ((ByteArray × Int × Int × (List (Int × Int × Int × (List (Int × Int × Int × Int × Unit)) × Unit)) × (List Int) × Bool × Bool × (List (Int × Int × Int × Bool × Unit)) × Int × Int × Int × Unit) × Int × Int × Unit) × ((List Int) × ((List Int) × (List Int) × Unit) × Int × Int × Unit) × Int × Unit) : Option (((ByteArray × Int × Int × (List (Int × Int × Int × (List (Int × Int × Int × Int × Unit)) × Unit)) × (List Int) × Bool × Bool × (List (Int × Int × Int × Bool × Unit)) × Int × Int × Int × Unit) × Int × Int × Unit) × Bool) := perftCounterWalk_F self x.1 x.2.1 x.2.2.1
noncomputable def perftCounterWalk (c : (ByteArray × Int × Int × (List (Int × Int × Int × (List (Int × Int × Int × Int × Unit)) × Unit)) × (List Int) × Bool × Bool × (List (Int × Int × Int × Bool × Unit)) × Int × Int × Int × Unit) × Int × Int × Unit) (p : (List Int) × ((List Int) × (List Int) × Unit) × Int × Int × Unit) (depth : Int) : Option (((ByteArray × Int × Int × (List (Int × Int × Int × (List (Int × Int × Int × Int × Unit)) × Unit)) × (List Int) × Bool × Bool × (List (Int × Int × Int × Bool × Unit)) × Int × Int × Int × Unit) × Int × Int × Unit) × Bool) := fixW perftCounterWalk_G (c, p, depth, ())
noncomputable def perftCheck (r : ByteArray × Int × Int × (List (Int × Int × Int × (List (Int × Int × Int × Int × Unit)) × Unit)) × (List Int) × Bool × Bool × (List (Int × Int × Int × Bool × Unit)) × Int × Int × Int × Unit) (p : (List Int) × ((List Int) × (List Int) × Unit) × Int × Int × Unit) (depth : Int) : Option (Int × Int × Int × Unit) :=
  Option.bind (placeCheck r p) fun r3 =>
  bif (r3 != (0 : Int)) then some ((0 : Int), ((0 : Int), (r3, ())))
  else bif ((decide (depth < (0 : Int))) || (decide (depth > (12 : Int)))) then some ((0 : Int), ((0 : Int), ((1 : Int), ())))
  else Option.bind (perftCounterWalk (r, ((0 : Int), ((0 : Int), ()))) p depth) fun r4 =>
  bif (!r4.2) then some ((0 : Int), ((0 : Int), ((17 : Int), ())))
  else some (r4.1.2.1, (r4.1.2.2.1, ((0 : Int), ())))
noncomputable def perftTree (r : ByteArray × Int × Int × (List (Int × Int × Int × (List (Int × Int × Int × Int × Unit)) × Unit)) × (List Int) × Bool × Bool × (List (Int × Int × Int × Bool × Unit)) × Int × Int × Int × Unit) (p : (List Int) × ((List Int) × (List Int) × Unit) × Int × Int × Unit) (depth : Int) : Option (Int × Int × Unit) :=
  Option.bind (perftCheck r p depth) fun r2 =>
  some (r2.1, r2.2.2)
noncomputable def law1Near_o : Option ((List Int) × ((List Int) × (List Int) × Unit) × Int × Int × Unit) :=
  some ([(1 : Int), (1 : Int), (0 : Int), (2 : Int), (2 : Int), (0 : Int), (0 : Int), (0 : Int), (0 : Int)], (([(3 : Int)], ([(3 : Int)], ())), ((0 : Int), ((0 : Int), ()))))
def law1Near : (List Int) × ((List Int) × (List Int) × Unit) × Int × Int × Unit :=
  ([(1 : Int), (1 : Int), (0 : Int), (2 : Int), (2 : Int), (0 : Int), (0 : Int), (0 : Int), (0 : Int)], (([(3 : Int)], ([(3 : Int)], ())), ((0 : Int), ((0 : Int), ()))))
theorem law1Near_eq : law1Near_o = some (law1Near) := by
  unfold law1Near_o law1Near
  first | rfl | simp only [cond_some]
noncomputable def minimaxOf_L1 (r4 : List (Int × Int × Int × Unit)) (r : ByteArray × Int × Int × (List (Int × Int × Int × (List (Int × Int × Int × Int × Unit)) × Unit)) × (List Int) × Bool × Bool × (List (Int × Int × Int × Bool × Unit)) × Int × Int × Int × Unit) (p : (List Int) × ((List Int) × (List Int) × Unit) × Int × Int × Unit) (self : ((ByteArray × Int × Int × (List (Int × Int × Int × (List (Int × Int × Int × Int × Unit)) × Unit)) × (List Int) × Bool × Bool × (List (Int × Int × Int × Bool × Unit)) × Int × Int × Int × Unit) × ((List Int) × ((List Int) × (List Int) × Unit) × Int × Int × Unit) × Int × Unit) → Option (Int)) (depth : Int) (x5 : (Int × Int × Unit) × ((Int × Int × Int × Unit) × Unit)) : Option (((Int × Int × Unit) × ((Int × Int × Int × Unit) × Unit)) ⊕ ((Int × Unit) × ((Int × Int × Int × Unit) × Unit))) :=
  bif (decide (x5.1.2.1 < ((r4.length : Nat) : Int))) then (req (inb x5.1.2.1 r4.length) (Option.bind (agree (Option.bind (movesMake r p (getD' r4 ((x5.1.2.1).toNat) ((0 : Int), ((0 : Int), ((0 : Int), ()))))) fun r6 =>
  Option.bind (self (r, (r6.1, ((r6.2.1.1, (r6.2.1.2.1, ())), r6.2.2)), (w64 (depth - (1 : Int))), ())) fun r7 =>
  some (((minimaxNearer (w64 (0 - r7))), ()), ())) (Option.bind (movesMake r p (getD' r4 ((x5.1.2.1).toNat) ((0 : Int), ((0 : Int), ((0 : Int), ()))))) fun r8 =>
  Option.bind (self (r, (r8.1, ((r8.2.1.1, (r8.2.1.2.1, ())), r8.2.2)), (w64 (depth - (1 : Int))), ())) fun r9 =>
  some (((minimaxNearer (w64 (0 - r9))), ()), ()))) fun x10 =>
  Option.bind (bif (decide (x10.1.1 > x5.1.1)) then some ((x10.1.1, ()), ((getD' r4 ((x5.1.2.1).toNat) ((0 : Int), ((0 : Int), ((0 : Int), ())))), ()))
  else some ((x5.1.1, ()), (x5.2.1, ()))) fun x11 =>
  some (Sum.inl ((x11.1.1, (w64 (x5.1.2.1 + (1 : Int))), ()), (x11.2.1, ())))))
  else some (Sum.inr ((x5.1.1, ()), (x5.2.1, ())))
noncomputable def minimaxOf_F (self : ((ByteArray × Int × Int × (List (Int × Int × Int × (List (Int × Int × Int × Int × Unit)) × Unit)) × (List Int) × Bool × Bool × (List (Int × Int × Int × Bool × Unit)) × Int × Int × Int × Unit) × ((List Int) × ((List Int) × (List Int) × Unit) × Int × Int × Unit) × Int × Unit) → Option (Int)) (r : ByteArray × Int × Int × (List (Int × Int × Int × (List (Int × Int × Int × Int × Unit)) × Unit)) × (List Int) × Bool × Bool × (List (Int × Int × Int × Bool × Unit)) × Int × Int × Int × Unit) (p : (List Int) × ((List Int) × (List Int) × Unit) × Int × Int × Unit) (depth : Int) : Option (Int) :=
  Option.bind (endsResult r p) fun r3 =>
  bif (r3 != (0 : Int)) then some (minimaxOver p r3)
  else bif (depth == (0 : Int)) then some (0 : Int)
  else Option.bind (movesList r p) fun r4 =>
  Option.bind (iterW (minimaxOf_L1 r4 r p self depth) (((-2000 : Int), (0 : Int), ()), (((0 : Int), ((0 : Int), ((0 : Int), ()))), ()))) fun x12 =>
  some x12.1.1
noncomputable def minimaxOf_G (self : ((ByteArray × Int × Int × (List (Int × Int × Int × (List (Int × Int × Int × Int × Unit)) × Unit)) × (List Int) × Bool × Bool × (List (Int × Int × Int × Bool × Unit)) × Int × Int × Int × Unit) × ((List Int) × ((List Int) × (List Int) × Unit) × Int × Int × Unit) × Int × Unit) → Option (Int)) (x : (ByteArray × Int × Int × (List (Int × Int × Int × (List (Int × Int × Int × Int × Unit)) × Unit)) × (List Int) × Bool × Bool × (List (Int × Int × Int × Bool × Unit)) × Int × Int × Int × Unit) × ((List Int) × ((List Int) × (List Int) × Unit) × Int × Int × Unit) × Int × Unit) : Option (Int) := minimaxOf_F self x.1 x.2.1 x.2.2.1
noncomputable def minimaxOf (r : ByteArray × Int × Int × (List (Int × Int × Int × (List (Int × Int × Int × Int × Unit)) × Unit)) × (List Int) × Bool × Bool × (List (Int × Int × Int × Bool × Unit)) × Int × Int × Int × Unit) (p : (List Int) × ((List Int) × (List Int) × Unit) × Int × Int × Unit) (depth : Int) : Option (Int) := fixW minimaxOf_G (r, p, depth, ())
noncomputable def minimaxFirst_L1 (r2 : List (Int × Int × Int × Unit)) (r : ByteArray × Int × Int × (List (Int × Int × Int × (List (Int × Int × Int × Int × Unit)) × Unit)) × (List Int) × Bool × Bool × (List (Int × Int × Int × Bool × Unit)) × Int × Int × Int × Unit) (p : (List Int) × ((List Int) × (List Int) × Unit) × Int × Int × Unit) (depth : Int) (x3 : (Int × Int × Unit) × ((Int × Int × Int × Unit) × Unit)) : Option (((Int × Int × Unit) × ((Int × Int × Int × Unit) × Unit)) ⊕ ((Int × Unit) × ((Int × Int × Int × Unit) × Unit))) :=
  bif (decide (x3.1.2.1 < ((r2.length : Nat) : Int))) then (req (inb x3.1.2.1 r2.length) (Option.bind (agree (Option.bind (movesMake r p (getD' r2 ((x3.1.2.1).toNat) ((0 : Int), ((0 : Int), ((0 : Int), ()))))) fun r4 =>
  Option.bind (minimaxOf r (r4.1, ((r4.2.1.1, (r4.2.1.2.1, ())), r4.2.2)) (w64 (depth - (1 : Int)))) fun r5 =>
  some (((minimaxNearer (w64 (0 - r5))), ()), ())) (Option.bind (movesMake r p (getD' r2 ((x3.1.2.1).toNat) ((0 : Int), ((0 : Int), ((0 : Int), ()))))) fun r6 =>
  Option.bind (minimaxOf r (r6.1, ((r6.2.1.1, (r6.2.1.2.1, ())), r6.2.2)) (w64 (depth - (1 : Int)))) fun r7 =>
  some (((minimaxNearer (w64 (0 - r7))), ()), ()))) fun x8 =>
  Option.bind (bif (decide (x8.1.1 > x3.1.1)) then some ((x8.1.1, ()), ((getD' r2 ((x3.1.2.1).toNat) ((0 : Int), ((0 : Int), ((0 : Int), ())))), ()))
  else some ((x3.1.1, ()), (x3.2.1, ()))) fun x9 =>
  some (Sum.inl ((x9.1.1, (w64 (x3.1.2.1 + (1 : Int))), ()), (x9.2.1, ())))))
  else some (Sum.inr ((x3.1.1, ()), (x3.2.1, ())))
noncomputable def minimaxFirst (r : ByteArray × Int × Int × (List (Int × Int × Int × (List (Int × Int × Int × Int × Unit)) × Unit)) × (List Int) × Bool × Bool × (List (Int × Int × Int × Bool × Unit)) × Int × Int × Int × Unit) (p : (List Int) × ((List Int) × (List Int) × Unit) × Int × Int × Unit) (depth : Int) : Option ((Int × Int × Int × Unit) × Int × Unit) :=
  Option.bind (movesList r p) fun r2 =>
  Option.bind (iterW (minimaxFirst_L1 r2 r p depth) (((-2000 : Int), (0 : Int), ()), (((0 : Int), ((0 : Int), ((0 : Int), ()))), ()))) fun x10 =>
  some (x10.2.1, (x10.1.1, ()))
end Go.Proofs.Yticeklcmijbjfaa
