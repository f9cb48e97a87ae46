/- What functions compute, in plain Lean: Search. No condition of its own. -/
import Derived.Test.YtpajmeljfpolcaaDen0
import Derived.Test.YtpajmeljfpolcaaCoreS
namespace Go.Proofs.Ytpajmeljfpolcaa
open Go.Den
set_option linter.unusedVariables false
set_option maxRecDepth 100000
noncomputable def minimaxNearer_o (n : Int) : Option (Int) :=
  bif (decide (n > (0 : Int))) then some (w64 (n - (1 : Int)))
  else bif (decide (n < (0 : Int))) then some (w64 (n + (1 : Int)))
  else some (0 : Int)
def minimaxNearer (n : Int) : Int :=
  bif (decide (n > (0 : Int))) then (w64 (n - (1 : Int)))
  else bif (decide (n < (0 : Int))) then (w64 (n + (1 : Int)))
  else (0 : Int)
theorem minimaxNearer_eq (n : Int) : minimaxNearer_o n = some (minimaxNearer n) := by
  unfold minimaxNearer_o minimaxNearer
  first | rfl | simp only [cond_some]
noncomputable def minimaxOver_o (p : (List Int) × ((List Int) × (List Int) × Unit) × Int × Int × Unit) (result : Int) : Option (Int) :=
  bif (result == (w64 ((1 : Int) + p.2.2.1))) then some (1000 : Int)
  else bif (result == (w64 ((2 : Int) - p.2.2.1))) then some (-1000 : Int)
  else some (0 : Int)
def minimaxOver (p : (List Int) × ((List Int) × (List Int) × Unit) × Int × Int × Unit) (result : Int) : Int :=
  bif (result == (w64 ((1 : Int) + p.2.2.1))) then (1000 : Int)
  else bif (result == (w64 ((2 : Int) - p.2.2.1))) then (-1000 : Int)
  else (0 : Int)
theorem minimaxOver_eq (p : (List Int) × ((List Int) × (List Int) × Unit) × Int × Int × Unit) (result : Int) : minimaxOver_o p result = some (minimaxOver p result) := by
  unfold minimaxOver_o minimaxOver
  first | rfl | simp only [cond_some]
noncomputable def perftCounterWalk_L1 (r2 : List (Int × Int × Int × Unit)) (p : (List Int) × ((List Int) × (List Int) × Unit) × Int × Int × Unit) (self : (((ByteArray × Int × Int × (List (Int × Int × Int × (List (Int × Int × Int × Int × Unit)) × Unit)) × (List Int) × Bool × Bool × (List (Int × Int × Int × Bool × Unit)) × Int × Int × Int × Unit) × Int × Int × Unit) × ((List Int) × ((List Int) × (List Int) × Unit) × Int × Int × Unit) × Int × Unit) → Option (((ByteArray × Int × Int × (List (Int × Int × Int × (List (Int × Int × Int × Int × Unit)) × Unit)) × (List Int) × Bool × Bool × (List (Int × Int × Int × Bool × Unit)) × Int × Int × Int × Unit) × Int × Int × Unit) × Bool)) (depth : Int) (x3 : (Int × Unit) × ((ByteArray × Int × Int × (List (Int × Int × Int × (List (Int × Int × Int × Int × Unit)) × Unit)) × (List Int) × Bool × Bool × (List (Int × Int × Int × Bool × Unit)) × Int × Int × Int × Int × Int × Unit) × Unit)) : Option (((Int × Unit) × ((ByteArray × Int × Int × (List (Int × Int × Int × (List (Int × Int × Int × Int × Unit)) × Unit)) × (List Int) × Bool × Bool × (List (Int × Int × Int × Bool × Unit)) × Int × Int × Int × Int × Int × Unit) × Unit)) ⊕ (((Unit) × ((ByteArray × Int × Int × (List (Int × Int × Int × (List (Int × Int × Int × Int × Unit)) × Unit)) × (List Int) × Bool × Bool × (List (Int × Int × Int × Bool × Unit)) × Int × Int × Int × Int × Int × Unit) × Unit)) ⊕ (((ByteArray × Int × Int × (List (Int × Int × Int × (List (Int × Int × Int × Int × Unit)) × Unit)) × (List Int) × Bool × Bool × (List (Int × Int × Int × Bool × Unit)) × Int × Int × Int × Unit) × Int × Int × Unit) × Bool))) :=
  bif (decide (x3.1.1 < ((r2.length : Nat) : Int))) then (req (inb x3.1.1 r2.length) (Option.bind (movesMake (x3.2.1.1, (x3.2.1.2.1, (x3.2.1.2.2.1, (x3.2.1.2.2.2.1, (x3.2.1.2.2.2.2.1, (x3.2.1.2.2.2.2.2.1, (x3.2.1.2.2.2.2.2.2.1, (x3.2.1.2.2.2.2.2.2.2.1, (x3.2.1.2.2.2.2.2.2.2.2.1, (x3.2.1.2.2.2.2.2.2.2.2.2.1, (x3.2.1.2.2.2.2.2.2.2.2.2.2.1, ()))))))))))) p (getD' r2 ((x3.1.1).toNat) ((0 : Int), ((0 : Int), ((0 : Int), ()))))) fun r4 =>
  Option.bind (self (((x3.2.1.1, (x3.2.1.2.1, (x3.2.1.2.2.1, (x3.2.1.2.2.2.1, (x3.2.1.2.2.2.2.1, (x3.2.1.2.2.2.2.2.1, (x3.2.1.2.2.2.2.2.2.1, (x3.2.1.2.2.2.2.2.2.2.1, (x3.2.1.2.2.2.2.2.2.2.2.1, (x3.2.1.2.2.2.2.2.2.2.2.2.1, (x3.2.1.2.2.2.2.2.2.2.2.2.2.1, ()))))))))))), x3.2.1.2.2.2.2.2.2.2.2.2.2.2), (r4.1, ((r4.2.1.1, (r4.2.1.2.1, ())), r4.2.2)), (w64 (depth - (1 : Int))), ())) fun r5 =>
  bif (!r5.2) then some (Sum.inr (Sum.inr (r5.1, false)))
  else some (Sum.inl (((w64 (x3.1.1 + (1 : Int))), ()), ((r5.1.1.1, (r5.1.1.2.1, (r5.1.1.2.2.1, (r5.1.1.2.2.2.1, (r5.1.1.2.2.2.2.1, (r5.1.1.2.2.2.2.2.1, (r5.1.1.2.2.2.2.2.2.1, (r5.1.1.2.2.2.2.2.2.2.1, (r5.1.1.2.2.2.2.2.2.2.2.1, (r5.1.1.2.2.2.2.2.2.2.2.2.1, (r5.1.1.2.2.2.2.2.2.2.2.2.2.1, r5.1.2))))))))))), ())))))
  else some (Sum.inr (Sum.inl ((), (x3.2.1, ()))))
noncomputable def perftCounterWalk_F (self : (((ByteArray × Int × Int × (List (Int × Int × Int × (List (Int × Int × Int × Int × Unit)) × Unit)) × (List Int) × Bool × Bool × (List (Int × Int × Int × Bool × Unit)) × Int × Int × Int × Unit) × Int × Int × Unit) × ((List Int) × ((List Int) × (List Int) × Unit) × Int × Int × Unit) × Int × Unit) → Option (((ByteArray × Int × Int × (List (Int × Int × Int × (List (Int × Int × Int × Int × Unit)) × Unit)) × (List Int) × Bool × Bool × (List (Int × Int × Int × Bool × Unit)) × Int × Int × Int × Unit) × Int × Int × Unit) × Bool)) (c : (ByteArray × Int × Int × (List (Int × Int × Int × (List (Int × Int × Int × Int × Unit)) × Unit)) × (List Int) × Bool × Bool × (List (Int × Int × Int × Bool × Unit)) × Int × Int × Int × Unit) × Int × Int × Unit) (p : (List Int) × ((List Int) × (List Int) × Unit) × Int × Int × Unit) (depth : Int) : Option (((ByteArray × Int × Int × (List (Int × Int × Int × (List (Int × Int × Int × Int × Unit)) × Unit)) × (List Int) × Bool × Bool × (List (Int × Int × Int × Bool × Unit)) × Int × Int × Int × Unit) × Int × Int × Unit) × Bool) :=
  bif (decide ((w64 (c.2.1 + (1 : Int))) > (50000 : Int))) then some ((c.1, ((w64 (c.2.1 + (1 : Int))), c.2.2)), false)
  else bif (depth == (0 : Int)) then some ((c.1, ((w64 (c.2.1 + (1 : Int))), ((w64 (c.2.2.1 + (1 : Int))), ()))), true)
  else Option.bind (endsMoves c.1 p) fun r2 =>
  Option.bind (α := ((Unit) × ((ByteArray × Int × Int × (List (Int × Int × Int × (List (Int × Int × Int × Int × Unit)) × Unit)) × (List Int) × Bool × Bool × (List (Int × Int × Int × Bool × Unit)) × Int × Int × Int × Int × Int × Unit) × Unit)) ⊕ (((ByteArray × Int × Int × (List (Int × Int × Int × (List (Int × Int × Int × Int × Unit)) × Unit)) × (List Int) × Bool × Bool × (List (Int × Int × Int × Bool × Unit)) × Int × Int × Int × Unit) × Int × Int × Unit) × Bool)) (iterW (perftCounterWalk_L1 r2 p self depth) (((0 : Int), ()), ((c.1.1, (c.1.2.1, (c.1.2.2.1, (c.1.2.2.2.1, (c.1.2.2.2.2.1, (c.1.2.2.2.2.2.1, (c.1.2.2.2.2.2.2.1, (c.1.2.2.2.2.2.2.2.1, (c.1.2.2.2.2.2.2.2.2.1, (c.1.2.2.2.2.2.2.2.2.2.1, (c.1.2.2.2.2.2.2.2.2.2.2.1, ((w64 (c.2.1 + (1 : Int))), c.2.2)))))))))))), ()))) (Sum.elim (fun x6 =>
  some (((x6.2.1.1, (x6.2.1.2.1, (x6.2.1.2.2.1, (x6.2.1.2.2.2.1, (x6.2.1.2.2.2.2.1, (x6.2.1.2.2.2.2.2.1, (x6.2.1.2.2.2.2.2.2.1, (x6.2.1.2.2.2.2.2.2.2.1, (x6.2.1.2.2.2.2.2.2.2.2.1, (x6.2.1.2.2.2.2.2.2.2.2.2.1, (x6.2.1.2.2.2.2.2.2.2.2.2.2.1, ()))))))))))), x6.2.1.2.2.2.2.2.2.2.2.2.2.2), true)) some)
noncomputable def perftCounterWalk_G (self : (((ByteArray × Int × Int × (List (Int × Int × Int × (List (Int × Int × Int × Int × Unit)) × Unit)) × (List Int) × Bool × Bool × (List (Int × Int × Int × Bool × Unit)) × Int × Int × Int × Unit) × Int × Int × Unit) × ((List Int) × ((List Int) × (List Int) × Unit) × Int × Int × Unit) × Int × Unit) → Option (((ByteArray × Int × Int × (List (Int × Int × Int × (List (Int × Int × Int × Int × Unit)) × Unit)) × (List Int) × Bool × Bool × (List (Int × Int × Int × Bool × Unit)) × Int × Int × Int × Unit) × Int × Int × Unit) × Bool)) (x : ((ByteArray × Int × Int × (List (Int × Int × Int × (List (Int × Int × Int × Int × Unit)) × Unit)) × (List Int) × Bool × Bool × (List (Int × Int × Int × Bool × Unit)) × Int × Int × Int × Unit) × Int × Int × Unit) × ((List Int) × ((List Int) × (List Int) × Unit) × Int × Int × Unit) × Int × Unit) : Option (((ByteArray × Int × Int × (List (Int × Int × Int × (List (Int × Int × Int × Int × Unit)) × Unit)) × (List Int) × Bool × Bool × (List (Int × Int × Int × Bool × Unit)) × Int × Int × Int × Unit) × Int × Int × Unit) × Bool) := perftCounterWalk_F self x.1 x.2.1 x.2.2.1
noncomputable def perftCounterWalk (c : (ByteArray × Int × Int × (List (Int × Int × Int × (List (Int × Int × Int × Int × Unit)) × Unit)) × (List Int) × Bool × Bool × (List (Int × Int × Int × Bool × Unit)) × Int × Int × Int × Unit) × Int × Int × Unit) (p : (List Int) × ((List Int) × (List Int) × Unit) × Int × Int × Unit) (depth : Int) : Option (((ByteArray × Int × Int × (List (Int × Int × Int × (List (Int × Int × Int × Int × Unit)) × Unit)) × (List Int) × Bool × Bool × (List (Int × Int × Int × Bool × Unit)) × Int × Int × Int × Unit) × Int × Int × Unit) × Bool) := fixW perftCounterWalk_G (c, p, depth, ())
noncomputable def perftCheck (r : ByteArray × Int × Int × (List (Int × Int × Int × (List (Int × Int × Int × Int × Unit)) × Unit)) × (List Int) × Bool × Bool × (List (Int × Int × Int × Bool × Unit)) × Int × Int × Int × Unit) (p : (List Int) × ((List Int) × (List Int) × Unit) × Int × Int × Unit) (depth : Int) : Option (Int × Int × Int × Unit) :=
  Option.bind (placeCheck r p) fun r3 =>
  bif (r3 != (0 : Int)) then some ((0 : Int), ((0 : Int), (r3, ())))
  else bif ((decide (depth < (0 : Int))) || (decide (depth > (12 : Int)))) then some ((0 : Int), ((0 : Int), ((1 : Int), ())))
  else Option.bind (perftCounterWalk (r, ((0 : Int), ((0 : Int), ()))) p depth) fun r4 =>
  bif (!r4.2) then some ((0 : Int), ((0 : Int), ((17 : Int), ())))
  else some (r4.1.2.1, (r4.1.2.2.1, ((0 : Int), ())))
noncomputable def perftCount (r : ByteArray × Int × Int × (List (Int × Int × Int × (List (Int × Int × Int × Int × Unit)) × Unit)) × (List Int) × Bool × Bool × (List (Int × Int × Int × Bool × Unit)) × Int × Int × Int × Unit) (p : (List Int) × ((List Int) × (List Int) × Unit) × Int × Int × Unit) (depth : Int) : Option (Int × Int × Unit) :=
  Option.bind (perftCheck r p depth) fun r2 =>
  some r2.2
noncomputable def perftTree (r : ByteArray × Int × Int × (List (Int × Int × Int × (List (Int × Int × Int × Int × Unit)) × Unit)) × (List Int) × Bool × Bool × (List (Int × Int × Int × Bool × Unit)) × Int × Int × Int × Unit) (p : (List Int) × ((List Int) × (List Int) × Unit) × Int × Int × Unit) (depth : Int) : Option (Int × Int × Unit) :=
  Option.bind (perftCheck r p depth) fun r2 =>
  some (r2.1, r2.2.2)
noncomputable def perftDivide_L1 (r6 : List (Int × Int × Int × Unit)) (r : ByteArray × Int × Int × (List (Int × Int × Int × (List (Int × Int × Int × Int × Unit)) × Unit)) × (List Int) × Bool × Bool × (List (Int × Int × Int × Bool × Unit)) × Int × Int × Int × Unit) (p : (List Int) × ((List Int) × (List Int) × Unit) × Int × Int × Unit) (depth : Int) (x7 : ((List ((Int × Int × Int × Unit) × Int × Unit)) × Int × Unit) × (Unit)) : Option ((((List ((Int × Int × Int × Unit) × Int × Unit)) × Int × Unit) × (Unit)) ⊕ (((List ((Int × Int × Int × Unit) × Int × Unit)) × Unit) × (Unit))) :=
  bif (decide (x7.1.2.1 < ((r6.length : Nat) : Int))) then (req (inb x7.1.2.1 r6.length) (Option.bind (movesMake r p (getD' r6 ((x7.1.2.1).toNat) ((0 : Int), ((0 : Int), ((0 : Int), ()))))) fun r8 =>
  Option.bind (perftCounterWalk (r, ((0 : Int), ((0 : Int), ()))) (r8.1, ((r8.2.1.1, (r8.2.1.2.1, ())), r8.2.2)) (w64 (depth - (1 : Int)))) fun r9 =>
  req (room (x7.1.1.length + ([((getD' r6 ((x7.1.2.1).toNat) ((0 : Int), ((0 : Int), ((0 : Int), ())))), r9.1.2.2)]).length) 32) (some (Sum.inl (((x7.1.1 ++ [((getD' r6 ((x7.1.2.1).toNat) ((0 : Int), ((0 : Int), ((0 : Int), ())))), r9.1.2.2)]), (w64 (x7.1.2.1 + (1 : Int))), ()), ())))))
  else some (Sum.inr ((x7.1.1, ()), ()))
noncomputable def perftDivide (r : ByteArray × Int × Int × (List (Int × Int × Int × (List (Int × Int × Int × Int × Unit)) × Unit)) × (List Int) × Bool × Bool × (List (Int × Int × Int × Bool × Unit)) × Int × Int × Int × Unit) (p : (List Int) × ((List Int) × (List Int) × Unit) × Int × Int × Unit) (depth : Int) : Option ((List ((Int × Int × Int × Unit) × Int × Unit)) × Int × Unit) :=
  Option.bind (placeCheck r p) fun r4 =>
  bif (r4 != (0 : Int)) then some (([] : List ((Int × Int × Int × Unit) × Int × Unit)), (r4, ()))
  else bif (depth == (0 : Int)) then some (([] : List ((Int × Int × Int × Unit) × Int × Unit)), ((1 : Int), ()))
  else Option.bind (perftCheck r p depth) fun r5 =>
  bif (r5.2.2.1 != (0 : Int)) then some (([] : List ((Int × Int × Int × Unit) × Int × Unit)), r5.2.2)
  else Option.bind (endsMoves r p) fun r6 =>
  Option.bind (iterW (perftDivide_L1 r6 r p depth) ((([] : List ((Int × Int × Int × Unit) × Int × Unit)), (0 : Int), ()), ())) fun x10 =>
  some (x10.1.1, ((0 : Int), ()))
noncomputable def ref1Tree_L1 (r4 : List (Int × Int × Int × Unit)) (r : ByteArray × Int × Int × (List (Int × Int × Int × (List (Int × Int × Int × Int × Unit)) × Unit)) × (List Int) × Bool × Bool × (List (Int × Int × Int × Bool × Unit)) × Int × Int × Int × Unit) (p : (List Int) × ((List Int) × (List Int) × Unit) × Int × Int × Unit) (self : ((ByteArray × Int × Int × (List (Int × Int × Int × (List (Int × Int × Int × Int × Unit)) × Unit)) × (List Int) × Bool × Bool × (List (Int × Int × Int × Bool × Unit)) × Int × Int × Int × Unit) × ((List Int) × ((List Int) × (List Int) × Unit) × Int × Int × Unit) × Int × Unit) → Option (Int)) (depth : Int) (x5 : (Int × Int × Unit) × (Unit)) : Option (((Int × Int × Unit) × (Unit)) ⊕ (((Int × Unit) × (Unit)) ⊕ Int)) :=
  bif (decide (x5.1.2.1 < ((r4.length : Nat) : Int))) then (req (inb x5.1.2.1 r4.length) (Option.bind (agree (Option.bind (ref1After r p (getD' r4 ((x5.1.2.1).toNat) ((0 : Int), ((0 : Int), ((0 : Int), ()))))) fun r6 =>
  Option.bind (self (r, (r6.1, ((r6.2.1.1, (r6.2.1.2.1, ())), r6.2.2)), (w64 (depth - (1 : Int))), ())) fun r7 =>
  some (((w64 (x5.1.1 + r7)), ()), ())) (Option.bind (ref1After r p (getD' r4 ((x5.1.2.1).toNat) ((0 : Int), ((0 : Int), ((0 : Int), ()))))) fun r8 =>
  Option.bind (self (r, (r8.1, ((r8.2.1.1, (r8.2.1.2.1, ())), r8.2.2)), (w64 (depth - (1 : Int))), ())) fun r9 =>
  some (((w64 (x5.1.1 + r9)), ()), ()))) fun x10 =>
  bif (decide (x10.1.1 > (50000 : Int))) then some (Sum.inr (Sum.inr x10.1.1))
  else some (Sum.inl ((x10.1.1, (w64 (x5.1.2.1 + (1 : Int))), ()), ()))))
  else some (Sum.inr (Sum.inl ((x5.1.1, ()), ())))
noncomputable def ref1Tree_F (self : ((ByteArray × Int × Int × (List (Int × Int × Int × (List (Int × Int × Int × Int × Unit)) × Unit)) × (List Int) × Bool × Bool × (List (Int × Int × Int × Bool × Unit)) × Int × Int × Int × Unit) × ((List Int) × ((List Int) × (List Int) × Unit) × Int × Int × Unit) × Int × Unit) → Option (Int)) (r : ByteArray × Int × Int × (List (Int × Int × Int × (List (Int × Int × Int × Int × Unit)) × Unit)) × (List Int) × Bool × Bool × (List (Int × Int × Int × Bool × Unit)) × Int × Int × Int × Unit) (p : (List Int) × ((List Int) × (List Int) × Unit) × Int × Int × Unit) (depth : Int) : Option (Int) :=
  Option.bind (gopt (!(depth == (0 : Int))) (0 : Int) (ref1Result r p)) fun r3 =>
  bif ((depth == (0 : Int)) || (r3 != (0 : Int))) then some (1 : Int)
  else Option.bind (ref1Moves r p) fun r4 =>
  Option.bind (α := ((Int × Unit) × (Unit)) ⊕ Int) (iterW (ref1Tree_L1 r4 r p self depth) (((1 : Int), (0 : Int), ()), ())) (Sum.elim (fun x11 =>
  some x11.1.1) some)
noncomputable def ref1Tree_G (self : ((ByteArray × Int × Int × (List (Int × Int × Int × (List (Int × Int × Int × Int × Unit)) × Unit)) × (List Int) × Bool × Bool × (List (Int × Int × Int × Bool × Unit)) × Int × Int × Int × Unit) × ((List Int) × ((List Int) × (List Int) × Unit) × Int × Int × Unit) × Int × Unit) → Option (Int)) (x : (ByteArray × Int × Int × (List (Int × Int × Int × (List (Int × Int × Int × Int × Unit)) × Unit)) × (List Int) × Bool × Bool × (List (Int × Int × Int × Bool × Unit)) × Int × Int × Int × Unit) × ((List Int) × ((List Int) × (List Int) × Unit) × Int × Int × Unit) × Int × Unit) : Option (Int) := ref1Tree_F self x.1 x.2.1 x.2.2.1
noncomputable def ref1Tree (r : ByteArray × Int × Int × (List (Int × Int × Int × (List (Int × Int × Int × Int × Unit)) × Unit)) × (List Int) × Bool × Bool × (List (Int × Int × Int × Bool × Unit)) × Int × Int × Int × Unit) (p : (List Int) × ((List Int) × (List Int) × Unit) × Int × Int × Unit) (depth : Int) : Option (Int) := fixW ref1Tree_G (r, p, depth, ())
noncomputable def ref1Fits_L1 (r4 : List (Int × Int × Int × Unit)) (r : ByteArray × Int × Int × (List (Int × Int × Int × (List (Int × Int × Int × Int × Unit)) × Unit)) × (List Int) × Bool × Bool × (List (Int × Int × Int × Bool × Unit)) × Int × Int × Int × Unit) (p : (List Int) × ((List Int) × (List Int) × Unit) × Int × Int × Unit) (self : ((ByteArray × Int × Int × (List (Int × Int × Int × (List (Int × Int × Int × Int × Unit)) × Unit)) × (List Int) × Bool × Bool × (List (Int × Int × Int × Bool × Unit)) × Int × Int × Int × Unit) × ((List Int) × ((List Int) × (List Int) × Unit) × Int × Int × Unit) × Int × Int × Unit) → Option (Int)) (depth : Int) (x5 : (Int × Int × Unit) × (Unit)) : Option (((Int × Int × Unit) × (Unit)) ⊕ (((Int × Unit) × (Unit)) ⊕ Int)) :=
  bif (decide (x5.1.2.1 < ((r4.length : Nat) : Int))) then (req (inb x5.1.2.1 r4.length) (Option.bind (agree (Option.bind (ref1After r p (getD' r4 ((x5.1.2.1).toNat) ((0 : Int), ((0 : Int), ((0 : Int), ()))))) fun r6 =>
  Option.bind (self (r, (r6.1, ((r6.2.1.1, (r6.2.1.2.1, ())), r6.2.2)), (w64 (depth - (1 : Int))), x5.1.1, ())) fun r7 =>
  some ((r7, ()), ())) (Option.bind (ref1After r p (getD' r4 ((x5.1.2.1).toNat) ((0 : Int), ((0 : Int), ((0 : Int), ()))))) fun r8 =>
  Option.bind (self (r, (r8.1, ((r8.2.1.1, (r8.2.1.2.1, ())), r8.2.2)), (w64 (depth - (1 : Int))), x5.1.1, ())) fun r9 =>
  some ((r9, ()), ()))) fun x10 =>
  bif (decide (x10.1.1 < (0 : Int))) then some (Sum.inr (Sum.inr (-1 : Int)))
  else some (Sum.inl ((x10.1.1, (w64 (x5.1.2.1 + (1 : Int))), ()), ()))))
  else some (Sum.inr (Sum.inl ((x5.1.1, ()), ())))
noncomputable def ref1Fits_F (self : ((ByteArray × Int × Int × (List (Int × Int × Int × (List (Int × Int × Int × Int × Unit)) × Unit)) × (List Int) × Bool × Bool × (List (Int × Int × Int × Bool × Unit)) × Int × Int × Int × Unit) × ((List Int) × ((List Int) × (List Int) × Unit) × Int × Int × Unit) × Int × Int × Unit) → Option (Int)) (r : ByteArray × Int × Int × (List (Int × Int × Int × (List (Int × Int × Int × Int × Unit)) × Unit)) × (List Int) × Bool × Bool × (List (Int × Int × Int × Bool × Unit)) × Int × Int × Int × Unit) (p : (List Int) × ((List Int) × (List Int) × Unit) × Int × Int × Unit) (depth : Int) (left : Int) : Option (Int) :=
  Option.bind (gopt (!((decide ((w64 (left - (1 : Int))) < (0 : Int))) || (depth == (0 : Int)))) (0 : Int) (ref1Result r p)) fun r3 =>
  bif (((decide ((w64 (left - (1 : Int))) < (0 : Int))) || (depth == (0 : Int))) || (r3 != (0 : Int))) then some (w64 (left - (1 : Int)))
  else Option.bind (ref1Moves r p) fun r4 =>
  Option.bind (α := ((Int × Unit) × (Unit)) ⊕ Int) (iterW (ref1Fits_L1 r4 r p self depth) (((w64 (left - (1 : Int))), (0 : Int), ()), ())) (Sum.elim (fun x11 =>
  some x11.1.1) some)
noncomputable def ref1Fits_G (self : ((ByteArray × Int × Int × (List (Int × Int × Int × (List (Int × Int × Int × Int × Unit)) × Unit)) × (List Int) × Bool × Bool × (List (Int × Int × Int × Bool × Unit)) × Int × Int × Int × Unit) × ((List Int) × ((List Int) × (List Int) × Unit) × Int × Int × Unit) × Int × Int × Unit) → Option (Int)) (x : (ByteArray × Int × Int × (List (Int × Int × Int × (List (Int × Int × Int × Int × Unit)) × Unit)) × (List Int) × Bool × Bool × (List (Int × Int × Int × Bool × Unit)) × Int × Int × Int × Unit) × ((List Int) × ((List Int) × (List Int) × Unit) × Int × Int × Unit) × Int × Int × Unit) : Option (Int) := ref1Fits_F self x.1 x.2.1 x.2.2.1 x.2.2.2.1
noncomputable def ref1Fits (r : ByteArray × Int × Int × (List (Int × Int × Int × (List (Int × Int × Int × Int × Unit)) × Unit)) × (List Int) × Bool × Bool × (List (Int × Int × Int × Bool × Unit)) × Int × Int × Int × Unit) (p : (List Int) × ((List Int) × (List Int) × Unit) × Int × Int × Unit) (depth : Int) (left : Int) : Option (Int) := fixW ref1Fits_G (r, p, depth, left, ())
noncomputable def ref1Fits_i (r : ByteArray × Int × Int × (List (Int × Int × Int × (List (Int × Int × Int × Int × Unit)) × Unit)) × (List Int) × Bool × Bool × (List (Int × Int × Int × Bool × Unit)) × Int × Int × Int × Unit) (p : (List Int) × ((List Int) × (List Int) × Unit) × Int × Int × Unit) (depth : Int) (limit : Int) : Option (Bool) :=
  Option.bind (ref1Fits r p depth limit) fun r2 =>
  some (decide (r2 ≥ (0 : Int)))
noncomputable def ref1Count_L1 (r4 : List (Int × Int × Int × Unit)) (r : ByteArray × Int × Int × (List (Int × Int × Int × (List (Int × Int × Int × Int × Unit)) × Unit)) × (List Int) × Bool × Bool × (List (Int × Int × Int × Bool × Unit)) × Int × Int × Int × Unit) (p : (List Int) × ((List Int) × (List Int) × Unit) × Int × Int × Unit) (self : ((ByteArray × Int × Int × (List (Int × Int × Int × (List (Int × Int × Int × Int × Unit)) × Unit)) × (List Int) × Bool × Bool × (List (Int × Int × Int × Bool × Unit)) × Int × Int × Int × Unit) × ((List Int) × ((List Int) × (List Int) × Unit) × Int × Int × Unit) × Int × Unit) → Option (Int)) (depth : Int) (x5 : (Int × Int × Unit) × (Unit)) : Option (((Int × Int × Unit) × (Unit)) ⊕ ((Int × Unit) × (Unit))) :=
  bif (decide (x5.1.2.1 < ((r4.length : Nat) : Int))) then (req (inb x5.1.2.1 r4.length) (Option.bind (agree (Option.bind (ref1After r p (getD' r4 ((x5.1.2.1).toNat) ((0 : Int), ((0 : Int), ((0 : Int), ()))))) fun r6 =>
  Option.bind (self (r, (r6.1, ((r6.2.1.1, (r6.2.1.2.1, ())), r6.2.2)), (w64 (depth - (1 : Int))), ())) fun r7 =>
  some (((w64 (x5.1.1 + r7)), ()), ())) (Option.bind (ref1After r p (getD' r4 ((x5.1.2.1).toNat) ((0 : Int), ((0 : Int), ((0 : Int), ()))))) fun r8 =>
  Option.bind (self (r, (r8.1, ((r8.2.1.1, (r8.2.1.2.1, ())), r8.2.2)), (w64 (depth - (1 : Int))), ())) fun r9 =>
  some (((w64 (x5.1.1 + r9)), ()), ()))) fun x10 =>
  some (Sum.inl ((x10.1.1, (w64 (x5.1.2.1 + (1 : Int))), ()), ()))))
  else some (Sum.inr ((x5.1.1, ()), ()))
noncomputable def ref1Count_F (self : ((ByteArray × Int × Int × (List (Int × Int × Int × (List (Int × Int × Int × Int × Unit)) × Unit)) × (List Int) × Bool × Bool × (List (Int × Int × Int × Bool × Unit)) × Int × Int × Int × Unit) × ((List Int) × ((List Int) × (List Int) × Unit) × Int × Int × Unit) × Int × Unit) → Option (Int)) (r : ByteArray × Int × Int × (List (Int × Int × Int × (List (Int × Int × Int × Int × Unit)) × Unit)) × (List Int) × Bool × Bool × (List (Int × Int × Int × Bool × Unit)) × Int × Int × Int × Unit) (p : (List Int) × ((List Int) × (List Int) × Unit) × Int × Int × Unit) (depth : Int) : Option (Int) :=
  bif (depth == (0 : Int)) then some (1 : Int)
  else Option.bind (ref1Result r p) fun r3 =>
  bif (r3 != (0 : Int)) then some (0 : Int)
  else Option.bind (ref1Moves r p) fun r4 =>
  Option.bind (iterW (ref1Count_L1 r4 r p self depth) (((0 : Int), (0 : Int), ()), ())) fun x11 =>
  some x11.1.1
noncomputable def ref1Count_G (self : ((ByteArray × Int × Int × (List (Int × Int × Int × (List (Int × Int × Int × Int × Unit)) × Unit)) × (List Int) × Bool × Bool × (List (Int × Int × Int × Bool × Unit)) × Int × Int × Int × Unit) × ((List Int) × ((List Int) × (List Int) × Unit) × Int × Int × Unit) × Int × Unit) → Option (Int)) (x : (ByteArray × Int × Int × (List (Int × Int × Int × (List (Int × Int × Int × Int × Unit)) × Unit)) × (List Int) × Bool × Bool × (List (Int × Int × Int × Bool × Unit)) × Int × Int × Int × Unit) × ((List Int) × ((List Int) × (List Int) × Unit) × Int × Int × Unit) × Int × Unit) : Option (Int) := ref1Count_F self x.1 x.2.1 x.2.2.1
noncomputable def ref1Count (r : ByteArray × Int × Int × (List (Int × Int × Int × (List (Int × Int × Int × Int × Unit)) × Unit)) × (List Int) × Bool × Bool × (List (Int × Int × Int × Bool × Unit)) × Int × Int × Int × Unit) (p : (List Int) × ((List Int) × (List Int) × Unit) × Int × Int × Unit) (depth : Int) : Option (Int) := fixW ref1Count_G (r, p, depth, ())
noncomputable def ref1Score_L1 (r4 : List (Int × Int × Int × Unit)) (r : ByteArray × Int × Int × (List (Int × Int × Int × (List (Int × Int × Int × Int × Unit)) × Unit)) × (List Int) × Bool × Bool × (List (Int × Int × Int × Bool × Unit)) × Int × Int × Int × Unit) (p : (List Int) × ((List Int) × (List Int) × Unit) × Int × Int × Unit) (self : ((ByteArray × Int × Int × (List (Int × Int × Int × (List (Int × Int × Int × Int × Unit)) × Unit)) × (List Int) × Bool × Bool × (List (Int × Int × Int × Bool × Unit)) × Int × Int × Int × Unit) × ((List Int) × ((List Int) × (List Int) × Unit) × Int × Int × Unit) × Int × Unit) → Option (Int)) (depth : Int) (x5 : (Int × Int × Unit) × (Unit)) : Option (((Int × Int × Unit) × (Unit)) ⊕ ((Int × Unit) × (Unit))) :=
  bif (decide (x5.1.2.1 < ((r4.length : Nat) : Int))) then (req (inb x5.1.2.1 r4.length) (Option.bind (agree (Option.bind (ref1After r p (getD' r4 ((x5.1.2.1).toNat) ((0 : Int), ((0 : Int), ((0 : Int), ()))))) fun r6 =>
  Option.bind (self (r, (r6.1, ((r6.2.1.1, (r6.2.1.2.1, ())), r6.2.2)), (w64 (depth - (1 : Int))), ())) fun r7 =>
  some (((w64 (0 - r7)), ()), ())) (Option.bind (ref1After r p (getD' r4 ((x5.1.2.1).toNat) ((0 : Int), ((0 : Int), ((0 : Int), ()))))) fun r8 =>
  Option.bind (self (r, (r8.1, ((r8.2.1.1, (r8.2.1.2.1, ())), r8.2.2)), (w64 (depth - (1 : Int))), ())) fun r9 =>
  some (((w64 (0 - r9)), ()), ()))) fun x10 =>
  Option.bind (bif (decide (x10.1.1 > (0 : Int))) then some (((w64 (x10.1.1 - (1 : Int))), ()), ())
  else Option.bind (bif (decide (x10.1.1 < (0 : Int))) then some (((w64 (x10.1.1 + (1 : Int))), ()), ())
  else some ((x10.1.1, ()), ())) fun x11 =>
  some ((x11.1.1, ()), ())) fun x12 =>
  Option.bind (bif (decide (x12.1.1 > x5.1.1)) then some ((x12.1.1, ()), ())
  else some ((x5.1.1, ()), ())) fun x13 =>
  some (Sum.inl ((x13.1.1, (w64 (x5.1.2.1 + (1 : Int))), ()), ()))))
  else some (Sum.inr ((x5.1.1, ()), ()))
noncomputable def ref1Score_F (self : ((ByteArray × Int × Int × (List (Int × Int × Int × (List (Int × Int × Int × Int × Unit)) × Unit)) × (List Int) × Bool × Bool × (List (Int × Int × Int × Bool × Unit)) × Int × Int × Int × Unit) × ((List Int) × ((List Int) × (List Int) × Unit) × Int × Int × Unit) × Int × Unit) → Option (Int)) (r : ByteArray × Int × Int × (List (Int × Int × Int × (List (Int × Int × Int × Int × Unit)) × Unit)) × (List Int) × Bool × Bool × (List (Int × Int × Int × Bool × Unit)) × Int × Int × Int × Unit) (p : (List Int) × ((List Int) × (List Int) × Unit) × Int × Int × Unit) (depth : Int) : Option (Int) :=
  Option.bind (ref1Result r p) fun r3 =>
  bif (r3 == (w64 ((1 : Int) + p.2.2.1))) then some (1000 : Int)
  else bif (r3 == (w64 ((2 : Int) - p.2.2.1))) then some (-1000 : Int)
  else bif (r3 == (3 : Int)) then some (0 : Int)
  else bif (depth == (0 : Int)) then some (0 : Int)
  else Option.bind (ref1Moves r p) fun r4 =>
  Option.bind (iterW (ref1Score_L1 r4 r p self depth) (((-2000 : Int), (0 : Int), ()), ())) fun x14 =>
  some x14.1.1
noncomputable def ref1Score_G (self : ((ByteArray × Int × Int × (List (Int × Int × Int × (List (Int × Int × Int × Int × Unit)) × Unit)) × (List Int) × Bool × Bool × (List (Int × Int × Int × Bool × Unit)) × Int × Int × Int × Unit) × ((List Int) × ((List Int) × (List Int) × Unit) × Int × Int × Unit) × Int × Unit) → Option (Int)) (x : (ByteArray × Int × Int × (List (Int × Int × Int × (List (Int × Int × Int × Int × Unit)) × Unit)) × (List Int) × Bool × Bool × (List (Int × Int × Int × Bool × Unit)) × Int × Int × Int × Unit) × ((List Int) × ((List Int) × (List Int) × Unit) × Int × Int × Unit) × Int × Unit) : Option (Int) := ref1Score_F self x.1 x.2.1 x.2.2.1
noncomputable def ref1Score (r : ByteArray × Int × Int × (List (Int × Int × Int × (List (Int × Int × Int × Int × Unit)) × Unit)) × (List Int) × Bool × Bool × (List (Int × Int × Int × Bool × Unit)) × Int × Int × Int × Unit) (p : (List Int) × ((List Int) × (List Int) × Unit) × Int × Int × Unit) (depth : Int) : Option (Int) := fixW ref1Score_G (r, p, depth, ())
noncomputable def law1Near_o : Option ((List Int) × ((List Int) × (List Int) × Unit) × Int × Int × Unit) :=
  some ([(1 : Int), (1 : Int), (0 : Int), (2 : Int), (2 : Int), (0 : Int), (0 : Int), (0 : Int), (0 : Int)], (([(3 : Int)], ([(3 : Int)], ())), ((0 : Int), ((0 : Int), ()))))
def law1Near : (List Int) × ((List Int) × (List Int) × Unit) × Int × Int × Unit :=
  ([(1 : Int), (1 : Int), (0 : Int), (2 : Int), (2 : Int), (0 : Int), (0 : Int), (0 : Int), (0 : Int)], (([(3 : Int)], ([(3 : Int)], ())), ((0 : Int), ((0 : Int), ()))))
theorem law1Near_eq : law1Near_o = some (law1Near) := by
  unfold law1Near_o law1Near
  first | rfl | simp only [cond_some]
noncomputable def law1Step_o (n : Int) : Option (Int) :=
  bif (decide (n > (0 : Int))) then some (w64 ((1 : Int) - n))
  else bif (decide (n < (0 : Int))) then some (w64 ((w64 (0 - n)) - (1 : Int)))
  else some (0 : Int)
def law1Step (n : Int) : Int :=
  bif (decide (n > (0 : Int))) then (w64 ((1 : Int) - n))
  else bif (decide (n < (0 : Int))) then (w64 ((w64 (0 - n)) - (1 : Int)))
  else (0 : Int)
theorem law1Step_eq (n : Int) : law1Step_o n = some (law1Step n) := by
  unfold law1Step_o law1Step
  first | rfl | simp only [cond_some]
noncomputable def law1Light (r : ByteArray × Int × Int × (List (Int × Int × Int × (List (Int × Int × Int × Int × Unit)) × Unit)) × (List Int) × Bool × Bool × (List (Int × Int × Int × Bool × Unit)) × Int × Int × Int × Unit) (p : (List Int) × ((List Int) × (List Int) × Unit) × Int × Int × Unit) (depth : Int) : Option (Bool) :=
  Option.bind (ref1PlaceError r p) fun r3 =>
  Option.bind (gopt ((decide (((p.1.length : Nat) : Int) ≤ (20 : Int))) && (!((r3 != (0 : Int)) || (!(ref1In depth (0 : Int) (12 : Int)))))) false (ref1Fits_i r p depth (1200 : Int))) fun r4 =>
  some (((r3 != (0 : Int)) || (!(ref1In depth (0 : Int) (12 : Int)))) || ((decide (((p.1.length : Nat) : Int) ≤ (20 : Int))) && r4))
noncomputable def law1TreeError (r : ByteArray × Int × Int × (List (Int × Int × Int × (List (Int × Int × Int × Int × Unit)) × Unit)) × (List Int) × Bool × Bool × (List (Int × Int × Int × Bool × Unit)) × Int × Int × Int × Unit) (p : (List Int) × ((List Int) × (List Int) × Unit) × Int × Int × Unit) (depth : Int) : Option (Int) :=
  Option.bind (ref1PlaceError r p) fun r3 =>
  bif (r3 != (0 : Int)) then some r3
  else bif (!(ref1In depth (0 : Int) (12 : Int))) then some (1 : Int)
  else Option.bind (ref1Tree r p depth) fun r4 =>
  bif (decide (r4 > (50000 : Int))) then some (17 : Int)
  else some (0 : Int)
noncomputable def minimaxOf_L1 (r4 : List (Int × Int × Int × Unit)) (r : ByteArray × Int × Int × (List (Int × Int × Int × (List (Int × Int × Int × Int × Unit)) × Unit)) × (List Int) × Bool × Bool × (List (Int × Int × Int × Bool × Unit)) × Int × Int × Int × Unit) (p : (List Int) × ((List Int) × (List Int) × Unit) × Int × Int × Unit) (self : ((ByteArray × Int × Int × (List (Int × Int × Int × (List (Int × Int × Int × Int × Unit)) × Unit)) × (List Int) × Bool × Bool × (List (Int × Int × Int × Bool × Unit)) × Int × Int × Int × Unit) × ((List Int) × ((List Int) × (List Int) × Unit) × Int × Int × Unit) × Int × Unit) → Option (Int)) (depth : Int) (x5 : (Int × Int × Unit) × ((Int × Int × Int × Unit) × Unit)) : Option (((Int × Int × Unit) × ((Int × Int × Int × Unit) × Unit)) ⊕ ((Int × Unit) × ((Int × Int × Int × Unit) × Unit))) :=
  bif (decide (x5.1.2.1 < ((r4.length : Nat) : Int))) then (req (inb x5.1.2.1 r4.length) (Option.bind (agree (Option.bind (movesMake r p (getD' r4 ((x5.1.2.1).toNat) ((0 : Int), ((0 : Int), ((0 : Int), ()))))) fun r6 =>
  Option.bind (self (r, (r6.1, ((r6.2.1.1, (r6.2.1.2.1, ())), r6.2.2)), (w64 (depth - (1 : Int))), ())) fun r7 =>
  some (((minimaxNearer (w64 (0 - r7))), ()), ())) (Option.bind (movesMake r p (getD' r4 ((x5.1.2.1).toNat) ((0 : Int), ((0 : Int), ((0 : Int), ()))))) fun r8 =>
  Option.bind (self (r, (r8.1, ((r8.2.1.1, (r8.2.1.2.1, ())), r8.2.2)), (w64 (depth - (1 : Int))), ())) fun r9 =>
  some (((minimaxNearer (w64 (0 - r9))), ()), ()))) fun x10 =>
  Option.bind (bif (decide (x10.1.1 > x5.1.1)) then some ((x10.1.1, ()), ((getD' r4 ((x5.1.2.1).toNat) ((0 : Int), ((0 : Int), ((0 : Int), ())))), ()))
  else some ((x5.1.1, ()), (x5.2.1, ()))) fun x11 =>
  some (Sum.inl ((x11.1.1, (w64 (x5.1.2.1 + (1 : Int))), ()), (x11.2.1, ())))))
  else some (Sum.inr ((x5.1.1, ()), (x5.2.1, ())))
noncomputable def minimaxOf_F (self : ((ByteArray × Int × Int × (List (Int × Int × Int × (List (Int × Int × Int × Int × Unit)) × Unit)) × (List Int) × Bool × Bool × (List (Int × Int × Int × Bool × Unit)) × Int × Int × Int × Unit) × ((List Int) × ((List Int) × (List Int) × Unit) × Int × Int × Unit) × Int × Unit) → Option (Int)) (r : ByteArray × Int × Int × (List (Int × Int × Int × (List (Int × Int × Int × Int × Unit)) × Unit)) × (List Int) × Bool × Bool × (List (Int × Int × Int × Bool × Unit)) × Int × Int × Int × Unit) (p : (List Int) × ((List Int) × (List Int) × Unit) × Int × Int × Unit) (depth : Int) : Option (Int) :=
  Option.bind (endsResult r p) fun r3 =>
  bif (r3 != (0 : Int)) then some (minimaxOver p r3)
  else bif (depth == (0 : Int)) then some (0 : Int)
  else Option.bind (movesList r p) fun r4 =>
  Option.bind (iterW (minimaxOf_L1 r4 r p self depth) (((-2000 : Int), (0 : Int), ()), (((0 : Int), ((0 : Int), ((0 : Int), ()))), ()))) fun x12 =>
  some x12.1.1
noncomputable def minimaxOf_G (self : ((ByteArray × Int × Int × (List (Int × Int × Int × (List (Int × Int × Int × Int × Unit)) × Unit)) × (List Int) × Bool × Bool × (List (Int × Int × Int × Bool × Unit)) × Int × Int × Int × Unit) × ((List Int) × ((List Int) × (List Int) × Unit) × Int × Int × Unit) × Int × Unit) → Option (Int)) (x : (ByteArray × Int × Int × (List (Int × Int × Int × (List (Int × Int × Int × Int × Unit)) × Unit)) × (List Int) × Bool × Bool × (List (Int × Int × Int × Bool × Unit)) × Int × Int × Int × Unit) × ((List Int) × ((List Int) × (List Int) × Unit) × Int × Int × Unit) × Int × Unit) : Option (Int) := minimaxOf_F self x.1 x.2.1 x.2.2.1
noncomputable def minimaxOf (r : ByteArray × Int × Int × (List (Int × Int × Int × (List (Int × Int × Int × Int × Unit)) × Unit)) × (List Int) × Bool × Bool × (List (Int × Int × Int × Bool × Unit)) × Int × Int × Int × Unit) (p : (List Int) × ((List Int) × (List Int) × Unit) × Int × Int × Unit) (depth : Int) : Option (Int) := fixW minimaxOf_G (r, p, depth, ())
noncomputable def minimaxFirst_L1 (r2 : List (Int × Int × Int × Unit)) (r : ByteArray × Int × Int × (List (Int × Int × Int × (List (Int × Int × Int × Int × Unit)) × Unit)) × (List Int) × Bool × Bool × (List (Int × Int × Int × Bool × Unit)) × Int × Int × Int × Unit) (p : (List Int) × ((List Int) × (List Int) × Unit) × Int × Int × Unit) (depth : Int) (x3 : (Int × Int × Unit) × ((Int × Int × Int × Unit) × Unit)) : Option (((Int × Int × Unit) × ((Int × Int × Int × Unit) × Unit)) ⊕ ((Int × Unit) × ((Int × Int × Int × Unit) × Unit))) :=
  bif (decide (x3.1.2.1 < ((r2.length : Nat) : Int))) then (req (inb x3.1.2.1 r2.length) (Option.bind (agree (Option.bind (movesMake r p (getD' r2 ((x3.1.2.1).toNat) ((0 : Int), ((0 : Int), ((0 : Int), ()))))) fun r4 =>
  Option.bind (minimaxOf r (r4.1, ((r4.2.1.1, (r4.2.1.2.1, ())), r4.2.2)) (w64 (depth - (1 : Int)))) fun r5 =>
  some (((minimaxNearer (w64 (0 - r5))), ()), ())) (Option.bind (movesMake r p (getD' r2 ((x3.1.2.1).toNat) ((0 : Int), ((0 : Int), ((0 : Int), ()))))) fun r6 =>
  Option.bind (minimaxOf r (r6.1, ((r6.2.1.1, (r6.2.1.2.1, ())), r6.2.2)) (w64 (depth - (1 : Int)))) fun r7 =>
  some (((minimaxNearer (w64 (0 - r7))), ()), ()))) fun x8 =>
  Option.bind (bif (decide (x8.1.1 > x3.1.1)) then some ((x8.1.1, ()), ((getD' r2 ((x3.1.2.1).toNat) ((0 : Int), ((0 : Int), ((0 : Int), ())))), ()))
  else some ((x3.1.1, ()), (x3.2.1, ()))) fun x9 =>
  some (Sum.inl ((x9.1.1, (w64 (x3.1.2.1 + (1 : Int))), ()), (x9.2.1, ())))))
  else some (Sum.inr ((x3.1.1, ()), (x3.2.1, ())))
noncomputable def minimaxFirst (r : ByteArray × Int × Int × (List (Int × Int × Int × (List (Int × Int × Int × Int × Unit)) × Unit)) × (List Int) × Bool × Bool × (List (Int × Int × Int × Bool × Unit)) × Int × Int × Int × Unit) (p : (List Int) × ((List Int) × (List Int) × Unit) × Int × Int × Unit) (depth : Int) : Option ((Int × Int × Int × Unit) × Int × Unit) :=
  Option.bind (movesList r p) fun r2 =>
  Option.bind (iterW (minimaxFirst_L1 r2 r p depth) (((-2000 : Int), (0 : Int), ()), (((0 : Int), ((0 : Int), ((0 : Int), ()))), ()))) fun x10 =>
  some (x10.2.1, (x10.1.1, ()))
noncomputable def minimaxScore (r : ByteArray × Int × Int × (List (Int × Int × Int × (List (Int × Int × Int × Int × Unit)) × Unit)) × (List Int) × Bool × Bool × (List (Int × Int × Int × Bool × Unit)) × Int × Int × Int × Unit) (p : (List Int) × ((List Int) × (List Int) × Unit) × Int × Int × Unit) (depth : Int) : Option (Int × Int × Unit) :=
  Option.bind (perftTree r p depth) fun r3 =>
  bif (r3.2.1 != (0 : Int)) then some ((0 : Int), r3.2)
  else Option.bind (minimaxOf r p depth) fun r4 =>
  some (r4, ((0 : Int), ()))
noncomputable def minimaxBest (r : ByteArray × Int × Int × (List (Int × Int × Int × (List (Int × Int × Int × Int × Unit)) × Unit)) × (List Int) × Bool × Bool × (List (Int × Int × Int × Bool × Unit)) × Int × Int × Int × Unit) (p : (List Int) × ((List Int) × (List Int) × Unit) × Int × Int × Unit) (depth : Int) : Option ((Int × Int × Int × Unit) × Int × Int × Unit) :=
  Option.bind (perftTree r p depth) fun r4 =>
  bif (r4.2.1 != (0 : Int)) then some (((0 : Int), ((0 : Int), ((0 : Int), ()))), ((0 : Int), r4.2))
  else bif (depth == (0 : Int)) then some (((0 : Int), ((0 : Int), ((0 : Int), ()))), ((0 : Int), ((1 : Int), ())))
  else Option.bind (endsResult r p) fun r5 =>
  bif (r5 != (0 : Int)) then some (((0 : Int), ((0 : Int), ((0 : Int), ()))), ((0 : Int), ((14 : Int), ())))
  else Option.bind (minimaxFirst r p depth) fun r6 =>
  some (r6.1, (r6.2.1, ((0 : Int), ())))
noncomputable def minimaxLine_L1 (r : ByteArray × Int × Int × (List (Int × Int × Int × (List (Int × Int × Int × Int × Unit)) × Unit)) × (List Int) × Bool × Bool × (List (Int × Int × Int × Bool × Unit)) × Int × Int × Int × Unit) (x3 : (Int × (List (Int × Int × Int × Unit)) × Unit) × (((List Int) × (List Int) × (List Int) × Int × Int × Unit) × Unit)) : Option (((Int × (List (Int × Int × Int × Unit)) × Unit) × (((List Int) × (List Int) × (List Int) × Int × Int × Unit) × Unit)) ⊕ (((List (Int × Int × Int × Unit)) × Unit) × (((List Int) × (List Int) × (List Int) × Int × Int × Unit) × Unit))) :=
  Option.bind (gopt (decide (x3.1.1 > (0 : Int))) (0 : Int) (endsResult r (x3.2.1.1, ((x3.2.1.2.1, (x3.2.1.2.2.1, ())), x3.2.1.2.2.2)))) fun r4 =>
  bif ((decide (x3.1.1 > (0 : Int))) && (r4 == (0 : Int))) then (Option.bind (minimaxFirst r (x3.2.1.1, ((x3.2.1.2.1, (x3.2.1.2.2.1, ())), x3.2.1.2.2.2)) x3.1.1) fun r5 =>
  req (room (x3.1.2.1.length + ([r5.1]).length) 24) (Option.bind (movesMake r (x3.2.1.1, ((x3.2.1.2.1, (x3.2.1.2.2.1, ())), x3.2.1.2.2.2)) r5.1) fun r6 =>
  some (Sum.inl (((w64 (x3.1.1 - (1 : Int))), (x3.1.2.1 ++ [r5.1]), ()), ((r6.1, (r6.2.1.1, (r6.2.1.2.1, r6.2.2))), ())))))
  else some (Sum.inr ((x3.1.2.1, ()), (x3.2.1, ())))
noncomputable def minimaxLine (r : ByteArray × Int × Int × (List (Int × Int × Int × (List (Int × Int × Int × Int × Unit)) × Unit)) × (List Int) × Bool × Bool × (List (Int × Int × Int × Bool × Unit)) × Int × Int × Int × Unit) (p : (List Int) × ((List Int) × (List Int) × Unit) × Int × Int × Unit) (depth : Int) : Option ((List (Int × Int × Int × Unit)) × Int × Unit) :=
  Option.bind (perftTree r p depth) fun r2 =>
  bif (r2.2.1 != (0 : Int)) then some (([] : List (Int × Int × Int × Unit)), r2.2)
  else Option.bind (iterW (minimaxLine_L1 r) ((depth, ([] : List (Int × Int × Int × Unit)), ()), ((p.1, (p.2.1.1, (p.2.1.2.1, p.2.2))), ()))) fun x7 =>
  some (x7.1.1, ((0 : Int), ()))
noncomputable def law1Counted : Option (Bool) :=
  Option.bind (placeBegin ((law1Three).1, (((law1Three).2).1, ((((law1Three).2).2).1, (((((law1Three).2).2).2).1, ((((((law1Three).2).2).2).2).1, (((((((law1Three).2).2).2).2).2).1, ((((((((law1Three).2).2).2).2).2).2).1, (((((((((law1Three).2).2).2).2).2).2).2).1, ((((((((((law1Three).2).2).2).2).2).2).2).2).1, (((((((((((law1Three).2).2).2).2).2).2).2).2).2).1, ((((((((((((law1Three).2).2).2).2).2).2).2).2).2).2).1, ())))))))))))) fun r2 =>
  Option.bind (agree (Option.bind (perftCount ((law1Three).1, (((law1Three).2).1, ((((law1Three).2).2).1, (((((law1Three).2).2).2).1, ((((((law1Three).2).2).2).2).1, (((((((law1Three).2).2).2).2).2).1, ((((((((law1Three).2).2).2).2).2).2).1, (((((((((law1Three).2).2).2).2).2).2).2).1, ((((((((((law1Three).2).2).2).2).2).2).2).2).1, (((((((((((law1Three).2).2).2).2).2).2).2).2).2).1, ((((((((((((law1Three).2).2).2).2).2).2).2).2).2).2).1, ()))))))))))) (r2.1.1, ((r2.1.2.1.1, (r2.1.2.1.2.1, ())), r2.1.2.2)) (2 : Int)) fun r3 =>
  some ((r3.1, r3.2.1, ()), ())) (Option.bind (perftCount ((law1Three).1, (((law1Three).2).1, ((((law1Three).2).2).1, (((((law1Three).2).2).2).1, ((((((law1Three).2).2).2).2).1, (((((((law1Three).2).2).2).2).2).1, ((((((((law1Three).2).2).2).2).2).2).1, (((((((((law1Three).2).2).2).2).2).2).2).1, ((((((((((law1Three).2).2).2).2).2).2).2).2).1, (((((((((((law1Three).2).2).2).2).2).2).2).2).2).1, ((((((((((((law1Three).2).2).2).2).2).2).2).2).2).2).1, ()))))))))))) (r2.1.1, ((r2.1.2.1.1, (r2.1.2.1.2.1, ())), r2.1.2.2)) (2 : Int)) fun r4 =>
  some ((r4.1, r4.2.1, ()), ()))) fun x5 =>
  Option.bind (agree (Option.bind (perftTree ((law1Three).1, (((law1Three).2).1, ((((law1Three).2).2).1, (((((law1Three).2).2).2).1, ((((((law1Three).2).2).2).2).1, (((((((law1Three).2).2).2).2).2).1, ((((((((law1Three).2).2).2).2).2).2).1, (((((((((law1Three).2).2).2).2).2).2).2).1, ((((((((((law1Three).2).2).2).2).2).2).2).2).1, (((((((((((law1Three).2).2).2).2).2).2).2).2).2).1, ((((((((((((law1Three).2).2).2).2).2).2).2).2).2).2).1, ()))))))))))) (r2.1.1, ((r2.1.2.1.1, (r2.1.2.1.2.1, ())), r2.1.2.2)) (2 : Int)) fun r6 =>
  some ((r6.1, r6.2.1, ()), ())) (Option.bind (perftTree ((law1Three).1, (((law1Three).2).1, ((((law1Three).2).2).1, (((((law1Three).2).2).2).1, ((((((law1Three).2).2).2).2).1, (((((((law1Three).2).2).2).2).2).1, ((((((((law1Three).2).2).2).2).2).2).1, (((((((((law1Three).2).2).2).2).2).2).2).1, ((((((((((law1Three).2).2).2).2).2).2).2).2).1, (((((((((((law1Three).2).2).2).2).2).2).2).2).2).1, ((((((((((((law1Three).2).2).2).2).2).2).2).2).2).2).1, ()))))))))))) (r2.1.1, ((r2.1.2.1.1, (r2.1.2.1.2.1, ())), r2.1.2.2)) (2 : Int)) fun r7 =>
  some ((r7.1, r7.2.1, ()), ()))) fun x8 =>
  some (((((r2.2.1 == (0 : Int)) && (x5.1.2.1 == (0 : Int))) && (x5.1.1 == (72 : Int))) && (x8.1.2.1 == (0 : Int))) && (x8.1.1 == (82 : Int)))
noncomputable def law1Scored : Option (Bool) :=
  Option.bind (minimaxScore ((law1Three).1, (((law1Three).2).1, ((((law1Three).2).2).1, (((((law1Three).2).2).2).1, ((((((law1Three).2).2).2).2).1, (((((((law1Three).2).2).2).2).2).1, ((((((((law1Three).2).2).2).2).2).2).1, (((((((((law1Three).2).2).2).2).2).2).2).1, ((((((((((law1Three).2).2).2).2).2).2).2).2).1, (((((((((((law1Three).2).2).2).2).2).2).2).2).2).1, ((((((((((((law1Three).2).2).2).2).2).2).2).2).2).2).1, ()))))))))))) ((law1Near).1, (((((law1Near).2).1).1, (((((law1Near).2).1).2).1, ())), ((((law1Near).2).2).1, (((((law1Near).2).2).2).1, ())))) (1 : Int)) fun r3 =>
  Option.bind (minimaxBest ((law1Three).1, (((law1Three).2).1, ((((law1Three).2).2).1, (((((law1Three).2).2).2).1, ((((((law1Three).2).2).2).2).1, (((((((law1Three).2).2).2).2).2).1, ((((((((law1Three).2).2).2).2).2).2).1, (((((((((law1Three).2).2).2).2).2).2).2).1, ((((((((((law1Three).2).2).2).2).2).2).2).2).1, (((((((((((law1Three).2).2).2).2).2).2).2).2).2).1, ((((((((((((law1Three).2).2).2).2).2).2).2).2).2).2).1, ()))))))))))) ((law1Near).1, (((((law1Near).2).1).1, (((((law1Near).2).1).2).1, ())), ((((law1Near).2).2).1, (((((law1Near).2).2).2).1, ())))) (2 : Int)) fun r4 =>
  some (((((r3.2.1 == (0 : Int)) && (r3.1 == (999 : Int))) && (r4.2.2.1 == (0 : Int))) && ((r4.1.1 == (law1Put (2 : Int)).1) && ((r4.1.2.1 == ((law1Put (2 : Int)).2).1) && ((r4.1.2.2.1 == (((law1Put (2 : Int)).2).2).1) && true)))) && (r4.2.1 == (999 : Int)))
end Go.Proofs.Ytpajmeljfpolcaa
