/- What functions compute, in plain Lean: RobinMeets. No condition of its own. -/
import Derived.Test.YtejmikpmkfnlgaaDen0
namespace Go.Proofs.Ytejmikpmkfnlgaa
open Go.Den
set_option linter.unusedVariables false
set_option maxRecDepth 100000
noncomputable def robinHalf_o (n : Int) : Option (Int) :=
  some (w64 ((w64 (n + (n.tmod (2 : Int)))) - (1 : Int)))
def robinHalf (n : Int) : Int :=
  (w64 ((w64 (n + (n.tmod (2 : Int)))) - (1 : Int)))
theorem robinHalf_eq (n : Int) : robinHalf_o n = some (robinHalf n) := by
  unfold robinHalf_o robinHalf
  first | rfl | simp only [cond_some]
noncomputable def robinRounds_o (n : Int) (twice : Bool) : Option (Int) :=
  bif twice then some (w64 ((2 : Int) * (robinHalf n)))
  else some (robinHalf n)
def robinRounds (n : Int) (twice : Bool) : Int :=
  bif twice then (w64 ((2 : Int) * (robinHalf n)))
  else (robinHalf n)
theorem robinRounds_eq (n : Int) (twice : Bool) : robinRounds_o n twice = some (robinRounds n twice) := by
  unfold robinRounds_o robinRounds
  first | rfl | simp only [cond_some]
noncomputable def robinRounds_i_o (n : Int) (twice : Bool) : Option (Int × Int × Unit) :=
  bif ((decide (n < (2 : Int))) || (decide (n > (32 : Int)))) then some ((0 : Int), ((4 : Int), ()))
  else some ((robinRounds n twice), ((0 : Int), ()))
def robinRounds_i (n : Int) (twice : Bool) : Int × Int × Unit :=
  bif ((decide (n < (2 : Int))) || (decide (n > (32 : Int)))) then ((0 : Int), ((4 : Int), ()))
  else ((robinRounds n twice), ((0 : Int), ()))
theorem robinRounds_i_eq (n : Int) (twice : Bool) : robinRounds_i_o n twice = some (robinRounds_i n twice) := by
  unfold robinRounds_i_o robinRounds_i
  first | rfl | simp only [cond_some]
noncomputable def law3Rounds_o : Option (Bool) :=
  some ((((robinRounds_i (2 : Int) false).2).1 == (0 : Int)) && ((robinRounds_i (2 : Int) false).1 == (1 : Int)))
def law3Rounds : Bool :=
  ((((robinRounds_i (2 : Int) false).2).1 == (0 : Int)) && ((robinRounds_i (2 : Int) false).1 == (1 : Int)))
theorem law3Rounds_eq : law3Rounds_o = some (law3Rounds) := by
  unfold law3Rounds_o law3Rounds
  first | rfl | simp only [cond_some]
noncomputable def robinCheck (n : Int) (twice : Bool) (round : Int) : Option (Int) :=
  Option.bind (bif ((((robinRounds_i n twice).2).1 == (0 : Int)) && ((decide (round < (0 : Int))) || (decide (round ≥ (robinRounds_i n twice).1)))) then some (((1 : Int), ()), ())
  else some ((((robinRounds_i n twice).2).1, ()), ())) fun x1 =>
  some x1.1.1
noncomputable def robinGames_L1 (n : Int) (round : Int) (x3 : (Int × Unit) × (((List (Int × Int × Unit)) × Unit) × Unit)) : Option (((Int × Unit) × (((List (Int × Int × Unit)) × Unit) × Unit)) ⊕ ((Unit) × (((List (Int × Int × Unit)) × Unit) × Unit))) :=
  bif (decide (x3.1.1 ≤ (w64 ((w64 ((w64 ((robinHalf n) + (1 : Int))).tdiv (2 : Int))) - (1 : Int))))) then (req ((robinHalf n) != 0) (req ((robinHalf n) != 0) (Option.bind (bif (((x3.1.1.tmod (2 : Int)) == (0 : Int)) == (decide (round ≥ (robinHalf n)))) then some ((((w64 ((w64 ((round.tmod (robinHalf n)) + (robinHalf n))) - x3.1.1)).tmod (robinHalf n)), ((w64 ((round.tmod (robinHalf n)) + x3.1.1)).tmod (robinHalf n)), ()), ())
  else some ((((w64 ((round.tmod (robinHalf n)) + x3.1.1)).tmod (robinHalf n)), ((w64 ((w64 ((round.tmod (robinHalf n)) + (robinHalf n))) - x3.1.1)).tmod (robinHalf n)), ()), ())) fun x4 =>
  req (room (x3.2.1.1.length + ([(x4.1.1, (x4.1.2.1, ()))]).length) 16) (some (Sum.inl (((w64 (x3.1.1 + (1 : Int))), ()), (((x3.2.1.1 ++ [(x4.1.1, (x4.1.2.1, ()))]), ()), ())))))))
  else some (Sum.inr ((), ((x3.2.1.1, ()), ())))
noncomputable def robinGames (n : Int) (round : Int) : Option (List (Int × Int × Unit)) :=
  req ((robinHalf n) != 0) (Option.bind (bif ((n.tmod (2 : Int)) == (0 : Int)) then (Option.bind (bif ((((round.tmod (robinHalf n)).tmod (2 : Int)) == (0 : Int)) == (decide (round ≥ (robinHalf n)))) then some (((w64 (n - (1 : Int))), (round.tmod (robinHalf n)), ()), ())
  else some (((round.tmod (robinHalf n)), (w64 (n - (1 : Int))), ()), ())) fun x1 =>
  req (room (([] : List (Int × Int × Unit)).length + ([(x1.1.1, (x1.1.2.1, ()))]).length) 16) (some ((), (((([] : List (Int × Int × Unit)) ++ [(x1.1.1, (x1.1.2.1, ()))]), ()), ()))))
  else some ((), (([], ()), ()))) fun x2 =>
  Option.bind (iterW (robinGames_L1 n round) (((1 : Int), ()), ((x2.2.1.1, ()), ()))) fun x5 =>
  some x5.2.1.1)
noncomputable def robinRound (n : Int) (twice : Bool) (round : Int) : Option ((List (Int × Int × Unit)) × Int × Unit) :=
  Option.bind (robinCheck n twice round) fun r3 =>
  bif (r3 != (0 : Int)) then some ([], (r3, ()))
  else Option.bind (robinGames n round) fun r4 =>
  some (r4, ((0 : Int), ()))
noncomputable def robinBye (n : Int) (twice : Bool) (round : Int) : Option (Int × Int × Unit) :=
  Option.bind (robinCheck n twice round) fun r2 =>
  bif (r2 != (0 : Int)) then some ((0 : Int), (r2, ()))
  else bif ((n.tmod (2 : Int)) == (0 : Int)) then some ((-1 : Int), ((0 : Int), ()))
  else req ((robinHalf n) != 0) (some ((round.tmod (robinHalf n)), ((0 : Int), ())))
noncomputable def robinTwo_o (n : Int) (a : Int) (b : Int) : Option (Bool) :=
  some (((((decide (a ≥ (0 : Int))) && (decide (a < n))) && (decide (b ≥ (0 : Int)))) && (decide (b < n))) && (a != b))
def robinTwo (n : Int) (a : Int) (b : Int) : Bool :=
  (((((decide (a ≥ (0 : Int))) && (decide (a < n))) && (decide (b ≥ (0 : Int)))) && (decide (b < n))) && (a != b))
theorem robinTwo_eq (n : Int) (a : Int) (b : Int) : robinTwo_o n a b = some (robinTwo n a b) := by
  unfold robinTwo_o robinTwo
  first | rfl | simp only [cond_some]
noncomputable def robinWhen_L2 (r2 : List (Int × Int × Unit)) (first : Int) (second : Int) (twice : Bool) (x1 : (Int × Unit) × (Unit)) (x3 : (Int × Unit) × (Unit)) : Option (((Int × Unit) × (Unit)) ⊕ (((Unit) × (Unit)) ⊕ (((Unit) × (Unit)) ⊕ (((Int × Unit) × (Unit)) ⊕ (((Unit) × (Unit)) ⊕ (Int × Int × Unit)))))) :=
  bif (decide (x3.1.1 < ((r2.length : Nat) : Int))) then (req (inb x3.1.1 r2.length) (bif ((((getD' r2 ((x3.1.1).toNat) ((0 : Int), ((0 : Int), ()))).1 == first) && ((((getD' r2 ((x3.1.1).toNat) ((0 : Int), ((0 : Int), ()))).2).1 == second) && true)) || ((!twice) && (((getD' r2 ((x3.1.1).toNat) ((0 : Int), ((0 : Int), ()))).1 == second) && ((((getD' r2 ((x3.1.1).toNat) ((0 : Int), ((0 : Int), ()))).2).1 == first) && true)))) then some (Sum.inr (Sum.inr (Sum.inr (Sum.inr (Sum.inr (x1.1.1, ((0 : Int), ())))))))
  else some (Sum.inl (((w64 (x3.1.1 + (1 : Int))), ()), ()))))
  else some (Sum.inr (Sum.inl ((), ())))
noncomputable def robinWhen_L1 (n : Int) (twice : Bool) (first : Int) (second : Int) (x1 : (Int × Unit) × (Unit)) : Option (((Int × Unit) × (Unit)) ⊕ (((Unit) × (Unit)) ⊕ (Int × Int × Unit))) :=
  bif (decide (x1.1.1 < (robinRounds_i n twice).1)) then (Option.bind (α := ((Unit) × (Unit)) ⊕ (((Int × Unit) × (Unit)) ⊕ (((Unit) × (Unit)) ⊕ (Int × Int × Unit)))) (Option.bind (robinGames n x1.1.1) fun r2 =>
  Option.bind (α := ((Unit) × (Unit)) ⊕ (((Unit) × (Unit)) ⊕ (((Int × Unit) × (Unit)) ⊕ (((Unit) × (Unit)) ⊕ (Int × Int × Unit))))) (iterW (robinWhen_L2 r2 first second twice x1) (((0 : Int), ()), ())) (Sum.elim (fun x4 =>
  some (Sum.inl ((), ()))) some)) (Sum.elim (fun x5 =>
  some (Sum.inl (((w64 (x1.1.1 + (1 : Int))), ()), ()))) some))
  else some (Sum.inr (Sum.inl ((), ())))
noncomputable def robinWhen (n : Int) (twice : Bool) (first : Int) (second : Int) : Option (Int × Int × Unit) :=
  bif (((robinRounds_i n twice).2).1 != (0 : Int)) then some ((0 : Int), (((robinRounds_i n twice).2).1, ()))
  else bif (!(robinTwo n first second)) then some ((0 : Int), ((1 : Int), ()))
  else Option.bind (α := ((Unit) × (Unit)) ⊕ (Int × Int × Unit)) (iterW (robinWhen_L1 n twice first second) (((0 : Int), ()), ())) (Sum.elim (fun x6 =>
  some ((0 : Int), ((8 : Int), ()))) some)
noncomputable def ref3Round_L2 (m : Int) (x3 : (Int × Unit) × (Unit)) (a : Int) (b : Int) (x4 : (Int × Unit) × (Unit)) : Option (((Int × Unit) × (Unit)) ⊕ (((Unit) × (Unit)) ⊕ (((Unit) × (Unit)) ⊕ (((Int × Unit) × (Unit)) ⊕ (((Unit) × (Unit)) ⊕ (Int × Bool × Unit)))))) :=
  bif (decide (x4.1.1 < (w64 (m.tdiv (2 : Int))))) then (req ((w64 (m - (1 : Int))) != 0) (req ((w64 (m - (1 : Int))) != 0) (bif ((((w64 (x3.1.1 + x4.1.1)).tmod (w64 (m - (1 : Int)))) == a) && (((w64 ((w64 ((w64 (x3.1.1 + m)) - (1 : Int))) - x4.1.1)).tmod (w64 (m - (1 : Int)))) == b)) then some (Sum.inr (Sum.inr (Sum.inr (Sum.inr (Sum.inr (x3.1.1, (((x4.1.1.tmod (2 : Int)) == (0 : Int)), ())))))))
  else bif ((((w64 (x3.1.1 + x4.1.1)).tmod (w64 (m - (1 : Int)))) == b) && (((w64 ((w64 ((w64 (x3.1.1 + m)) - (1 : Int))) - x4.1.1)).tmod (w64 (m - (1 : Int)))) == a)) then some (Sum.inr (Sum.inr (Sum.inr (Sum.inr (Sum.inr (x3.1.1, (((x4.1.1.tmod (2 : Int)) == (1 : Int)), ())))))))
  else some (Sum.inl (((w64 (x4.1.1 + (1 : Int))), ()), ())))))
  else some (Sum.inr (Sum.inl ((), ())))
noncomputable def ref3Round_L1 (m : Int) (b : Int) (a : Int) (x3 : (Int × Unit) × (Unit)) : Option (((Int × Unit) × (Unit)) ⊕ (((Unit) × (Unit)) ⊕ (Int × Bool × Unit))) :=
  bif (decide (x3.1.1 < (w64 (m - (1 : Int))))) then (Option.bind (α := ((Unit) × (Unit)) ⊕ (((Int × Unit) × (Unit)) ⊕ (((Unit) × (Unit)) ⊕ (Int × Bool × Unit)))) (bif (b == (w64 (m - (1 : Int)))) then (bif (x3.1.1 == a) then some (Sum.inr (Sum.inr (Sum.inr (x3.1.1, (((x3.1.1.tmod (2 : Int)) == (0 : Int)), ())))))
  else some (Sum.inl ((), ())))
  else Option.bind (α := ((Unit) × (Unit)) ⊕ (((Unit) × (Unit)) ⊕ (((Int × Unit) × (Unit)) ⊕ (((Unit) × (Unit)) ⊕ (Int × Bool × Unit))))) (iterW (ref3Round_L2 m x3 a b) (((1 : Int), ()), ())) (Sum.elim (fun x5 =>
  some (Sum.inl ((), ()))) some)) (Sum.elim (fun x6 =>
  some (Sum.inl (((w64 (x3.1.1 + (1 : Int))), ()), ()))) some))
  else some (Sum.inr (Sum.inl ((), ())))
noncomputable def ref3Round_F (self : (Int × Int × Int × Unit) → Option (Int × Bool × Unit)) (m : Int) (a : Int) (b : Int) : Option (Int × Bool × Unit) :=
  bif (a == (w64 (m - (1 : Int)))) then (Option.bind (self (m, b, a, ())) fun r2 =>
  some (r2.1, ((!r2.2.1), ())))
  else Option.bind (α := ((Unit) × (Unit)) ⊕ (Int × Bool × Unit)) (iterW (ref3Round_L1 m b a) (((0 : Int), ()), ())) (Sum.elim (fun x7 =>
  some ((-1 : Int), (false, ()))) some)
noncomputable def ref3Round_G (self : (Int × Int × Int × Unit) → Option (Int × Bool × Unit)) (x : Int × Int × Int × Unit) : Option (Int × Bool × Unit) := ref3Round_F self x.1 x.2.1 x.2.2.1
noncomputable def ref3Round (m : Int) (a : Int) (b : Int) : Option (Int × Bool × Unit) := fixW ref3Round_G (m, a, b, ())
noncomputable def law3RobinMeets_L1 (r5 : (List (Int × Int × Unit)) × Int × Unit) (n : Int) (round : Int) (x9 : (Int × Unit) × (Unit)) : Option (((Int × Unit) × (Unit)) ⊕ (((Unit) × (Unit)) ⊕ (((Unit) × (Unit)) ⊕ Bool))) :=
  bif (decide (x9.1.1 < ((r5.1.length : Nat) : Int))) then (req (inb x9.1.1 r5.1.length) (Option.bind (ref3Round (w64 (n + (n.tmod (2 : Int)))) ((getD' r5.1 ((x9.1.1).toNat) ((0 : Int), ((0 : Int), ()))).1) (((getD' r5.1 ((x9.1.1).toNat) ((0 : Int), ((0 : Int), ()))).2).1)) fun r10 =>
  req ((w64 ((w64 (n + (n.tmod (2 : Int)))) - (1 : Int))) != 0) (bif ((r10.1 != (round.tmod (w64 ((w64 (n + (n.tmod (2 : Int)))) - (1 : Int))))) || (!(r10.2.1 == (decide (round < (w64 ((w64 (n + (n.tmod (2 : Int)))) - (1 : Int)))))))) then some (Sum.inr (Sum.inr (Sum.inr false)))
  else some (Sum.inl (((w64 (x9.1.1 + (1 : Int))), ()), ())))))
  else some (Sum.inr (Sum.inl ((), ())))
noncomputable def law3RobinMeets (n : Int) (twice : Bool) (a : Int) (b : Int) (round : Int) : Option (Bool) :=
  bif (!(law3Rounds)) then some false
  else Option.bind (robinRound n twice round) fun r5 =>
  Option.bind (robinBye n twice round) fun r6 =>
  Option.bind (robinWhen n twice a b) fun r7 =>
  bif ((decide (n < (2 : Int))) || (decide (n > (32 : Int)))) then some (((((((robinRounds_i n twice).2).1 == (4 : Int)) && (r5.2.1 == ((robinRounds_i n twice).2).1)) && (r6.2.1 == ((robinRounds_i n twice).2).1)) && (r7.2.1 == ((robinRounds_i n twice).2).1)) && ((w64 ((w64 ((w64 ((robinRounds_i n twice).1 + ((r5.1.length : Nat) : Int))) + r6.1)) + r7.1)) == (0 : Int)))
  else Option.bind (bif twice then some (((w64 ((w64 ((w64 (n + (n.tmod (2 : Int)))) - (1 : Int))) + (w64 ((w64 (n + (n.tmod (2 : Int)))) - (1 : Int))))), ()), ())
  else some (((w64 ((w64 (n + (n.tmod (2 : Int)))) - (1 : Int))), ()), ())) fun x8 =>
  bif ((((robinRounds_i n twice).2).1 != (0 : Int)) || ((robinRounds_i n twice).1 != x8.1.1)) then some false
  else Option.bind (α := ((Unit) × (Unit)) ⊕ Bool) (bif ((decide (round < (0 : Int))) || (decide (round ≥ (robinRounds_i n twice).1))) then (bif (((r5.2.1 != (1 : Int)) || (r6.2.1 != (1 : Int))) || ((w64 (((r5.1.length : Nat) : Int) + r6.1)) != (0 : Int))) then some (Sum.inr false)
  else some (Sum.inl ((), ())))
  else req (imp (!((r5.2.1 != (0 : Int)) || (r6.2.1 != (0 : Int)))) true) (req (imp (!(((r5.2.1 != (0 : Int)) || (r6.2.1 != (0 : Int))) || (((r5.1.length : Nat) : Int) != (w64 (n.tdiv (2 : Int)))))) true) (bif ((((r5.2.1 != (0 : Int)) || (r6.2.1 != (0 : Int))) || (((r5.1.length : Nat) : Int) != (w64 (n.tdiv (2 : Int))))) || (!(((n.tmod (2 : Int)) == (0 : Int)) == (r6.1 == (-1 : Int))))) then some (Sum.inr false)
  else Option.bind (α := ((Unit) × (Unit)) ⊕ (((Unit) × (Unit)) ⊕ Bool)) (iterW (law3RobinMeets_L1 r5 n round) (((0 : Int), ()), ())) (Sum.elim (fun x11 =>
  Option.bind (α := ((Unit) × (Unit)) ⊕ (((Unit) × (Unit)) ⊕ Bool)) (bif ((n.tmod (2 : Int)) == (1 : Int)) then (Option.bind (ref3Round (w64 (n + (n.tmod (2 : Int)))) r6.1 (w64 ((w64 (n + (n.tmod (2 : Int)))) - (1 : Int)))) fun r12 =>
  req ((w64 ((w64 (n + (n.tmod (2 : Int)))) - (1 : Int))) != 0) (bif (r12.1 != (round.tmod (w64 ((w64 (n + (n.tmod (2 : Int)))) - (1 : Int))))) then some (Sum.inr (Sum.inr false))
  else some (Sum.inl ((), ()))))
  else some (Sum.inl ((), ()))) (Sum.elim (fun x13 =>
  some (Sum.inl ((), ()))) some)) some)))) (Sum.elim (fun x14 =>
  bif (((decide ((if b < a then b else a) < (0 : Int))) || (decide ((if b > a then b else a) ≥ n))) || (a == b)) then some ((r7.2.1 == (1 : Int)) && (r7.1 == (0 : Int)))
  else Option.bind (ref3Round (w64 (n + (n.tmod (2 : Int)))) a b) fun r15 =>
  Option.bind (bif (twice && (!r15.2.1)) then some (((w64 (r15.1 + (w64 ((w64 (n + (n.tmod (2 : Int)))) - (1 : Int))))), ()), ())
  else some ((r15.1, ()), ())) fun x16 =>
  some ((r7.2.1 == (0 : Int)) && (r7.1 == x16.1.1))) some)
end Go.Proofs.Ytejmikpmkfnlgaa
