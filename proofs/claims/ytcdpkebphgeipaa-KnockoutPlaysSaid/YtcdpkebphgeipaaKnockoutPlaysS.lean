/- What functions compute, in plain Lean: KnockoutPlays. No condition of its own. -/
import Derived.Test.YtcdpkebphgeipaaDen0
namespace Go.Proofs.Ytcdpkebphgeipaa
open Go.Den
set_option linter.unusedVariables false
set_option maxRecDepth 100000
noncomputable def knockoutCheck_o (n : Int) : Option (Int) :=
  bif ((decide (n < (2 : Int))) || (decide (n > (32 : Int)))) then some (4 : Int)
  else some (0 : Int)
def knockoutCheck (n : Int) : Int :=
  bif ((decide (n < (2 : Int))) || (decide (n > (32 : Int)))) then (4 : Int)
  else (0 : Int)
theorem knockoutCheck_eq (n : Int) : knockoutCheck_o n = some (knockoutCheck n) := by
  unfold knockoutCheck_o knockoutCheck
  first | rfl | simp only [cond_some]
noncomputable def knockoutRounds_L1 (n : Int) (x1 : (Int × Unit) × (Unit)) : Option (((Int × Unit) × (Unit)) ⊕ ((Int × Unit) × (Unit))) :=
  req (decide (0 ≤ x1.1.1)) (bif (decide ((shK .shl .i64 (1 : Int) x1.1.1) < n)) then some (Sum.inl (((w64 (x1.1.1 + (1 : Int))), ()), ()))
  else some (Sum.inr ((x1.1.1, ()), ())))
noncomputable def knockoutRounds (n : Int) : Option (Int) :=
  Option.bind (iterW (knockoutRounds_L1 n) (((0 : Int), ()), ())) fun x2 =>
  some x2.1.1
noncomputable def knockoutSeeds_L2 (x3 : ((List Int) × Int × Unit) × (Unit)) (x4 : ((List Int) × Int × Unit) × (Unit)) : Option ((((List Int) × Int × Unit) × (Unit)) ⊕ (((List Int) × Unit) × (Unit))) :=
  bif (decide (x4.1.2.1 < ((x3.1.1.length : Nat) : Int))) then (req (inb x4.1.2.1 x3.1.1.length) (Option.bind (bif ((x4.1.2.1.tmod (2 : Int)) == (1 : Int)) then some (((w64 ((w64 ((w64 ((2 : Int) * ((x3.1.1.length : Nat) : Int))) - (1 : Int))) - (getD' x3.1.1 ((x4.1.2.1).toNat) (0 : Int)))), (getD' x3.1.1 ((x4.1.2.1).toNat) (0 : Int)), ()), ())
  else some (((getD' x3.1.1 ((x4.1.2.1).toNat) (0 : Int)), (w64 ((w64 ((w64 ((2 : Int) * ((x3.1.1.length : Nat) : Int))) - (1 : Int))) - (getD' x3.1.1 ((x4.1.2.1).toNat) (0 : Int)))), ()), ())) fun x5 =>
  req (room (x4.1.1.length + ([x5.1.1, x5.1.2.1]).length) 8) (some (Sum.inl (((x4.1.1 ++ [x5.1.1, x5.1.2.1]), (w64 (x4.1.2.1 + (1 : Int))), ()), ())))))
  else some (Sum.inr ((x4.1.1, ()), ()))
noncomputable def knockoutSeeds_L1 (r2 : Int) (x3 : ((List Int) × Int × Unit) × (Unit)) : Option ((((List Int) × Int × Unit) × (Unit)) ⊕ (((List Int) × Unit) × (Unit))) :=
  bif (decide (x3.1.2.1 < r2)) then (Option.bind (Option.bind (iterW (knockoutSeeds_L2 x3) (([], (0 : Int), ()), ())) fun x6 =>
  some ((x6.1.1, ()), ())) fun x7 =>
  some (Sum.inl ((x7.1.1, (w64 (x3.1.2.1 + (1 : Int))), ()), ())))
  else some (Sum.inr ((x3.1.1, ()), ()))
noncomputable def knockoutSeeds_L3 (x8 : ((List Int) × Unit) × (Unit)) (n : Int) (x9 : (Int × Unit) × ((List Int) × Unit)) : Option (((Int × Unit) × ((List Int) × Unit)) ⊕ ((Unit) × ((List Int) × Unit))) :=
  bif (decide (x9.1.1 < ((x8.1.1.length : Nat) : Int))) then (req (inb x9.1.1 x9.2.1.length) (Option.bind (bif (decide ((getD' x9.2.1 ((x9.1.1).toNat) (0 : Int)) ≥ n)) then req (inb x9.1.1 x9.2.1.length) (some ((), ((x9.2.1.set ((x9.1.1).toNat) (-1 : Int)), ())))
  else some ((), (x9.2.1, ()))) fun x10 =>
  some (Sum.inl (((w64 (x9.1.1 + (1 : Int))), ()), (x10.2.1, ())))))
  else some (Sum.inr ((), (x9.2.1, ())))
noncomputable def knockoutSeeds (n : Int) : Option (List Int) :=
  Option.bind (knockoutRounds n) fun r2 =>
  Option.bind (iterW (knockoutSeeds_L1 r2) (([(0 : Int)], (0 : Int), ()), ())) fun x8 =>
  Option.bind (iterW (knockoutSeeds_L3 x8 n) (((0 : Int), ()), (x8.1.1, ()))) fun x11 =>
  some x11.2.1
noncomputable def knockoutSeeds_i (n : Int) : Option ((List Int) × Int × Unit) :=
  bif ((knockoutCheck n) != (0 : Int)) then some ([], ((knockoutCheck n), ()))
  else Option.bind (knockoutSeeds n) fun r2 =>
  some (r2, ((0 : Int), ()))
noncomputable def law3Brackets : Option (Bool) :=
  Option.bind (knockoutSeeds_i (2 : Int)) fun r2 =>
  req (imp ((r2.2.1 == (0 : Int)) && (((r2.1.length : Nat) : Int) == (2 : Int))) (inb (0 : Int) r2.1.length)) (req (imp (((r2.2.1 == (0 : Int)) && (((r2.1.length : Nat) : Int) == (2 : Int))) && ((getD' r2.1 0 (0 : Int)) == (0 : Int))) (inb (1 : Int) r2.1.length)) (some ((((r2.2.1 == (0 : Int)) && (((r2.1.length : Nat) : Int) == (2 : Int))) && ((getD' r2.1 0 (0 : Int)) == (0 : Int))) && ((getD' r2.1 1 (0 : Int)) == (1 : Int)))))
noncomputable def knockoutRounds_i (n : Int) : Option (Int × Int × Unit) :=
  bif ((knockoutCheck n) != (0 : Int)) then some ((0 : Int), ((knockoutCheck n), ()))
  else Option.bind (knockoutRounds n) fun r2 =>
  some (r2, ((0 : Int), ()))
noncomputable def slicesIndex_int_L1 (s : List Int) (v : Int) (x1 : (Int × Unit) × (Unit)) : Option (((Int × Unit) × (Unit)) ⊕ (((Unit) × (Unit)) ⊕ Int)) :=
  bif (decide (x1.1.1 < ((s.length : Nat) : Int))) then (Option.bind (at? s x1.1.1) fun d2 =>
  bif (v == d2) then some (Sum.inr (Sum.inr x1.1.1))
  else some (Sum.inl (((w64 (x1.1.1 + (1 : Int))), ()), ())))
  else some (Sum.inr (Sum.inl ((), ())))
noncomputable def slicesIndex_int (s : List Int) (v : Int) : Option (Int) :=
  Option.bind (α := ((Unit) × (Unit)) ⊕ Int) (iterW (slicesIndex_int_L1 s v) (((0 : Int), ()), ())) (Sum.elim (fun x3 =>
  some (-1 : Int)) some)
noncomputable def slicesContains_int (s : List Int) (v : Int) : Option (Bool) :=
  Option.bind (slicesIndex_int s v) fun r2 =>
  some (decide (r2 ≥ (0 : Int)))
noncomputable def knockoutPlay_L3 (x5 : ((List Int) × (List (Int × Int × Int × Unit)) × (List Int) × Int × Unit) × (Unit)) (x7 : ((List Int) × (List (Int × Int × Int × Unit)) × (List Int) × Int × Unit) × (Unit)) : Option ((((List Int) × (List (Int × Int × Int × Unit)) × (List Int) × Int × Unit) × (Unit)) ⊕ (((List Int) × (List (Int × Int × Int × Unit)) × (List Int) × Unit) × (Unit))) :=
  bif (decide (x7.1.2.2.2.1 < ((x5.1.2.2.1.length : Nat) : Int))) then (req (inb x7.1.2.2.2.1 x5.1.2.2.1.length) (req (inb (w64 (x7.1.2.2.2.1 + (1 : Int))) x5.1.2.2.1.length) (req (room (x7.1.2.1.length + ([(x5.1.2.2.2.1, ((getD' x5.1.2.2.1 ((x7.1.2.2.2.1).toNat) (0 : Int)), ((getD' x5.1.2.2.1 (((w64 (x7.1.2.2.2.1 + (1 : Int)))).toNat) (0 : Int)), ())))]).length) 24) (Option.bind (bif ((decide ((getD' x5.1.2.2.1 ((x7.1.2.2.2.1).toNat) (0 : Int)) < (0 : Int))) || (decide ((getD' x5.1.2.2.1 (((w64 (x7.1.2.2.2.1 + (1 : Int)))).toNat) (0 : Int)) < (0 : Int)))) then req (room (x7.1.2.2.1.length + ([(if (getD' x5.1.2.2.1 (((w64 (x7.1.2.2.2.1 + (1 : Int)))).toNat) (0 : Int)) > (getD' x5.1.2.2.1 ((x7.1.2.2.2.1).toNat) (0 : Int)) then (getD' x5.1.2.2.1 (((w64 (x7.1.2.2.2.1 + (1 : Int)))).toNat) (0 : Int)) else (getD' x5.1.2.2.1 ((x7.1.2.2.2.1).toNat) (0 : Int)))]).length) 8) (some ((x7.1.1, (x7.1.2.2.1 ++ [(if (getD' x5.1.2.2.1 (((w64 (x7.1.2.2.2.1 + (1 : Int)))).toNat) (0 : Int)) > (getD' x5.1.2.2.1 ((x7.1.2.2.2.1).toNat) (0 : Int)) then (getD' x5.1.2.2.1 (((w64 (x7.1.2.2.2.1 + (1 : Int)))).toNat) (0 : Int)) else (getD' x5.1.2.2.1 ((x7.1.2.2.2.1).toNat) (0 : Int)))]), ()), ()))
  else Option.bind (bif (((x7.1.1.length : Nat) : Int) == (0 : Int)) then req (room (x7.1.2.2.1.length + ([(-2 : Int)]).length) 8) (some ((x7.1.1, (x7.1.2.2.1 ++ [(-2 : Int)]), ()), ()))
  else Option.bind (at? x7.1.1 (0 : Int)) fun d8 =>
  Option.bind (bif (d8 == (0 : Int)) then some (((getD' x5.1.2.2.1 (((w64 (x7.1.2.2.2.1 + (1 : Int)))).toNat) (0 : Int)), ()), ())
  else some (((getD' x5.1.2.2.1 ((x7.1.2.2.2.1).toNat) (0 : Int)), ()), ())) fun x9 =>
  Option.bind (agree (agree (req (room (x7.1.2.2.1.length + ([x9.1.1]).length) 8) (req (boundsI (1 : Int) ((x7.1.1.length : Nat) : Int) x7.1.1.length) (some ((((x7.1.1.take (((x7.1.1.length : Nat) : Int)).toNat).drop 1), (x7.1.2.2.1 ++ [x9.1.1]), ()), ())))) (agree (req (room (x7.1.2.2.1.length + ([x9.1.1]).length) 8) (req (boundsI (1 : Int) ((x7.1.1.length : Nat) : Int) x7.1.1.length) (some ((((x7.1.1.take (((x7.1.1.length : Nat) : Int)).toNat).drop 1), (x7.1.2.2.1 ++ [x9.1.1]), ()), ())))) (req (boundsI (1 : Int) ((x7.1.1.length : Nat) : Int) x7.1.1.length) (req (room (x7.1.2.2.1.length + ([x9.1.1]).length) 8) (some ((((x7.1.1.take (((x7.1.1.length : Nat) : Int)).toNat).drop 1), (x7.1.2.2.1 ++ [x9.1.1]), ()), ())))))) (agree (agree (req (room (x7.1.2.2.1.length + ([x9.1.1]).length) 8) (req (boundsI (1 : Int) ((x7.1.1.length : Nat) : Int) x7.1.1.length) (some ((((x7.1.1.take (((x7.1.1.length : Nat) : Int)).toNat).drop 1), (x7.1.2.2.1 ++ [x9.1.1]), ()), ())))) (req (boundsI (1 : Int) ((x7.1.1.length : Nat) : Int) x7.1.1.length) (req (room (x7.1.2.2.1.length + ([x9.1.1]).length) 8) (some ((((x7.1.1.take (((x7.1.1.length : Nat) : Int)).toNat).drop 1), (x7.1.2.2.1 ++ [x9.1.1]), ()), ()))))) (req (boundsI (1 : Int) ((x7.1.1.length : Nat) : Int) x7.1.1.length) (req (room (x7.1.2.2.1.length + ([x9.1.1]).length) 8) (some ((((x7.1.1.take (((x7.1.1.length : Nat) : Int)).toNat).drop 1), (x7.1.2.2.1 ++ [x9.1.1]), ()), ())))))) fun x10 =>
  some ((x10.1.1, x10.1.2.1, ()), ())) fun x11 =>
  some ((x11.1.1, x11.1.2.1, ()), ())) fun x12 =>
  some (Sum.inl ((x12.1.1, (x7.1.2.1 ++ [(x5.1.2.2.2.1, ((getD' x5.1.2.2.1 ((x7.1.2.2.2.1).toNat) (0 : Int)), ((getD' x5.1.2.2.1 (((w64 (x7.1.2.2.2.1 + (1 : Int)))).toNat) (0 : Int)), ())))]), x12.1.2.1, (w64 (x7.1.2.2.2.1 + (2 : Int))), ()), ()))))))
  else some (Sum.inr ((x7.1.1, x7.1.2.1, x7.1.2.2.1, ()), ()))
noncomputable def knockoutPlay_L2 (x5 : ((List Int) × (List (Int × Int × Int × Unit)) × (List Int) × Int × Unit) × (Unit)) : Option ((((List Int) × (List (Int × Int × Int × Unit)) × (List Int) × Int × Unit) × (Unit)) ⊕ (((List Int) × (List (Int × Int × Int × Unit)) × (List Int) × Unit) × (Unit))) :=
  Option.bind (gopt (decide (((x5.1.2.2.1.length : Nat) : Int) > (1 : Int))) false (slicesContains_int x5.1.2.2.1 (-2 : Int))) fun r6 =>
  bif ((decide (((x5.1.2.2.1.length : Nat) : Int) > (1 : Int))) && (!r6)) then (Option.bind (Option.bind (iterW (knockoutPlay_L3 x5) ((x5.1.1, x5.1.2.1, [], (0 : Int), ()), ())) fun x13 =>
  some ((x13.1.1, x13.1.2.1, x13.1.2.2.1, ()), ())) fun x14 =>
  some (Sum.inl ((x14.1.1, x14.1.2.1, x14.1.2.2.1, (w64 (x5.1.2.2.2.1 + (1 : Int))), ()), ())))
  else some (Sum.inr ((x5.1.1, x5.1.2.1, x5.1.2.2.1, ()), ()))
noncomputable def knockoutPlay_L1 (results : List Int) (n : Int) (x2 : (Int × Unit) × (Unit)) : Option (((Int × Unit) × (Unit)) ⊕ (((Unit) × (Unit)) ⊕ ((List (Int × Int × Int × Unit)) × Int × Int × Unit))) :=
  bif (decide (x2.1.1 < ((results.length : Nat) : Int))) then (Option.bind (at? results x2.1.1) fun d3 =>
  bif ((d3 != (0 : Int)) && (d3 != (2 : Int))) then (Option.map Sum.inr (Option.map Sum.inr (bif (decide (x2.1.1 ≥ (0 : Int))) then some ([], ((0 : Int), ((4 : Int), ())))
  else Option.bind (knockoutSeeds n) fun r4 =>
  Option.bind (iterW (knockoutPlay_L2) ((results, [], r4, (0 : Int), ()), ())) fun x15 =>
  bif (decide (((x15.1.1.length : Nat) : Int) > (0 : Int))) then some ([], ((0 : Int), ((2 : Int), ())))
  else bif (((x15.1.2.2.1.length : Nat) : Int) == (1 : Int)) then req (inb (0 : Int) x15.1.2.2.1.length) (some (x15.1.2.1, ((if (-1 : Int) > (getD' x15.1.2.2.1 0 (0 : Int)) then (-1 : Int) else (getD' x15.1.2.2.1 0 (0 : Int))), ((0 : Int), ()))))
  else some (x15.1.2.1, ((-1 : Int), ((0 : Int), ()))))))
  else some (Sum.inl (((w64 (x2.1.1 + (1 : Int))), ()), ())))
  else some (Sum.inr (Sum.inl ((), ())))
noncomputable def knockoutPlay_L5 (x18 : ((List Int) × (List (Int × Int × Int × Unit)) × (List Int) × Int × Unit) × (Unit)) (x20 : ((List Int) × (List (Int × Int × Int × Unit)) × (List Int) × Int × Unit) × (Unit)) : Option ((((List Int) × (List (Int × Int × Int × Unit)) × (List Int) × Int × Unit) × (Unit)) ⊕ (((List Int) × (List (Int × Int × Int × Unit)) × (List Int) × Unit) × (Unit))) :=
  bif (decide (x20.1.2.2.2.1 < ((x18.1.2.2.1.length : Nat) : Int))) then (req (inb x20.1.2.2.2.1 x18.1.2.2.1.length) (req (inb (w64 (x20.1.2.2.2.1 + (1 : Int))) x18.1.2.2.1.length) (req (room (x20.1.2.1.length + ([(x18.1.2.2.2.1, ((getD' x18.1.2.2.1 ((x20.1.2.2.2.1).toNat) (0 : Int)), ((getD' x18.1.2.2.1 (((w64 (x20.1.2.2.2.1 + (1 : Int)))).toNat) (0 : Int)), ())))]).length) 24) (Option.bind (bif ((decide ((getD' x18.1.2.2.1 ((x20.1.2.2.2.1).toNat) (0 : Int)) < (0 : Int))) || (decide ((getD' x18.1.2.2.1 (((w64 (x20.1.2.2.2.1 + (1 : Int)))).toNat) (0 : Int)) < (0 : Int)))) then req (room (x20.1.2.2.1.length + ([(if (getD' x18.1.2.2.1 (((w64 (x20.1.2.2.2.1 + (1 : Int)))).toNat) (0 : Int)) > (getD' x18.1.2.2.1 ((x20.1.2.2.2.1).toNat) (0 : Int)) then (getD' x18.1.2.2.1 (((w64 (x20.1.2.2.2.1 + (1 : Int)))).toNat) (0 : Int)) else (getD' x18.1.2.2.1 ((x20.1.2.2.2.1).toNat) (0 : Int)))]).length) 8) (some ((x20.1.1, (x20.1.2.2.1 ++ [(if (getD' x18.1.2.2.1 (((w64 (x20.1.2.2.2.1 + (1 : Int)))).toNat) (0 : Int)) > (getD' x18.1.2.2.1 ((x20.1.2.2.2.1).toNat) (0 : Int)) then (getD' x18.1.2.2.1 (((w64 (x20.1.2.2.2.1 + (1 : Int)))).toNat) (0 : Int)) else (getD' x18.1.2.2.1 ((x20.1.2.2.2.1).toNat) (0 : Int)))]), ()), ()))
  else Option.bind (bif (((x20.1.1.length : Nat) : Int) == (0 : Int)) then req (room (x20.1.2.2.1.length + ([(-2 : Int)]).length) 8) (some ((x20.1.1, (x20.1.2.2.1 ++ [(-2 : Int)]), ()), ()))
  else Option.bind (at? x20.1.1 (0 : Int)) fun d21 =>
  Option.bind (bif (d21 == (0 : Int)) then some (((getD' x18.1.2.2.1 (((w64 (x20.1.2.2.2.1 + (1 : Int)))).toNat) (0 : Int)), ()), ())
  else some (((getD' x18.1.2.2.1 ((x20.1.2.2.2.1).toNat) (0 : Int)), ()), ())) fun x22 =>
  Option.bind (agree (agree (req (room (x20.1.2.2.1.length + ([x22.1.1]).length) 8) (req (boundsI (1 : Int) ((x20.1.1.length : Nat) : Int) x20.1.1.length) (some ((((x20.1.1.take (((x20.1.1.length : Nat) : Int)).toNat).drop 1), (x20.1.2.2.1 ++ [x22.1.1]), ()), ())))) (agree (req (room (x20.1.2.2.1.length + ([x22.1.1]).length) 8) (req (boundsI (1 : Int) ((x20.1.1.length : Nat) : Int) x20.1.1.length) (some ((((x20.1.1.take (((x20.1.1.length : Nat) : Int)).toNat).drop 1), (x20.1.2.2.1 ++ [x22.1.1]), ()), ())))) (req (boundsI (1 : Int) ((x20.1.1.length : Nat) : Int) x20.1.1.length) (req (room (x20.1.2.2.1.length + ([x22.1.1]).length) 8) (some ((((x20.1.1.take (((x20.1.1.length : Nat) : Int)).toNat).drop 1), (x20.1.2.2.1 ++ [x22.1.1]), ()), ())))))) (agree (agree (req (room (x20.1.2.2.1.length + ([x22.1.1]).length) 8) (req (boundsI (1 : Int) ((x20.1.1.length : Nat) : Int) x20.1.1.length) (some ((((x20.1.1.take (((x20.1.1.length : Nat) : Int)).toNat).drop 1), (x20.1.2.2.1 ++ [x22.1.1]), ()), ())))) (req (boundsI (1 : Int) ((x20.1.1.length : Nat) : Int) x20.1.1.length) (req (room (x20.1.2.2.1.length + ([x22.1.1]).length) 8) (some ((((x20.1.1.take (((x20.1.1.length : Nat) : Int)).toNat).drop 1), (x20.1.2.2.1 ++ [x22.1.1]), ()), ()))))) (req (boundsI (1 : Int) ((x20.1.1.length : Nat) : Int) x20.1.1.length) (req (room (x20.1.2.2.1.length + ([x22.1.1]).length) 8) (some ((((x20.1.1.take (((x20.1.1.length : Nat) : Int)).toNat).drop 1), (x20.1.2.2.1 ++ [x22.1.1]), ()), ())))))) fun x23 =>
  some ((x23.1.1, x23.1.2.1, ()), ())) fun x24 =>
  some ((x24.1.1, x24.1.2.1, ()), ())) fun x25 =>
  some (Sum.inl ((x25.1.1, (x20.1.2.1 ++ [(x18.1.2.2.2.1, ((getD' x18.1.2.2.1 ((x20.1.2.2.2.1).toNat) (0 : Int)), ((getD' x18.1.2.2.1 (((w64 (x20.1.2.2.2.1 + (1 : Int)))).toNat) (0 : Int)), ())))]), x25.1.2.1, (w64 (x20.1.2.2.2.1 + (2 : Int))), ()), ()))))))
  else some (Sum.inr ((x20.1.1, x20.1.2.1, x20.1.2.2.1, ()), ()))
noncomputable def knockoutPlay_L4 (x18 : ((List Int) × (List (Int × Int × Int × Unit)) × (List Int) × Int × Unit) × (Unit)) : Option ((((List Int) × (List (Int × Int × Int × Unit)) × (List Int) × Int × Unit) × (Unit)) ⊕ (((List Int) × (List (Int × Int × Int × Unit)) × (List Int) × Unit) × (Unit))) :=
  Option.bind (gopt (decide (((x18.1.2.2.1.length : Nat) : Int) > (1 : Int))) false (slicesContains_int x18.1.2.2.1 (-2 : Int))) fun r19 =>
  bif ((decide (((x18.1.2.2.1.length : Nat) : Int) > (1 : Int))) && (!r19)) then (Option.bind (Option.bind (iterW (knockoutPlay_L5 x18) ((x18.1.1, x18.1.2.1, [], (0 : Int), ()), ())) fun x26 =>
  some ((x26.1.1, x26.1.2.1, x26.1.2.2.1, ()), ())) fun x27 =>
  some (Sum.inl ((x27.1.1, x27.1.2.1, x27.1.2.2.1, (w64 (x18.1.2.2.2.1 + (1 : Int))), ()), ())))
  else some (Sum.inr ((x18.1.1, x18.1.2.1, x18.1.2.2.1, ()), ()))
noncomputable def knockoutPlay (n : Int) (results : List Int) : Option ((List (Int × Int × Int × Unit)) × Int × Int × Unit) :=
  bif ((knockoutCheck n) != (0 : Int)) then some ([], ((0 : Int), ((knockoutCheck n), ())))
  else Option.bind (α := ((Unit) × (Unit)) ⊕ ((List (Int × Int × Int × Unit)) × Int × Int × Unit)) (iterW (knockoutPlay_L1 results n) (((0 : Int), ()), ())) (Sum.elim (fun x16 =>
  Option.bind (knockoutSeeds n) fun r17 =>
  Option.bind (iterW (knockoutPlay_L4) ((results, [], r17, (0 : Int), ()), ())) fun x28 =>
  bif (decide (((x28.1.1.length : Nat) : Int) > (0 : Int))) then some ([], ((0 : Int), ((2 : Int), ())))
  else bif (((x28.1.2.2.1.length : Nat) : Int) == (1 : Int)) then req (inb (0 : Int) x28.1.2.2.1.length) (some (x28.1.2.1, ((if (-1 : Int) > (getD' x28.1.2.2.1 0 (0 : Int)) then (-1 : Int) else (getD' x28.1.2.2.1 0 (0 : Int))), ((0 : Int), ()))))
  else some (x28.1.2.1, ((-1 : Int), ((0 : Int), ())))) some)
noncomputable def knockoutMeet_L1 (x7 : (Int × Int × Int × Unit) × (Unit)) : Option (((Int × Int × Int × Unit) × (Unit)) ⊕ ((Int × Unit) × (Unit))) :=
  bif ((w64 (x7.1.1.tdiv (2 : Int))) != (w64 (x7.1.2.1.tdiv (2 : Int)))) then some (Sum.inl (((w64 (x7.1.1.tdiv (2 : Int))), (w64 (x7.1.2.1.tdiv (2 : Int))), (w64 (x7.1.2.2.1 + (1 : Int))), ()), ()))
  else some (Sum.inr ((x7.1.2.2.1, ()), ()))
noncomputable def knockoutMeet (n : Int) (a : Int) (b : Int) : Option (Int × Int × Unit) :=
  bif ((knockoutCheck n) != (0 : Int)) then some ((0 : Int), ((knockoutCheck n), ()))
  else bif (((((decide (a < (0 : Int))) || (decide (a ≥ n))) || (decide (b < (0 : Int)))) || (decide (b ≥ n))) || (a == b)) then some ((0 : Int), ((1 : Int), ()))
  else Option.bind (knockoutSeeds n) fun r4 =>
  Option.bind (slicesIndex_int r4 a) fun r5 =>
  Option.bind (slicesIndex_int r4 b) fun r6 =>
  Option.bind (iterW (knockoutMeet_L1) ((r5, r6, (0 : Int), ()), ())) fun x8 =>
  some (x8.1.1, ((0 : Int), ()))
noncomputable def ref3Seat_F (self : (Int × Int × Unit) → Option (Int)) (k : Int) (at' : Int) : Option (Int) :=
  bif (k == (0 : Int)) then some (0 : Int)
  else Option.bind (self ((w64 (k - (1 : Int))), (w64 (at'.tdiv (2 : Int))), ())) fun r2 =>
  bif (((at'.tmod (2 : Int)) == (0 : Int)) == (((w64 (at'.tdiv (2 : Int))).tmod (2 : Int)) == (0 : Int))) then some r2
  else req (decide (0 ≤ k)) (some (w64 ((w64 ((shK .shl .i64 (1 : Int) k) - (1 : Int))) - r2)))
noncomputable def ref3Seat_G (self : (Int × Int × Unit) → Option (Int)) (x : Int × Int × Unit) : Option (Int) := ref3Seat_F self x.1 x.2.1
noncomputable def ref3Seat (k : Int) (at' : Int) : Option (Int) := fixW ref3Seat_G (k, at', ())
noncomputable def law3Played_L1 (results : List Int) (e : Int) (games : List (Int × Int × Int × Unit)) (winner : Int) (x2 : (Int × Unit) × (Unit)) : Option (((Int × Unit) × (Unit)) ⊕ (((Unit) × (Unit)) ⊕ Bool)) :=
  bif (decide (x2.1.1 < ((results.length : Nat) : Int))) then (Option.bind (at? results x2.1.1) fun d3 =>
  bif ((d3 != (0 : Int)) && (d3 != (2 : Int))) then some (Sum.inr (Sum.inr ((e == (4 : Int)) && ((w64 (((games.length : Nat) : Int) + winner)) == (0 : Int)))))
  else some (Sum.inl (((w64 (x2.1.1 + (1 : Int))), ()), ())))
  else some (Sum.inr (Sum.inl ((), ())))
noncomputable def law3Played_L3 (x5 : ((List Int) × Int × Int × Bool × Int × Unit) × (Unit)) (games : List (Int × Int × Int × Unit)) (e : Int) (results : List Int) (x6 : (Int × Int × Bool × Int × Unit) × ((List Int) × Unit)) : Option (((Int × Int × Bool × Int × Unit) × ((List Int) × Unit)) ⊕ (((Int × Int × Bool × Unit) × ((List Int) × Unit)) ⊕ ((((List Int) × Int × Int × Bool × Unit) × (Unit)) ⊕ ((((List Int) × Int × Int × Bool × Int × Unit) × (Unit)) ⊕ ((((List Int) × Int × Int × Bool × Unit) × (Unit)) ⊕ Bool))))) :=
  bif (decide (x6.1.2.2.2.1 < (((List.replicate ((w64 (((x5.1.1.length : Nat) : Int).tdiv (2 : Int)))).toNat (0 : Int)).length : Nat) : Int))) then (Option.bind (at? x5.1.1 (w64 ((2 : Int) * x6.1.2.2.2.1))) fun d7 =>
  Option.bind (at? x5.1.1 (w64 ((w64 ((2 : Int) * x6.1.2.2.2.1)) + (1 : Int)))) fun d8 =>
  Option.bind (gat ((!(decide (x6.1.2.1 ≥ ((games.length : Nat) : Int)))) && (e == (0 : Int))) ((0 : Int), ((0 : Int), ((0 : Int), ()))) games x6.1.2.1) fun d9 =>
  bif ((e == (0 : Int)) && ((decide (x6.1.2.1 ≥ ((games.length : Nat) : Int))) || (!((d9.1 == x5.1.2.2.2.2.1) && ((d9.2.1 == d7) && ((d9.2.2.1 == d8) && true)))))) then some (Sum.inr (Sum.inr (Sum.inr (Sum.inr (Sum.inr false)))))
  else Option.bind (bif ((d7 == (-1 : Int)) || (d8 == (-1 : Int))) then req (inb x6.1.2.2.2.1 x6.2.1.length) (some ((x6.1.1, x6.1.2.2.1, ()), ((x6.2.1.set ((x6.1.2.2.2.1).toNat) (if d8 > d7 then d8 else d7)), ())))
  else Option.bind (bif (x6.1.1 == ((results.length : Nat) : Int)) then some ((x6.1.1, true, ()), (x6.2.1, ()))
  else req (inb x6.1.2.2.2.1 x6.2.1.length) (Option.bind (at? results x6.1.1) fun d10 =>
  Option.bind (bif (d10 == (2 : Int)) then req (inb x6.1.2.2.2.1 (x6.2.1.set ((x6.1.2.2.2.1).toNat) d8).length) (some ((), (((x6.2.1.set ((x6.1.2.2.2.1).toNat) d8).set ((x6.1.2.2.2.1).toNat) d7), ())))
  else some ((), ((x6.2.1.set ((x6.1.2.2.2.1).toNat) d8), ()))) fun x11 =>
  some (((w64 (x6.1.1 + (1 : Int))), x6.1.2.2.1, ()), (x11.2.1, ())))) fun x12 =>
  some ((x12.1.1, x12.1.2.1, ()), (x12.2.1, ()))) fun x13 =>
  some (Sum.inl ((x13.1.1, (w64 (x6.1.2.1 + (1 : Int))), x13.1.2.1, (w64 (x6.1.2.2.2.1 + (1 : Int))), ()), (x13.2.1, ()))))
  else some (Sum.inr (Sum.inl ((x6.1.1, x6.1.2.1, x6.1.2.2.1, ()), (x6.2.1, ()))))
noncomputable def law3Played_L2 (games : List (Int × Int × Int × Unit)) (e : Int) (results : List Int) (x5 : ((List Int) × Int × Int × Bool × Int × Unit) × (Unit)) : Option ((((List Int) × Int × Int × Bool × Int × Unit) × (Unit)) ⊕ ((((List Int) × Int × Int × Bool × Unit) × (Unit)) ⊕ Bool)) :=
  bif ((decide (((x5.1.1.length : Nat) : Int) > (1 : Int))) && (!x5.1.2.2.2.1)) then (Option.bind (α := (((List Int) × Int × Int × Bool × Unit) × (Unit)) ⊕ ((((List Int) × Int × Int × Bool × Int × Unit) × (Unit)) ⊕ ((((List Int) × Int × Int × Bool × Unit) × (Unit)) ⊕ Bool))) (req (decide (0 ≤ (w64 (((x5.1.1.length : Nat) : Int).tdiv (2 : Int)))) && ((w64 (((x5.1.1.length : Nat) : Int).tdiv (2 : Int))) == (w64 (((x5.1.1.length : Nat) : Int).tdiv (2 : Int))) && room ((w64 (((x5.1.1.length : Nat) : Int).tdiv (2 : Int)))).toNat 8)) (Option.bind (α := ((Int × Int × Bool × Unit) × ((List Int) × Unit)) ⊕ ((((List Int) × Int × Int × Bool × Unit) × (Unit)) ⊕ ((((List Int) × Int × Int × Bool × Int × Unit) × (Unit)) ⊕ ((((List Int) × Int × Int × Bool × Unit) × (Unit)) ⊕ Bool)))) (iterW (law3Played_L3 x5 games e results) ((x5.1.2.1, x5.1.2.2.1, x5.1.2.2.2.1, (0 : Int), ()), ((List.replicate ((w64 (((x5.1.1.length : Nat) : Int).tdiv (2 : Int)))).toNat (0 : Int)), ()))) (Sum.elim (fun x14 =>
  some (Sum.inl ((x14.2.1, x14.1.1, x14.1.2.1, x14.1.2.2.1, ()), ()))) some))) (Sum.elim (fun x15 =>
  some (Sum.inl ((x15.1.1, x15.1.2.1, x15.1.2.2.1, x15.1.2.2.2.1, (w64 (x5.1.2.2.2.2.1 + (1 : Int))), ()), ()))) some))
  else some (Sum.inr (Sum.inl ((x5.1.1, x5.1.2.1, x5.1.2.2.1, x5.1.2.2.2.1, ()), ())))
noncomputable def law3Played (l : List Int) (results : List Int) (games : List (Int × Int × Int × Unit)) (winner : Int) (e : Int) : Option (Bool) :=
  Option.bind (α := ((Unit) × (Unit)) ⊕ Bool) (iterW (law3Played_L1 results e games winner) (((0 : Int), ()), ())) (Sum.elim (fun x4 =>
  Option.bind (α := (((List Int) × Int × Int × Bool × Unit) × (Unit)) ⊕ Bool) (iterW (law3Played_L2 games e results) ((l, (0 : Int), (0 : Int), false, (0 : Int), ()), ())) (Sum.elim (fun x16 =>
  bif (decide (x16.1.2.1 < ((results.length : Nat) : Int))) then some ((e == (2 : Int)) && ((w64 (((games.length : Nat) : Int) + winner)) == (0 : Int)))
  else bif x16.1.2.2.2.1 then some (((e == (0 : Int)) && (winner == (-1 : Int))) && (x16.1.2.2.1 == ((games.length : Nat) : Int)))
  else Option.bind (gat (e == (0 : Int)) (0 : Int) x16.1.1 (0 : Int)) fun d17 =>
  some (((e == (0 : Int)) && (winner == d17)) && (x16.1.2.2.1 == ((games.length : Nat) : Int)))) some)) some)
noncomputable def law3KnockoutPlays_L1 (n : Int) (x12 : (Int × Unit) × (Unit)) : Option (((Int × Unit) × (Unit)) ⊕ ((Int × Unit) × (Unit))) :=
  req (decide (0 ≤ x12.1.1)) (bif (decide ((shK .shl .i64 (1 : Int) x12.1.1) < n)) then some (Sum.inl (((w64 (x12.1.1 + (1 : Int))), ()), ()))
  else some (Sum.inr ((x12.1.1, ()), ())))
noncomputable def law3KnockoutPlays_L2 (r9 : (List Int) × Int × Unit) (r8 : Int × Int × Unit) (n : Int) (a : Int) (b : Int) (x14 : (Int × Int × Int × Unit) × (Unit)) : Option (((Int × Int × Int × Unit) × (Unit)) ⊕ (((Int × Int × Unit) × (Unit)) ⊕ Bool)) :=
  bif (decide (x14.1.2.2.1 < ((r9.1.length : Nat) : Int))) then (req (inb x14.1.2.2.1 r9.1.length) (Option.bind (ref3Seat r8.1 x14.1.2.2.1) fun r15 =>
  bif (((decide (r15 ≥ n)) && ((getD' r9.1 ((x14.1.2.2.1).toNat) (0 : Int)) != (-1 : Int))) || ((decide (r15 < n)) && ((getD' r9.1 ((x14.1.2.2.1).toNat) (0 : Int)) != r15))) then some (Sum.inr (Sum.inr false))
  else Option.bind (bif (r15 == a) then some ((x14.1.2.2.1, ()), ())
  else some ((x14.1.1, ()), ())) fun x16 =>
  Option.bind (bif (r15 == b) then some ((x14.1.2.2.1, ()), ())
  else some ((x14.1.2.1, ()), ())) fun x17 =>
  some (Sum.inl ((x16.1.1, x17.1.1, (w64 (x14.1.2.2.1 + (1 : Int))), ()), ()))))
  else some (Sum.inr (Sum.inl ((x14.1.1, x14.1.2.1, ()), ())))
noncomputable def law3KnockoutPlays_L3 (x18 : (Int × Int × Unit) × (Unit)) (x19 : (Int × Unit) × (Unit)) : Option (((Int × Unit) × (Unit)) ⊕ ((Int × Unit) × (Unit))) :=
  req (decide (0 ≤ (w64 (x19.1.1 + (1 : Int))))) (req (decide (0 ≤ (w64 (x19.1.1 + (1 : Int))))) (bif ((shK .shr .i64 x18.1.1 (w64 (x19.1.1 + (1 : Int)))) != (shK .shr .i64 x18.1.2.1 (w64 (x19.1.1 + (1 : Int))))) then some (Sum.inl (((w64 (x19.1.1 + (1 : Int))), ()), ()))
  else some (Sum.inr ((x19.1.1, ()), ()))))
noncomputable def law3KnockoutPlays (n : Int) (results : List Int) (a : Int) (b : Int) : Option (Bool) :=
  Option.bind (law3Brackets) fun r7 =>
  bif (!r7) then some false
  else req (boundsI (0 : Int) (if (40 : Int) < ((results.length : Nat) : Int) then (40 : Int) else ((results.length : Nat) : Int)) results.length) (Option.bind (knockoutRounds_i n) fun r8 =>
  Option.bind (knockoutSeeds_i n) fun r9 =>
  Option.bind (knockoutPlay n ((results.take ((if (40 : Int) < ((results.length : Nat) : Int) then (40 : Int) else ((results.length : Nat) : Int))).toNat).drop 0)) fun r10 =>
  Option.bind (knockoutMeet n a b) fun r11 =>
  bif ((decide (n < (2 : Int))) || (decide (n > (32 : Int)))) then some (((((r8.2.1 == (4 : Int)) && (r9.2.1 == r8.2.1)) && (r10.2.2.1 == r8.2.1)) && (r11.2.1 == r8.2.1)) && ((w64 ((w64 ((w64 ((w64 (r8.1 + ((r9.1.length : Nat) : Int))) + ((r10.1.length : Nat) : Int))) + r10.2.1)) + r11.1)) == (0 : Int)))
  else Option.bind (iterW (law3KnockoutPlays_L1 n) (((1 : Int), ()), ())) fun x13 =>
  req (imp (!(((r8.2.1 != (0 : Int)) || (r8.1 != x13.1.1)) || (r9.2.1 != (0 : Int)))) (decide (0 ≤ r8.1))) (bif ((((r8.2.1 != (0 : Int)) || (r8.1 != x13.1.1)) || (r9.2.1 != (0 : Int))) || (((r9.1.length : Nat) : Int) != (shK .shl .i64 (1 : Int) r8.1))) then some false
  else Option.bind (α := ((Int × Int × Unit) × (Unit)) ⊕ Bool) (iterW (law3KnockoutPlays_L2 r9 r8 n a b) (((-1 : Int), (-1 : Int), (0 : Int), ()), ())) (Sum.elim (fun x18 =>
  Option.bind (α := ((Unit) × (Unit)) ⊕ Bool) (bif (((decide ((if b < a then b else a) < (0 : Int))) || (decide ((if b > a then b else a) ≥ n))) || (a == b)) then (bif ((r11.2.1 != (1 : Int)) || (r11.1 != (0 : Int))) then some (Sum.inr false)
  else some (Sum.inl ((), ())))
  else Option.bind (iterW (law3KnockoutPlays_L3 x18) (((0 : Int), ()), ())) fun x20 =>
  bif ((r11.2.1 != (0 : Int)) || (r11.1 != x20.1.1)) then some (Sum.inr false)
  else some (Sum.inl ((), ()))) (Sum.elim (fun x21 =>
  Option.bind (law3Played r9.1 ((results.take ((if (40 : Int) < ((results.length : Nat) : Int) then (40 : Int) else ((results.length : Nat) : Int))).toNat).drop 0) r10.1 r10.2.1 r10.2.2.1) fun r22 =>
  some r22) some)) some)))
end Go.Proofs.Ytcdpkebphgeipaa
