/- What functions compute, in plain Lean: HandicapMeasures. No condition of its own. -/
import Derived.Test.YtaaigenpmaiodaaDen0
import Derived.Test.YtaaigenpmaiodaaGameS
namespace Go.Proofs.Ytaaigenpmaiodaa
open Go.Den
set_option linter.unusedVariables false
set_option maxRecDepth 100000
noncomputable def rulesCopyO_L1 (r : ByteArray × Int × Int × (List (Int × Int × Int × (List (Int × Int × Int × Int × Unit)) × Unit)) × (List Int) × Bool × Bool × (List (Int × Int × Int × Bool × Unit)) × Int × Int × Int × Unit) (x1 : (Int × Unit) × ((ByteArray × Int × Int × (List (Int × Int × Int × (List (Int × Int × Int × Int × Unit)) × Unit)) × (List Int) × Bool × Bool × (List (Int × Int × Int × Bool × Unit)) × Int × Int × Int × Unit) × Unit)) : Option (((Int × Unit) × ((ByteArray × Int × Int × (List (Int × Int × Int × (List (Int × Int × Int × Int × Unit)) × Unit)) × (List Int) × Bool × Bool × (List (Int × Int × Int × Bool × Unit)) × Int × Int × Int × Unit) × Unit)) ⊕ ((Unit) × ((ByteArray × Int × Int × (List (Int × Int × Int × (List (Int × Int × Int × Int × Unit)) × Unit)) × (List Int) × Bool × Bool × (List (Int × Int × Int × Bool × Unit)) × Int × Int × Int × Unit) × Unit))) :=
  bif (decide (x1.1.1 < ((r.2.2.2.1.length : Nat) : Int))) then (Option.bind (at? r.2.2.2.1 x1.1.1) fun d2 =>
  Option.bind (slicesClone_RuleWay d2.2.2.2.1) fun r3 =>
  req (room (x1.2.1.2.2.2.1.length + ([(d2.1, (d2.2.1, (d2.2.2.1, (r3, ()))))]).length) 48) (some (Sum.inl (((w64 (x1.1.1 + (1 : Int))), ()), ((x1.2.1.1, (x1.2.1.2.1, (x1.2.1.2.2.1, ((x1.2.1.2.2.2.1 ++ [(d2.1, (d2.2.1, (d2.2.2.1, (r3, ()))))]), x1.2.1.2.2.2.2)))), ())))))
  else some (Sum.inr ((), ((x1.2.1.1, (x1.2.1.2.1, (x1.2.1.2.2.1, (x1.2.1.2.2.2.1, x1.2.1.2.2.2.2)))), ())))
noncomputable def rulesCopyO (r : ByteArray × Int × Int × (List (Int × Int × Int × (List (Int × Int × Int × Int × Unit)) × Unit)) × (List Int) × Bool × Bool × (List (Int × Int × Int × Bool × Unit)) × Int × Int × Int × Unit) : Option (ByteArray × Int × Int × (List (Int × Int × Int × (List (Int × Int × Int × Int × Unit)) × Unit)) × (List Int) × Bool × Bool × (List (Int × Int × Int × Bool × Unit)) × Int × Int × Int × Unit) :=
  Option.bind (iterW (rulesCopyO_L1 r) (((0 : Int), ()), ((r.1, (r.2.1, (r.2.2.1, (([] : List (Int × Int × Int × (List (Int × Int × Int × Int × Unit)) × Unit)), r.2.2.2.2)))), ()))) fun x4 =>
  Option.bind (agree (Option.bind (slicesClone_int r.2.2.2.2.1) fun r5 =>
  Option.bind (slicesClone_RuleEnd r.2.2.2.2.2.2.2.1) fun r6 =>
  some ((), ((x4.2.1.1, (x4.2.1.2.1, (x4.2.1.2.2.1, (x4.2.1.2.2.2.1, (r5, (x4.2.1.2.2.2.2.2.1, (x4.2.1.2.2.2.2.2.2.1, (r6, x4.2.1.2.2.2.2.2.2.2.2)))))))), ()))) (Option.bind (slicesClone_int r.2.2.2.2.1) fun r7 =>
  Option.bind (slicesClone_RuleEnd r.2.2.2.2.2.2.2.1) fun r8 =>
  some ((), ((x4.2.1.1, (x4.2.1.2.1, (x4.2.1.2.2.1, (x4.2.1.2.2.2.1, (r7, (x4.2.1.2.2.2.2.2.1, (x4.2.1.2.2.2.2.2.2.1, (r8, x4.2.1.2.2.2.2.2.2.2.2)))))))), ())))) fun x9 =>
  some (x9.2.1.1, (x9.2.1.2.1, (x9.2.1.2.2.1, (x9.2.1.2.2.2.1, (x9.2.1.2.2.2.2.1, (x9.2.1.2.2.2.2.2.1, (x9.2.1.2.2.2.2.2.2.1, (x9.2.1.2.2.2.2.2.2.2.1, x9.2.1.2.2.2.2.2.2.2.2))))))))
noncomputable def handicapWins (r : ByteArray × Int × Int × (List (Int × Int × Int × (List (Int × Int × Int × Int × Unit)) × Unit)) × (List Int) × Bool × Bool × (List (Int × Int × Int × Bool × Unit)) × Int × Int × Int × Unit) (depth : Int) : Option (Int × Int × Unit) :=
  Option.bind (placeBegin r) fun r3 =>
  bif (r3.2.1 != (0 : Int)) then some ((0 : Int), r3.2)
  else Option.bind (minimaxScore r (r3.1.1, ((r3.1.2.1.1, (r3.1.2.1.2.1, ())), r3.1.2.2)) depth) fun r4 =>
  bif (r4.2.1 != (0 : Int)) then some ((0 : Int), r4.2)
  else bif (decide (r4.1 > (0 : Int))) then some ((1 : Int), ((0 : Int), ()))
  else bif (decide (r4.1 < (0 : Int))) then some ((2 : Int), ((0 : Int), ()))
  else some ((3 : Int), ((0 : Int), ()))
noncomputable def law3Handicaps : Option (Bool) :=
  Option.bind (handicapWins ((law3Tic).1, (((law3Tic).2).1, ((((law3Tic).2).2).1, (((((law3Tic).2).2).2).1, ((((((law3Tic).2).2).2).2).1, (((((((law3Tic).2).2).2).2).2).1, ((((((((law3Tic).2).2).2).2).2).2).1, (((((((((law3Tic).2).2).2).2).2).2).2).1, ((((((((((law3Tic).2).2).2).2).2).2).2).2).1, (((((((((((law3Tic).2).2).2).2).2).2).2).2).2).1, ((((((((((((law3Tic).2).2).2).2).2).2).2).2).2).2).1, ()))))))))))) (0 : Int)) fun r2 =>
  some ((r2.2.1 == (0 : Int)) && (r2.1 == (3 : Int)))
noncomputable def slicesIndex_int_L1 (s : List Int) (v : Int) (x1 : (Int × Unit) × (Unit)) : Option (((Int × Unit) × (Unit)) ⊕ (((Unit) × (Unit)) ⊕ Int)) :=
  bif (decide (x1.1.1 < ((s.length : Nat) : Int))) then (Option.bind (at? s x1.1.1) fun d2 =>
  bif (v == d2) then some (Sum.inr (Sum.inr x1.1.1))
  else some (Sum.inl (((w64 (x1.1.1 + (1 : Int))), ()), ())))
  else some (Sum.inr (Sum.inl ((), ())))
noncomputable def slicesIndex_int (s : List Int) (v : Int) : Option (Int) :=
  Option.bind (α := ((Unit) × (Unit)) ⊕ Int) (iterW (slicesIndex_int_L1 s v) (((0 : Int), ()), ())) (Sum.elim (fun x3 =>
  some (-1 : Int)) some)
noncomputable def slicesContains_int (s : List Int) (v : Int) : Option (Bool) :=
  Option.bind (slicesIndex_int s v) fun r2 =>
  some (decide (r2 ≥ (0 : Int)))
noncomputable def handicapWithout_L1 (squares : List Int) (r : ByteArray × Int × Int × (List (Int × Int × Int × (List (Int × Int × Int × Int × Unit)) × Unit)) × (List Int) × Bool × Bool × (List (Int × Int × Int × Bool × Unit)) × Int × Int × Int × Unit) (player : Int) (x5 : (Int × Unit) × ((ByteArray × Int × Int × (List (Int × Int × Int × (List (Int × Int × Int × Int × Unit)) × Unit)) × (List Int) × Bool × Bool × (List (Int × Int × Int × Bool × Unit)) × Int × Int × Int × Unit) × (List Int) × Unit)) : Option (((Int × Unit) × ((ByteArray × Int × Int × (List (Int × Int × Int × (List (Int × Int × Int × Int × Unit)) × Unit)) × (List Int) × Bool × Bool × (List (Int × Int × Int × Bool × Unit)) × Int × Int × Int × Unit) × (List Int) × Unit)) ⊕ (((Unit) × ((ByteArray × Int × Int × (List (Int × Int × Int × (List (Int × Int × Int × Int × Unit)) × Unit)) × (List Int) × Bool × Bool × (List (Int × Int × Int × Bool × Unit)) × Int × Int × Int × Unit) × (List Int) × Unit)) ⊕ ((ByteArray × Int × Int × (List (Int × Int × Int × (List (Int × Int × Int × Int × Unit)) × Unit)) × (List Int) × Bool × Bool × (List (Int × Int × Int × Bool × Unit)) × Int × Int × Int × Unit) × Int × Unit))) :=
  bif (decide (x5.1.1 < ((squares.length : Nat) : Int))) then (Option.bind (at? squares x5.1.1) fun d6 =>
  bif ((decide (d6 < (0 : Int))) || (decide (d6 ≥ ((r.2.2.2.2.1.length : Nat) : Int)))) then some (Sum.inr (Sum.inr (((ByteArray.mk #[]), ((0 : Int), ((0 : Int), (([] : List (Int × Int × Int × (List (Int × Int × Int × Int × Unit)) × Unit)), (([] : List Int), (false, (false, (([] : List (Int × Int × Int × Bool × Unit)), ((0 : Int), ((0 : Int), ((0 : Int), ()))))))))))), ((4 : Int), ()))))
  else req (boundsI (0 : Int) x5.1.1 squares.length) (Option.bind (slicesContains_int ((squares.take (x5.1.1).toNat).drop 0) d6) fun r7 =>
  bif r7 then some (Sum.inr (Sum.inr (((ByteArray.mk #[]), ((0 : Int), ((0 : Int), (([] : List (Int × Int × Int × (List (Int × Int × Int × Int × Unit)) × Unit)), (([] : List Int), (false, (false, (([] : List (Int × Int × Int × Bool × Unit)), ((0 : Int), ((0 : Int), ((0 : Int), ()))))))))))), ((7 : Int), ()))))
  else Option.bind (at? r.2.2.2.2.1 d6) fun d8 =>
  Option.bind (gat (!(d8 == (0 : Int))) (0 : Int) r.2.2.2.2.1 d6) fun d9 =>
  req (imp (!(d8 == (0 : Int))) true) (bif ((d8 == (0 : Int)) || (((w64 (d9 - (1 : Int))).tmod (2 : Int)) != player)) then some (Sum.inr (Sum.inr (((ByteArray.mk #[]), ((0 : Int), ((0 : Int), (([] : List (Int × Int × Int × (List (Int × Int × Int × Int × Unit)) × Unit)), (([] : List Int), (false, (false, (([] : List (Int × Int × Int × Bool × Unit)), ((0 : Int), ((0 : Int), ((0 : Int), ()))))))))))), ((8 : Int), ()))))
  else req (inb d6 x5.2.2.1.length) (some (Sum.inl (((w64 (x5.1.1 + (1 : Int))), ()), ((x5.2.1.1, (x5.2.1.2.1, (x5.2.1.2.2.1, (x5.2.1.2.2.2.1, (x5.2.1.2.2.2.2.1, (x5.2.1.2.2.2.2.2.1, (x5.2.1.2.2.2.2.2.2.1, (x5.2.1.2.2.2.2.2.2.2.1, x5.2.1.2.2.2.2.2.2.2.2)))))))), (x5.2.2.1.set ((d6).toNat) (0 : Int)), ())))))))
  else some (Sum.inr (Sum.inl ((), ((x5.2.1.1, (x5.2.1.2.1, (x5.2.1.2.2.1, (x5.2.1.2.2.2.1, (x5.2.1.2.2.2.2.1, (x5.2.1.2.2.2.2.2.1, (x5.2.1.2.2.2.2.2.2.1, (x5.2.1.2.2.2.2.2.2.2.1, x5.2.1.2.2.2.2.2.2.2.2)))))))), x5.2.2.1, ()))))
noncomputable def handicapWithout (r : ByteArray × Int × Int × (List (Int × Int × Int × (List (Int × Int × Int × Int × Unit)) × Unit)) × (List Int) × Bool × Bool × (List (Int × Int × Int × Bool × Unit)) × Int × Int × Int × Unit) (player : Int) (squares : List Int) : Option ((ByteArray × Int × Int × (List (Int × Int × Int × (List (Int × Int × Int × Int × Unit)) × Unit)) × (List Int) × Bool × Bool × (List (Int × Int × Int × Bool × Unit)) × Int × Int × Int × Unit) × Int × Unit) :=
  Option.bind (rulesCheck r) fun r3 =>
  bif (r3 != (0 : Int)) then some (((ByteArray.mk #[]), ((0 : Int), ((0 : Int), (([] : List (Int × Int × Int × (List (Int × Int × Int × Int × Unit)) × Unit)), (([] : List Int), (false, (false, (([] : List (Int × Int × Int × Bool × Unit)), ((0 : Int), ((0 : Int), ((0 : Int), ()))))))))))), (r3, ()))
  else bif ((player != (0 : Int)) && (player != (1 : Int))) then some (((ByteArray.mk #[]), ((0 : Int), ((0 : Int), (([] : List (Int × Int × Int × (List (Int × Int × Int × Int × Unit)) × Unit)), (([] : List Int), (false, (false, (([] : List (Int × Int × Int × Bool × Unit)), ((0 : Int), ((0 : Int), ((0 : Int), ()))))))))))), ((1 : Int), ()))
  else Option.bind (rulesCopyO r) fun r4 =>
  Option.bind (α := ((Unit) × ((ByteArray × Int × Int × (List (Int × Int × Int × (List (Int × Int × Int × Int × Unit)) × Unit)) × (List Int) × Bool × Bool × (List (Int × Int × Int × Bool × Unit)) × Int × Int × Int × Unit) × (List Int) × Unit)) ⊕ ((ByteArray × Int × Int × (List (Int × Int × Int × (List (Int × Int × Int × Int × Unit)) × Unit)) × (List Int) × Bool × Bool × (List (Int × Int × Int × Bool × Unit)) × Int × Int × Int × Unit) × Int × Unit)) (iterW (handicapWithout_L1 squares r player) (((0 : Int), ()), (((ByteArray.mk #[]), ((0 : Int), ((0 : Int), (([] : List (Int × Int × Int × (List (Int × Int × Int × Int × Unit)) × Unit)), (([] : List Int), (false, (false, (([] : List (Int × Int × Int × Bool × Unit)), ((0 : Int), ((0 : Int), ((0 : Int), ()))))))))))), r4.2.2.2.2.1, ()))) (Sum.elim (fun x10 =>
  some ((r4.1, (r4.2.1, (r4.2.2.1, (r4.2.2.2.1, (x10.2.2.1, (r4.2.2.2.2.2.1, (r4.2.2.2.2.2.2.1, (r4.2.2.2.2.2.2.2.1, r4.2.2.2.2.2.2.2.2)))))))), ((0 : Int), ()))) some)
noncomputable def handicapLeast_L1 (squares : List Int) (r : ByteArray × Int × Int × (List (Int × Int × Int × (List (Int × Int × Int × Int × Unit)) × Unit)) × (List Int) × Bool × Bool × (List (Int × Int × Int × Bool × Unit)) × Int × Int × Int × Unit) (player : Int) (depth : Int) (x3 : (Int × Unit) × (Unit)) : Option (((Int × Unit) × (Unit)) ⊕ (((Unit) × (Unit)) ⊕ (Int × Int × Unit))) :=
  bif (decide (x3.1.1 < (w64 (((squares.length : Nat) : Int) + (1 : Int))))) then (req (boundsI (0 : Int) x3.1.1 squares.length) (agree (Option.bind (handicapWithout r player ((squares.take (x3.1.1).toNat).drop 0)) fun r4 =>
  Option.bind (handicapWins (r4.1.1, (r4.1.2.1, (r4.1.2.2.1, (r4.1.2.2.2.1, (r4.1.2.2.2.2.1, (r4.1.2.2.2.2.2.1, (r4.1.2.2.2.2.2.2.1, (r4.1.2.2.2.2.2.2.2.1, r4.1.2.2.2.2.2.2.2.2)))))))) depth) fun r5 =>
  bif (r5.2.1 != (0 : Int)) then some (Sum.inr (Sum.inr ((0 : Int), r5.2)))
  else bif (r5.1 != (w64 ((1 : Int) + player))) then some (Sum.inr (Sum.inr (x3.1.1, ((0 : Int), ()))))
  else some (Sum.inl (((w64 (x3.1.1 + (1 : Int))), ()), ()))) (Option.bind (handicapWithout r player ((squares.take (x3.1.1).toNat).drop 0)) fun r6 =>
  Option.bind (handicapWins (r6.1.1, (r6.1.2.1, (r6.1.2.2.1, (r6.1.2.2.2.1, (r6.1.2.2.2.2.1, (r6.1.2.2.2.2.2.1, (r6.1.2.2.2.2.2.2.1, (r6.1.2.2.2.2.2.2.2.1, r6.1.2.2.2.2.2.2.2.2)))))))) depth) fun r7 =>
  bif (r7.2.1 != (0 : Int)) then some (Sum.inr (Sum.inr ((0 : Int), r7.2)))
  else bif (r7.1 != (w64 ((1 : Int) + player))) then some (Sum.inr (Sum.inr (x3.1.1, ((0 : Int), ()))))
  else some (Sum.inl (((w64 (x3.1.1 + (1 : Int))), ()), ())))))
  else some (Sum.inr (Sum.inl ((), ())))
noncomputable def handicapLeast (r : ByteArray × Int × Int × (List (Int × Int × Int × (List (Int × Int × Int × Int × Unit)) × Unit)) × (List Int) × Bool × Bool × (List (Int × Int × Int × Bool × Unit)) × Int × Int × Int × Unit) (player : Int) (squares : List Int) (depth : Int) : Option (Int × Int × Unit) :=
  Option.bind (handicapWithout r player squares) fun r2 =>
  bif (r2.2.1 != (0 : Int)) then some ((0 : Int), r2.2)
  else Option.bind (α := ((Unit) × (Unit)) ⊕ (Int × Int × Unit)) (iterW (handicapLeast_L1 squares r player depth) (((0 : Int), ()), ())) (Sum.elim (fun x8 =>
  some ((0 : Int), ((8 : Int), ()))) some)
noncomputable def law3SameInts_L1 (a : List Int) (b : List Int) (x1 : (Int × Unit) × (Unit)) : Option (((Int × Unit) × (Unit)) ⊕ (((Unit) × (Unit)) ⊕ Bool)) :=
  bif (decide (x1.1.1 < ((a.length : Nat) : Int))) then (Option.bind (at? a x1.1.1) fun d2 =>
  Option.bind (at? b x1.1.1) fun d3 =>
  bif (d2 != d3) then some (Sum.inr (Sum.inr false))
  else some (Sum.inl (((w64 (x1.1.1 + (1 : Int))), ()), ())))
  else some (Sum.inr (Sum.inl ((), ())))
noncomputable def law3SameInts (a : List Int) (b : List Int) : Option (Bool) :=
  bif (((a.length : Nat) : Int) != ((b.length : Nat) : Int)) then some false
  else Option.bind (α := ((Unit) × (Unit)) ⊕ Bool) (iterW (law3SameInts_L1 a b) (((0 : Int), ()), ())) (Sum.elim (fun x4 =>
  some true) some)
noncomputable def law3HandicapMeasures_L1 (squares : List Int) (r : ByteArray × Int × Int × (List (Int × Int × Int × (List (Int × Int × Int × Int × Unit)) × Unit)) × (List Int) × Bool × Bool × (List (Int × Int × Int × Bool × Unit)) × Int × Int × Int × Unit) (player : Int) (x11 : (Int × Int × Unit) × ((List Int) × Unit)) : Option (((Int × Int × Unit) × ((List Int) × Unit)) ⊕ ((Int × Unit) × ((List Int) × Unit))) :=
  bif (decide (x11.1.2.1 < ((((squares.take ((if (3 : Int) < ((squares.length : Nat) : Int) then (3 : Int) else ((squares.length : Nat) : Int))).toNat).drop 0).length : Nat) : Int))) then (Option.bind (at? ((squares.take ((if (3 : Int) < ((squares.length : Nat) : Int) then (3 : Int) else ((squares.length : Nat) : Int))).toNat).drop 0) x11.1.2.1) fun d12 =>
  Option.bind (bif (x11.1.1 != (0 : Int)) then some ((x11.1.1, ()), (x11.2.1, ()))
  else Option.bind (bif ((decide (d12 < (0 : Int))) || (decide (d12 ≥ ((r.2.2.2.2.1.length : Nat) : Int)))) then some (((4 : Int), ()), (x11.2.1, ()))
  else req (inb d12 x11.2.1.length) (Option.bind (at? r.2.2.2.2.1 d12) fun d13 =>
  Option.bind (bif ((getD' x11.2.1 ((d12).toNat) (0 : Int)) != d13) then some (((7 : Int), ()), (x11.2.1, ()))
  else req (inb d12 x11.2.1.length) (req (imp (!((getD' x11.2.1 ((d12).toNat) (0 : Int)) == (0 : Int))) (inb d12 x11.2.1.length)) (req (imp (!((getD' x11.2.1 ((d12).toNat) (0 : Int)) == (0 : Int))) true) (Option.bind (bif (((getD' x11.2.1 ((d12).toNat) (0 : Int)) == (0 : Int)) || (((w64 ((getD' x11.2.1 ((d12).toNat) (0 : Int)) - (1 : Int))).tmod (2 : Int)) != player)) then some (((8 : Int), ()), (x11.2.1, ()))
  else req (inb d12 x11.2.1.length) (some ((x11.1.1, ()), ((x11.2.1.set ((d12).toNat) (0 : Int)), ())))) fun x14 =>
  some ((x14.1.1, ()), (x14.2.1, ())))))) fun x15 =>
  some ((x15.1.1, ()), (x15.2.1, ())))) fun x16 =>
  some ((x16.1.1, ()), (x16.2.1, ()))) fun x17 =>
  some (Sum.inl ((x17.1.1, (w64 (x11.1.2.1 + (1 : Int))), ()), (x17.2.1, ()))))
  else some (Sum.inr ((x11.1.1, ()), (x11.2.1, ())))
noncomputable def law3HandicapMeasures_L3 (squares : List Int) (x20 : (Int × Unit) × (Unit)) (x21 : (Int × Unit) × ((List Int) × Unit)) : Option (((Int × Unit) × ((List Int) × Unit)) ⊕ ((Unit) × ((List Int) × Unit))) :=
  bif (decide (x21.1.1 < ((((((squares.take ((if (3 : Int) < ((squares.length : Nat) : Int) then (3 : Int) else ((squares.length : Nat) : Int))).toNat).drop 0).take (x20.1.1).toNat).drop 0).length : Nat) : Int))) then (Option.bind (at? ((((squares.take ((if (3 : Int) < ((squares.length : Nat) : Int) then (3 : Int) else ((squares.length : Nat) : Int))).toNat).drop 0).take (x20.1.1).toNat).drop 0) x21.1.1) fun d22 =>
  req (inb d22 x21.2.1.length) (some (Sum.inl (((w64 (x21.1.1 + (1 : Int))), ()), ((x21.2.1.set ((d22).toNat) (0 : Int)), ())))))
  else some (Sum.inr ((), (x21.2.1, ())))
noncomputable def law3HandicapMeasures_L2 (squares : List Int) (r : ByteArray × Int × Int × (List (Int × Int × Int × (List (Int × Int × Int × Int × Unit)) × Unit)) × (List Int) × Bool × Bool × (List (Int × Int × Int × Bool × Unit)) × Int × Int × Int × Unit) (depth : Int) (r8 : Int × Int × Unit) (player : Int) (x20 : (Int × Unit) × (Unit)) : Option (((Int × Unit) × (Unit)) ⊕ (((Unit) × (Unit)) ⊕ Bool)) :=
  bif (decide (x20.1.1 < (w64 (((((squares.take ((if (3 : Int) < ((squares.length : Nat) : Int) then (3 : Int) else ((squares.length : Nat) : Int))).toNat).drop 0).length : Nat) : Int) + (1 : Int))))) then (Option.bind (α := ((Unit) × (Unit)) ⊕ (((Int × Unit) × (Unit)) ⊕ (((Unit) × (Unit)) ⊕ Bool))) (req (room (([] : List Int).length + r.2.2.2.2.1.length) 8) (req (boundsI (0 : Int) x20.1.1 ((squares.take ((if (3 : Int) < ((squares.length : Nat) : Int) then (3 : Int) else ((squares.length : Nat) : Int))).toNat).drop 0).length) (Option.bind (iterW (law3HandicapMeasures_L3 squares x20) (((0 : Int), ()), ((([] : List Int) ++ r.2.2.2.2.1), ()))) fun x23 =>
  Option.bind (placeBegin (r.1, (r.2.1, (r.2.2.1, (r.2.2.2.1, (x23.2.1, r.2.2.2.2.2)))))) fun r24 =>
  Option.bind (minimaxScore (r.1, (r.2.1, (r.2.2.1, (r.2.2.2.1, (x23.2.1, r.2.2.2.2.2))))) (r24.1.1, ((r24.1.2.1.1, (r24.1.2.1.2.1, ())), r24.1.2.2)) depth) fun r25 =>
  bif (r25.2.1 != (0 : Int)) then some (Sum.inr (Sum.inr (Sum.inr ((r8.2.1 == r25.2.1) && (r8.1 == (0 : Int))))))
  else bif ((r25.1 == (0 : Int)) || (!((decide (r25.1 > (0 : Int))) == (player == (0 : Int))))) then some (Sum.inr (Sum.inr (Sum.inr ((r8.2.1 == (0 : Int)) && (r8.1 == x20.1.1)))))
  else some (Sum.inl ((), ()))))) (Sum.elim (fun x26 =>
  some (Sum.inl (((w64 (x20.1.1 + (1 : Int))), ()), ()))) some))
  else some (Sum.inr (Sum.inl ((), ())))
noncomputable def law3HandicapMeasures (r : ByteArray × Int × Int × (List (Int × Int × Int × (List (Int × Int × Int × Int × Unit)) × Unit)) × (List Int) × Bool × Bool × (List (Int × Int × Int × Bool × Unit)) × Int × Int × Int × Unit) (player : Int) (squares : List Int) (depth : Int) : Option (Bool) :=
  Option.bind (law3Handicaps) fun r6 =>
  bif (!r6) then some false
  else req (boundsI (0 : Int) (if (3 : Int) < ((squares.length : Nat) : Int) then (3 : Int) else ((squares.length : Nat) : Int)) squares.length) (bif ((law3Great r) || (decide (depth > (3 : Int)))) then some true
  else Option.bind (handicapWithout r player ((squares.take ((if (3 : Int) < ((squares.length : Nat) : Int) then (3 : Int) else ((squares.length : Nat) : Int))).toNat).drop 0)) fun r7 =>
  Option.bind (handicapLeast r player ((squares.take ((if (3 : Int) < ((squares.length : Nat) : Int) then (3 : Int) else ((squares.length : Nat) : Int))).toNat).drop 0) depth) fun r8 =>
  Option.bind (rulesCheck r) fun r9 =>
  Option.bind (bif (((r9 == (0 : Int)) && (player != (0 : Int))) && (player != (1 : Int))) then some (((1 : Int), ()), ())
  else some ((r9, ()), ())) fun x10 =>
  req (room (([] : List Int).length + r.2.2.2.2.1.length) 8) (Option.bind (iterW (law3HandicapMeasures_L1 squares r player) ((x10.1.1, (0 : Int), ()), ((([] : List Int) ++ r.2.2.2.2.1), ()))) fun x18 =>
  bif (x18.1.1 != (0 : Int)) then some (((r7.2.1 == x18.1.1) && (r8.2.1 == x18.1.1)) && ((w64 (((r7.1.2.2.2.2.1.length : Nat) : Int) + r8.1)) == (0 : Int)))
  else Option.bind (gopt (!(r7.2.1 != (0 : Int))) false (law3SameInts r7.1.2.2.2.2.1 x18.2.1)) fun r19 =>
  bif (((r7.2.1 != (0 : Int)) || (!r19)) || (!(r7.1.1.toList == r.1.toList))) then some false
  else Option.bind (α := ((Unit) × (Unit)) ⊕ Bool) (iterW (law3HandicapMeasures_L2 squares r depth r8 player) (((0 : Int), ()), ())) (Sum.elim (fun x27 =>
  some ((r8.2.1 == (8 : Int)) && (r8.1 == (0 : Int)))) some)))
end Go.Proofs.Ytaaigenpmaiodaa
