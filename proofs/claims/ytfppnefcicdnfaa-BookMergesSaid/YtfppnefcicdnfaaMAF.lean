/- Several texts in one: What functions compute, in plain Lean: Core. No condition of its own.; What functions compute, in plain Lean: Search. No condition of its own.; What functions compute, in plain Lean: Game. No condition of its own.; What functions compute, in plain Lean: Book. No condition of its own.; What functions compute, in plain Lean: BookMerges. No condition of its own.; Sorts by a comparing function, from the shelf, as what the interpreter asks. No condition of its own. -/
import Derived.Test.YtfppnefcicdnfaaMAA
import Derived.Test.YtfppnefcicdnfaaMAE
import Derived.Shelf.SlSortCmp.NoneTotal
namespace Go.Proofs.Ytfppnefcicdnfaa
open Go.Den
set_option linter.unusedVariables false
set_option maxRecDepth 100000
noncomputable def endsLine_L3 (count : Int) (r : ByteArray × Int × Int × (List (Int × Int × Int × (List (Int × Int × Int × Int × Unit)) × Unit)) × (List Int) × Bool × Bool × (List (Int × Int × Int × Bool × Unit)) × Int × Int × Int × Unit) (p : (List Int) × ((List Int) × (List Int) × Unit) × Int × Int × Unit) (player : Int) (x2 : (Int × Unit) × (Unit)) (x3 : (Int × Int × Int × Unit) × (Unit)) : Option (((Int × Int × Int × Unit) × (Unit)) ⊕ ((Int × Unit) × (Unit))) :=
  Option.bind (bif (decide (x3.1.2.2.1 < count)) then (bif ((((decide (x3.1.1 < (0 : Int))) || (decide (x3.1.1 ≥ r.2.1))) || (decide (x3.1.2.1 < (0 : Int)))) || (decide (x3.1.2.1 ≥ r.2.2.1))) then some ((false, ()), ())
  else Option.bind (at? p.1 (w64 ((w64 (x3.1.2.1 * r.2.1)) + x3.1.1))) fun d4 =>
  req (imp (decide (d4 > (0 : Int))) true) (some ((((decide (d4 > (0 : Int))) && (((w64 (d4 - (1 : Int))).tmod (2 : Int)) == player)), ()), ())))
  else some ((false, ()), ())) fun x5 =>
  bif x5.1.1 then some (Sum.inl (((w64 (x3.1.1 + (getD' [(1 : Int), (0 : Int), (1 : Int), (1 : Int)] (x2.1.1).toNat 0))), (w64 (x3.1.2.1 + (getD' [(0 : Int), (1 : Int), (1 : Int), (-1 : Int)] (x2.1.1).toNat 0))), (w64 (x3.1.2.2.1 + (1 : Int))), ()), ()))
  else some (Sum.inr ((x3.1.2.2.1, ()), ()))
noncomputable def endsLine_L2 (r : ByteArray × Int × Int × (List (Int × Int × Int × (List (Int × Int × Int × Int × Unit)) × Unit)) × (List Int) × Bool × Bool × (List (Int × Int × Int × Bool × Unit)) × Int × Int × Int × Unit) (count : Int) (p : (List Int) × ((List Int) × (List Int) × Unit) × Int × Int × Unit) (player : Int) (x1 : (Int × Unit) × (Unit)) (x2 : (Int × Unit) × (Unit)) : Option (((Int × Unit) × (Unit)) ⊕ (((Unit) × (Unit)) ⊕ (((Unit) × (Unit)) ⊕ (((Int × Unit) × (Unit)) ⊕ (((Unit) × (Unit)) ⊕ Bool))))) :=
  bif (decide (x2.1.1 < (4 : Int))) then (Option.bind (α := ((Unit) × (Unit)) ⊕ (((Int × Unit) × (Unit)) ⊕ (((Unit) × (Unit)) ⊕ (((Unit) × (Unit)) ⊕ (((Int × Unit) × (Unit)) ⊕ (((Unit) × (Unit)) ⊕ Bool)))))) (req (inb x2.1.1 4) (req (r.2.1 != 0) (req (r.2.1 != 0) (Option.bind (iterW (endsLine_L3 count r p player x2) (((x1.1.1.tmod r.2.1), (w64 (x1.1.1.tdiv r.2.1)), (0 : Int), ()), ())) fun x6 =>
  bif (x6.1.1 == count) then some (Sum.inr (Sum.inr (Sum.inr (Sum.inr (Sum.inr (Sum.inr true))))))
  else some (Sum.inl ((), ())))))) (Sum.elim (fun x7 =>
  some (Sum.inl (((w64 (x2.1.1 + (1 : Int))), ()), ()))) some))
  else some (Sum.inr (Sum.inl ((), ())))
noncomputable def endsLine_L1 (p : (List Int) × ((List Int) × (List Int) × Unit) × Int × Int × Unit) (r : ByteArray × Int × Int × (List (Int × Int × Int × (List (Int × Int × Int × Int × Unit)) × Unit)) × (List Int) × Bool × Bool × (List (Int × Int × Int × Bool × Unit)) × Int × Int × Int × Unit) (count : Int) (player : Int) (x1 : (Int × Unit) × (Unit)) : Option (((Int × Unit) × (Unit)) ⊕ (((Unit) × (Unit)) ⊕ Bool)) :=
  bif (decide (x1.1.1 < ((p.1.length : Nat) : Int))) then (Option.bind (α := ((Unit) × (Unit)) ⊕ (((Int × Unit) × (Unit)) ⊕ (((Unit) × (Unit)) ⊕ Bool))) (Option.bind (α := ((Unit) × (Unit)) ⊕ (((Unit) × (Unit)) ⊕ (((Int × Unit) × (Unit)) ⊕ (((Unit) × (Unit)) ⊕ Bool)))) (iterW (endsLine_L2 r count p player x1) (((0 : Int), ()), ())) (Sum.elim (fun x8 =>
  some (Sum.inl ((), ()))) some)) (Sum.elim (fun x9 =>
  some (Sum.inl (((w64 (x1.1.1 + (1 : Int))), ()), ()))) some))
  else some (Sum.inr (Sum.inl ((), ())))
noncomputable def endsLine (r : ByteArray × Int × Int × (List (Int × Int × Int × (List (Int × Int × Int × Int × Unit)) × Unit)) × (List Int) × Bool × Bool × (List (Int × Int × Int × Bool × Unit)) × Int × Int × Int × Unit) (p : (List Int) × ((List Int) × (List Int) × Unit) × Int × Int × Unit) (player : Int) (count : Int) : Option (Bool) :=
  Option.bind (α := ((Unit) × (Unit)) ⊕ Bool) (iterW (endsLine_L1 p r count player) (((0 : Int), ()), ())) (Sum.elim (fun x10 =>
  some false) some)
noncomputable def rulesIsLast (r : ByteArray × Int × Int × (List (Int × Int × Int × (List (Int × Int × Int × Int × Unit)) × Unit)) × (List Int) × Bool × Bool × (List (Int × Int × Int × Bool × Unit)) × Int × Int × Int × Unit) (player : Int) (square : Int) : Option (Bool) :=
  bif (player == (0 : Int)) then req (r.2.1 != 0) (some ((w64 (square.tdiv r.2.1)) == (w64 (r.2.2.1 - (1 : Int)))))
  else req (r.2.1 != 0) (some ((w64 (square.tdiv r.2.1)) == (0 : Int)))
noncomputable def endsHolds_L1 (p : (List Int) × ((List Int) × (List Int) × Unit) × Int × Int × Unit) (x : Int × Int × Int × Bool × Unit) (mover : Int) (r : ByteArray × Int × Int × (List (Int × Int × Int × (List (Int × Int × Int × Int × Unit)) × Unit)) × (List Int) × Bool × Bool × (List (Int × Int × Int × Bool × Unit)) × Int × Int × Int × Unit) (x2 : (Int × Unit) × (Unit)) : Option (((Int × Unit) × (Unit)) ⊕ (((Unit) × (Unit)) ⊕ (((Unit) × (Unit)) ⊕ Bool))) :=
  bif (decide (x2.1.1 < ((p.1.length : Nat) : Int))) then (Option.bind (at? p.1 x2.1.1) fun d3 =>
  Option.bind (gopt (d3 == (w64 ((w64 ((w64 ((2 : Int) * x.2.1)) + mover)) + (1 : Int)))) false (rulesIsLast r mover x2.1.1)) fun r4 =>
  bif ((d3 == (w64 ((w64 ((w64 ((2 : Int) * x.2.1)) + mover)) + (1 : Int)))) && r4) then some (Sum.inr (Sum.inr (Sum.inr true)))
  else some (Sum.inl (((w64 (x2.1.1 + (1 : Int))), ()), ())))
  else some (Sum.inr (Sum.inl ((), ())))
noncomputable def endsHolds_L2 (p : (List Int) × ((List Int) × (List Int) × Unit) × Int × Int × Unit) (x : Int × Int × Int × Bool × Unit) (mover : Int) (x7 : (Int × Int × Unit) × (Unit)) : Option (((Int × Int × Unit) × (Unit)) ⊕ ((Int × Unit) × (Unit))) :=
  bif (decide (x7.1.2.1 < ((p.1.length : Nat) : Int))) then (Option.bind (at? p.1 x7.1.2.1) fun d8 =>
  Option.bind (bif (d8 == (w64 ((w64 ((w64 ((w64 ((2 : Int) * x.2.1)) + (1 : Int))) - mover)) + (1 : Int)))) then some (((w64 (x7.1.1 + (1 : Int))), ()), ())
  else some ((x7.1.1, ()), ())) fun x9 =>
  some (Sum.inl ((x9.1.1, (w64 (x7.1.2.1 + (1 : Int))), ()), ())))
  else some (Sum.inr ((x7.1.1, ()), ()))
noncomputable def endsHolds (r : ByteArray × Int × Int × (List (Int × Int × Int × (List (Int × Int × Int × Int × Unit)) × Unit)) × (List Int) × Bool × Bool × (List (Int × Int × Int × Bool × Unit)) × Int × Int × Int × Unit) (p : (List Int) × ((List Int) × (List Int) × Unit) × Int × Int × Unit) (x : Int × Int × Int × Bool × Unit) (mover : Int) : Option (Bool) :=
  Option.bind (α := ((Unit) × (Unit)) ⊕ Bool) (bif (x.1 == (0 : Int)) then (Option.bind (endsLine r p mover x.2.2.1) fun r1 =>
  some (Sum.inr r1))
  else bif (x.1 == (1 : Int)) then (Option.bind (α := ((Unit) × (Unit)) ⊕ (((Unit) × (Unit)) ⊕ Bool)) (iterW (endsHolds_L1 p x mover r) (((0 : Int), ()), ())) (Sum.elim (fun x5 =>
  some (Sum.inr false)) some))
  else some (Sum.inl ((), ()))) (Sum.elim (fun x6 =>
  Option.bind (iterW (endsHolds_L2 p x mover) (((0 : Int), (0 : Int), ()), ())) fun x10 =>
  some (decide (x10.1.1 < x.2.2.1))) some)
noncomputable def endsWins_o (player : Int) : Option (Int) :=
  some (w64 ((1 : Int) + player))
def endsWins (player : Int) : Int :=
  (w64 ((1 : Int) + player))
theorem endsWins_eq (player : Int) : endsWins_o player = some (endsWins player) := by
  unfold endsWins_o endsWins
  first | rfl | simp only [cond_some]
noncomputable def movesFilled_L1 (p : (List Int) × ((List Int) × (List Int) × Unit) × Int × Int × Unit) (r : ByteArray × Int × Int × (List (Int × Int × Int × (List (Int × Int × Int × Int × Unit)) × Unit)) × (List Int) × Bool × Bool × (List (Int × Int × Int × Bool × Unit)) × Int × Int × Int × Unit) (x1 : (Int × Unit) × (Unit)) : Option (((Int × Unit) × (Unit)) ⊕ (((Unit) × (Unit)) ⊕ Bool)) :=
  bif (decide (x1.1.1 ≥ (0 : Int))) then (Option.bind (at? p.1 x1.1.1) fun d2 =>
  bif (d2 == (0 : Int)) then some (Sum.inr (Sum.inr false))
  else some (Sum.inl (((w64 (x1.1.1 - r.2.1)), ()), ())))
  else some (Sum.inr (Sum.inl ((), ())))
noncomputable def movesFilled (r : ByteArray × Int × Int × (List (Int × Int × Int × (List (Int × Int × Int × Int × Unit)) × Unit)) × (List Int) × Bool × Bool × (List (Int × Int × Int × Bool × Unit)) × Int × Int × Int × Unit) (p : (List Int) × ((List Int) × (List Int) × Unit) × Int × Int × Unit) (s : Int) : Option (Bool) :=
  Option.bind (α := ((Unit) × (Unit)) ⊕ Bool) (iterW (movesFilled_L1 p r) (((w64 (s - r.2.1)), ()), ())) (Sum.elim (fun x3 =>
  some true) some)
noncomputable def movesPuts_L2 (p : (List Int) × ((List Int) × (List Int) × Unit) × Int × Int × Unit) (x1 : ((List (Int × Int × Int × Unit)) × Int × Unit) × (Unit)) (x4 : ((List (Int × Int × Int × Unit)) × Int × Unit) × (Unit)) : Option ((((List (Int × Int × Int × Unit)) × Int × Unit) × (Unit)) ⊕ (((List (Int × Int × Int × Unit)) × Unit) × (Unit))) :=
  bif (decide (x4.1.2.1 < (((getD' [p.2.1.1, p.2.1.2.1] (p.2.2.1).toNat []).length : Nat) : Int))) then (Option.bind (at? (getD' [p.2.1.1, p.2.1.2.1] (p.2.2.1).toNat []) x4.1.2.1) fun d5 =>
  Option.bind (bif (decide (d5 > (0 : Int))) then req (room (x4.1.1.length + ([((-1 : Int), (x1.1.2.1, (x4.1.2.1, ())))]).length) 24) (some (((x4.1.1 ++ [((-1 : Int), (x1.1.2.1, (x4.1.2.1, ())))]), ()), ()))
  else some ((x4.1.1, ()), ())) fun x6 =>
  some (Sum.inl ((x6.1.1, (w64 (x4.1.2.1 + (1 : Int))), ()), ())))
  else some (Sum.inr ((x4.1.1, ()), ()))
noncomputable def movesPuts_L1 (p : (List Int) × ((List Int) × (List Int) × Unit) × Int × Int × Unit) (r : ByteArray × Int × Int × (List (Int × Int × Int × (List (Int × Int × Int × Int × Unit)) × Unit)) × (List Int) × Bool × Bool × (List (Int × Int × Int × Bool × Unit)) × Int × Int × Int × Unit) (x1 : ((List (Int × Int × Int × Unit)) × Int × Unit) × (Unit)) : Option ((((List (Int × Int × Int × Unit)) × Int × Unit) × (Unit)) ⊕ (((List (Int × Int × Int × Unit)) × Unit) × (Unit))) :=
  bif (decide (x1.1.2.1 < ((p.1.length : Nat) : Int))) then (Option.bind (Option.bind (at? p.1 x1.1.2.1) fun d2 =>
  Option.bind (gopt ((r.2.2.2.2.2.1 && (decide (x1.1.2.1 ≥ r.2.1))) && (!(d2 != (0 : Int)))) false (movesFilled r p x1.1.2.1)) fun r3 =>
  bif ((d2 != (0 : Int)) || ((r.2.2.2.2.2.1 && (decide (x1.1.2.1 ≥ r.2.1))) && (!r3))) then some ((x1.1.1, ()), ())
  else req (inb p.2.2.1 2) (Option.bind (iterW (movesPuts_L2 p x1) ((x1.1.1, (0 : Int), ()), ())) fun x7 =>
  some ((x7.1.1, ()), ()))) fun x8 =>
  some (Sum.inl ((x8.1.1, (w64 (x1.1.2.1 + (1 : Int))), ()), ())))
  else some (Sum.inr ((x1.1.1, ()), ()))
noncomputable def movesPuts (r : ByteArray × Int × Int × (List (Int × Int × Int × (List (Int × Int × Int × Int × Unit)) × Unit)) × (List Int) × Bool × Bool × (List (Int × Int × Int × Bool × Unit)) × Int × Int × Int × Unit) (p : (List Int) × ((List Int) × (List Int) × Unit) × Int × Int × Unit) : Option (List (Int × Int × Int × Unit)) :=
  Option.bind (iterW (movesPuts_L1 p r) ((([] : List (Int × Int × Int × Unit)), (0 : Int), ()), ())) fun x9 =>
  some x9.1.1
noncomputable def movesWay_L1 (w : Int × Int × Int × Int × Unit) (r : ByteArray × Int × Int × (List (Int × Int × Int × (List (Int × Int × Int × Int × Unit)) × Unit)) × (List Int) × Bool × Bool × (List (Int × Int × Int × Bool × Unit)) × Int × Int × Int × Unit) (x1 : (Int × Unit) × (Unit)) (p : (List Int) × ((List Int) × (List Int) × Unit) × Int × Int × Unit) (x2 : ((List Int) × Int × Int × Int × Unit) × (Unit)) : Option ((((List Int) × Int × Int × Int × Unit) × (Unit)) ⊕ (((List Int) × Unit) × (Unit))) :=
  bif (decide (x2.1.2.2.2.1 < w.2.2.1)) then (bif ((((decide ((w64 (x2.1.2.1 + w.1)) < (0 : Int))) || (decide ((w64 (x2.1.2.1 + w.1)) ≥ r.2.1))) || (decide ((w64 (x2.1.2.2.1 + x1.1.1)) < (0 : Int)))) || (decide ((w64 (x2.1.2.2.1 + x1.1.1)) ≥ r.2.2.1))) then some (Sum.inr ((x2.1.1, ()), ()))
  else Option.bind (at? p.1 (w64 ((w64 ((w64 (x2.1.2.2.1 + x1.1.1)) * r.2.1)) + (w64 (x2.1.2.1 + w.1))))) fun d3 =>
  req (imp (decide (d3 > (0 : Int))) true) (Option.bind (bif ((((w.2.2.2.1 == (0 : Int)) && (d3 == (0 : Int))) || ((w.2.2.2.1 == (1 : Int)) && ((d3 == (0 : Int)) || ((decide (d3 > (0 : Int))) && (((w64 (d3 - (1 : Int))).tmod (2 : Int)) != p.2.2.1))))) || ((w.2.2.2.1 == (2 : Int)) && ((decide (d3 > (0 : Int))) && (((w64 (d3 - (1 : Int))).tmod (2 : Int)) != p.2.2.1)))) then req (room (x2.1.1.length + ([(w64 ((w64 ((w64 (x2.1.2.2.1 + x1.1.1)) * r.2.1)) + (w64 (x2.1.2.1 + w.1))))]).length) 8) (some (((x2.1.1 ++ [(w64 ((w64 ((w64 (x2.1.2.2.1 + x1.1.1)) * r.2.1)) + (w64 (x2.1.2.1 + w.1))))]), ()), ()))
  else some ((x2.1.1, ()), ())) fun x4 =>
  bif (d3 != (0 : Int)) then some (Sum.inr ((x4.1.1, ()), ()))
  else some (Sum.inl ((x4.1.1, (w64 (x2.1.2.1 + w.1)), (w64 (x2.1.2.2.1 + x1.1.1)), (w64 (x2.1.2.2.2.1 + (1 : Int))), ()), ()))))
  else some (Sum.inr ((x2.1.1, ()), ()))
noncomputable def movesWay (r : ByteArray × Int × Int × (List (Int × Int × Int × (List (Int × Int × Int × Int × Unit)) × Unit)) × (List Int) × Bool × Bool × (List (Int × Int × Int × Bool × Unit)) × Int × Int × Int × Unit) (p : (List Int) × ((List Int) × (List Int) × Unit) × Int × Int × Unit) (s : Int) (w : Int × Int × Int × Int × Unit) : Option (List Int) :=
  Option.bind (bif (p.2.2.1 == (1 : Int)) then some (((w64 (0 - w.2.1)), ()), ())
  else some ((w.2.1, ()), ())) fun x1 =>
  req (r.2.1 != 0) (req (r.2.1 != 0) (Option.bind (iterW (movesWay_L1 w r x1 p) ((([] : List Int), (s.tmod r.2.1), (w64 (s.tdiv r.2.1)), (0 : Int), ()), ())) fun x5 =>
  some x5.1.1))
noncomputable def movesList_L3 (r8 : List Int) (r : ByteArray × Int × Int × (List (Int × Int × Int × (List (Int × Int × Int × Int × Unit)) × Unit)) × (List Int) × Bool × Bool × (List (Int × Int × Int × Bool × Unit)) × Int × Int × Int × Unit) (d4 : Int) (p : (List Int) × ((List Int) × (List Int) × Unit) × Int × Int × Unit) (x3 : ((List (Int × Int × Int × Unit)) × Int × Unit) × (Unit)) (x9 : ((List (Int × Int × Int × Unit)) × Int × Unit) × (Unit)) : Option ((((List (Int × Int × Int × Unit)) × Int × Unit) × (Unit)) ⊕ (((List (Int × Int × Int × Unit)) × Unit) × (Unit))) :=
  bif (decide (x9.1.2.1 < ((r8.length : Nat) : Int))) then (req (inb x9.1.2.1 r8.length) (Option.bind (at? r.2.2.2.1 (w64 ((w64 (d4 - (1 : Int))).tdiv (2 : Int)))) fun d10 =>
  Option.bind (gopt (decide (d10.2.2.1 > (0 : Int))) false (rulesIsLast r p.2.2.1 (getD' r8 ((x9.1.2.1).toNat) (0 : Int)))) fun r11 =>
  Option.bind (bif ((decide (d10.2.2.1 > (0 : Int))) && r11) then some ((), ((x3.1.2.1, ((getD' r8 ((x9.1.2.1).toNat) (0 : Int)), ((w64 (d10.2.2.1 - (1 : Int))), ()))), ()))
  else some ((), ((x3.1.2.1, ((getD' r8 ((x9.1.2.1).toNat) (0 : Int)), ((w64 ((w64 (d4 - (1 : Int))).tdiv (2 : Int))), ()))), ()))) fun x12 =>
  req (room (x9.1.1.length + ([x12.2.1]).length) 24) (some (Sum.inl (((x9.1.1 ++ [x12.2.1]), (w64 (x9.1.2.1 + (1 : Int))), ()), ())))))
  else some (Sum.inr ((x9.1.1, ()), ()))
noncomputable def movesList_L2 (d5 : Int × Int × Int × (List (Int × Int × Int × Int × Unit)) × Unit) (r : ByteArray × Int × Int × (List (Int × Int × Int × (List (Int × Int × Int × Int × Unit)) × Unit)) × (List Int) × Bool × Bool × (List (Int × Int × Int × Bool × Unit)) × Int × Int × Int × Unit) (p : (List Int) × ((List Int) × (List Int) × Unit) × Int × Int × Unit) (x3 : ((List (Int × Int × Int × Unit)) × Int × Unit) × (Unit)) (d4 : Int) (x6 : ((List (Int × Int × Int × Unit)) × Int × Unit) × (Unit)) : Option ((((List (Int × Int × Int × Unit)) × Int × Unit) × (Unit)) ⊕ (((List (Int × Int × Int × Unit)) × Unit) × (Unit))) :=
  bif (decide (x6.1.2.1 < ((d5.2.2.2.1.length : Nat) : Int))) then (Option.bind (Option.bind (at? d5.2.2.2.1 x6.1.2.1) fun d7 =>
  Option.bind (movesWay r p x3.1.2.1 d7) fun r8 =>
  Option.bind (iterW (movesList_L3 r8 r d4 p x3) ((x6.1.1, (0 : Int), ()), ())) fun x13 =>
  some ((x13.1.1, ()), ())) fun x14 =>
  some (Sum.inl ((x14.1.1, (w64 (x6.1.2.1 + (1 : Int))), ()), ())))
  else some (Sum.inr ((x6.1.1, ()), ()))
noncomputable def movesList_L1 (p : (List Int) × ((List Int) × (List Int) × Unit) × Int × Int × Unit) (r : ByteArray × Int × Int × (List (Int × Int × Int × (List (Int × Int × Int × Int × Unit)) × Unit)) × (List Int) × Bool × Bool × (List (Int × Int × Int × Bool × Unit)) × Int × Int × Int × Unit) (x3 : ((List (Int × Int × Int × Unit)) × Int × Unit) × (Unit)) : Option ((((List (Int × Int × Int × Unit)) × Int × Unit) × (Unit)) ⊕ (((List (Int × Int × Int × Unit)) × Unit) × (Unit))) :=
  bif (decide (x3.1.2.1 < ((p.1.length : Nat) : Int))) then (Option.bind (Option.bind (at? p.1 x3.1.2.1) fun d4 =>
  req (imp (!(d4 == (0 : Int))) true) (bif ((d4 == (0 : Int)) || (((w64 (d4 - (1 : Int))).tmod (2 : Int)) != p.2.2.1)) then some ((x3.1.1, ()), ())
  else Option.bind (at? r.2.2.2.1 (w64 ((w64 (d4 - (1 : Int))).tdiv (2 : Int)))) fun d5 =>
  Option.bind (iterW (movesList_L2 d5 r p x3 d4) ((x3.1.1, (0 : Int), ()), ())) fun x15 =>
  some ((x15.1.1, ()), ()))) fun x16 =>
  some (Sum.inl ((x16.1.1, (w64 (x3.1.2.1 + (1 : Int))), ()), ())))
  else some (Sum.inr ((x3.1.1, ()), ()))
noncomputable def movesList_L5 (x18 : (Int × Unit) × ((List (Int × Int × Int × Unit)) × Unit)) (x19 : (Int × Int × Unit) × ((List (Int × Int × Int × Unit)) × Unit)) : Option (((Int × Int × Unit) × ((List (Int × Int × Int × Unit)) × Unit)) ⊕ ((Int × Unit) × ((List (Int × Int × Int × Unit)) × Unit))) :=
  bif (decide (x19.1.2.1 < ((((((x18.2.1.length : Nat) : Int)).toNat - (x18.1.1).toNat) : Nat) : Int))) then (req (inb x19.1.2.1 ((((x18.2.1.length : Nat) : Int)).toNat - (x18.1.1).toNat)) (req (inb (w64 (x19.1.2.1 - (1 : Int))) ((((x18.2.1.length : Nat) : Int)).toNat - (x18.1.1).toNat)) (Option.bind (bif (!(((getD' x19.2.1 ((x18.1.1).toNat + (x19.1.2.1).toNat) ((0 : Int), ((0 : Int), ((0 : Int), ())))).1 == (getD' x19.2.1 ((x18.1.1).toNat + ((w64 (x19.1.2.1 - (1 : Int)))).toNat) ((0 : Int), ((0 : Int), ((0 : Int), ())))).1) && ((((getD' x19.2.1 ((x18.1.1).toNat + (x19.1.2.1).toNat) ((0 : Int), ((0 : Int), ((0 : Int), ())))).2).1 == ((getD' x19.2.1 ((x18.1.1).toNat + ((w64 (x19.1.2.1 - (1 : Int)))).toNat) ((0 : Int), ((0 : Int), ((0 : Int), ())))).2).1) && (((((getD' x19.2.1 ((x18.1.1).toNat + (x19.1.2.1).toNat) ((0 : Int), ((0 : Int), ((0 : Int), ())))).2).2).1 == (((getD' x19.2.1 ((x18.1.1).toNat + ((w64 (x19.1.2.1 - (1 : Int)))).toNat) ((0 : Int), ((0 : Int), ((0 : Int), ())))).2).2).1) && true)))) then req (inb x19.1.2.1 ((((x18.2.1.length : Nat) : Int)).toNat - (x18.1.1).toNat)) (req (inb x19.1.1 x19.2.1.length) (some (((w64 (x19.1.1 + (1 : Int))), ()), ((x19.2.1.set ((x19.1.1).toNat) (getD' x19.2.1 ((x18.1.1).toNat + (x19.1.2.1).toNat) ((0 : Int), ((0 : Int), ((0 : Int), ()))))), ()))))
  else some ((x19.1.1, ()), (x19.2.1, ()))) fun x20 =>
  some (Sum.inl ((x20.1.1, (w64 (x19.1.2.1 + (1 : Int))), ()), (x20.2.1, ()))))))
  else some (Sum.inr ((x19.1.1, ()), (x19.2.1, ())))
noncomputable def movesList_L4 (x18 : (Int × Unit) × ((List (Int × Int × Int × Unit)) × Unit)) : Option (((Int × Unit) × ((List (Int × Int × Int × Unit)) × Unit)) ⊕ (((Unit) × ((List (Int × Int × Int × Unit)) × Unit)) ⊕ (((List (Int × Int × Int × Unit)) × Unit) × (Unit)))) :=
  bif (decide (x18.1.1 < ((x18.2.1.length : Nat) : Int))) then (Option.bind (α := ((Int × Unit) × ((List (Int × Int × Int × Unit)) × Unit)) ⊕ (((Int × Unit) × ((List (Int × Int × Int × Unit)) × Unit)) ⊕ (((Unit) × ((List (Int × Int × Int × Unit)) × Unit)) ⊕ (((List (Int × Int × Int × Unit)) × Unit) × (Unit))))) (req (inb x18.1.1 x18.2.1.length) (req (inb (w64 (x18.1.1 - (1 : Int))) x18.2.1.length) (bif (((getD' x18.2.1 ((x18.1.1).toNat) ((0 : Int), ((0 : Int), ((0 : Int), ())))).1 == (getD' x18.2.1 (((w64 (x18.1.1 - (1 : Int)))).toNat) ((0 : Int), ((0 : Int), ((0 : Int), ())))).1) && ((((getD' x18.2.1 ((x18.1.1).toNat) ((0 : Int), ((0 : Int), ((0 : Int), ())))).2).1 == ((getD' x18.2.1 (((w64 (x18.1.1 - (1 : Int)))).toNat) ((0 : Int), ((0 : Int), ((0 : Int), ())))).2).1) && (((((getD' x18.2.1 ((x18.1.1).toNat) ((0 : Int), ((0 : Int), ((0 : Int), ())))).2).2).1 == (((getD' x18.2.1 (((w64 (x18.1.1 - (1 : Int)))).toNat) ((0 : Int), ((0 : Int), ((0 : Int), ())))).2).2).1) && true))) then (req (boundsI x18.1.1 ((x18.2.1.length : Nat) : Int) x18.2.1.length) (Option.bind (iterW (movesList_L5 x18) ((x18.1.1, (1 : Int), ()), (x18.2.1, ()))) fun x21 =>
  req (boundsI x21.1.1 ((x21.2.1.length : Nat) : Int) x21.2.1.length) (req (boundsI 0 x21.1.1 (x21.2.1.take (x21.1.1).toNat ++ (List.replicate ((((x21.2.1.length : Nat) : Int)).toNat - (x21.1.1).toNat) ((0 : Int), ((0 : Int), ((0 : Int), ()))) ++ x21.2.1.drop ((x21.1.1).toNat + ((((x21.2.1.length : Nat) : Int)).toNat - (x21.1.1).toNat)))).length) (some (Sum.inr (Sum.inr (Sum.inr ((((x21.2.1.take (x21.1.1).toNat ++ (List.replicate ((((x21.2.1.length : Nat) : Int)).toNat - (x21.1.1).toNat) ((0 : Int), ((0 : Int), ((0 : Int), ()))) ++ x21.2.1.drop ((x21.1.1).toNat + ((((x21.2.1.length : Nat) : Int)).toNat - (x21.1.1).toNat)))).take (x21.1.1).toNat), ()), ()))))))))
  else some (Sum.inl ((x18.1.1, ()), (x18.2.1, ())))))) (Sum.elim (fun x22 =>
  some (Sum.inl (((w64 (x22.1.1 + (1 : Int))), ()), (x22.2.1, ())))) some))
  else some (Sum.inr (Sum.inl ((), (x18.2.1, ()))))
noncomputable def movesList (r : ByteArray × Int × Int × (List (Int × Int × Int × (List (Int × Int × Int × Int × Unit)) × Unit)) × (List Int) × Bool × Bool × (List (Int × Int × Int × Bool × Unit)) × Int × Int × Int × Unit) (p : (List Int) × ((List Int) × (List Int) × Unit) × Int × Int × Unit) : Option (List (Int × Int × Int × Unit)) :=
  Option.bind (movesPuts r p) fun r2 =>
  Option.bind (iterW (movesList_L1 p r) ((r2, (0 : Int), ()), ())) fun x17 =>
  req (Nat.blt x17.1.1.length 4611686018427387904) (Option.bind (bif (decide ((((sortMoves x17.1.1).length : Nat) : Int) < (2 : Int))) then some (((sortMoves x17.1.1), ()), ())
  else Option.bind (α := ((Unit) × ((List (Int × Int × Int × Unit)) × Unit)) ⊕ (((List (Int × Int × Int × Unit)) × Unit) × (Unit))) (iterW (movesList_L4) (((1 : Int), ()), ((sortMoves x17.1.1), ()))) (Sum.elim (fun x23 =>
  some ((x23.2.1, ()), ())) some)) fun x24 =>
  some x24.1.1)
noncomputable def endsResult_L1 (r : ByteArray × Int × Int × (List (Int × Int × Int × (List (Int × Int × Int × Int × Unit)) × Unit)) × (List Int) × Bool × Bool × (List (Int × Int × Int × Bool × Unit)) × Int × Int × Int × Unit) (p : (List Int) × ((List Int) × (List Int) × Unit) × Int × Int × Unit) (x2 : (Int × Unit) × (Unit)) : Option (((Int × Unit) × (Unit)) ⊕ (((Unit) × (Unit)) ⊕ Int)) :=
  bif (decide (x2.1.1 < ((r.2.2.2.2.2.2.2.1.length : Nat) : Int))) then (Option.bind (at? r.2.2.2.2.2.2.2.1 x2.1.1) fun d3 =>
  Option.bind (endsHolds r p d3 (w64 ((1 : Int) - p.2.2.1))) fun r4 =>
  bif r4 then (Option.map Sum.inr (Option.map Sum.inr (bif (decide (x2.1.1 ≥ (0 : Int))) then (Option.bind (at? r.2.2.2.2.2.2.2.1 x2.1.1) fun d5 =>
  bif d5.2.2.2.1 then some (endsWins p.2.2.1)
  else some (endsWins (w64 ((1 : Int) - p.2.2.1))))
  else bif ((r.2.2.2.2.2.2.2.2.2.1 != (0 : Int)) && (decide (p.2.2.2.1 ≥ r.2.2.2.2.2.2.2.2.2.1))) then some (3 : Int)
  else Option.bind (movesList r p) fun r6 =>
  bif (decide (((r6.length : Nat) : Int) > (0 : Int))) then some (0 : Int)
  else bif (r.2.2.2.2.2.2.2.2.1 == (0 : Int)) then some (endsWins (w64 ((1 : Int) - p.2.2.1)))
  else bif (r.2.2.2.2.2.2.2.2.1 == (1 : Int)) then some (endsWins p.2.2.1)
  else some (3 : Int))))
  else some (Sum.inl (((w64 (x2.1.1 + (1 : Int))), ()), ())))
  else some (Sum.inr (Sum.inl ((), ())))
noncomputable def endsResult (r : ByteArray × Int × Int × (List (Int × Int × Int × (List (Int × Int × Int × Int × Unit)) × Unit)) × (List Int) × Bool × Bool × (List (Int × Int × Int × Bool × Unit)) × Int × Int × Int × Unit) (p : (List Int) × ((List Int) × (List Int) × Unit) × Int × Int × Unit) : Option (Int) :=
  Option.bind (α := ((Unit) × (Unit)) ⊕ Int) (iterW (endsResult_L1 r p) (((0 : Int), ()), ())) (Sum.elim (fun x7 =>
  bif ((r.2.2.2.2.2.2.2.2.2.1 != (0 : Int)) && (decide (p.2.2.2.1 ≥ r.2.2.2.2.2.2.2.2.2.1))) then some (3 : Int)
  else Option.bind (movesList r p) fun r8 =>
  bif (decide (((r8.length : Nat) : Int) > (0 : Int))) then some (0 : Int)
  else bif (r.2.2.2.2.2.2.2.2.1 == (0 : Int)) then some (endsWins (w64 ((1 : Int) - p.2.2.1)))
  else bif (r.2.2.2.2.2.2.2.2.1 == (1 : Int)) then some (endsWins p.2.2.1)
  else some (3 : Int)) some)
noncomputable def endsMoves (r : ByteArray × Int × Int × (List (Int × Int × Int × (List (Int × Int × Int × Int × Unit)) × Unit)) × (List Int) × Bool × Bool × (List (Int × Int × Int × Bool × Unit)) × Int × Int × Int × Unit) (p : (List Int) × ((List Int) × (List Int) × Unit) × Int × Int × Unit) : Option (List (Int × Int × Int × Unit)) :=
  Option.bind (endsResult r p) fun r3 =>
  bif (r3 != (0 : Int)) then some ([] : List (Int × Int × Int × Unit))
  else Option.bind (movesList r p) fun r4 =>
  some r4
noncomputable def zobMix_o (n : Int) : Option (Int) :=
  some (ixor .u64 (wu64 ((ixor .u64 (wu64 ((ixor .u64 (wu64 ((wu64 ((wu64 n) + (1 : Int))) * (11400714819323198485 : Int))) (shK .shr .u64 (wu64 ((wu64 ((wu64 n) + (1 : Int))) * (11400714819323198485 : Int))) (30 : Int))) * (13787848793156543929 : Int))) (shK .shr .u64 (wu64 ((ixor .u64 (wu64 ((wu64 ((wu64 n) + (1 : Int))) * (11400714819323198485 : Int))) (shK .shr .u64 (wu64 ((wu64 ((wu64 n) + (1 : Int))) * (11400714819323198485 : Int))) (30 : Int))) * (13787848793156543929 : Int))) (27 : Int))) * (10723151780598845931 : Int))) (shK .shr .u64 (wu64 ((ixor .u64 (wu64 ((ixor .u64 (wu64 ((wu64 ((wu64 n) + (1 : Int))) * (11400714819323198485 : Int))) (shK .shr .u64 (wu64 ((wu64 ((wu64 n) + (1 : Int))) * (11400714819323198485 : Int))) (30 : Int))) * (13787848793156543929 : Int))) (shK .shr .u64 (wu64 ((ixor .u64 (wu64 ((wu64 ((wu64 n) + (1 : Int))) * (11400714819323198485 : Int))) (shK .shr .u64 (wu64 ((wu64 ((wu64 n) + (1 : Int))) * (11400714819323198485 : Int))) (30 : Int))) * (13787848793156543929 : Int))) (27 : Int))) * (10723151780598845931 : Int))) (31 : Int)))
def zobMix (n : Int) : Int :=
  (ixor .u64 (wu64 ((ixor .u64 (wu64 ((ixor .u64 (wu64 ((wu64 ((wu64 n) + (1 : Int))) * (11400714819323198485 : Int))) (shK .shr .u64 (wu64 ((wu64 ((wu64 n) + (1 : Int))) * (11400714819323198485 : Int))) (30 : Int))) * (13787848793156543929 : Int))) (shK .shr .u64 (wu64 ((ixor .u64 (wu64 ((wu64 ((wu64 n) + (1 : Int))) * (11400714819323198485 : Int))) (shK .shr .u64 (wu64 ((wu64 ((wu64 n) + (1 : Int))) * (11400714819323198485 : Int))) (30 : Int))) * (13787848793156543929 : Int))) (27 : Int))) * (10723151780598845931 : Int))) (shK .shr .u64 (wu64 ((ixor .u64 (wu64 ((ixor .u64 (wu64 ((wu64 ((wu64 n) + (1 : Int))) * (11400714819323198485 : Int))) (shK .shr .u64 (wu64 ((wu64 ((wu64 n) + (1 : Int))) * (11400714819323198485 : Int))) (30 : Int))) * (13787848793156543929 : Int))) (shK .shr .u64 (wu64 ((ixor .u64 (wu64 ((wu64 ((wu64 n) + (1 : Int))) * (11400714819323198485 : Int))) (shK .shr .u64 (wu64 ((wu64 ((wu64 n) + (1 : Int))) * (11400714819323198485 : Int))) (30 : Int))) * (13787848793156543929 : Int))) (27 : Int))) * (10723151780598845931 : Int))) (31 : Int)))
theorem zobMix_eq (n : Int) : zobMix_o n = some (zobMix n) := by
  unfold zobMix_o zobMix
  first | rfl | simp only [cond_some]
noncomputable def rulesName_L1 (s : ByteArray) (x1 : (Int × Unit) × (Unit)) : Option (((Int × Unit) × (Unit)) ⊕ (((Unit) × (Unit)) ⊕ Bool)) :=
  bif (decide (x1.1.1 < ((s.size : Nat) : Int))) then (Option.bind (strAt s x1.1.1) fun c2 =>
  Option.bind (gopt (decide (((c2.toNat : Nat) : Int) ≥ (65 : Int))) 0 (strAt s x1.1.1)) fun c3 =>
  Option.bind (gopt ((!(x1.1.1 == (0 : Int))) && (!((decide (((c2.toNat : Nat) : Int) ≥ (65 : Int))) && (decide (((c3.toNat : Nat) : Int) ≤ (90 : Int)))))) 0 (strAt s x1.1.1)) fun c4 =>
  Option.bind (gopt ((!((x1.1.1 == (0 : Int)) || (decide (((c4.toNat : Nat) : Int) < (48 : Int))))) && (!((decide (((c2.toNat : Nat) : Int) ≥ (65 : Int))) && (decide (((c3.toNat : Nat) : Int) ≤ (90 : Int)))))) 0 (strAt s x1.1.1)) fun c5 =>
  bif ((!((decide (((c2.toNat : Nat) : Int) ≥ (65 : Int))) && (decide (((c3.toNat : Nat) : Int) ≤ (90 : Int))))) && (((x1.1.1 == (0 : Int)) || (decide (((c4.toNat : Nat) : Int) < (48 : Int)))) || (decide (((c5.toNat : Nat) : Int) > (57 : Int))))) then some (Sum.inr (Sum.inr false))
  else some (Sum.inl (((w64 (x1.1.1 + (1 : Int))), ()), ())))
  else some (Sum.inr (Sum.inl ((), ())))
noncomputable def rulesName (s : ByteArray) : Option (Bool) :=
  Option.bind (α := ((Unit) × (Unit)) ⊕ Bool) (iterW (rulesName_L1 s) (((0 : Int), ()), ())) (Sum.elim (fun x6 =>
  some ((!(s.toList == (ByteArray.mk #[]).toList)) && (decide (((s.size : Nat) : Int) ≤ (8 : Int))))) some)
noncomputable def rulesWithin_o (n : Int) (low : Int) (high : Int) : Option (Bool) :=
  some ((decide (n ≥ low)) && (decide (n ≤ high)))
def rulesWithin (n : Int) (low : Int) (high : Int) : Bool :=
  ((decide (n ≥ low)) && (decide (n ≤ high)))
theorem rulesWithin_eq (n : Int) (low : Int) (high : Int) : rulesWithin_o n low high = some (rulesWithin n low high) := by
  unfold rulesWithin_o rulesWithin
  first | rfl | simp only [cond_some]
noncomputable def rulesPieces_L3 (d2 : Int × Int × Int × (List (Int × Int × Int × Int × Unit)) × Unit) (x5 : (Int × Unit) × (Unit)) : Option (((Int × Unit) × (Unit)) ⊕ (((Unit) × (Unit)) ⊕ (((Unit) × (Unit)) ⊕ (((Int × Unit) × (Unit)) ⊕ (((Unit) × (Unit)) ⊕ Int))))) :=
  bif (decide (x5.1.1 < ((d2.2.2.2.1.length : Nat) : Int))) then (Option.bind (at? d2.2.2.2.1 x5.1.1) fun d6 =>
  bif (((((!(rulesWithin d6.1 (-7 : Int) (7 : Int))) || (!(rulesWithin d6.2.1 (-7 : Int) (7 : Int)))) || ((d6.1 == (0 : Int)) && (d6.2.1 == (0 : Int)))) || (!(rulesWithin d6.2.2.1 (1 : Int) (7 : Int)))) || (!(rulesWithin d6.2.2.2.1 (0 : Int) (2 : Int)))) then some (Sum.inr (Sum.inr (Sum.inr (Sum.inr (Sum.inr (4 : Int))))))
  else some (Sum.inl (((w64 (x5.1.1 + (1 : Int))), ()), ())))
  else some (Sum.inr (Sum.inl ((), ())))
noncomputable def rulesPieces_L2 (r : ByteArray × Int × Int × (List (Int × Int × Int × (List (Int × Int × Int × Int × Unit)) × Unit)) × (List Int) × Bool × Bool × (List (Int × Int × Int × Bool × Unit)) × Int × Int × Int × Unit) (x1 : (Int × Unit) × (Unit)) (d2 : Int × Int × Int × (List (Int × Int × Int × Int × Unit)) × Unit) (x3 : (Int × Unit) × (Unit)) : Option (((Int × Unit) × (Unit)) ⊕ (((Unit) × (Unit)) ⊕ (((Unit) × (Unit)) ⊕ (((Int × Unit) × (Unit)) ⊕ (((Unit) × (Unit)) ⊕ Int))))) :=
  bif (decide (x3.1.1 < ((((r.2.2.2.1.take (x1.1.1).toNat).drop 0).length : Nat) : Int))) then (Option.bind (at? ((r.2.2.2.1.take (x1.1.1).toNat).drop 0) x3.1.1) fun d4 =>
  bif (d4.1 == d2.1) then (Option.map Sum.inr (Option.map Sum.inr (bif (decide (x3.1.1 ≥ (0 : Int))) then some (Sum.inr (Sum.inr (Sum.inr (7 : Int))))
  else bif ((!(rulesWithin d2.2.1 (0 : Int) (64 : Int))) || (!(rulesWithin d2.2.2.1 (0 : Int) ((r.2.2.2.1.length : Nat) : Int)))) then some (Sum.inr (Sum.inr (Sum.inr (4 : Int))))
  else bif (decide (((d2.2.2.2.1.length : Nat) : Int) > (16 : Int))) then some (Sum.inr (Sum.inr (Sum.inr (2 : Int))))
  else Option.bind (α := ((Unit) × (Unit)) ⊕ (((Unit) × (Unit)) ⊕ (((Int × Unit) × (Unit)) ⊕ (((Unit) × (Unit)) ⊕ Int)))) (iterW (rulesPieces_L3 d2) (((0 : Int), ()), ())) (Sum.elim (fun x7 =>
  some (Sum.inl ((), ()))) some))))
  else some (Sum.inl (((w64 (x3.1.1 + (1 : Int))), ()), ())))
  else some (Sum.inr (Sum.inl ((), ())))
noncomputable def rulesPieces_L4 (d2 : Int × Int × Int × (List (Int × Int × Int × Int × Unit)) × Unit) (x9 : (Int × Unit) × (Unit)) : Option (((Int × Unit) × (Unit)) ⊕ (((Unit) × (Unit)) ⊕ (((Unit) × (Unit)) ⊕ (((Int × Unit) × (Unit)) ⊕ (((Unit) × (Unit)) ⊕ Int))))) :=
  bif (decide (x9.1.1 < ((d2.2.2.2.1.length : Nat) : Int))) then (Option.bind (at? d2.2.2.2.1 x9.1.1) fun d10 =>
  bif (((((!(rulesWithin d10.1 (-7 : Int) (7 : Int))) || (!(rulesWithin d10.2.1 (-7 : Int) (7 : Int)))) || ((d10.1 == (0 : Int)) && (d10.2.1 == (0 : Int)))) || (!(rulesWithin d10.2.2.1 (1 : Int) (7 : Int)))) || (!(rulesWithin d10.2.2.2.1 (0 : Int) (2 : Int)))) then some (Sum.inr (Sum.inr (Sum.inr (Sum.inr (Sum.inr (4 : Int))))))
  else some (Sum.inl (((w64 (x9.1.1 + (1 : Int))), ()), ())))
  else some (Sum.inr (Sum.inl ((), ())))
noncomputable def rulesPieces_L1 (r : ByteArray × Int × Int × (List (Int × Int × Int × (List (Int × Int × Int × Int × Unit)) × Unit)) × (List Int) × Bool × Bool × (List (Int × Int × Int × Bool × Unit)) × Int × Int × Int × Unit) (x1 : (Int × Unit) × (Unit)) : Option (((Int × Unit) × (Unit)) ⊕ (((Unit) × (Unit)) ⊕ Int)) :=
  bif (decide (x1.1.1 < ((r.2.2.2.1.length : Nat) : Int))) then (Option.bind (α := ((Unit) × (Unit)) ⊕ (((Int × Unit) × (Unit)) ⊕ (((Unit) × (Unit)) ⊕ Int))) (Option.bind (at? r.2.2.2.1 x1.1.1) fun d2 =>
  bif ((decide (d2.1 < (65 : Int))) || (decide (d2.1 > (90 : Int)))) then some (Sum.inr (Sum.inr (Sum.inr (6 : Int))))
  else req (boundsI (0 : Int) x1.1.1 r.2.2.2.1.length) (Option.bind (α := ((Unit) × (Unit)) ⊕ (((Unit) × (Unit)) ⊕ (((Int × Unit) × (Unit)) ⊕ (((Unit) × (Unit)) ⊕ Int)))) (iterW (rulesPieces_L2 r x1 d2) (((0 : Int), ()), ())) (Sum.elim (fun x8 =>
  bif ((!(rulesWithin d2.2.1 (0 : Int) (64 : Int))) || (!(rulesWithin d2.2.2.1 (0 : Int) ((r.2.2.2.1.length : Nat) : Int)))) then some (Sum.inr (Sum.inr (Sum.inr (4 : Int))))
  else bif (decide (((d2.2.2.2.1.length : Nat) : Int) > (16 : Int))) then some (Sum.inr (Sum.inr (Sum.inr (2 : Int))))
  else Option.bind (α := ((Unit) × (Unit)) ⊕ (((Unit) × (Unit)) ⊕ (((Int × Unit) × (Unit)) ⊕ (((Unit) × (Unit)) ⊕ Int)))) (iterW (rulesPieces_L4 d2) (((0 : Int), ()), ())) (Sum.elim (fun x11 =>
  some (Sum.inl ((), ()))) some)) some))) (Sum.elim (fun x12 =>
  some (Sum.inl (((w64 (x1.1.1 + (1 : Int))), ()), ()))) some))
  else some (Sum.inr (Sum.inl ((), ())))
noncomputable def rulesPieces (r : ByteArray × Int × Int × (List (Int × Int × Int × (List (Int × Int × Int × Int × Unit)) × Unit)) × (List Int) × Bool × Bool × (List (Int × Int × Int × Bool × Unit)) × Int × Int × Int × Unit) : Option (Int) :=
  bif (((r.2.2.2.1.length : Nat) : Int) == (0 : Int)) then some (8 : Int)
  else bif (decide (((r.2.2.2.1.length : Nat) : Int) > (6 : Int))) then some (2 : Int)
  else Option.bind (α := ((Unit) × (Unit)) ⊕ Int) (iterW (rulesPieces_L1 r) (((0 : Int), ()), ())) (Sum.elim (fun x13 =>
  some (0 : Int)) some)
noncomputable def rulesConditions_L1 (r : ByteArray × Int × Int × (List (Int × Int × Int × (List (Int × Int × Int × Int × Unit)) × Unit)) × (List Int) × Bool × Bool × (List (Int × Int × Int × Bool × Unit)) × Int × Int × Int × Unit) (x1 : (Int × Unit) × (Unit)) : Option (((Int × Unit) × (Unit)) ⊕ (((Unit) × (Unit)) ⊕ Int)) :=
  bif (decide (x1.1.1 < ((r.2.2.2.2.2.2.2.1.length : Nat) : Int))) then (Option.bind (at? r.2.2.2.2.2.2.2.1 x1.1.1) fun d2 =>
  Option.bind (α := ((Bool × Bool × Unit) × (Unit)) ⊕ (((Int × Unit) × (Unit)) ⊕ (((Unit) × (Unit)) ⊕ Int))) (bif (d2.1 == (0 : Int)) then some (Sum.inl (((rulesWithin d2.2.2.1 (1 : Int) (64 : Int)), (d2.2.1 == (0 : Int)), ()), ()))
  else Option.bind (α := ((Bool × Unit) × (Unit)) ⊕ (((Bool × Bool × Unit) × (Unit)) ⊕ (((Int × Unit) × (Unit)) ⊕ (((Unit) × (Unit)) ⊕ Int)))) (bif (d2.1 == (1 : Int)) then some (Sum.inl (((d2.2.2.1 == (0 : Int)), ()), ()))
  else bif (d2.1 == (2 : Int)) then some (Sum.inl (((rulesWithin d2.2.2.1 (1 : Int) (64 : Int)), ()), ()))
  else some (Sum.inr (Sum.inr (Sum.inr (Sum.inr (1 : Int)))))) (Sum.elim (fun x3 =>
  some (Sum.inl ((x3.1.1, (rulesWithin d2.2.1 (0 : Int) (w64 (((r.2.2.2.1.length : Nat) : Int) - (1 : Int)))), ()), ()))) some)) (Sum.elim (fun x4 =>
  bif ((!x4.1.1) || (!x4.1.2.1)) then some (Sum.inr (Sum.inr (4 : Int)))
  else some (Sum.inl (((w64 (x1.1.1 + (1 : Int))), ()), ()))) some))
  else some (Sum.inr (Sum.inl ((), ())))
noncomputable def rulesConditions (r : ByteArray × Int × Int × (List (Int × Int × Int × (List (Int × Int × Int × Int × Unit)) × Unit)) × (List Int) × Bool × Bool × (List (Int × Int × Int × Bool × Unit)) × Int × Int × Int × Unit) : Option (Int) :=
  bif (decide (((r.2.2.2.2.2.2.2.1.length : Nat) : Int) > (6 : Int))) then some (2 : Int)
  else Option.bind (α := ((Unit) × (Unit)) ⊕ Int) (iterW (rulesConditions_L1 r) (((0 : Int), ()), ())) (Sum.elim (fun x5 =>
  some (0 : Int)) some)
noncomputable def rulesCheck_L1 (r : ByteArray × Int × Int × (List (Int × Int × Int × (List (Int × Int × Int × Int × Unit)) × Unit)) × (List Int) × Bool × Bool × (List (Int × Int × Int × Bool × Unit)) × Int × Int × Int × Unit) (x6 : (Int × Unit) × (Unit)) : Option (((Int × Unit) × (Unit)) ⊕ (((Unit) × (Unit)) ⊕ Int)) :=
  bif (decide (x6.1.1 < ((r.2.2.2.2.1.length : Nat) : Int))) then (Option.bind (at? r.2.2.2.2.1 x6.1.1) fun d7 =>
  bif (!(rulesWithin d7 (0 : Int) (w64 ((2 : Int) * ((r.2.2.2.1.length : Nat) : Int))))) then (Option.map Sum.inr (Option.map Sum.inr (bif (decide (x6.1.1 ≥ (0 : Int))) then some (4 : Int)
  else Option.bind (rulesConditions r) fun r8 =>
  bif (r8 != (0 : Int)) then some r8
  else bif (((!(rulesWithin r.2.2.2.2.2.2.2.2.1 (0 : Int) (2 : Int))) || (!(rulesWithin r.2.2.2.2.2.2.2.2.2.1 (0 : Int) (200 : Int)))) || ((r.2.2.2.2.2.2.2.2.2.2.1 != (0 : Int)) && (!(rulesWithin r.2.2.2.2.2.2.2.2.2.2.1 (2 : Int) (5 : Int))))) then some (4 : Int)
  else some (0 : Int))))
  else some (Sum.inl (((w64 (x6.1.1 + (1 : Int))), ()), ())))
  else some (Sum.inr (Sum.inl ((), ())))
noncomputable def rulesCheck (r : ByteArray × Int × Int × (List (Int × Int × Int × (List (Int × Int × Int × Int × Unit)) × Unit)) × (List Int) × Bool × Bool × (List (Int × Int × Int × Bool × Unit)) × Int × Int × Int × Unit) : Option (Int) :=
  Option.bind (rulesName r.1) fun r4 =>
  bif (!r4) then some (6 : Int)
  else bif ((!(rulesWithin r.2.1 (1 : Int) (8 : Int))) || (!(rulesWithin r.2.2.1 (1 : Int) (8 : Int)))) then some (4 : Int)
  else Option.bind (rulesPieces r) fun r5 =>
  bif (r5 != (0 : Int)) then some r5
  else bif (((r.2.2.2.2.1.length : Nat) : Int) != (w64 (r.2.1 * r.2.2.1))) then some (3 : Int)
  else Option.bind (α := ((Unit) × (Unit)) ⊕ Int) (iterW (rulesCheck_L1 r) (((0 : Int), ()), ())) (Sum.elim (fun x9 =>
  Option.bind (rulesConditions r) fun r10 =>
  bif (r10 != (0 : Int)) then some r10
  else bif (((!(rulesWithin r.2.2.2.2.2.2.2.2.1 (0 : Int) (2 : Int))) || (!(rulesWithin r.2.2.2.2.2.2.2.2.2.1 (0 : Int) (200 : Int)))) || ((r.2.2.2.2.2.2.2.2.2.2.1 != (0 : Int)) && (!(rulesWithin r.2.2.2.2.2.2.2.2.2.2.1 (2 : Int) (5 : Int))))) then some (4 : Int)
  else some (0 : Int)) some)
noncomputable def slicesClone_int (s : List Int) : Option (List Int) :=
  bif (s.isEmpty) then (agree (some ([] : List Int)) (req (room (([] : List Int).length + s.length) 8) (some (([] : List Int) ++ s))))
  else req (room (([] : List Int).length + s.length) 8) (some (([] : List Int) ++ s))
noncomputable def placeBegin_L1 (r : ByteArray × Int × Int × (List (Int × Int × Int × (List (Int × Int × Int × Int × Unit)) × Unit)) × (List Int) × Bool × Bool × (List (Int × Int × Int × Bool × Unit)) × Int × Int × Int × Unit) (x5 : (Int × Unit) × (((List Int) × (List Int) × (List Int) × Int × Int × Unit) × Unit)) : Option (((Int × Unit) × (((List Int) × (List Int) × (List Int) × Int × Int × Unit) × Unit)) ⊕ ((Unit) × (((List Int) × (List Int) × (List Int) × Int × Int × Unit) × Unit))) :=
  bif (decide (x5.1.1 < ((r.2.2.2.1.length : Nat) : Int))) then (Option.bind (at? r.2.2.2.1 x5.1.1) fun d6 =>
  Option.bind (agree (agree (req (room (x5.2.1.2.1.length + ([d6.2.1]).length) 8) (req (room (x5.2.1.2.2.1.length + ([d6.2.1]).length) 8) (some ((), ((x5.2.1.1, ((x5.2.1.2.1 ++ [d6.2.1]), ((x5.2.1.2.2.1 ++ [d6.2.1]), x5.2.1.2.2.2))), ()))))) (agree (agree (req (room (x5.2.1.2.1.length + ([d6.2.1]).length) 8) (req (room (x5.2.1.2.2.1.length + ([d6.2.1]).length) 8) (some ((), ((x5.2.1.1, ((x5.2.1.2.1 ++ [d6.2.1]), ((x5.2.1.2.2.1 ++ [d6.2.1]), x5.2.1.2.2.2))), ()))))) (agree (req (room (x5.2.1.2.1.length + ([d6.2.1]).length) 8) (req (room (x5.2.1.2.2.1.length + ([d6.2.1]).length) 8) (some ((), ((x5.2.1.1, ((x5.2.1.2.1 ++ [d6.2.1]), ((x5.2.1.2.2.1 ++ [d6.2.1]), x5.2.1.2.2.2))), ()))))) (req (room (x5.2.1.2.1.length + ([d6.2.1]).length) 8) (req (room (x5.2.1.2.2.1.length + ([d6.2.1]).length) 8) (some ((), ((x5.2.1.1, ((x5.2.1.2.1 ++ [d6.2.1]), ((x5.2.1.2.2.1 ++ [d6.2.1]), x5.2.1.2.2.2))), ()))))))) (agree (req (room (x5.2.1.2.1.length + ([d6.2.1]).length) 8) (req (room (x5.2.1.2.2.1.length + ([d6.2.1]).length) 8) (some ((), ((x5.2.1.1, ((x5.2.1.2.1 ++ [d6.2.1]), ((x5.2.1.2.2.1 ++ [d6.2.1]), x5.2.1.2.2.2))), ()))))) (agree (agree (req (room (x5.2.1.2.1.length + ([d6.2.1]).length) 8) (req (room (x5.2.1.2.2.1.length + ([d6.2.1]).length) 8) (some ((), ((x5.2.1.1, ((x5.2.1.2.1 ++ [d6.2.1]), ((x5.2.1.2.2.1 ++ [d6.2.1]), x5.2.1.2.2.2))), ()))))) (req (room (x5.2.1.2.1.length + ([d6.2.1]).length) 8) (req (room (x5.2.1.2.2.1.length + ([d6.2.1]).length) 8) (some ((), ((x5.2.1.1, ((x5.2.1.2.1 ++ [d6.2.1]), ((x5.2.1.2.2.1 ++ [d6.2.1]), x5.2.1.2.2.2))), ())))))) (agree (req (room (x5.2.1.2.1.length + ([d6.2.1]).length) 8) (req (room (x5.2.1.2.2.1.length + ([d6.2.1]).length) 8) (some ((), ((x5.2.1.1, ((x5.2.1.2.1 ++ [d6.2.1]), ((x5.2.1.2.2.1 ++ [d6.2.1]), x5.2.1.2.2.2))), ()))))) (req (room (x5.2.1.2.1.length + ([d6.2.1]).length) 8) (req (room (x5.2.1.2.2.1.length + ([d6.2.1]).length) 8) (some ((), ((x5.2.1.1, ((x5.2.1.2.1 ++ [d6.2.1]), ((x5.2.1.2.2.1 ++ [d6.2.1]), x5.2.1.2.2.2))), ())))))))))) (agree (agree (agree (req (room (x5.2.1.2.1.length + ([d6.2.1]).length) 8) (req (room (x5.2.1.2.2.1.length + ([d6.2.1]).length) 8) (some ((), ((x5.2.1.1, ((x5.2.1.2.1 ++ [d6.2.1]), ((x5.2.1.2.2.1 ++ [d6.2.1]), x5.2.1.2.2.2))), ()))))) (agree (req (room (x5.2.1.2.1.length + ([d6.2.1]).length) 8) (req (room (x5.2.1.2.2.1.length + ([d6.2.1]).length) 8) (some ((), ((x5.2.1.1, ((x5.2.1.2.1 ++ [d6.2.1]), ((x5.2.1.2.2.1 ++ [d6.2.1]), x5.2.1.2.2.2))), ()))))) (req (room (x5.2.1.2.1.length + ([d6.2.1]).length) 8) (req (room (x5.2.1.2.2.1.length + ([d6.2.1]).length) 8) (some ((), ((x5.2.1.1, ((x5.2.1.2.1 ++ [d6.2.1]), ((x5.2.1.2.2.1 ++ [d6.2.1]), x5.2.1.2.2.2))), ()))))))) (agree (agree (req (room (x5.2.1.2.1.length + ([d6.2.1]).length) 8) (req (room (x5.2.1.2.2.1.length + ([d6.2.1]).length) 8) (some ((), ((x5.2.1.1, ((x5.2.1.2.1 ++ [d6.2.1]), ((x5.2.1.2.2.1 ++ [d6.2.1]), x5.2.1.2.2.2))), ()))))) (req (room (x5.2.1.2.1.length + ([d6.2.1]).length) 8) (req (room (x5.2.1.2.2.1.length + ([d6.2.1]).length) 8) (some ((), ((x5.2.1.1, ((x5.2.1.2.1 ++ [d6.2.1]), ((x5.2.1.2.2.1 ++ [d6.2.1]), x5.2.1.2.2.2))), ())))))) (req (room (x5.2.1.2.1.length + ([d6.2.1]).length) 8) (req (room (x5.2.1.2.2.1.length + ([d6.2.1]).length) 8) (some ((), ((x5.2.1.1, ((x5.2.1.2.1 ++ [d6.2.1]), ((x5.2.1.2.2.1 ++ [d6.2.1]), x5.2.1.2.2.2))), ()))))))) (agree (agree (req (room (x5.2.1.2.1.length + ([d6.2.1]).length) 8) (req (room (x5.2.1.2.2.1.length + ([d6.2.1]).length) 8) (some ((), ((x5.2.1.1, ((x5.2.1.2.1 ++ [d6.2.1]), ((x5.2.1.2.2.1 ++ [d6.2.1]), x5.2.1.2.2.2))), ()))))) (agree (agree (req (room (x5.2.1.2.1.length + ([d6.2.1]).length) 8) (req (room (x5.2.1.2.2.1.length + ([d6.2.1]).length) 8) (some ((), ((x5.2.1.1, ((x5.2.1.2.1 ++ [d6.2.1]), ((x5.2.1.2.2.1 ++ [d6.2.1]), x5.2.1.2.2.2))), ()))))) (req (room (x5.2.1.2.1.length + ([d6.2.1]).length) 8) (req (room (x5.2.1.2.2.1.length + ([d6.2.1]).length) 8) (some ((), ((x5.2.1.1, ((x5.2.1.2.1 ++ [d6.2.1]), ((x5.2.1.2.2.1 ++ [d6.2.1]), x5.2.1.2.2.2))), ())))))) (agree (req (room (x5.2.1.2.1.length + ([d6.2.1]).length) 8) (req (room (x5.2.1.2.2.1.length + ([d6.2.1]).length) 8) (some ((), ((x5.2.1.1, ((x5.2.1.2.1 ++ [d6.2.1]), ((x5.2.1.2.2.1 ++ [d6.2.1]), x5.2.1.2.2.2))), ()))))) (req (room (x5.2.1.2.1.length + ([d6.2.1]).length) 8) (req (room (x5.2.1.2.2.1.length + ([d6.2.1]).length) 8) (some ((), ((x5.2.1.1, ((x5.2.1.2.1 ++ [d6.2.1]), ((x5.2.1.2.2.1 ++ [d6.2.1]), x5.2.1.2.2.2))), ())))))))) (agree (agree (agree (req (room (x5.2.1.2.1.length + ([d6.2.1]).length) 8) (req (room (x5.2.1.2.2.1.length + ([d6.2.1]).length) 8) (some ((), ((x5.2.1.1, ((x5.2.1.2.1 ++ [d6.2.1]), ((x5.2.1.2.2.1 ++ [d6.2.1]), x5.2.1.2.2.2))), ()))))) (req (room (x5.2.1.2.1.length + ([d6.2.1]).length) 8) (req (room (x5.2.1.2.2.1.length + ([d6.2.1]).length) 8) (some ((), ((x5.2.1.1, ((x5.2.1.2.1 ++ [d6.2.1]), ((x5.2.1.2.2.1 ++ [d6.2.1]), x5.2.1.2.2.2))), ())))))) (req (room (x5.2.1.2.1.length + ([d6.2.1]).length) 8) (req (room (x5.2.1.2.2.1.length + ([d6.2.1]).length) 8) (some ((), ((x5.2.1.1, ((x5.2.1.2.1 ++ [d6.2.1]), ((x5.2.1.2.2.1 ++ [d6.2.1]), x5.2.1.2.2.2))), ())))))) (agree (agree (req (room (x5.2.1.2.1.length + ([d6.2.1]).length) 8) (req (room (x5.2.1.2.2.1.length + ([d6.2.1]).length) 8) (some ((), ((x5.2.1.1, ((x5.2.1.2.1 ++ [d6.2.1]), ((x5.2.1.2.2.1 ++ [d6.2.1]), x5.2.1.2.2.2))), ()))))) (req (room (x5.2.1.2.1.length + ([d6.2.1]).length) 8) (req (room (x5.2.1.2.2.1.length + ([d6.2.1]).length) 8) (some ((), ((x5.2.1.1, ((x5.2.1.2.1 ++ [d6.2.1]), ((x5.2.1.2.2.1 ++ [d6.2.1]), x5.2.1.2.2.2))), ())))))) (req (room (x5.2.1.2.1.length + ([d6.2.1]).length) 8) (req (room (x5.2.1.2.2.1.length + ([d6.2.1]).length) 8) (some ((), ((x5.2.1.1, ((x5.2.1.2.1 ++ [d6.2.1]), ((x5.2.1.2.2.1 ++ [d6.2.1]), x5.2.1.2.2.2))), ())))))))))) fun x7 =>
  some (Sum.inl (((w64 (x5.1.1 + (1 : Int))), ()), ((x7.2.1.1, (x7.2.1.2.1, (x7.2.1.2.2.1, x7.2.1.2.2.2))), ()))))
  else some (Sum.inr ((), ((x5.2.1.1, (x5.2.1.2.1, (x5.2.1.2.2.1, x5.2.1.2.2.2))), ())))
noncomputable def placeBegin (r : ByteArray × Int × Int × (List (Int × Int × Int × (List (Int × Int × Int × Int × Unit)) × Unit)) × (List Int) × Bool × Bool × (List (Int × Int × Int × Bool × Unit)) × Int × Int × Int × Unit) : Option (((List Int) × ((List Int) × (List Int) × Unit) × Int × Int × Unit) × Int × Unit) :=
  Option.bind (rulesCheck r) fun r3 =>
  bif (r3 != (0 : Int)) then some ((([] : List Int), ((([] : List Int), (([] : List Int), ())), ((0 : Int), ((0 : Int), ())))), (r3, ()))
  else Option.bind (slicesClone_int r.2.2.2.2.1) fun r4 =>
  Option.bind (iterW (placeBegin_L1 r) (((0 : Int), ()), ((r4, (([] : List Int), (([] : List Int), ((0 : Int), ((0 : Int), ()))))), ()))) fun x8 =>
  some ((x8.2.1.1, ((x8.2.1.2.1, (x8.2.1.2.2.1, ())), x8.2.1.2.2.2)), ((0 : Int), ()))
noncomputable def slicesConcat_int_L1 (slices : List (List Int)) (x1 : (Int × Int × Unit) × (Unit)) : Option (((Int × Int × Unit) × (Unit)) ⊕ ((Int × Unit) × (Unit))) :=
  bif (decide (x1.1.2.1 < ((slices.length : Nat) : Int))) then (Option.bind (at? slices x1.1.2.1) fun d2 =>
  bif (decide ((w64 (x1.1.1 + ((d2.length : Nat) : Int))) < (0 : Int))) then none
  else some (Sum.inl (((w64 (x1.1.1 + ((d2.length : Nat) : Int))), (w64 (x1.1.2.1 + (1 : Int))), ()), ())))
  else some (Sum.inr ((x1.1.1, ()), ()))
noncomputable def slicesConcat_int_L2 (slices : List (List Int)) (x5 : ((List Int) × Int × Unit) × (Unit)) : Option ((((List Int) × Int × Unit) × (Unit)) ⊕ (((List Int) × Unit) × (Unit))) :=
  bif (decide (x5.1.2.1 < ((slices.length : Nat) : Int))) then (Option.bind (at? slices x5.1.2.1) fun d6 =>
  req (room (x5.1.1.length + d6.length) 8) (some (Sum.inl (((x5.1.1 ++ d6), (w64 (x5.1.2.1 + (1 : Int))), ()), ()))))
  else some (Sum.inr ((x5.1.1, ()), ()))
noncomputable def slicesConcat_int (slices : List (List Int)) : Option (List Int) :=
  Option.bind (iterW (slicesConcat_int_L1 slices) (((0 : Int), (0 : Int), ()), ())) fun x3 =>
  bif (decide (x3.1.1 < (0 : Int))) then none
  else Option.bind (bif (decide ((w64 (x3.1.1 - (0 : Int))) > (0 : Int))) then req (decide (0 < (w64 (x3.1.1 - (0 : Int)))) && room ((w64 (x3.1.1 - (0 : Int)))).toNat 8) (req (boundsI 0 (0 : Int) (List.replicate ((w64 (x3.1.1 - (0 : Int)))).toNat (0 : Int)).length) (some ((((List.replicate ((w64 (x3.1.1 - (0 : Int)))).toNat (0 : Int)).take 0), ()), ())))
  else some ((([] : List Int), ()), ())) fun x4 =>
  Option.bind (iterW (slicesConcat_int_L2 slices) ((x4.1.1, (0 : Int), ()), ())) fun x7 =>
  some x7.1.1
noncomputable def placeSound_L2 (r2 : List Int) (p : (List Int) × ((List Int) × (List Int) × Unit) × Int × Int × Unit) (x5 : (Int × Unit) × (Unit)) : Option (((Int × Unit) × (Unit)) ⊕ (((Unit) × (Unit)) ⊕ ((Bool × Unit) × (Unit)))) :=
  bif (decide (x5.1.1 < ((r2.length : Nat) : Int))) then (req (inb x5.1.1 r2.length) (bif ((decide ((getD' r2 ((x5.1.1).toNat) (0 : Int)) < (0 : Int))) || (decide ((getD' r2 ((x5.1.1).toNat) (0 : Int)) > (1000 : Int)))) then some (Sum.inr (Sum.inr ((((((decide (x5.1.1 ≥ (0 : Int))) || ((p.2.2.1 != (0 : Int)) && (p.2.2.1 != (1 : Int)))) || (decide (p.2.2.2.1 < (0 : Int)))) || (decide (p.2.2.2.1 > (200 : Int)))), ()), ())))
  else some (Sum.inl (((w64 (x5.1.1 + (1 : Int))), ()), ()))))
  else some (Sum.inr (Sum.inl ((), ())))
noncomputable def placeSound_L1 (p : (List Int) × ((List Int) × (List Int) × Unit) × Int × Int × Unit) (r : ByteArray × Int × Int × (List (Int × Int × Int × (List (Int × Int × Int × Int × Unit)) × Unit)) × (List Int) × Bool × Bool × (List (Int × Int × Int × Bool × Unit)) × Int × Int × Int × Unit) (r2 : List Int) (x3 : (Int × Unit) × (Unit)) : Option (((Int × Unit) × (Unit)) ⊕ (((Unit) × (Unit)) ⊕ ((Bool × Unit) × (Unit)))) :=
  bif (decide (x3.1.1 < ((p.1.length : Nat) : Int))) then (Option.bind (at? p.1 x3.1.1) fun d4 =>
  bif ((decide (d4 < (0 : Int))) || (decide (d4 > (w64 ((2 : Int) * ((r.2.2.2.1.length : Nat) : Int)))))) then (Option.map Sum.inr (Option.map Sum.inr (bif (decide (x3.1.1 ≥ (0 : Int))) then some ((true, ()), ())
  else Option.bind (α := ((Unit) × (Unit)) ⊕ ((Bool × Unit) × (Unit))) (iterW (placeSound_L2 r2 p) (((0 : Int), ()), ())) (Sum.elim (fun x6 =>
  some ((((((p.2.2.1 != (0 : Int)) && (p.2.2.1 != (1 : Int))) || (decide (p.2.2.2.1 < (0 : Int)))) || (decide (p.2.2.2.1 > (200 : Int)))), ()), ())) some))))
  else some (Sum.inl (((w64 (x3.1.1 + (1 : Int))), ()), ())))
  else some (Sum.inr (Sum.inl ((), ())))
noncomputable def placeSound_L3 (r2 : List Int) (p : (List Int) × ((List Int) × (List Int) × Unit) × Int × Int × Unit) (x8 : (Int × Unit) × (Unit)) : Option (((Int × Unit) × (Unit)) ⊕ (((Unit) × (Unit)) ⊕ ((Bool × Unit) × (Unit)))) :=
  bif (decide (x8.1.1 < ((r2.length : Nat) : Int))) then (req (inb x8.1.1 r2.length) (bif ((decide ((getD' r2 ((x8.1.1).toNat) (0 : Int)) < (0 : Int))) || (decide ((getD' r2 ((x8.1.1).toNat) (0 : Int)) > (1000 : Int)))) then some (Sum.inr (Sum.inr ((((((decide (x8.1.1 ≥ (0 : Int))) || ((p.2.2.1 != (0 : Int)) && (p.2.2.1 != (1 : Int)))) || (decide (p.2.2.2.1 < (0 : Int)))) || (decide (p.2.2.2.1 > (200 : Int)))), ()), ())))
  else some (Sum.inl (((w64 (x8.1.1 + (1 : Int))), ()), ()))))
  else some (Sum.inr (Sum.inl ((), ())))
noncomputable def placeSound_L5 (r2 : List Int) (p : (List Int) × ((List Int) × (List Int) × Unit) × Int × Int × Unit) (x12 : (Int × Unit) × (Unit)) : Option (((Int × Unit) × (Unit)) ⊕ (((Unit) × (Unit)) ⊕ ((Bool × Unit) × (Unit)))) :=
  bif (decide (x12.1.1 < ((r2.length : Nat) : Int))) then (req (inb x12.1.1 r2.length) (bif ((decide ((getD' r2 ((x12.1.1).toNat) (0 : Int)) < (0 : Int))) || (decide ((getD' r2 ((x12.1.1).toNat) (0 : Int)) > (1000 : Int)))) then some (Sum.inr (Sum.inr ((((((decide (x12.1.1 ≥ (0 : Int))) || ((p.2.2.1 != (0 : Int)) && (p.2.2.1 != (1 : Int)))) || (decide (p.2.2.2.1 < (0 : Int)))) || (decide (p.2.2.2.1 > (200 : Int)))), ()), ())))
  else some (Sum.inl (((w64 (x12.1.1 + (1 : Int))), ()), ()))))
  else some (Sum.inr (Sum.inl ((), ())))
noncomputable def placeSound_L4 (p : (List Int) × ((List Int) × (List Int) × Unit) × Int × Int × Unit) (r : ByteArray × Int × Int × (List (Int × Int × Int × (List (Int × Int × Int × Int × Unit)) × Unit)) × (List Int) × Bool × Bool × (List (Int × Int × Int × Bool × Unit)) × Int × Int × Int × Unit) (r2 : List Int) (x10 : (Int × Unit) × (Unit)) : Option (((Int × Unit) × (Unit)) ⊕ (((Unit) × (Unit)) ⊕ ((Bool × Unit) × (Unit)))) :=
  bif (decide (x10.1.1 < ((p.1.length : Nat) : Int))) then (Option.bind (at? p.1 x10.1.1) fun d11 =>
  bif ((decide (d11 < (0 : Int))) || (decide (d11 > (w64 ((2 : Int) * ((r.2.2.2.1.length : Nat) : Int)))))) then (Option.map Sum.inr (Option.map Sum.inr (bif (decide (x10.1.1 ≥ (0 : Int))) then some ((true, ()), ())
  else Option.bind (α := ((Unit) × (Unit)) ⊕ ((Bool × Unit) × (Unit))) (iterW (placeSound_L5 r2 p) (((0 : Int), ()), ())) (Sum.elim (fun x13 =>
  some ((((((p.2.2.1 != (0 : Int)) && (p.2.2.1 != (1 : Int))) || (decide (p.2.2.2.1 < (0 : Int)))) || (decide (p.2.2.2.1 > (200 : Int)))), ()), ())) some))))
  else some (Sum.inl (((w64 (x10.1.1 + (1 : Int))), ()), ())))
  else some (Sum.inr (Sum.inl ((), ())))
noncomputable def placeSound_L6 (r2 : List Int) (p : (List Int) × ((List Int) × (List Int) × Unit) × Int × Int × Unit) (x15 : (Int × Unit) × (Unit)) : Option (((Int × Unit) × (Unit)) ⊕ (((Unit) × (Unit)) ⊕ ((Bool × Unit) × (Unit)))) :=
  bif (decide (x15.1.1 < ((r2.length : Nat) : Int))) then (req (inb x15.1.1 r2.length) (bif ((decide ((getD' r2 ((x15.1.1).toNat) (0 : Int)) < (0 : Int))) || (decide ((getD' r2 ((x15.1.1).toNat) (0 : Int)) > (1000 : Int)))) then some (Sum.inr (Sum.inr ((((((decide (x15.1.1 ≥ (0 : Int))) || ((p.2.2.1 != (0 : Int)) && (p.2.2.1 != (1 : Int)))) || (decide (p.2.2.2.1 < (0 : Int)))) || (decide (p.2.2.2.1 > (200 : Int)))), ()), ())))
  else some (Sum.inl (((w64 (x15.1.1 + (1 : Int))), ()), ()))))
  else some (Sum.inr (Sum.inl ((), ())))
noncomputable def placeSound (r : ByteArray × Int × Int × (List (Int × Int × Int × (List (Int × Int × Int × Int × Unit)) × Unit)) × (List Int) × Bool × Bool × (List (Int × Int × Int × Bool × Unit)) × Int × Int × Int × Unit) (p : (List Int) × ((List Int) × (List Int) × Unit) × Int × Int × Unit) : Option (Int) :=
  bif (((((p.1.length : Nat) : Int) != (w64 (r.2.1 * r.2.2.1))) || (((p.2.1.1.length : Nat) : Int) != ((r.2.2.2.1.length : Nat) : Int))) || (((p.2.1.2.1.length : Nat) : Int) != ((r.2.2.2.1.length : Nat) : Int))) then some (3 : Int)
  else Option.bind (slicesConcat_int ([p.2.1.1, p.2.1.2.1])) fun r2 =>
  Option.bind (agree (Option.bind (α := ((Unit) × (Unit)) ⊕ ((Bool × Unit) × (Unit))) (iterW (placeSound_L1 p r r2) (((0 : Int), ()), ())) (Sum.elim (fun x7 =>
  Option.bind (α := ((Unit) × (Unit)) ⊕ ((Bool × Unit) × (Unit))) (iterW (placeSound_L3 r2 p) (((0 : Int), ()), ())) (Sum.elim (fun x9 =>
  some ((((((p.2.2.1 != (0 : Int)) && (p.2.2.1 != (1 : Int))) || (decide (p.2.2.2.1 < (0 : Int)))) || (decide (p.2.2.2.1 > (200 : Int)))), ()), ())) some)) some)) (Option.bind (α := ((Unit) × (Unit)) ⊕ ((Bool × Unit) × (Unit))) (iterW (placeSound_L4 p r r2) (((0 : Int), ()), ())) (Sum.elim (fun x14 =>
  Option.bind (α := ((Unit) × (Unit)) ⊕ ((Bool × Unit) × (Unit))) (iterW (placeSound_L6 r2 p) (((0 : Int), ()), ())) (Sum.elim (fun x16 =>
  some ((((((p.2.2.1 != (0 : Int)) && (p.2.2.1 != (1 : Int))) || (decide (p.2.2.2.1 < (0 : Int)))) || (decide (p.2.2.2.1 > (200 : Int)))), ()), ())) some)) some))) fun x17 =>
  bif x17.1.1 then some (4 : Int)
  else some (0 : Int)
noncomputable def placeCheck (r : ByteArray × Int × Int × (List (Int × Int × Int × (List (Int × Int × Int × Int × Unit)) × Unit)) × (List Int) × Bool × Bool × (List (Int × Int × Int × Bool × Unit)) × Int × Int × Int × Unit) (p : (List Int) × ((List Int) × (List Int) × Unit) × Int × Int × Unit) : Option (Int) :=
  Option.bind (rulesCheck r) fun r3 =>
  bif (r3 != (0 : Int)) then some r3
  else Option.bind (placeSound r p) fun r4 =>
  some r4
noncomputable def slicesEqual_int_L1 (s1 : List Int) (s2 : List Int) (x1 : (Int × Unit) × (Unit)) : Option (((Int × Unit) × (Unit)) ⊕ (((Unit) × (Unit)) ⊕ Bool)) :=
  bif (decide (x1.1.1 < ((s1.length : Nat) : Int))) then (Option.bind (at? s1 x1.1.1) fun d2 =>
  Option.bind (at? s2 x1.1.1) fun d3 =>
  bif (d2 != d3) then some (Sum.inr (Sum.inr false))
  else some (Sum.inl (((w64 (x1.1.1 + (1 : Int))), ()), ())))
  else some (Sum.inr (Sum.inl ((), ())))
noncomputable def slicesEqual_int (s1 : List Int) (s2 : List Int) : Option (Bool) :=
  bif (((s1.length : Nat) : Int) != ((s2.length : Nat) : Int)) then some false
  else Option.bind (α := ((Unit) × (Unit)) ⊕ Bool) (iterW (slicesEqual_int_L1 s1 s2) (((0 : Int), ()), ())) (Sum.elim (fun x4 =>
  some true) some)
noncomputable def placeSame (p : (List Int) × ((List Int) × (List Int) × Unit) × Int × Int × Unit) (q : (List Int) × ((List Int) × (List Int) × Unit) × Int × Int × Unit) : Option (Bool) :=
  Option.bind (slicesEqual_int p.1 q.1) fun r4 =>
  Option.bind (gopt r4 false (slicesEqual_int p.2.1.1 q.2.1.1)) fun r5 =>
  Option.bind (gopt (r4 && r5) false (slicesEqual_int p.2.1.2.1 q.2.1.2.1)) fun r6 =>
  some (((r4 && r5) && r6) && (p.2.2.1 == q.2.2.1))
noncomputable def ref1In_o (n : Int) (low : Int) (high : Int) : Option (Bool) :=
  some ((decide (n ≥ low)) && (decide (n ≤ high)))
def ref1In (n : Int) (low : Int) (high : Int) : Bool :=
  ((decide (n ≥ low)) && (decide (n ≤ high)))
theorem ref1In_eq (n : Int) (low : Int) (high : Int) : ref1In_o n low high = some (ref1In n low high) := by
  unfold ref1In_o ref1In
  first | rfl | simp only [cond_some]
noncomputable def ref1Named_L1 (s : ByteArray) (x1 : (Int × Unit) × (Unit)) : Option (((Int × Unit) × (Unit)) ⊕ (((Unit) × (Unit)) ⊕ Bool)) :=
  bif (decide (x1.1.1 < ((s.size : Nat) : Int))) then (Option.bind (strAt s x1.1.1) fun c2 =>
  Option.bind (gopt (!(ref1In (w64 ((c2.toNat : Nat) : Int)) (48 : Int) (57 : Int))) 0 (strAt s x1.1.1)) fun c3 =>
  bif (((!(ref1In (w64 ((c2.toNat : Nat) : Int)) (48 : Int) (57 : Int))) && (!(ref1In (w64 ((c3.toNat : Nat) : Int)) (65 : Int) (90 : Int)))) || ((ref1In (w64 ((c2.toNat : Nat) : Int)) (48 : Int) (57 : Int)) && (x1.1.1 == (0 : Int)))) then some (Sum.inr (Sum.inr false))
  else some (Sum.inl (((w64 (x1.1.1 + (1 : Int))), ()), ())))
  else some (Sum.inr (Sum.inl ((), ())))
noncomputable def ref1Named (s : ByteArray) : Option (Bool) :=
  Option.bind (α := ((Unit) × (Unit)) ⊕ Bool) (iterW (ref1Named_L1 s) (((0 : Int), ()), ())) (Sum.elim (fun x4 =>
  some (ref1In ((s.size : Nat) : Int) (1 : Int) (8 : Int))) some)
noncomputable def ref1PieceError_L1 (i : Int) (l : List (Int × Int × Int × (List (Int × Int × Int × Int × Unit)) × Unit)) (d2 : Int × Int × Int × (List (Int × Int × Int × Int × Unit)) × Unit) (x3 : (Int × Unit) × (Unit)) : Option (((Int × Unit) × (Unit)) ⊕ (((Unit) × (Unit)) ⊕ Int)) :=
  bif (decide (x3.1.1 < i)) then (Option.bind (at? l x3.1.1) fun d4 =>
  bif (d4.1 == d2.1) then some (Sum.inr (Sum.inr (7 : Int)))
  else some (Sum.inl (((w64 (x3.1.1 + (1 : Int))), ()), ())))
  else some (Sum.inr (Sum.inl ((), ())))
noncomputable def ref1PieceError_L2 (d2 : Int × Int × Int × (List (Int × Int × Int × Int × Unit)) × Unit) (x6 : (Int × Unit) × (Unit)) : Option (((Int × Unit) × (Unit)) ⊕ (((Unit) × (Unit)) ⊕ Int)) :=
  bif (decide (x6.1.1 < ((d2.2.2.2.1.length : Nat) : Int))) then (Option.bind (at? d2.2.2.2.1 x6.1.1) fun d7 =>
  bif (((((!(ref1In d7.1 (-7 : Int) (7 : Int))) || (!(ref1In d7.2.1 (-7 : Int) (7 : Int)))) || ((d7.1 == (0 : Int)) && (d7.2.1 == (0 : Int)))) || (!(ref1In d7.2.2.1 (1 : Int) (7 : Int)))) || (!(ref1In d7.2.2.2.1 (0 : Int) (2 : Int)))) then some (Sum.inr (Sum.inr (4 : Int)))
  else some (Sum.inl (((w64 (x6.1.1 + (1 : Int))), ()), ())))
  else some (Sum.inr (Sum.inl ((), ())))
noncomputable def ref1PieceError (l : List (Int × Int × Int × (List (Int × Int × Int × Int × Unit)) × Unit)) (i : Int) : Option (Int) :=
  Option.bind (at? l i) fun d2 =>
  bif (!(ref1In (w64 d2.1) (65 : Int) (90 : Int))) then some (6 : Int)
  else Option.bind (α := ((Unit) × (Unit)) ⊕ Int) (iterW (ref1PieceError_L1 i l d2) (((0 : Int), ()), ())) (Sum.elim (fun x5 =>
  bif ((!(ref1In d2.2.1 (0 : Int) (64 : Int))) || (!(ref1In d2.2.2.1 (0 : Int) ((l.length : Nat) : Int)))) then some (4 : Int)
  else bif (decide (((d2.2.2.2.1.length : Nat) : Int) > (16 : Int))) then some (2 : Int)
  else Option.bind (α := ((Unit) × (Unit)) ⊕ Int) (iterW (ref1PieceError_L2 d2) (((0 : Int), ()), ())) (Sum.elim (fun x8 =>
  some (0 : Int)) some)) some)
noncomputable def ref1RulesError_L1 (r : ByteArray × Int × Int × (List (Int × Int × Int × (List (Int × Int × Int × Int × Unit)) × Unit)) × (List Int) × Bool × Bool × (List (Int × Int × Int × Bool × Unit)) × Int × Int × Int × Unit) (x3 : (Int × Unit) × (Unit)) : Option (((Int × Unit) × (Unit)) ⊕ (((Unit) × (Unit)) ⊕ Int)) :=
  bif (decide (x3.1.1 < ((r.2.2.2.1.length : Nat) : Int))) then (Option.bind (ref1PieceError r.2.2.2.1 x3.1.1) fun r4 =>
  bif (r4 != (0 : Int)) then some (Sum.inr (Sum.inr r4))
  else some (Sum.inl (((w64 (x3.1.1 + (1 : Int))), ()), ())))
  else some (Sum.inr (Sum.inl ((), ())))
noncomputable def ref1RulesError_L2 (r : ByteArray × Int × Int × (List (Int × Int × Int × (List (Int × Int × Int × Int × Unit)) × Unit)) × (List Int) × Bool × Bool × (List (Int × Int × Int × Bool × Unit)) × Int × Int × Int × Unit) (x6 : (Int × Unit) × (Unit)) : Option (((Int × Unit) × (Unit)) ⊕ (((Unit) × (Unit)) ⊕ Int)) :=
  bif (decide (x6.1.1 < ((r.2.2.2.2.1.length : Nat) : Int))) then (Option.bind (at? r.2.2.2.2.1 x6.1.1) fun d7 =>
  bif (!(ref1In d7 (0 : Int) (w64 ((2 : Int) * ((r.2.2.2.1.length : Nat) : Int))))) then some (Sum.inr (Sum.inr (4 : Int)))
  else some (Sum.inl (((w64 (x6.1.1 + (1 : Int))), ()), ())))
  else some (Sum.inr (Sum.inl ((), ())))
noncomputable def ref1RulesError_L3 (r : ByteArray × Int × Int × (List (Int × Int × Int × (List (Int × Int × Int × Int × Unit)) × Unit)) × (List Int) × Bool × Bool × (List (Int × Int × Int × Bool × Unit)) × Int × Int × Int × Unit) (x9 : (Int × Unit) × (Unit)) : Option (((Int × Unit) × (Unit)) ⊕ (((Unit) × (Unit)) ⊕ Int)) :=
  bif (decide (x9.1.1 < ((r.2.2.2.2.2.2.2.1.length : Nat) : Int))) then (Option.bind (at? r.2.2.2.2.2.2.2.1 x9.1.1) fun d10 =>
  bif (!(ref1In d10.1 (0 : Int) (2 : Int))) then some (Sum.inr (Sum.inr (1 : Int)))
  else Option.bind (bif (d10.1 == (1 : Int)) then some (((d10.2.2.1 == (0 : Int)), ()), ())
  else some (((ref1In d10.2.2.1 (1 : Int) (64 : Int)), ()), ())) fun x11 =>
  Option.bind (bif (d10.1 == (0 : Int)) then some (((d10.2.1 == (0 : Int)), ()), ())
  else some (((ref1In d10.2.1 (0 : Int) (w64 (((r.2.2.2.1.length : Nat) : Int) - (1 : Int)))), ()), ())) fun x12 =>
  bif ((!x11.1.1) || (!x12.1.1)) then some (Sum.inr (Sum.inr (4 : Int)))
  else some (Sum.inl (((w64 (x9.1.1 + (1 : Int))), ()), ())))
  else some (Sum.inr (Sum.inl ((), ())))
noncomputable def ref1RulesError (r : ByteArray × Int × Int × (List (Int × Int × Int × (List (Int × Int × Int × Int × Unit)) × Unit)) × (List Int) × Bool × Bool × (List (Int × Int × Int × Bool × Unit)) × Int × Int × Int × Unit) : Option (Int) :=
  Option.bind (ref1Named r.1) fun r2 =>
  bif (!r2) then some (6 : Int)
  else bif ((!(ref1In r.2.1 (1 : Int) (8 : Int))) || (!(ref1In r.2.2.1 (1 : Int) (8 : Int)))) then some (4 : Int)
  else bif (((r.2.2.2.1.length : Nat) : Int) == (0 : Int)) then some (8 : Int)
  else bif (decide (((r.2.2.2.1.length : Nat) : Int) > (6 : Int))) then some (2 : Int)
  else Option.bind (α := ((Unit) × (Unit)) ⊕ Int) (iterW (ref1RulesError_L1 r) (((0 : Int), ()), ())) (Sum.elim (fun x5 =>
  bif (((r.2.2.2.2.1.length : Nat) : Int) != (w64 (r.2.1 * r.2.2.1))) then some (3 : Int)
  else Option.bind (α := ((Unit) × (Unit)) ⊕ Int) (iterW (ref1RulesError_L2 r) (((0 : Int), ()), ())) (Sum.elim (fun x8 =>
  bif (decide (((r.2.2.2.2.2.2.2.1.length : Nat) : Int) > (6 : Int))) then some (2 : Int)
  else Option.bind (α := ((Unit) × (Unit)) ⊕ Int) (iterW (ref1RulesError_L3 r) (((0 : Int), ()), ())) (Sum.elim (fun x13 =>
  bif (((!(ref1In r.2.2.2.2.2.2.2.2.1 (0 : Int) (2 : Int))) || (!(ref1In r.2.2.2.2.2.2.2.2.2.1 (0 : Int) (200 : Int)))) || ((r.2.2.2.2.2.2.2.2.2.2.1 != (0 : Int)) && (!(ref1In r.2.2.2.2.2.2.2.2.2.2.1 (2 : Int) (5 : Int))))) then some (4 : Int)
  else some (0 : Int)) some)) some)) some)
noncomputable def ref1PlaceError_L1 (p : (List Int) × ((List Int) × (List Int) × Unit) × Int × Int × Unit) (r : ByteArray × Int × Int × (List (Int × Int × Int × (List (Int × Int × Int × Int × Unit)) × Unit)) × (List Int) × Bool × Bool × (List (Int × Int × Int × Bool × Unit)) × Int × Int × Int × Unit) (x3 : (Bool × Int × Unit) × (Unit)) : Option (((Bool × Int × Unit) × (Unit)) ⊕ ((Bool × Unit) × (Unit))) :=
  bif (decide (x3.1.2.1 < ((p.1.length : Nat) : Int))) then (Option.bind (at? p.1 x3.1.2.1) fun d4 =>
  some (Sum.inl (((x3.1.1 && (ref1In d4 (0 : Int) (w64 ((2 : Int) * ((r.2.2.2.1.length : Nat) : Int))))), (w64 (x3.1.2.1 + (1 : Int))), ()), ())))
  else some (Sum.inr ((x3.1.1, ()), ()))
noncomputable def ref1PlaceError_L3 (p : (List Int) × ((List Int) × (List Int) × Unit) × Int × Int × Unit) (x6 : (Bool × Int × Unit) × (Unit)) (x7 : (Bool × Int × Unit) × (Unit)) : Option (((Bool × Int × Unit) × (Unit)) ⊕ ((Bool × Unit) × (Unit))) :=
  bif (decide (x7.1.2.1 < (((getD' [p.2.1.1, p.2.1.2.1] (x6.1.2.1).toNat []).length : Nat) : Int))) then (Option.bind (at? (getD' [p.2.1.1, p.2.1.2.1] (x6.1.2.1).toNat []) x7.1.2.1) fun d8 =>
  some (Sum.inl (((x7.1.1 && (ref1In d8 (0 : Int) (1000 : Int))), (w64 (x7.1.2.1 + (1 : Int))), ()), ())))
  else some (Sum.inr ((x7.1.1, ()), ()))
noncomputable def ref1PlaceError_L2 (p : (List Int) × ((List Int) × (List Int) × Unit) × Int × Int × Unit) (x6 : (Bool × Int × Unit) × (Unit)) : Option (((Bool × Int × Unit) × (Unit)) ⊕ ((Bool × Unit) × (Unit))) :=
  bif (decide (x6.1.2.1 < (2 : Int))) then (Option.bind (req (inb x6.1.2.1 2) (Option.bind (iterW (ref1PlaceError_L3 p x6) ((x6.1.1, (0 : Int), ()), ())) fun x9 =>
  some ((x9.1.1, ()), ()))) fun x10 =>
  some (Sum.inl ((x10.1.1, (w64 (x6.1.2.1 + (1 : Int))), ()), ())))
  else some (Sum.inr ((x6.1.1, ()), ()))
noncomputable def ref1PlaceError (r : ByteArray × Int × Int × (List (Int × Int × Int × (List (Int × Int × Int × Int × Unit)) × Unit)) × (List Int) × Bool × Bool × (List (Int × Int × Int × Bool × Unit)) × Int × Int × Int × Unit) (p : (List Int) × ((List Int) × (List Int) × Unit) × Int × Int × Unit) : Option (Int) :=
  Option.bind (ref1RulesError r) fun r2 =>
  bif (r2 != (0 : Int)) then some r2
  else bif (((((p.1.length : Nat) : Int) != (w64 (r.2.1 * r.2.2.1))) || (((p.2.1.1.length : Nat) : Int) != ((r.2.2.2.1.length : Nat) : Int))) || (((p.2.1.2.1.length : Nat) : Int) != ((r.2.2.2.1.length : Nat) : Int))) then some (3 : Int)
  else Option.bind (iterW (ref1PlaceError_L1 p r) ((((ref1In p.2.2.1 (0 : Int) (1 : Int)) && (ref1In p.2.2.2.1 (0 : Int) (200 : Int))), (0 : Int), ()), ())) fun x5 =>
  Option.bind (iterW (ref1PlaceError_L2 p) ((x5.1.1, (0 : Int), ()), ())) fun x11 =>
  bif (!x11.1.1) then some (4 : Int)
  else some (0 : Int)
noncomputable def ref1Mine (c : Int) (player : Int) : Option (Bool) :=
  req (imp (decide (c > (0 : Int))) true) (some ((decide (c > (0 : Int))) && (((w64 (c - (1 : Int))).tmod (2 : Int)) == player)))
noncomputable def ref1Far_o (r : ByteArray × Int × Int × (List (Int × Int × Int × (List (Int × Int × Int × Int × Unit)) × Unit)) × (List Int) × Bool × Bool × (List (Int × Int × Int × Bool × Unit)) × Int × Int × Int × Unit) (player : Int) (y : Int) : Option (Bool) :=
  some (((player == (0 : Int)) && (y == (w64 (r.2.2.1 - (1 : Int))))) || ((player == (1 : Int)) && (y == (0 : Int))))
def ref1Far (r : ByteArray × Int × Int × (List (Int × Int × Int × (List (Int × Int × Int × Int × Unit)) × Unit)) × (List Int) × Bool × Bool × (List (Int × Int × Int × Bool × Unit)) × Int × Int × Int × Unit) (player : Int) (y : Int) : Bool :=
  (((player == (0 : Int)) && (y == (w64 (r.2.2.1 - (1 : Int))))) || ((player == (1 : Int)) && (y == (0 : Int))))
theorem ref1Far_eq (r : ByteArray × Int × Int × (List (Int × Int × Int × (List (Int × Int × Int × Int × Unit)) × Unit)) × (List Int) × Bool × Bool × (List (Int × Int × Int × Bool × Unit)) × Int × Int × Int × Unit) (player : Int) (y : Int) : ref1Far_o r player y = some (ref1Far r player y) := by
  unfold ref1Far_o ref1Far
  first | rfl | simp only [cond_some]
noncomputable def ref1At (r : ByteArray × Int × Int × (List (Int × Int × Int × (List (Int × Int × Int × Int × Unit)) × Unit)) × (List Int) × Bool × Bool × (List (Int × Int × Int × Bool × Unit)) × Int × Int × Int × Unit) (p : (List Int) × ((List Int) × (List Int) × Unit) × Int × Int × Unit) (x : Int) (y : Int) : Option (Int) :=
  bif ((!(ref1In x (0 : Int) (w64 (r.2.1 - (1 : Int))))) || (!(ref1In y (0 : Int) (w64 (r.2.2.1 - (1 : Int)))))) then some (-1 : Int)
  else Option.bind (at? p.1 (w64 ((w64 (y * r.2.1)) + x))) fun d2 =>
  some d2
noncomputable def ref1Reaches_L1 (w : Int × Int × Int × Int × Unit) (r : ByteArray × Int × Int × (List (Int × Int × Int × (List (Int × Int × Int × Int × Unit)) × Unit)) × (List Int) × Bool × Bool × (List (Int × Int × Int × Bool × Unit)) × Int × Int × Int × Unit) (p : (List Int) × ((List Int) × (List Int) × Unit) × Int × Int × Unit) (from' : Int) (to : Int) (x1 : (Int × Unit) × (Unit)) : Option (((Int × Unit) × (Unit)) ⊕ (((Unit) × (Unit)) ⊕ Bool)) :=
  bif (decide (x1.1.1 ≤ w.2.2.1)) then (Option.bind (ref1At r p (w64 ((from'.tmod r.2.1) + (w64 (x1.1.1 * w.1)))) (w64 ((w64 (from'.tdiv r.2.1)) + (w64 ((w64 (x1.1.1 * w.2.1)) * (w64 ((1 : Int) - (w64 ((2 : Int) * p.2.2.1))))))))) fun r2 =>
  bif (decide (r2 < (0 : Int))) then some (Sum.inr (Sum.inr false))
  else bif ((w64 ((w64 ((w64 ((w64 ((w64 (from'.tdiv r.2.1)) + (w64 ((w64 (x1.1.1 * w.2.1)) * (w64 ((1 : Int) - (w64 ((2 : Int) * p.2.2.1)))))))) * r.2.1)) + (from'.tmod r.2.1))) + (w64 (x1.1.1 * w.1)))) == to) then (Option.bind (ref1Mine r2 (w64 ((1 : Int) - p.2.2.1))) fun r3 =>
  some (Sum.inr (Sum.inr (((r2 == (0 : Int)) && (w.2.2.2.1 != (2 : Int))) || (r3 && (w.2.2.2.1 != (0 : Int)))))))
  else bif (r2 != (0 : Int)) then some (Sum.inr (Sum.inr false))
  else some (Sum.inl (((w64 (x1.1.1 + (1 : Int))), ()), ())))
  else some (Sum.inr (Sum.inl ((), ())))
noncomputable def ref1Reaches (r : ByteArray × Int × Int × (List (Int × Int × Int × (List (Int × Int × Int × Int × Unit)) × Unit)) × (List Int) × Bool × Bool × (List (Int × Int × Int × Bool × Unit)) × Int × Int × Int × Unit) (p : (List Int) × ((List Int) × (List Int) × Unit) × Int × Int × Unit) (from' : Int) (to : Int) (w : Int × Int × Int × Int × Unit) : Option (Bool) :=
  req (r.2.1 != 0) (req (r.2.1 != 0) (Option.bind (α := ((Unit) × (Unit)) ⊕ Bool) (iterW (ref1Reaches_L1 w r p from' to) (((1 : Int), ()), ())) (Sum.elim (fun x4 =>
  some false) some)))
noncomputable def ref1Allowed_L1 (r : ByteArray × Int × Int × (List (Int × Int × Int × (List (Int × Int × Int × Int × Unit)) × Unit)) × (List Int) × Bool × Bool × (List (Int × Int × Int × Bool × Unit)) × Int × Int × Int × Unit) (m : Int × Int × Int × Unit) (p : (List Int) × ((List Int) × (List Int) × Unit) × Int × Int × Unit) (x9 : (Int × Unit) × (Unit)) : Option (((Int × Unit) × (Unit)) ⊕ (((Unit) × (Unit)) ⊕ Bool)) :=
  bif (r.2.2.2.2.2.1 && (decide (x9.1.1 < m.2.1))) then (Option.bind (at? p.1 x9.1.1) fun d10 =>
  bif (d10 == (0 : Int)) then some (Sum.inr (Sum.inr false))
  else some (Sum.inl (((w64 (x9.1.1 + r.2.1)), ()), ())))
  else some (Sum.inr (Sum.inl ((), ())))
noncomputable def ref1Allowed_L2 (d16 : Int × Int × Int × (List (Int × Int × Int × Int × Unit)) × Unit) (r : ByteArray × Int × Int × (List (Int × Int × Int × (List (Int × Int × Int × Int × Unit)) × Unit)) × (List Int) × Bool × Bool × (List (Int × Int × Int × Bool × Unit)) × Int × Int × Int × Unit) (p : (List Int) × ((List Int) × (List Int) × Unit) × Int × Int × Unit) (m : Int × Int × Int × Unit) (x17 : (Int × Unit) × (Unit)) : Option (((Int × Unit) × (Unit)) ⊕ (((Unit) × (Unit)) ⊕ Bool)) :=
  bif (decide (x17.1.1 < ((d16.2.2.2.1.length : Nat) : Int))) then (Option.bind (at? d16.2.2.2.1 x17.1.1) fun d18 =>
  Option.bind (ref1Reaches r p m.1 m.2.1 d18) fun r19 =>
  bif r19 then some (Sum.inr (Sum.inr true))
  else some (Sum.inl (((w64 (x17.1.1 + (1 : Int))), ()), ())))
  else some (Sum.inr (Sum.inl ((), ())))
noncomputable def ref1Allowed (r : ByteArray × Int × Int × (List (Int × Int × Int × (List (Int × Int × Int × Int × Unit)) × Unit)) × (List Int) × Bool × Bool × (List (Int × Int × Int × Bool × Unit)) × Int × Int × Int × Unit) (p : (List Int) × ((List Int) × (List Int) × Unit) × Int × Int × Unit) (m : Int × Int × Int × Unit) : Option (Bool) :=
  bif (((!(ref1In m.1 (-1 : Int) (w64 (((p.1.length : Nat) : Int) - (1 : Int))))) || (!(ref1In m.2.1 (0 : Int) (w64 (((p.1.length : Nat) : Int) - (1 : Int)))))) || (!(ref1In m.2.2.1 (0 : Int) (w64 (((r.2.2.2.1.length : Nat) : Int) - (1 : Int)))))) then some false
  else bif (m.1 == (-1 : Int)) then (req (inb p.2.2.1 2) (Option.bind (at? (getD' [p.2.1.1, p.2.1.2.1] (p.2.2.1).toNat []) m.2.2.1) fun d7 =>
  Option.bind (gat (!(d7 == (0 : Int))) (0 : Int) p.1 m.2.1) fun d8 =>
  bif ((d7 == (0 : Int)) || (d8 != (0 : Int))) then some false
  else req (r.2.1 != 0) (Option.bind (α := ((Unit) × (Unit)) ⊕ Bool) (iterW (ref1Allowed_L1 r m p) (((m.2.1.tmod r.2.1), ()), ())) (Sum.elim (fun x11 =>
  some true) some))))
  else Option.bind (at? p.1 m.1) fun d12 =>
  Option.bind (ref1Mine d12 p.2.2.1) fun r13 =>
  bif (!r13) then some false
  else Option.bind (at? r.2.2.2.1 (w64 ((w64 (d12 - (1 : Int))).tdiv (2 : Int)))) fun d14 =>
  req (imp (d14.2.2.1 != (0 : Int)) (r.2.1 != 0)) (Option.bind (bif ((d14.2.2.1 != (0 : Int)) && (ref1Far r p.2.2.1 (w64 (m.2.1.tdiv r.2.1)))) then some (((w64 (d14.2.2.1 - (1 : Int))), ()), ())
  else some (((w64 ((w64 (d12 - (1 : Int))).tdiv (2 : Int))), ()), ())) fun x15 =>
  bif (x15.1.1 != m.2.2.1) then some false
  else Option.bind (at? r.2.2.2.1 (w64 ((w64 (d12 - (1 : Int))).tdiv (2 : Int)))) fun d16 =>
  Option.bind (α := ((Unit) × (Unit)) ⊕ Bool) (iterW (ref1Allowed_L2 d16 r p m) (((0 : Int), ()), ())) (Sum.elim (fun x20 =>
  some false) some))
noncomputable def ref1Moves_L3 (r : ByteArray × Int × Int × (List (Int × Int × Int × (List (Int × Int × Int × Int × Unit)) × Unit)) × (List Int) × Bool × Bool × (List (Int × Int × Int × Bool × Unit)) × Int × Int × Int × Unit) (p : (List Int) × ((List Int) × (List Int) × Unit) × Int × Int × Unit) (x1 : ((List (Int × Int × Int × Unit)) × Int × Unit) × (Unit)) (x2 : ((List (Int × Int × Int × Unit)) × Int × Unit) × (Unit)) (x3 : ((List (Int × Int × Int × Unit)) × Int × Unit) × (Unit)) : Option ((((List (Int × Int × Int × Unit)) × Int × Unit) × (Unit)) ⊕ (((List (Int × Int × Int × Unit)) × Unit) × (Unit))) :=
  bif (decide (x3.1.2.1 < ((r.2.2.2.1.length : Nat) : Int))) then (Option.bind (ref1Allowed r p (x1.1.2.1, (x2.1.2.1, (x3.1.2.1, ())))) fun r4 =>
  Option.bind (bif r4 then req (room (x3.1.1.length + ([(x1.1.2.1, (x2.1.2.1, (x3.1.2.1, ())))]).length) 24) (some (((x3.1.1 ++ [(x1.1.2.1, (x2.1.2.1, (x3.1.2.1, ())))]), ()), ()))
  else some ((x3.1.1, ()), ())) fun x5 =>
  some (Sum.inl ((x5.1.1, (w64 (x3.1.2.1 + (1 : Int))), ()), ())))
  else some (Sum.inr ((x3.1.1, ()), ()))
noncomputable def ref1Moves_L2 (p : (List Int) × ((List Int) × (List Int) × Unit) × Int × Int × Unit) (r : ByteArray × Int × Int × (List (Int × Int × Int × (List (Int × Int × Int × Int × Unit)) × Unit)) × (List Int) × Bool × Bool × (List (Int × Int × Int × Bool × Unit)) × Int × Int × Int × Unit) (x1 : ((List (Int × Int × Int × Unit)) × Int × Unit) × (Unit)) (x2 : ((List (Int × Int × Int × Unit)) × Int × Unit) × (Unit)) : Option ((((List (Int × Int × Int × Unit)) × Int × Unit) × (Unit)) ⊕ (((List (Int × Int × Int × Unit)) × Unit) × (Unit))) :=
  bif (decide (x2.1.2.1 < ((p.1.length : Nat) : Int))) then (Option.bind (Option.bind (iterW (ref1Moves_L3 r p x1 x2) ((x2.1.1, (0 : Int), ()), ())) fun x6 =>
  some ((x6.1.1, ()), ())) fun x7 =>
  some (Sum.inl ((x7.1.1, (w64 (x2.1.2.1 + (1 : Int))), ()), ())))
  else some (Sum.inr ((x2.1.1, ()), ()))
noncomputable def ref1Moves_L1 (p : (List Int) × ((List Int) × (List Int) × Unit) × Int × Int × Unit) (r : ByteArray × Int × Int × (List (Int × Int × Int × (List (Int × Int × Int × Int × Unit)) × Unit)) × (List Int) × Bool × Bool × (List (Int × Int × Int × Bool × Unit)) × Int × Int × Int × Unit) (x1 : ((List (Int × Int × Int × Unit)) × Int × Unit) × (Unit)) : Option ((((List (Int × Int × Int × Unit)) × Int × Unit) × (Unit)) ⊕ (((List (Int × Int × Int × Unit)) × Unit) × (Unit))) :=
  bif (decide (x1.1.2.1 < ((p.1.length : Nat) : Int))) then (Option.bind (Option.bind (iterW (ref1Moves_L2 p r x1) ((x1.1.1, (0 : Int), ()), ())) fun x8 =>
  some ((x8.1.1, ()), ())) fun x9 =>
  some (Sum.inl ((x9.1.1, (w64 (x1.1.2.1 + (1 : Int))), ()), ())))
  else some (Sum.inr ((x1.1.1, ()), ()))
noncomputable def ref1Moves (r : ByteArray × Int × Int × (List (Int × Int × Int × (List (Int × Int × Int × Int × Unit)) × Unit)) × (List Int) × Bool × Bool × (List (Int × Int × Int × Bool × Unit)) × Int × Int × Int × Unit) (p : (List Int) × ((List Int) × (List Int) × Unit) × Int × Int × Unit) : Option (List (Int × Int × Int × Unit)) :=
  Option.bind (iterW (ref1Moves_L1 p r) ((([] : List (Int × Int × Int × Unit)), (-1 : Int), ()), ())) fun x10 =>
  some x10.1.1
noncomputable def ref1After_L1 (p : (List Int) × ((List Int) × (List Int) × Unit) × Int × Int × Unit) (m : Int × Int × Int × Unit) (x3 : (Int × Unit) × (((List Int) × (List Int) × (List Int) × Int × Int × Unit) × Unit)) : Option (((Int × Unit) × (((List Int) × (List Int) × (List Int) × Int × Int × Unit) × Unit)) ⊕ ((Unit) × (((List Int) × (List Int) × (List Int) × Int × Int × Unit) × Unit))) :=
  bif (decide (x3.1.1 < ((p.1.length : Nat) : Int))) then (Option.bind (at? p.1 x3.1.1) fun d4 =>
  Option.bind (bif (x3.1.1 == m.2.1) then some (((w64 ((w64 ((w64 ((2 : Int) * m.2.2.1)) + p.2.2.1)) + (1 : Int))), ()), ())
  else Option.bind (bif (x3.1.1 == m.1) then some (((0 : Int), ()), ())
  else some ((d4, ()), ())) fun x5 =>
  some ((x5.1.1, ()), ())) fun x6 =>
  req (room (x3.2.1.1.length + ([x6.1.1]).length) 8) (some (Sum.inl (((w64 (x3.1.1 + (1 : Int))), ()), (((x3.2.1.1 ++ [x6.1.1]), (x3.2.1.2.1, (x3.2.1.2.2.1, x3.2.1.2.2.2))), ())))))
  else some (Sum.inr ((), ((x3.2.1.1, (x3.2.1.2.1, (x3.2.1.2.2.1, x3.2.1.2.2.2))), ())))
noncomputable def ref1After_L3 (p : (List Int) × ((List Int) × (List Int) × Unit) × Int × Int × Unit) (x8 : (Int × Unit) × (((List Int) × (List Int) × (List Int) × Int × Int × Unit) × Unit)) (m : Int × Int × Int × Unit) (r : ByteArray × Int × Int × (List (Int × Int × Int × (List (Int × Int × Int × Int × Unit)) × Unit)) × (List Int) × Bool × Bool × (List (Int × Int × Int × Bool × Unit)) × Int × Int × Int × Unit) (d2 : Int) (x9 : (Int × Unit) × (((List Int) × (List Int) × (List Int) × Int × Int × Unit) × Unit)) : Option (((Int × Unit) × (((List Int) × (List Int) × (List Int) × Int × Int × Unit) × Unit)) ⊕ ((Unit) × (((List Int) × (List Int) × (List Int) × Int × Int × Unit) × Unit))) :=
  bif (decide (x9.1.1 < (((getD' [p.2.1.1, p.2.1.2.1] (x8.1.1).toNat []).length : Nat) : Int))) then (Option.bind (at? (getD' [p.2.1.1, p.2.1.2.1] (x8.1.1).toNat []) x9.1.1) fun d10 =>
  Option.bind (bif (((x8.1.1 == p.2.2.1) && (m.1 == (-1 : Int))) && (x9.1.1 == m.2.2.1)) then some (((w64 (d10 - (1 : Int))), ()), ())
  else some ((d10, ()), ())) fun x11 =>
  req (imp (((x8.1.1 == p.2.2.1) && r.2.2.2.2.2.2.1) && (decide (d2 > (0 : Int)))) true) (Option.bind (bif (((((x8.1.1 == p.2.2.1) && r.2.2.2.2.2.2.1) && (decide (d2 > (0 : Int)))) && (x9.1.1 == (w64 ((w64 (d2 - (1 : Int))).tdiv (2 : Int))))) && (decide (x11.1.1 < (1000 : Int)))) then some (((w64 (x11.1.1 + (1 : Int))), ()), ())
  else some ((x11.1.1, ()), ())) fun x12 =>
  Option.bind (req (inb x8.1.1 2) (bif (x8.1.1 == (0 : Int)) then (req (room (x9.2.1.2.1.length + ([x12.1.1]).length) 8) (req (inb x8.1.1 2) (bif (x8.1.1 == (0 : Int)) then some ((), ((x9.2.1.1, ((x9.2.1.2.1 ++ [x12.1.1]), (x9.2.1.2.2.1, x9.2.1.2.2.2))), ()))
  else none)))
  else req (room (x9.2.1.2.2.1.length + ([x12.1.1]).length) 8) (req (inb x8.1.1 2) (bif (x8.1.1 == (0 : Int)) then none
  else some ((), ((x9.2.1.1, (x9.2.1.2.1, ((x9.2.1.2.2.1 ++ [x12.1.1]), x9.2.1.2.2.2))), ())))))) fun x13 =>
  some (Sum.inl (((w64 (x9.1.1 + (1 : Int))), ()), ((x13.2.1.1, (x13.2.1.2.1, (x13.2.1.2.2.1, x13.2.1.2.2.2))), ())))))
  else some (Sum.inr ((), ((x9.2.1.1, (x9.2.1.2.1, (x9.2.1.2.2.1, x9.2.1.2.2.2))), ())))
noncomputable def ref1After_L2 (p : (List Int) × ((List Int) × (List Int) × Unit) × Int × Int × Unit) (m : Int × Int × Int × Unit) (r : ByteArray × Int × Int × (List (Int × Int × Int × (List (Int × Int × Int × Int × Unit)) × Unit)) × (List Int) × Bool × Bool × (List (Int × Int × Int × Bool × Unit)) × Int × Int × Int × Unit) (d2 : Int) (x8 : (Int × Unit) × (((List Int) × (List Int) × (List Int) × Int × Int × Unit) × Unit)) : Option (((Int × Unit) × (((List Int) × (List Int) × (List Int) × Int × Int × Unit) × Unit)) ⊕ ((Unit) × (((List Int) × (List Int) × (List Int) × Int × Int × Unit) × Unit))) :=
  bif (decide (x8.1.1 < (2 : Int))) then (Option.bind (req (inb x8.1.1 2) (Option.bind (iterW (ref1After_L3 p x8 m r d2) (((0 : Int), ()), ((x8.2.1.1, (x8.2.1.2.1, (x8.2.1.2.2.1, x8.2.1.2.2.2))), ()))) fun x14 =>
  some ((), ((x14.2.1.1, (x14.2.1.2.1, (x14.2.1.2.2.1, x14.2.1.2.2.2))), ())))) fun x15 =>
  some (Sum.inl (((w64 (x8.1.1 + (1 : Int))), ()), ((x15.2.1.1, (x15.2.1.2.1, (x15.2.1.2.2.1, x15.2.1.2.2.2))), ()))))
  else some (Sum.inr ((), ((x8.2.1.1, (x8.2.1.2.1, (x8.2.1.2.2.1, x8.2.1.2.2.2))), ())))
noncomputable def ref1After (r : ByteArray × Int × Int × (List (Int × Int × Int × (List (Int × Int × Int × Int × Unit)) × Unit)) × (List Int) × Bool × Bool × (List (Int × Int × Int × Bool × Unit)) × Int × Int × Int × Unit) (p : (List Int) × ((List Int) × (List Int) × Unit) × Int × Int × Unit) (m : Int × Int × Int × Unit) : Option ((List Int) × ((List Int) × (List Int) × Unit) × Int × Int × Unit) :=
  Option.bind (at? p.1 m.2.1) fun d2 =>
  Option.bind (iterW (ref1After_L1 p m) (((0 : Int), ()), ((([] : List Int), (([] : List Int), (([] : List Int), ((w64 ((1 : Int) - p.2.2.1)), ((w64 (p.2.2.2.1 + (1 : Int))), ()))))), ()))) fun x7 =>
  Option.bind (iterW (ref1After_L2 p m r d2) (((0 : Int), ()), ((x7.2.1.1, (x7.2.1.2.1, (x7.2.1.2.2.1, x7.2.1.2.2.2))), ()))) fun x16 =>
  Option.bind (bif (decide (x16.2.1.2.2.2.2.1 > (200 : Int))) then some ((), ((x16.2.1.1, (x16.2.1.2.1, (x16.2.1.2.2.1, (x16.2.1.2.2.2.1, ((200 : Int), ()))))), ()))
  else some ((), ((x16.2.1.1, (x16.2.1.2.1, (x16.2.1.2.2.1, x16.2.1.2.2.2))), ()))) fun x17 =>
  Option.bind (bif ((decide (d2 > (0 : Int))) || (m.1 == (-1 : Int))) then some ((), ((x17.2.1.1, (x17.2.1.2.1, (x17.2.1.2.2.1, (x17.2.1.2.2.2.1, ((0 : Int), ()))))), ()))
  else some ((), ((x17.2.1.1, (x17.2.1.2.1, (x17.2.1.2.2.1, x17.2.1.2.2.2))), ()))) fun x18 =>
  some (x18.2.1.1, ((x18.2.1.2.1, (x18.2.1.2.2.1, ())), x18.2.1.2.2.2))
noncomputable def ref1Lined_L4 (r : ByteArray × Int × Int × (List (Int × Int × Int × (List (Int × Int × Int × Int × Unit)) × Unit)) × (List Int) × Bool × Bool × (List (Int × Int × Int × Bool × Unit)) × Int × Int × Int × Unit) (p : (List Int) × ((List Int) × (List Int) × Unit) × Int × Int × Unit) (x2 : (Int × Unit) × (Unit)) (x4 : (Int × Int × Unit) × (Unit)) (x1 : (Int × Unit) × (Unit)) (player : Int) (x5 : (Int × Unit) × (Unit)) : Option (((Int × Unit) × (Unit)) ⊕ ((Int × Unit) × (Unit))) :=
  Option.bind (ref1At r p (w64 (x2.1.1 + (w64 (x5.1.1 * x4.1.1)))) (w64 (x1.1.1 + (w64 (x5.1.1 * x4.1.2.1))))) fun r6 =>
  Option.bind (ref1Mine r6 player) fun r7 =>
  bif r7 then some (Sum.inl (((w64 (x5.1.1 + (1 : Int))), ()), ()))
  else some (Sum.inr ((x5.1.1, ()), ()))
noncomputable def ref1Lined_L3 (r : ByteArray × Int × Int × (List (Int × Int × Int × (List (Int × Int × Int × Int × Unit)) × Unit)) × (List Int) × Bool × Bool × (List (Int × Int × Int × Bool × Unit)) × Int × Int × Int × Unit) (p : (List Int) × ((List Int) × (List Int) × Unit) × Int × Int × Unit) (x2 : (Int × Unit) × (Unit)) (x1 : (Int × Unit) × (Unit)) (player : Int) (count : Int) (x3 : (Int × Unit) × (Unit)) : Option (((Int × Unit) × (Unit)) ⊕ (((Unit) × (Unit)) ⊕ (((Unit) × (Unit)) ⊕ (((Int × Unit) × (Unit)) ⊕ (((Unit) × (Unit)) ⊕ (((Unit) × (Unit)) ⊕ (((Int × Unit) × (Unit)) ⊕ (((Unit) × (Unit)) ⊕ Bool)))))))) :=
  bif (decide (x3.1.1 < (4 : Int))) then (Option.bind (α := ((Unit) × (Unit)) ⊕ (((Int × Unit) × (Unit)) ⊕ (((Unit) × (Unit)) ⊕ (((Unit) × (Unit)) ⊕ (((Int × Unit) × (Unit)) ⊕ (((Unit) × (Unit)) ⊕ (((Unit) × (Unit)) ⊕ (((Int × Unit) × (Unit)) ⊕ (((Unit) × (Unit)) ⊕ Bool))))))))) (Option.bind (agree (req (inb x3.1.1 ([(-1 : Int), (0 : Int), (-1 : Int), (1 : Int)]).length) (req (inb x3.1.1 ([(0 : Int), (-1 : Int), (-1 : Int), (-1 : Int)]).length) (some (((getD' ([(-1 : Int), (0 : Int), (-1 : Int), (1 : Int)]) ((x3.1.1).toNat) (0 : Int)), (getD' ([(0 : Int), (-1 : Int), (-1 : Int), (-1 : Int)]) ((x3.1.1).toNat) (0 : Int)), ()), ())))) (req (inb x3.1.1 ([(0 : Int), (-1 : Int), (-1 : Int), (-1 : Int)]).length) (req (inb x3.1.1 ([(-1 : Int), (0 : Int), (-1 : Int), (1 : Int)]).length) (some (((getD' ([(-1 : Int), (0 : Int), (-1 : Int), (1 : Int)]) ((x3.1.1).toNat) (0 : Int)), (getD' ([(0 : Int), (-1 : Int), (-1 : Int), (-1 : Int)]) ((x3.1.1).toNat) (0 : Int)), ()), ()))))) fun x4 =>
  Option.bind (iterW (ref1Lined_L4 r p x2 x4 x1 player) (((0 : Int), ()), ())) fun x8 =>
  bif (decide (x8.1.1 ≥ count)) then some (Sum.inr (Sum.inr (Sum.inr (Sum.inr (Sum.inr (Sum.inr (Sum.inr (Sum.inr (Sum.inr true)))))))))
  else some (Sum.inl ((), ()))) (Sum.elim (fun x9 =>
  some (Sum.inl (((w64 (x3.1.1 + (1 : Int))), ()), ()))) some))
  else some (Sum.inr (Sum.inl ((), ())))
noncomputable def ref1Lined_L2 (r : ByteArray × Int × Int × (List (Int × Int × Int × (List (Int × Int × Int × Int × Unit)) × Unit)) × (List Int) × Bool × Bool × (List (Int × Int × Int × Bool × Unit)) × Int × Int × Int × Unit) (p : (List Int) × ((List Int) × (List Int) × Unit) × Int × Int × Unit) (x1 : (Int × Unit) × (Unit)) (player : Int) (count : Int) (x2 : (Int × Unit) × (Unit)) : Option (((Int × Unit) × (Unit)) ⊕ (((Unit) × (Unit)) ⊕ (((Unit) × (Unit)) ⊕ (((Int × Unit) × (Unit)) ⊕ (((Unit) × (Unit)) ⊕ Bool))))) :=
  bif (decide (x2.1.1 < r.2.1)) then (Option.bind (α := ((Unit) × (Unit)) ⊕ (((Int × Unit) × (Unit)) ⊕ (((Unit) × (Unit)) ⊕ (((Unit) × (Unit)) ⊕ (((Int × Unit) × (Unit)) ⊕ (((Unit) × (Unit)) ⊕ Bool)))))) (Option.bind (α := ((Unit) × (Unit)) ⊕ (((Unit) × (Unit)) ⊕ (((Int × Unit) × (Unit)) ⊕ (((Unit) × (Unit)) ⊕ (((Unit) × (Unit)) ⊕ (((Int × Unit) × (Unit)) ⊕ (((Unit) × (Unit)) ⊕ Bool))))))) (iterW (ref1Lined_L3 r p x2 x1 player count) (((0 : Int), ()), ())) (Sum.elim (fun x10 =>
  some (Sum.inl ((), ()))) some)) (Sum.elim (fun x11 =>
  some (Sum.inl (((w64 (x2.1.1 + (1 : Int))), ()), ()))) some))
  else some (Sum.inr (Sum.inl ((), ())))
noncomputable def ref1Lined_L1 (r : ByteArray × Int × Int × (List (Int × Int × Int × (List (Int × Int × Int × Int × Unit)) × Unit)) × (List Int) × Bool × Bool × (List (Int × Int × Int × Bool × Unit)) × Int × Int × Int × Unit) (p : (List Int) × ((List Int) × (List Int) × Unit) × Int × Int × Unit) (player : Int) (count : Int) (x1 : (Int × Unit) × (Unit)) : Option (((Int × Unit) × (Unit)) ⊕ (((Unit) × (Unit)) ⊕ Bool)) :=
  bif (decide (x1.1.1 < r.2.2.1)) then (Option.bind (α := ((Unit) × (Unit)) ⊕ (((Int × Unit) × (Unit)) ⊕ (((Unit) × (Unit)) ⊕ Bool))) (Option.bind (α := ((Unit) × (Unit)) ⊕ (((Unit) × (Unit)) ⊕ (((Int × Unit) × (Unit)) ⊕ (((Unit) × (Unit)) ⊕ Bool)))) (iterW (ref1Lined_L2 r p x1 player count) (((0 : Int), ()), ())) (Sum.elim (fun x12 =>
  some (Sum.inl ((), ()))) some)) (Sum.elim (fun x13 =>
  some (Sum.inl (((w64 (x1.1.1 + (1 : Int))), ()), ()))) some))
  else some (Sum.inr (Sum.inl ((), ())))
noncomputable def ref1Lined (r : ByteArray × Int × Int × (List (Int × Int × Int × (List (Int × Int × Int × Int × Unit)) × Unit)) × (List Int) × Bool × Bool × (List (Int × Int × Int × Bool × Unit)) × Int × Int × Int × Unit) (p : (List Int) × ((List Int) × (List Int) × Unit) × Int × Int × Unit) (player : Int) (count : Int) : Option (Bool) :=
  Option.bind (α := ((Unit) × (Unit)) ⊕ Bool) (iterW (ref1Lined_L1 r p player count) (((0 : Int), ()), ())) (Sum.elim (fun x14 =>
  some false) some)
noncomputable def ref1Result_L2 (p : (List Int) × ((List Int) × (List Int) × Unit) × Int × Int × Unit) (d3 : Int × Int × Int × Bool × Unit) (r : ByteArray × Int × Int × (List (Int × Int × Int × (List (Int × Int × Int × Int × Unit)) × Unit)) × (List Int) × Bool × Bool × (List (Int × Int × Int × Bool × Unit)) × Int × Int × Int × Unit) (x5 : (Bool × Int × Int × Unit) × (Unit)) : Option (((Bool × Int × Int × Unit) × (Unit)) ⊕ ((Bool × Int × Unit) × (Unit))) :=
  bif (decide (x5.1.2.2.1 < ((p.1.length : Nat) : Int))) then (Option.bind (at? p.1 x5.1.2.2.1) fun d6 =>
  req (imp ((d3.1 == (1 : Int)) && (d6 == (w64 ((w64 ((w64 ((2 : Int) * d3.2.1)) + (w64 ((1 : Int) - p.2.2.1)))) + (1 : Int))))) (r.2.1 != 0)) (Option.bind (bif (((d3.1 == (1 : Int)) && (d6 == (w64 ((w64 ((w64 ((2 : Int) * d3.2.1)) + (w64 ((1 : Int) - p.2.2.1)))) + (1 : Int))))) && (ref1Far r (w64 ((1 : Int) - p.2.2.1)) (w64 (x5.1.2.2.1.tdiv r.2.1)))) then some ((true, ()), ())
  else some ((x5.1.1, ()), ())) fun x7 =>
  Option.bind (bif (d6 == (w64 ((w64 ((w64 ((2 : Int) * d3.2.1)) + p.2.2.1)) + (1 : Int)))) then some (((w64 (x5.1.2.1 + (1 : Int))), ()), ())
  else some ((x5.1.2.1, ()), ())) fun x8 =>
  some (Sum.inl ((x7.1.1, x8.1.1, (w64 (x5.1.2.2.1 + (1 : Int))), ()), ()))))
  else some (Sum.inr ((x5.1.1, x5.1.2.1, ()), ()))
noncomputable def ref1Result_L1 (r : ByteArray × Int × Int × (List (Int × Int × Int × (List (Int × Int × Int × Int × Unit)) × Unit)) × (List Int) × Bool × Bool × (List (Int × Int × Int × Bool × Unit)) × Int × Int × Int × Unit) (p : (List Int) × ((List Int) × (List Int) × Unit) × Int × Int × Unit) (x2 : (Int × Unit) × (Unit)) : Option (((Int × Unit) × (Unit)) ⊕ (((Unit) × (Unit)) ⊕ Int)) :=
  bif (decide (x2.1.1 < ((r.2.2.2.2.2.2.2.1.length : Nat) : Int))) then (Option.bind (α := ((Unit) × (Unit)) ⊕ (((Int × Unit) × (Unit)) ⊕ (((Unit) × (Unit)) ⊕ Int))) (Option.bind (at? r.2.2.2.2.2.2.2.1 x2.1.1) fun d3 =>
  Option.bind (gopt (d3.1 == (0 : Int)) false (ref1Lined r p (w64 ((1 : Int) - p.2.2.1)) d3.2.2.1)) fun r4 =>
  Option.bind (iterW (ref1Result_L2 p d3 r) ((((d3.1 == (0 : Int)) && r4), (0 : Int), (0 : Int), ()), ())) fun x9 =>
  Option.bind (bif ((d3.1 == (2 : Int)) && (decide (x9.1.2.1 < d3.2.2.1))) then some ((true, ()), ())
  else some ((x9.1.1, ()), ())) fun x10 =>
  bif (x10.1.1 && d3.2.2.2.1) then some (Sum.inr (Sum.inr (Sum.inr (w64 ((1 : Int) + p.2.2.1)))))
  else bif x10.1.1 then some (Sum.inr (Sum.inr (Sum.inr (w64 ((1 : Int) + (w64 ((1 : Int) - p.2.2.1)))))))
  else some (Sum.inl ((), ()))) (Sum.elim (fun x11 =>
  some (Sum.inl (((w64 (x2.1.1 + (1 : Int))), ()), ()))) some))
  else some (Sum.inr (Sum.inl ((), ())))
noncomputable def ref1Result (r : ByteArray × Int × Int × (List (Int × Int × Int × (List (Int × Int × Int × Int × Unit)) × Unit)) × (List Int) × Bool × Bool × (List (Int × Int × Int × Bool × Unit)) × Int × Int × Int × Unit) (p : (List Int) × ((List Int) × (List Int) × Unit) × Int × Int × Unit) : Option (Int) :=
  Option.bind (α := ((Unit) × (Unit)) ⊕ Int) (iterW (ref1Result_L1 r p) (((0 : Int), ()), ())) (Sum.elim (fun x12 =>
  bif ((r.2.2.2.2.2.2.2.2.2.1 != (0 : Int)) && (decide (p.2.2.2.1 ≥ r.2.2.2.2.2.2.2.2.2.1))) then some (3 : Int)
  else Option.bind (ref1Moves r p) fun r13 =>
  bif (decide (((r13.length : Nat) : Int) > (0 : Int))) then some (0 : Int)
  else req (inb r.2.2.2.2.2.2.2.2.1 ([(w64 ((1 : Int) + (w64 ((1 : Int) - p.2.2.1)))), (w64 ((1 : Int) + p.2.2.1)), (3 : Int)]).length) (some (getD' ([(w64 ((1 : Int) + (w64 ((1 : Int) - p.2.2.1)))), (w64 ((1 : Int) + p.2.2.1)), (3 : Int)]) ((r.2.2.2.2.2.2.2.2.1).toNat) (0 : Int)))) some)
noncomputable def ref1Mixed_o (n : Int) : Option (Int) :=
  some (ixor .u64 (wu64 ((ixor .u64 (wu64 ((ixor .u64 (wu64 ((wu64 ((wu64 n) * (11400714819323198485 : Int))) + (11400714819323198485 : Int))) (wu64 ((wu64 ((wu64 ((wu64 n) * (11400714819323198485 : Int))) + (11400714819323198485 : Int))).tdiv (1073741824 : Int)))) * (13787848793156543929 : Int))) (wu64 ((wu64 ((ixor .u64 (wu64 ((wu64 ((wu64 n) * (11400714819323198485 : Int))) + (11400714819323198485 : Int))) (wu64 ((wu64 ((wu64 ((wu64 n) * (11400714819323198485 : Int))) + (11400714819323198485 : Int))).tdiv (1073741824 : Int)))) * (13787848793156543929 : Int))).tdiv (134217728 : Int)))) * (10723151780598845931 : Int))) (wu64 ((wu64 ((ixor .u64 (wu64 ((ixor .u64 (wu64 ((wu64 ((wu64 n) * (11400714819323198485 : Int))) + (11400714819323198485 : Int))) (wu64 ((wu64 ((wu64 ((wu64 n) * (11400714819323198485 : Int))) + (11400714819323198485 : Int))).tdiv (1073741824 : Int)))) * (13787848793156543929 : Int))) (wu64 ((wu64 ((ixor .u64 (wu64 ((wu64 ((wu64 n) * (11400714819323198485 : Int))) + (11400714819323198485 : Int))) (wu64 ((wu64 ((wu64 ((wu64 n) * (11400714819323198485 : Int))) + (11400714819323198485 : Int))).tdiv (1073741824 : Int)))) * (13787848793156543929 : Int))).tdiv (134217728 : Int)))) * (10723151780598845931 : Int))).tdiv (2147483648 : Int))))
def ref1Mixed (n : Int) : Int :=
  (ixor .u64 (wu64 ((ixor .u64 (wu64 ((ixor .u64 (wu64 ((wu64 ((wu64 n) * (11400714819323198485 : Int))) + (11400714819323198485 : Int))) (wu64 ((wu64 ((wu64 ((wu64 n) * (11400714819323198485 : Int))) + (11400714819323198485 : Int))).tdiv (1073741824 : Int)))) * (13787848793156543929 : Int))) (wu64 ((wu64 ((ixor .u64 (wu64 ((wu64 ((wu64 n) * (11400714819323198485 : Int))) + (11400714819323198485 : Int))) (wu64 ((wu64 ((wu64 ((wu64 n) * (11400714819323198485 : Int))) + (11400714819323198485 : Int))).tdiv (1073741824 : Int)))) * (13787848793156543929 : Int))).tdiv (134217728 : Int)))) * (10723151780598845931 : Int))) (wu64 ((wu64 ((ixor .u64 (wu64 ((ixor .u64 (wu64 ((wu64 ((wu64 n) * (11400714819323198485 : Int))) + (11400714819323198485 : Int))) (wu64 ((wu64 ((wu64 ((wu64 n) * (11400714819323198485 : Int))) + (11400714819323198485 : Int))).tdiv (1073741824 : Int)))) * (13787848793156543929 : Int))) (wu64 ((wu64 ((ixor .u64 (wu64 ((wu64 ((wu64 n) * (11400714819323198485 : Int))) + (11400714819323198485 : Int))) (wu64 ((wu64 ((wu64 ((wu64 n) * (11400714819323198485 : Int))) + (11400714819323198485 : Int))).tdiv (1073741824 : Int)))) * (13787848793156543929 : Int))).tdiv (134217728 : Int)))) * (10723151780598845931 : Int))).tdiv (2147483648 : Int))))
theorem ref1Mixed_eq (n : Int) : ref1Mixed_o n = some (ref1Mixed n) := by
  unfold ref1Mixed_o ref1Mixed
  first | rfl | simp only [cond_some]
noncomputable def law1Three_o : Option (ByteArray × Int × Int × (List (Int × Int × Int × (List (Int × Int × Int × Int × Unit)) × Unit)) × (List Int) × Bool × Bool × (List (Int × Int × Int × Bool × Unit)) × Int × Int × Int × Unit) :=
  some ((ByteArray.mk #[84, 73, 67]), ((3 : Int), ((3 : Int), ([((65 : Int), ((5 : Int), ((0 : Int), (([] : List (Int × Int × Int × Int × Unit)), ()))))], ((List.replicate 9 (0 : Int)), (false, (false, ([((0 : Int), ((0 : Int), ((3 : Int), (false, ()))))], ((2 : Int), ((0 : Int), ((0 : Int), ())))))))))))
def law1Three : ByteArray × Int × Int × (List (Int × Int × Int × (List (Int × Int × Int × Int × Unit)) × Unit)) × (List Int) × Bool × Bool × (List (Int × Int × Int × Bool × Unit)) × Int × Int × Int × Unit :=
  ((ByteArray.mk #[84, 73, 67]), ((3 : Int), ((3 : Int), ([((65 : Int), ((5 : Int), ((0 : Int), (([] : List (Int × Int × Int × Int × Unit)), ()))))], ((List.replicate 9 (0 : Int)), (false, (false, ([((0 : Int), ((0 : Int), ((3 : Int), (false, ()))))], ((2 : Int), ((0 : Int), ((0 : Int), ())))))))))))
theorem law1Three_eq : law1Three_o = some (law1Three) := by
  unfold law1Three_o law1Three
  first | rfl | simp only [cond_some]
noncomputable def law1Put_o (s : Int) : Option (Int × Int × Int × Unit) :=
  some ((-1 : Int), (s, ((0 : Int), ())))
def law1Put (s : Int) : Int × Int × Int × Unit :=
  ((-1 : Int), (s, ((0 : Int), ())))
theorem law1Put_eq (s : Int) : law1Put_o s = some (law1Put s) := by
  unfold law1Put_o law1Put
  first | rfl | simp only [cond_some]
noncomputable def placeCopy (p : (List Int) × ((List Int) × (List Int) × Unit) × Int × Int × Unit) : Option ((List Int) × ((List Int) × (List Int) × Unit) × Int × Int × Unit) :=
  Option.bind (slicesClone_int p.1) fun r2 =>
  Option.bind (agree (Option.bind (slicesClone_int p.2.1.1) fun r3 =>
  Option.bind (slicesClone_int p.2.1.2.1) fun r4 =>
  some ((), ((r2, (r3, (r4, p.2.2))), ()))) (Option.bind (slicesClone_int p.2.1.1) fun r5 =>
  Option.bind (slicesClone_int p.2.1.2.1) fun r6 =>
  some ((), ((r2, (r5, (r6, p.2.2))), ())))) fun x7 =>
  some (x7.2.1.1, ((x7.2.1.2.1, (x7.2.1.2.2.1, ())), x7.2.1.2.2.2))
noncomputable def movesMake (r : ByteArray × Int × Int × (List (Int × Int × Int × (List (Int × Int × Int × Int × Unit)) × Unit)) × (List Int) × Bool × Bool × (List (Int × Int × Int × Bool × Unit)) × Int × Int × Int × Unit) (p : (List Int) × ((List Int) × (List Int) × Unit) × Int × Int × Unit) (m : Int × Int × Int × Unit) : Option ((List Int) × ((List Int) × (List Int) × Unit) × Int × Int × Unit) :=
  Option.bind (placeCopy p) fun r2 =>
  req (inb m.2.1 r2.1.length) (Option.bind (bif (decide (m.1 ≥ (0 : Int))) then req (inb m.1 r2.1.length) (some ((), ((r2.1.set ((m.1).toNat) (0 : Int)), r2.2.1.1, r2.2.1.2.1, ())))
  else Option.bind (req (inb p.2.2.1 2) (bif (p.2.2.1 == (0 : Int)) then req (inb m.2.2.1 r2.2.1.1.length) (req (inb m.2.2.1 r2.2.1.1.length) (some ((), ((r2.2.1.1.set ((m.2.2.1).toNat) (w64 ((getD' r2.2.1.1 ((m.2.2.1).toNat) (0 : Int)) - (1 : Int)))), r2.2.1.2.1, ()))))
  else req (inb m.2.2.1 r2.2.1.2.1.length) (req (inb m.2.2.1 r2.2.1.2.1.length) (some ((), (r2.2.1.1, (r2.2.1.2.1.set ((m.2.2.1).toNat) (w64 ((getD' r2.2.1.2.1 ((m.2.2.1).toNat) (0 : Int)) - (1 : Int)))), ())))))) fun x3 =>
  some ((), (r2.1, x3.2.1, x3.2.2.1, ()))) fun x4 =>
  req (inb m.2.1 x4.2.1.length) (Option.bind (bif ((decide ((getD' r2.1 ((m.2.1).toNat) (0 : Int)) > (0 : Int))) && r.2.2.2.2.2.2.1) then (Option.bind (req (inb p.2.2.1 2) (bif (p.2.2.1 == (0 : Int)) then (req (inb p.2.2.1 2) (bif (p.2.2.1 == (0 : Int)) then req (inb (w64 ((w64 ((getD' r2.1 ((m.2.1).toNat) (0 : Int)) - (1 : Int))).tdiv (2 : Int))) x4.2.2.1.length) (req (inb (w64 ((w64 ((getD' r2.1 ((m.2.1).toNat) (0 : Int)) - (1 : Int))).tdiv (2 : Int))) x4.2.2.1.length) (some ((), ((x4.2.2.1.set (((w64 ((w64 ((getD' r2.1 ((m.2.1).toNat) (0 : Int)) - (1 : Int))).tdiv (2 : Int)))).toNat) (if (1000 : Int) < (w64 ((getD' x4.2.2.1 (((w64 ((w64 ((getD' r2.1 ((m.2.1).toNat) (0 : Int)) - (1 : Int))).tdiv (2 : Int)))).toNat) (0 : Int)) + (1 : Int))) then (1000 : Int) else (w64 ((getD' x4.2.2.1 (((w64 ((w64 ((getD' r2.1 ((m.2.1).toNat) (0 : Int)) - (1 : Int))).tdiv (2 : Int)))).toNat) (0 : Int)) + (1 : Int))))), x4.2.2.2.1, ()))))
  else req (inb (w64 ((w64 ((getD' r2.1 ((m.2.1).toNat) (0 : Int)) - (1 : Int))).tdiv (2 : Int))) x4.2.2.2.1.length) (req (inb (w64 ((w64 ((getD' r2.1 ((m.2.1).toNat) (0 : Int)) - (1 : Int))).tdiv (2 : Int))) x4.2.2.1.length) (some ((), ((x4.2.2.1.set (((w64 ((w64 ((getD' r2.1 ((m.2.1).toNat) (0 : Int)) - (1 : Int))).tdiv (2 : Int)))).toNat) (if (1000 : Int) < (w64 ((getD' x4.2.2.2.1 (((w64 ((w64 ((getD' r2.1 ((m.2.1).toNat) (0 : Int)) - (1 : Int))).tdiv (2 : Int)))).toNat) (0 : Int)) + (1 : Int))) then (1000 : Int) else (w64 ((getD' x4.2.2.2.1 (((w64 ((w64 ((getD' r2.1 ((m.2.1).toNat) (0 : Int)) - (1 : Int))).tdiv (2 : Int)))).toNat) (0 : Int)) + (1 : Int))))), x4.2.2.2.1, ()))))))
  else req (inb p.2.2.1 2) (bif (p.2.2.1 == (0 : Int)) then req (inb (w64 ((w64 ((getD' r2.1 ((m.2.1).toNat) (0 : Int)) - (1 : Int))).tdiv (2 : Int))) x4.2.2.1.length) (req (inb (w64 ((w64 ((getD' r2.1 ((m.2.1).toNat) (0 : Int)) - (1 : Int))).tdiv (2 : Int))) x4.2.2.2.1.length) (some ((), (x4.2.2.1, (x4.2.2.2.1.set (((w64 ((w64 ((getD' r2.1 ((m.2.1).toNat) (0 : Int)) - (1 : Int))).tdiv (2 : Int)))).toNat) (if (1000 : Int) < (w64 ((getD' x4.2.2.1 (((w64 ((w64 ((getD' r2.1 ((m.2.1).toNat) (0 : Int)) - (1 : Int))).tdiv (2 : Int)))).toNat) (0 : Int)) + (1 : Int))) then (1000 : Int) else (w64 ((getD' x4.2.2.1 (((w64 ((w64 ((getD' r2.1 ((m.2.1).toNat) (0 : Int)) - (1 : Int))).tdiv (2 : Int)))).toNat) (0 : Int)) + (1 : Int))))), ()))))
  else req (inb (w64 ((w64 ((getD' r2.1 ((m.2.1).toNat) (0 : Int)) - (1 : Int))).tdiv (2 : Int))) x4.2.2.2.1.length) (req (inb (w64 ((w64 ((getD' r2.1 ((m.2.1).toNat) (0 : Int)) - (1 : Int))).tdiv (2 : Int))) x4.2.2.2.1.length) (some ((), (x4.2.2.1, (x4.2.2.2.1.set (((w64 ((w64 ((getD' r2.1 ((m.2.1).toNat) (0 : Int)) - (1 : Int))).tdiv (2 : Int)))).toNat) (if (1000 : Int) < (w64 ((getD' x4.2.2.2.1 (((w64 ((w64 ((getD' r2.1 ((m.2.1).toNat) (0 : Int)) - (1 : Int))).tdiv (2 : Int)))).toNat) (0 : Int)) + (1 : Int))) then (1000 : Int) else (w64 ((getD' x4.2.2.2.1 (((w64 ((w64 ((getD' r2.1 ((m.2.1).toNat) (0 : Int)) - (1 : Int))).tdiv (2 : Int)))).toNat) (0 : Int)) + (1 : Int))))), ()))))))) fun x5 =>
  some ((), (x5.2.1, x5.2.2.1, ())))
  else some ((), (x4.2.2.1, x4.2.2.2.1, ()))) fun x6 =>
  Option.bind (bif ((decide ((getD' r2.1 ((m.2.1).toNat) (0 : Int)) > (0 : Int))) || (decide (m.1 < (0 : Int)))) then some ((), (((x4.2.1.set ((m.2.1).toNat) (w64 ((w64 ((w64 ((2 : Int) * m.2.2.1)) + p.2.2.1)) + (1 : Int)))), (x6.2.1, (x6.2.2.1, (r2.2.2.1, ((0 : Int), ()))))), ()))
  else some ((), (((x4.2.1.set ((m.2.1).toNat) (w64 ((w64 ((w64 ((2 : Int) * m.2.2.1)) + p.2.2.1)) + (1 : Int)))), (x6.2.1, (x6.2.2.1, (r2.2.2.1, ((if (200 : Int) < (w64 (p.2.2.2.1 + (1 : Int))) then (200 : Int) else (w64 (p.2.2.2.1 + (1 : Int)))), ()))))), ()))) fun x7 =>
  some (x7.2.1.1, ((x7.2.1.2.1, (x7.2.1.2.2.1, ())), ((w64 ((1 : Int) - p.2.2.1)), x7.2.1.2.2.2.2)))))
noncomputable def slicesClone_RuleWay (s : List (Int × Int × Int × Int × Unit)) : Option (List (Int × Int × Int × Int × Unit)) :=
  bif (s.isEmpty) then (agree (some ([] : List (Int × Int × Int × Int × Unit))) (req (room (([] : List (Int × Int × Int × Int × Unit)).length + s.length) 32) (some (([] : List (Int × Int × Int × Int × Unit)) ++ s))))
  else req (room (([] : List (Int × Int × Int × Int × Unit)).length + s.length) 32) (some (([] : List (Int × Int × Int × Int × Unit)) ++ s))
noncomputable def slicesClone_RuleEnd (s : List (Int × Int × Int × Bool × Unit)) : Option (List (Int × Int × Int × Bool × Unit)) :=
  bif (s.isEmpty) then (agree (some ([] : List (Int × Int × Int × Bool × Unit))) (req (room (([] : List (Int × Int × Int × Bool × Unit)).length + s.length) 32) (some (([] : List (Int × Int × Int × Bool × Unit)) ++ s))))
  else req (room (([] : List (Int × Int × Int × Bool × Unit)).length + s.length) 32) (some (([] : List (Int × Int × Int × Bool × Unit)) ++ s))
noncomputable def rulesCopy_L1 (r : ByteArray × Int × Int × (List (Int × Int × Int × (List (Int × Int × Int × Int × Unit)) × Unit)) × (List Int) × Bool × Bool × (List (Int × Int × Int × Bool × Unit)) × Int × Int × Int × Unit) (x1 : (Int × Unit) × ((ByteArray × Int × Int × (List (Int × Int × Int × (List (Int × Int × Int × Int × Unit)) × Unit)) × (List Int) × Bool × Bool × (List (Int × Int × Int × Bool × Unit)) × Int × Int × Int × Unit) × Unit)) : Option (((Int × Unit) × ((ByteArray × Int × Int × (List (Int × Int × Int × (List (Int × Int × Int × Int × Unit)) × Unit)) × (List Int) × Bool × Bool × (List (Int × Int × Int × Bool × Unit)) × Int × Int × Int × Unit) × Unit)) ⊕ ((Unit) × ((ByteArray × Int × Int × (List (Int × Int × Int × (List (Int × Int × Int × Int × Unit)) × Unit)) × (List Int) × Bool × Bool × (List (Int × Int × Int × Bool × Unit)) × Int × Int × Int × Unit) × Unit))) :=
  bif (decide (x1.1.1 < ((r.2.2.2.1.length : Nat) : Int))) then (Option.bind (at? r.2.2.2.1 x1.1.1) fun d2 =>
  Option.bind (slicesClone_RuleWay d2.2.2.2.1) fun r3 =>
  req (room (x1.2.1.2.2.2.1.length + ([(d2.1, (d2.2.1, (d2.2.2.1, (r3, ()))))]).length) 48) (some (Sum.inl (((w64 (x1.1.1 + (1 : Int))), ()), ((x1.2.1.1, (x1.2.1.2.1, (x1.2.1.2.2.1, ((x1.2.1.2.2.2.1 ++ [(d2.1, (d2.2.1, (d2.2.2.1, (r3, ()))))]), x1.2.1.2.2.2.2)))), ())))))
  else some (Sum.inr ((), ((x1.2.1.1, (x1.2.1.2.1, (x1.2.1.2.2.1, (x1.2.1.2.2.2.1, x1.2.1.2.2.2.2)))), ())))
noncomputable def rulesCopy (r : ByteArray × Int × Int × (List (Int × Int × Int × (List (Int × Int × Int × Int × Unit)) × Unit)) × (List Int) × Bool × Bool × (List (Int × Int × Int × Bool × Unit)) × Int × Int × Int × Unit) : Option (ByteArray × Int × Int × (List (Int × Int × Int × (List (Int × Int × Int × Int × Unit)) × Unit)) × (List Int) × Bool × Bool × (List (Int × Int × Int × Bool × Unit)) × Int × Int × Int × Unit) :=
  Option.bind (iterW (rulesCopy_L1 r) (((0 : Int), ()), ((r.1, (r.2.1, (r.2.2.1, (([] : List (Int × Int × Int × (List (Int × Int × Int × Int × Unit)) × Unit)), r.2.2.2.2)))), ()))) fun x4 =>
  Option.bind (agree (Option.bind (slicesClone_int r.2.2.2.2.1) fun r5 =>
  Option.bind (slicesClone_RuleEnd r.2.2.2.2.2.2.2.1) fun r6 =>
  some ((), ((x4.2.1.1, (x4.2.1.2.1, (x4.2.1.2.2.1, (x4.2.1.2.2.2.1, (r5, (x4.2.1.2.2.2.2.2.1, (x4.2.1.2.2.2.2.2.2.1, (r6, x4.2.1.2.2.2.2.2.2.2.2)))))))), ()))) (Option.bind (slicesClone_int r.2.2.2.2.1) fun r7 =>
  Option.bind (slicesClone_RuleEnd r.2.2.2.2.2.2.2.1) fun r8 =>
  some ((), ((x4.2.1.1, (x4.2.1.2.1, (x4.2.1.2.2.1, (x4.2.1.2.2.2.1, (r7, (x4.2.1.2.2.2.2.2.1, (x4.2.1.2.2.2.2.2.2.1, (r8, x4.2.1.2.2.2.2.2.2.2.2)))))))), ())))) fun x9 =>
  some (x9.2.1.1, (x9.2.1.2.1, (x9.2.1.2.2.1, (x9.2.1.2.2.2.1, (x9.2.1.2.2.2.2.1, (x9.2.1.2.2.2.2.2.1, (x9.2.1.2.2.2.2.2.2.1, (x9.2.1.2.2.2.2.2.2.2.1, x9.2.1.2.2.2.2.2.2.2.2))))))))
noncomputable def zobOf_L1 (p : (List Int) × ((List Int) × (List Int) × Unit) × Int × Int × Unit) (x1 : (Int × Int × Unit) × (Unit)) : Option (((Int × Int × Unit) × (Unit)) ⊕ ((Int × Unit) × (Unit))) :=
  bif (decide (x1.1.2.1 < ((p.1.length : Nat) : Int))) then (Option.bind (at? p.1 x1.1.2.1) fun d2 =>
  Option.bind (bif (d2 != (0 : Int)) then some (((wu64 (x1.1.1 + (zobMix (w64 ((w64 ((16 : Int) * x1.1.2.1)) + d2))))), ()), ())
  else some ((x1.1.1, ()), ())) fun x3 =>
  some (Sum.inl ((x3.1.1, (w64 (x1.1.2.1 + (1 : Int))), ()), ())))
  else some (Sum.inr ((x1.1.1, ()), ()))
noncomputable def zobOf_L3 (p : (List Int) × ((List Int) × (List Int) × Unit) × Int × Int × Unit) (x5 : (Int × Int × Unit) × (Unit)) (x6 : (Int × Int × Unit) × (Unit)) : Option (((Int × Int × Unit) × (Unit)) ⊕ ((Int × Unit) × (Unit))) :=
  bif (decide (x6.1.2.1 < (((getD' [p.2.1.1, p.2.1.2.1] (x5.1.2.1).toNat []).length : Nat) : Int))) then (Option.bind (at? (getD' [p.2.1.1, p.2.1.2.1] (x5.1.2.1).toNat []) x6.1.2.1) fun d7 =>
  some (Sum.inl (((wu64 (x6.1.1 + (wu64 ((zobMix (w64 ((w64 ((2000 : Int) + (w64 ((8 : Int) * x5.1.2.1)))) + x6.1.2.1))) * (wu64 d7))))), (w64 (x6.1.2.1 + (1 : Int))), ()), ())))
  else some (Sum.inr ((x6.1.1, ()), ()))
noncomputable def zobOf_L2 (p : (List Int) × ((List Int) × (List Int) × Unit) × Int × Int × Unit) (x5 : (Int × Int × Unit) × (Unit)) : Option (((Int × Int × Unit) × (Unit)) ⊕ ((Int × Unit) × (Unit))) :=
  bif (decide (x5.1.2.1 < (2 : Int))) then (Option.bind (req (inb x5.1.2.1 2) (Option.bind (iterW (zobOf_L3 p x5) ((x5.1.1, (0 : Int), ()), ())) fun x8 =>
  some ((x8.1.1, ()), ()))) fun x9 =>
  some (Sum.inl ((x9.1.1, (w64 (x5.1.2.1 + (1 : Int))), ()), ())))
  else some (Sum.inr ((x5.1.1, ()), ()))
noncomputable def zobOf (p : (List Int) × ((List Int) × (List Int) × Unit) × Int × Int × Unit) : Option (Int) :=
  Option.bind (iterW (zobOf_L1 p) (((0 : Int), (0 : Int), ()), ())) fun x4 =>
  Option.bind (iterW (zobOf_L2 p) ((x4.1.1, (0 : Int), ()), ())) fun x10 =>
  Option.bind (bif (p.2.2.1 == (1 : Int)) then some (((wu64 (x10.1.1 + (zobMix (3000 : Int)))), ()), ())
  else some ((x10.1.1, ()), ())) fun x11 =>
  some x11.1.1
noncomputable def slicesIndex_Move_L1 (s : List (Int × Int × Int × Unit)) (v : Int × Int × Int × Unit) (x1 : (Int × Unit) × (Unit)) : Option (((Int × Unit) × (Unit)) ⊕ (((Unit) × (Unit)) ⊕ Int)) :=
  bif (decide (x1.1.1 < ((s.length : Nat) : Int))) then (Option.bind (at? s x1.1.1) fun d2 =>
  bif ((v.1 == d2.1) && ((v.2.1 == d2.2.1) && ((v.2.2.1 == d2.2.2.1) && true))) then some (Sum.inr (Sum.inr x1.1.1))
  else some (Sum.inl (((w64 (x1.1.1 + (1 : Int))), ()), ())))
  else some (Sum.inr (Sum.inl ((), ())))
noncomputable def slicesIndex_Move (s : List (Int × Int × Int × Unit)) (v : Int × Int × Int × Unit) : Option (Int) :=
  Option.bind (α := ((Unit) × (Unit)) ⊕ Int) (iterW (slicesIndex_Move_L1 s v) (((0 : Int), ()), ())) (Sum.elim (fun x3 =>
  some (-1 : Int)) some)
noncomputable def slicesContains_Move (s : List (Int × Int × Int × Unit)) (v : Int × Int × Int × Unit) : Option (Bool) :=
  Option.bind (slicesIndex_Move s v) fun r2 =>
  some (decide (r2 ≥ (0 : Int)))
end Go.Proofs.Ytfppnefcicdnfaa
namespace Go.Proofs.Ytfppnefcicdnfaa
open Go.Den
set_option linter.unusedVariables false
set_option maxRecDepth 100000
noncomputable def law1Near_o : Option ((List Int) × ((List Int) × (List Int) × Unit) × Int × Int × Unit) :=
  some ([(1 : Int), (1 : Int), (0 : Int), (2 : Int), (2 : Int), (0 : Int), (0 : Int), (0 : Int), (0 : Int)], (([(3 : Int)], ([(3 : Int)], ())), ((0 : Int), ((0 : Int), ()))))
def law1Near : (List Int) × ((List Int) × (List Int) × Unit) × Int × Int × Unit :=
  ([(1 : Int), (1 : Int), (0 : Int), (2 : Int), (2 : Int), (0 : Int), (0 : Int), (0 : Int), (0 : Int)], (([(3 : Int)], ([(3 : Int)], ())), ((0 : Int), ((0 : Int), ()))))
theorem law1Near_eq : law1Near_o = some (law1Near) := by
  unfold law1Near_o law1Near
  first | rfl | simp only [cond_some]
end Go.Proofs.Ytfppnefcicdnfaa
namespace Go.Proofs.Ytfppnefcicdnfaa
open Go.Den
set_option linter.unusedVariables false
set_option maxRecDepth 100000
noncomputable def plainGameCount_L1 (g : (ByteArray × Int × Int × (List (Int × Int × Int × (List (Int × Int × Int × Int × Unit)) × Unit)) × (List Int) × Bool × Bool × (List (Int × Int × Int × Bool × Unit)) × Int × Int × Int × Unit) × (List ((List Int) × ((List Int) × (List Int) × Unit) × Int × Int × Unit)) × (List (Int × Int × Int × Unit)) × Unit) (x1 : (Int × Int × Unit) × (Unit)) : Option (((Int × Int × Unit) × (Unit)) ⊕ ((Int × Unit) × (Unit))) :=
  bif (decide (x1.1.2.1 < ((g.2.1.length : Nat) : Int))) then (Option.bind (at? g.2.1 x1.1.2.1) fun d2 =>
  Option.bind (agree (Option.bind (at? g.2.1 (w64 (((g.2.1.length : Nat) : Int) - (1 : Int)))) fun d3 =>
  Option.bind (placeSame d2 d3) fun r4 =>
  some ((r4, ()), ())) (Option.bind (at? g.2.1 (w64 (((g.2.1.length : Nat) : Int) - (1 : Int)))) fun d5 =>
  Option.bind (placeSame d2 d5) fun r6 =>
  some ((r6, ()), ()))) fun x7 =>
  Option.bind (bif x7.1.1 then some (((w64 (x1.1.1 + (1 : Int))), ()), ())
  else some ((x1.1.1, ()), ())) fun x8 =>
  some (Sum.inl ((x8.1.1, (w64 (x1.1.2.1 + (1 : Int))), ()), ())))
  else some (Sum.inr ((x1.1.1, ()), ()))
noncomputable def plainGameCount (g : (ByteArray × Int × Int × (List (Int × Int × Int × (List (Int × Int × Int × Int × Unit)) × Unit)) × (List Int) × Bool × Bool × (List (Int × Int × Int × Bool × Unit)) × Int × Int × Int × Unit) × (List ((List Int) × ((List Int) × (List Int) × Unit) × Int × Int × Unit)) × (List (Int × Int × Int × Unit)) × Unit) : Option (Int) :=
  Option.bind (iterW (plainGameCount_L1 g) (((0 : Int), (0 : Int), ()), ())) fun x9 =>
  some x9.1.1
noncomputable def plainGameResult (g : (ByteArray × Int × Int × (List (Int × Int × Int × (List (Int × Int × Int × Int × Unit)) × Unit)) × (List Int) × Bool × Bool × (List (Int × Int × Int × Bool × Unit)) × Int × Int × Int × Unit) × (List ((List Int) × ((List Int) × (List Int) × Unit) × Int × Int × Unit)) × (List (Int × Int × Int × Unit)) × Unit) : Option (Int) :=
  Option.bind (agree (Option.bind (at? g.2.1 (w64 (((g.2.1.length : Nat) : Int) - (1 : Int)))) fun d2 =>
  Option.bind (endsResult g.1 d2) fun r3 =>
  some ((r3, ()), ())) (Option.bind (at? g.2.1 (w64 (((g.2.1.length : Nat) : Int) - (1 : Int)))) fun d4 =>
  Option.bind (endsResult g.1 d4) fun r5 =>
  some ((r5, ()), ()))) fun x6 =>
  Option.bind (gopt ((x6.1.1 == (0 : Int)) && (g.1.2.2.2.2.2.2.2.2.2.2.1 != (0 : Int))) (0 : Int) (plainGameCount g)) fun r7 =>
  bif (((x6.1.1 == (0 : Int)) && (g.1.2.2.2.2.2.2.2.2.2.2.1 != (0 : Int))) && (decide (r7 ≥ g.1.2.2.2.2.2.2.2.2.2.2.1))) then some (3 : Int)
  else some x6.1.1
noncomputable def plainGamePlay (g : (ByteArray × Int × Int × (List (Int × Int × Int × (List (Int × Int × Int × Int × Unit)) × Unit)) × (List Int) × Bool × Bool × (List (Int × Int × Int × Bool × Unit)) × Int × Int × Int × Unit) × (List ((List Int) × ((List Int) × (List Int) × Unit) × Int × Int × Unit)) × (List (Int × Int × Int × Unit)) × Unit) (m : Int × Int × Int × Unit) : Option (((ByteArray × Int × Int × (List (Int × Int × Int × (List (Int × Int × Int × Int × Unit)) × Unit)) × (List Int) × Bool × Bool × (List (Int × Int × Int × Bool × Unit)) × Int × Int × Int × Unit) × (List ((List Int) × ((List Int) × (List Int) × Unit) × Int × Int × Unit)) × (List (Int × Int × Int × Unit)) × Unit) × Int) :=
  Option.bind (plainGameResult (g.1, (g.2.1, (g.2.2.1, ())))) fun r2 =>
  bif (r2 != (0 : Int)) then some ((g.1, (g.2.1, (g.2.2.1, ()))), (14 : Int))
  else Option.bind (agree (agree (req (inb (w64 (((g.2.1.length : Nat) : Int) - (1 : Int))) g.2.1.length) (agree (Option.bind (movesList g.1 (getD' g.2.1 (((w64 (((g.2.1.length : Nat) : Int) - (1 : Int)))).toNat) ([], (([], ([], ())), ((0 : Int), ((0 : Int), ())))))) fun r3 =>
  Option.bind (slicesContains_Move r3 m) fun r4 =>
  some (((!r4), ()), ())) (Option.bind (movesList g.1 (getD' g.2.1 (((w64 (((g.2.1.length : Nat) : Int) - (1 : Int)))).toNat) ([], (([], ([], ())), ((0 : Int), ((0 : Int), ())))))) fun r5 =>
  Option.bind (slicesContains_Move r5 m) fun r6 =>
  some (((!r6), ()), ())))) (req (inb (w64 (((g.2.1.length : Nat) : Int) - (1 : Int))) g.2.1.length) (Option.bind (movesList g.1 (getD' g.2.1 (((w64 (((g.2.1.length : Nat) : Int) - (1 : Int)))).toNat) ([], (([], ([], ())), ((0 : Int), ((0 : Int), ())))))) fun r7 =>
  Option.bind (slicesContains_Move r7 m) fun r8 =>
  some (((!r8), ()), ())))) (agree (req (inb (w64 (((g.2.1.length : Nat) : Int) - (1 : Int))) g.2.1.length) (agree (Option.bind (movesList g.1 (getD' g.2.1 (((w64 (((g.2.1.length : Nat) : Int) - (1 : Int)))).toNat) ([], (([], ([], ())), ((0 : Int), ((0 : Int), ())))))) fun r9 =>
  Option.bind (slicesContains_Move r9 m) fun r10 =>
  some (((!r10), ()), ())) (Option.bind (movesList g.1 (getD' g.2.1 (((w64 (((g.2.1.length : Nat) : Int) - (1 : Int)))).toNat) ([], (([], ([], ())), ((0 : Int), ((0 : Int), ())))))) fun r11 =>
  Option.bind (slicesContains_Move r11 m) fun r12 =>
  some (((!r12), ()), ())))) (agree (req (inb (w64 (((g.2.1.length : Nat) : Int) - (1 : Int))) g.2.1.length) (Option.bind (movesList g.1 (getD' g.2.1 (((w64 (((g.2.1.length : Nat) : Int) - (1 : Int)))).toNat) ([], (([], ([], ())), ((0 : Int), ((0 : Int), ())))))) fun r13 =>
  Option.bind (slicesContains_Move r13 m) fun r14 =>
  some (((!r14), ()), ()))) (req (inb (w64 (((g.2.1.length : Nat) : Int) - (1 : Int))) g.2.1.length) (Option.bind (movesList g.1 (getD' g.2.1 (((w64 (((g.2.1.length : Nat) : Int) - (1 : Int)))).toNat) ([], (([], ([], ())), ((0 : Int), ((0 : Int), ())))))) fun r15 =>
  Option.bind (slicesContains_Move r15 m) fun r16 =>
  some (((!r16), ()), ())))))) fun x17 =>
  bif x17.1.1 then some ((g.1, (g.2.1, (g.2.2.1, ()))), (13 : Int))
  else bif (((g.2.2.1.length : Nat) : Int) == (400 : Int)) then some ((g.1, (g.2.1, (g.2.2.1, ()))), (9 : Int))
  else Option.bind (agree (agree (agree (req (inb (w64 (((g.2.1.length : Nat) : Int) - (1 : Int))) g.2.1.length) (Option.bind (movesMake g.1 (getD' g.2.1 (((w64 (((g.2.1.length : Nat) : Int) - (1 : Int)))).toNat) ([], (([], ([], ())), ((0 : Int), ((0 : Int), ()))))) m) fun r18 =>
  req (room (g.2.1.length + ([(r18.1, ((r18.2.1.1, (r18.2.1.2.1, ())), r18.2.2))]).length) 88) (some ((), ((g.1.1, (g.1.2.1, (g.1.2.2.1, (g.1.2.2.2.1, (g.1.2.2.2.2.1, (g.1.2.2.2.2.2.1, (g.1.2.2.2.2.2.2.1, (g.1.2.2.2.2.2.2.2.1, (g.1.2.2.2.2.2.2.2.2.1, (g.1.2.2.2.2.2.2.2.2.2.1, (g.1.2.2.2.2.2.2.2.2.2.2.1, ((g.2.1 ++ [(r18.1, ((r18.2.1.1, (r18.2.1.2.1, ())), r18.2.2))]), (g.2.2.1, ()))))))))))))), ()))))) (req (inb (w64 (((g.2.1.length : Nat) : Int) - (1 : Int))) g.2.1.length) (Option.bind (movesMake g.1 (getD' g.2.1 (((w64 (((g.2.1.length : Nat) : Int) - (1 : Int)))).toNat) ([], (([], ([], ())), ((0 : Int), ((0 : Int), ()))))) m) fun r19 =>
  req (room (g.2.1.length + ([(r19.1, ((r19.2.1.1, (r19.2.1.2.1, ())), r19.2.2))]).length) 88) (some ((), ((g.1.1, (g.1.2.1, (g.1.2.2.1, (g.1.2.2.2.1, (g.1.2.2.2.2.1, (g.1.2.2.2.2.2.1, (g.1.2.2.2.2.2.2.1, (g.1.2.2.2.2.2.2.2.1, (g.1.2.2.2.2.2.2.2.2.1, (g.1.2.2.2.2.2.2.2.2.2.1, (g.1.2.2.2.2.2.2.2.2.2.2.1, ((g.2.1 ++ [(r19.1, ((r19.2.1.1, (r19.2.1.2.1, ())), r19.2.2))]), (g.2.2.1, ()))))))))))))), ())))))) (agree (req (inb (w64 (((g.2.1.length : Nat) : Int) - (1 : Int))) g.2.1.length) (Option.bind (movesMake g.1 (getD' g.2.1 (((w64 (((g.2.1.length : Nat) : Int) - (1 : Int)))).toNat) ([], (([], ([], ())), ((0 : Int), ((0 : Int), ()))))) m) fun r20 =>
  req (room (g.2.1.length + ([(r20.1, ((r20.2.1.1, (r20.2.1.2.1, ())), r20.2.2))]).length) 88) (some ((), ((g.1.1, (g.1.2.1, (g.1.2.2.1, (g.1.2.2.2.1, (g.1.2.2.2.2.1, (g.1.2.2.2.2.2.1, (g.1.2.2.2.2.2.2.1, (g.1.2.2.2.2.2.2.2.1, (g.1.2.2.2.2.2.2.2.2.1, (g.1.2.2.2.2.2.2.2.2.2.1, (g.1.2.2.2.2.2.2.2.2.2.2.1, ((g.2.1 ++ [(r20.1, ((r20.2.1.1, (r20.2.1.2.1, ())), r20.2.2))]), (g.2.2.1, ()))))))))))))), ()))))) (agree (req (inb (w64 (((g.2.1.length : Nat) : Int) - (1 : Int))) g.2.1.length) (Option.bind (movesMake g.1 (getD' g.2.1 (((w64 (((g.2.1.length : Nat) : Int) - (1 : Int)))).toNat) ([], (([], ([], ())), ((0 : Int), ((0 : Int), ()))))) m) fun r21 =>
  req (room (g.2.1.length + ([(r21.1, ((r21.2.1.1, (r21.2.1.2.1, ())), r21.2.2))]).length) 88) (some ((), ((g.1.1, (g.1.2.1, (g.1.2.2.1, (g.1.2.2.2.1, (g.1.2.2.2.2.1, (g.1.2.2.2.2.2.1, (g.1.2.2.2.2.2.2.1, (g.1.2.2.2.2.2.2.2.1, (g.1.2.2.2.2.2.2.2.2.1, (g.1.2.2.2.2.2.2.2.2.2.1, (g.1.2.2.2.2.2.2.2.2.2.2.1, ((g.2.1 ++ [(r21.1, ((r21.2.1.1, (r21.2.1.2.1, ())), r21.2.2))]), (g.2.2.1, ()))))))))))))), ()))))) (req (inb (w64 (((g.2.1.length : Nat) : Int) - (1 : Int))) g.2.1.length) (Option.bind (movesMake g.1 (getD' g.2.1 (((w64 (((g.2.1.length : Nat) : Int) - (1 : Int)))).toNat) ([], (([], ([], ())), ((0 : Int), ((0 : Int), ()))))) m) fun r22 =>
  req (room (g.2.1.length + ([(r22.1, ((r22.2.1.1, (r22.2.1.2.1, ())), r22.2.2))]).length) 88) (some ((), ((g.1.1, (g.1.2.1, (g.1.2.2.1, (g.1.2.2.2.1, (g.1.2.2.2.2.1, (g.1.2.2.2.2.2.1, (g.1.2.2.2.2.2.2.1, (g.1.2.2.2.2.2.2.2.1, (g.1.2.2.2.2.2.2.2.2.1, (g.1.2.2.2.2.2.2.2.2.2.1, (g.1.2.2.2.2.2.2.2.2.2.2.1, ((g.2.1 ++ [(r22.1, ((r22.2.1.1, (r22.2.1.2.1, ())), r22.2.2))]), (g.2.2.1, ()))))))))))))), ())))))))) (agree (agree (agree (req (inb (w64 (((g.2.1.length : Nat) : Int) - (1 : Int))) g.2.1.length) (Option.bind (movesMake g.1 (getD' g.2.1 (((w64 (((g.2.1.length : Nat) : Int) - (1 : Int)))).toNat) ([], (([], ([], ())), ((0 : Int), ((0 : Int), ()))))) m) fun r23 =>
  req (room (g.2.1.length + ([(r23.1, ((r23.2.1.1, (r23.2.1.2.1, ())), r23.2.2))]).length) 88) (some ((), ((g.1.1, (g.1.2.1, (g.1.2.2.1, (g.1.2.2.2.1, (g.1.2.2.2.2.1, (g.1.2.2.2.2.2.1, (g.1.2.2.2.2.2.2.1, (g.1.2.2.2.2.2.2.2.1, (g.1.2.2.2.2.2.2.2.2.1, (g.1.2.2.2.2.2.2.2.2.2.1, (g.1.2.2.2.2.2.2.2.2.2.2.1, ((g.2.1 ++ [(r23.1, ((r23.2.1.1, (r23.2.1.2.1, ())), r23.2.2))]), (g.2.2.1, ()))))))))))))), ()))))) (req (inb (w64 (((g.2.1.length : Nat) : Int) - (1 : Int))) g.2.1.length) (Option.bind (movesMake g.1 (getD' g.2.1 (((w64 (((g.2.1.length : Nat) : Int) - (1 : Int)))).toNat) ([], (([], ([], ())), ((0 : Int), ((0 : Int), ()))))) m) fun r24 =>
  req (room (g.2.1.length + ([(r24.1, ((r24.2.1.1, (r24.2.1.2.1, ())), r24.2.2))]).length) 88) (some ((), ((g.1.1, (g.1.2.1, (g.1.2.2.1, (g.1.2.2.2.1, (g.1.2.2.2.2.1, (g.1.2.2.2.2.2.1, (g.1.2.2.2.2.2.2.1, (g.1.2.2.2.2.2.2.2.1, (g.1.2.2.2.2.2.2.2.2.1, (g.1.2.2.2.2.2.2.2.2.2.1, (g.1.2.2.2.2.2.2.2.2.2.2.1, ((g.2.1 ++ [(r24.1, ((r24.2.1.1, (r24.2.1.2.1, ())), r24.2.2))]), (g.2.2.1, ()))))))))))))), ())))))) (agree (req (inb (w64 (((g.2.1.length : Nat) : Int) - (1 : Int))) g.2.1.length) (agree (Option.bind (movesMake g.1 (getD' g.2.1 (((w64 (((g.2.1.length : Nat) : Int) - (1 : Int)))).toNat) ([], (([], ([], ())), ((0 : Int), ((0 : Int), ()))))) m) fun r25 =>
  req (room (g.2.1.length + ([(r25.1, ((r25.2.1.1, (r25.2.1.2.1, ())), r25.2.2))]).length) 88) (some ((), ((g.1.1, (g.1.2.1, (g.1.2.2.1, (g.1.2.2.2.1, (g.1.2.2.2.2.1, (g.1.2.2.2.2.2.1, (g.1.2.2.2.2.2.2.1, (g.1.2.2.2.2.2.2.2.1, (g.1.2.2.2.2.2.2.2.2.1, (g.1.2.2.2.2.2.2.2.2.2.1, (g.1.2.2.2.2.2.2.2.2.2.2.1, ((g.2.1 ++ [(r25.1, ((r25.2.1.1, (r25.2.1.2.1, ())), r25.2.2))]), (g.2.2.1, ()))))))))))))), ())))) (Option.bind (movesMake g.1 (getD' g.2.1 (((w64 (((g.2.1.length : Nat) : Int) - (1 : Int)))).toNat) ([], (([], ([], ())), ((0 : Int), ((0 : Int), ()))))) m) fun r26 =>
  req (room (g.2.1.length + ([(r26.1, ((r26.2.1.1, (r26.2.1.2.1, ())), r26.2.2))]).length) 88) (some ((), ((g.1.1, (g.1.2.1, (g.1.2.2.1, (g.1.2.2.2.1, (g.1.2.2.2.2.1, (g.1.2.2.2.2.2.1, (g.1.2.2.2.2.2.2.1, (g.1.2.2.2.2.2.2.2.1, (g.1.2.2.2.2.2.2.2.2.1, (g.1.2.2.2.2.2.2.2.2.2.1, (g.1.2.2.2.2.2.2.2.2.2.2.1, ((g.2.1 ++ [(r26.1, ((r26.2.1.1, (r26.2.1.2.1, ())), r26.2.2))]), (g.2.2.1, ()))))))))))))), ())))))) (agree (req (inb (w64 (((g.2.1.length : Nat) : Int) - (1 : Int))) g.2.1.length) (Option.bind (movesMake g.1 (getD' g.2.1 (((w64 (((g.2.1.length : Nat) : Int) - (1 : Int)))).toNat) ([], (([], ([], ())), ((0 : Int), ((0 : Int), ()))))) m) fun r27 =>
  req (room (g.2.1.length + ([(r27.1, ((r27.2.1.1, (r27.2.1.2.1, ())), r27.2.2))]).length) 88) (some ((), ((g.1.1, (g.1.2.1, (g.1.2.2.1, (g.1.2.2.2.1, (g.1.2.2.2.2.1, (g.1.2.2.2.2.2.1, (g.1.2.2.2.2.2.2.1, (g.1.2.2.2.2.2.2.2.1, (g.1.2.2.2.2.2.2.2.2.1, (g.1.2.2.2.2.2.2.2.2.2.1, (g.1.2.2.2.2.2.2.2.2.2.2.1, ((g.2.1 ++ [(r27.1, ((r27.2.1.1, (r27.2.1.2.1, ())), r27.2.2))]), (g.2.2.1, ()))))))))))))), ()))))) (req (inb (w64 (((g.2.1.length : Nat) : Int) - (1 : Int))) g.2.1.length) (agree (Option.bind (movesMake g.1 (getD' g.2.1 (((w64 (((g.2.1.length : Nat) : Int) - (1 : Int)))).toNat) ([], (([], ([], ())), ((0 : Int), ((0 : Int), ()))))) m) fun r28 =>
  req (room (g.2.1.length + ([(r28.1, ((r28.2.1.1, (r28.2.1.2.1, ())), r28.2.2))]).length) 88) (some ((), ((g.1.1, (g.1.2.1, (g.1.2.2.1, (g.1.2.2.2.1, (g.1.2.2.2.2.1, (g.1.2.2.2.2.2.1, (g.1.2.2.2.2.2.2.1, (g.1.2.2.2.2.2.2.2.1, (g.1.2.2.2.2.2.2.2.2.1, (g.1.2.2.2.2.2.2.2.2.2.1, (g.1.2.2.2.2.2.2.2.2.2.2.1, ((g.2.1 ++ [(r28.1, ((r28.2.1.1, (r28.2.1.2.1, ())), r28.2.2))]), (g.2.2.1, ()))))))))))))), ())))) (Option.bind (movesMake g.1 (getD' g.2.1 (((w64 (((g.2.1.length : Nat) : Int) - (1 : Int)))).toNat) ([], (([], ([], ())), ((0 : Int), ((0 : Int), ()))))) m) fun r29 =>
  req (room (g.2.1.length + ([(r29.1, ((r29.2.1.1, (r29.2.1.2.1, ())), r29.2.2))]).length) 88) (some ((), ((g.1.1, (g.1.2.1, (g.1.2.2.1, (g.1.2.2.2.1, (g.1.2.2.2.2.1, (g.1.2.2.2.2.2.1, (g.1.2.2.2.2.2.2.1, (g.1.2.2.2.2.2.2.2.1, (g.1.2.2.2.2.2.2.2.2.1, (g.1.2.2.2.2.2.2.2.2.2.1, (g.1.2.2.2.2.2.2.2.2.2.2.1, ((g.2.1 ++ [(r29.1, ((r29.2.1.1, (r29.2.1.2.1, ())), r29.2.2))]), (g.2.2.1, ()))))))))))))), ()))))))))) (agree (req (inb (w64 (((g.2.1.length : Nat) : Int) - (1 : Int))) g.2.1.length) (agree (Option.bind (movesMake g.1 (getD' g.2.1 (((w64 (((g.2.1.length : Nat) : Int) - (1 : Int)))).toNat) ([], (([], ([], ())), ((0 : Int), ((0 : Int), ()))))) m) fun r30 =>
  req (room (g.2.1.length + ([(r30.1, ((r30.2.1.1, (r30.2.1.2.1, ())), r30.2.2))]).length) 88) (some ((), ((g.1.1, (g.1.2.1, (g.1.2.2.1, (g.1.2.2.2.1, (g.1.2.2.2.2.1, (g.1.2.2.2.2.2.1, (g.1.2.2.2.2.2.2.1, (g.1.2.2.2.2.2.2.2.1, (g.1.2.2.2.2.2.2.2.2.1, (g.1.2.2.2.2.2.2.2.2.2.1, (g.1.2.2.2.2.2.2.2.2.2.2.1, ((g.2.1 ++ [(r30.1, ((r30.2.1.1, (r30.2.1.2.1, ())), r30.2.2))]), (g.2.2.1, ()))))))))))))), ())))) (Option.bind (movesMake g.1 (getD' g.2.1 (((w64 (((g.2.1.length : Nat) : Int) - (1 : Int)))).toNat) ([], (([], ([], ())), ((0 : Int), ((0 : Int), ()))))) m) fun r31 =>
  req (room (g.2.1.length + ([(r31.1, ((r31.2.1.1, (r31.2.1.2.1, ())), r31.2.2))]).length) 88) (some ((), ((g.1.1, (g.1.2.1, (g.1.2.2.1, (g.1.2.2.2.1, (g.1.2.2.2.2.1, (g.1.2.2.2.2.2.1, (g.1.2.2.2.2.2.2.1, (g.1.2.2.2.2.2.2.2.1, (g.1.2.2.2.2.2.2.2.2.1, (g.1.2.2.2.2.2.2.2.2.2.1, (g.1.2.2.2.2.2.2.2.2.2.2.1, ((g.2.1 ++ [(r31.1, ((r31.2.1.1, (r31.2.1.2.1, ())), r31.2.2))]), (g.2.2.1, ()))))))))))))), ())))))) (agree (agree (req (inb (w64 (((g.2.1.length : Nat) : Int) - (1 : Int))) g.2.1.length) (Option.bind (movesMake g.1 (getD' g.2.1 (((w64 (((g.2.1.length : Nat) : Int) - (1 : Int)))).toNat) ([], (([], ([], ())), ((0 : Int), ((0 : Int), ()))))) m) fun r32 =>
  req (room (g.2.1.length + ([(r32.1, ((r32.2.1.1, (r32.2.1.2.1, ())), r32.2.2))]).length) 88) (some ((), ((g.1.1, (g.1.2.1, (g.1.2.2.1, (g.1.2.2.2.1, (g.1.2.2.2.2.1, (g.1.2.2.2.2.2.1, (g.1.2.2.2.2.2.2.1, (g.1.2.2.2.2.2.2.2.1, (g.1.2.2.2.2.2.2.2.2.1, (g.1.2.2.2.2.2.2.2.2.2.1, (g.1.2.2.2.2.2.2.2.2.2.2.1, ((g.2.1 ++ [(r32.1, ((r32.2.1.1, (r32.2.1.2.1, ())), r32.2.2))]), (g.2.2.1, ()))))))))))))), ()))))) (req (inb (w64 (((g.2.1.length : Nat) : Int) - (1 : Int))) g.2.1.length) (Option.bind (movesMake g.1 (getD' g.2.1 (((w64 (((g.2.1.length : Nat) : Int) - (1 : Int)))).toNat) ([], (([], ([], ())), ((0 : Int), ((0 : Int), ()))))) m) fun r33 =>
  req (room (g.2.1.length + ([(r33.1, ((r33.2.1.1, (r33.2.1.2.1, ())), r33.2.2))]).length) 88) (some ((), ((g.1.1, (g.1.2.1, (g.1.2.2.1, (g.1.2.2.2.1, (g.1.2.2.2.2.1, (g.1.2.2.2.2.2.1, (g.1.2.2.2.2.2.2.1, (g.1.2.2.2.2.2.2.2.1, (g.1.2.2.2.2.2.2.2.2.1, (g.1.2.2.2.2.2.2.2.2.2.1, (g.1.2.2.2.2.2.2.2.2.2.2.1, ((g.2.1 ++ [(r33.1, ((r33.2.1.1, (r33.2.1.2.1, ())), r33.2.2))]), (g.2.2.1, ()))))))))))))), ())))))) (agree (agree (req (inb (w64 (((g.2.1.length : Nat) : Int) - (1 : Int))) g.2.1.length) (Option.bind (movesMake g.1 (getD' g.2.1 (((w64 (((g.2.1.length : Nat) : Int) - (1 : Int)))).toNat) ([], (([], ([], ())), ((0 : Int), ((0 : Int), ()))))) m) fun r34 =>
  req (room (g.2.1.length + ([(r34.1, ((r34.2.1.1, (r34.2.1.2.1, ())), r34.2.2))]).length) 88) (some ((), ((g.1.1, (g.1.2.1, (g.1.2.2.1, (g.1.2.2.2.1, (g.1.2.2.2.2.1, (g.1.2.2.2.2.2.1, (g.1.2.2.2.2.2.2.1, (g.1.2.2.2.2.2.2.2.1, (g.1.2.2.2.2.2.2.2.2.1, (g.1.2.2.2.2.2.2.2.2.2.1, (g.1.2.2.2.2.2.2.2.2.2.2.1, ((g.2.1 ++ [(r34.1, ((r34.2.1.1, (r34.2.1.2.1, ())), r34.2.2))]), (g.2.2.1, ()))))))))))))), ()))))) (req (inb (w64 (((g.2.1.length : Nat) : Int) - (1 : Int))) g.2.1.length) (agree (Option.bind (movesMake g.1 (getD' g.2.1 (((w64 (((g.2.1.length : Nat) : Int) - (1 : Int)))).toNat) ([], (([], ([], ())), ((0 : Int), ((0 : Int), ()))))) m) fun r35 =>
  req (room (g.2.1.length + ([(r35.1, ((r35.2.1.1, (r35.2.1.2.1, ())), r35.2.2))]).length) 88) (some ((), ((g.1.1, (g.1.2.1, (g.1.2.2.1, (g.1.2.2.2.1, (g.1.2.2.2.2.1, (g.1.2.2.2.2.2.1, (g.1.2.2.2.2.2.2.1, (g.1.2.2.2.2.2.2.2.1, (g.1.2.2.2.2.2.2.2.2.1, (g.1.2.2.2.2.2.2.2.2.2.1, (g.1.2.2.2.2.2.2.2.2.2.2.1, ((g.2.1 ++ [(r35.1, ((r35.2.1.1, (r35.2.1.2.1, ())), r35.2.2))]), (g.2.2.1, ()))))))))))))), ())))) (Option.bind (movesMake g.1 (getD' g.2.1 (((w64 (((g.2.1.length : Nat) : Int) - (1 : Int)))).toNat) ([], (([], ([], ())), ((0 : Int), ((0 : Int), ()))))) m) fun r36 =>
  req (room (g.2.1.length + ([(r36.1, ((r36.2.1.1, (r36.2.1.2.1, ())), r36.2.2))]).length) 88) (some ((), ((g.1.1, (g.1.2.1, (g.1.2.2.1, (g.1.2.2.2.1, (g.1.2.2.2.2.1, (g.1.2.2.2.2.2.1, (g.1.2.2.2.2.2.2.1, (g.1.2.2.2.2.2.2.2.1, (g.1.2.2.2.2.2.2.2.2.1, (g.1.2.2.2.2.2.2.2.2.2.1, (g.1.2.2.2.2.2.2.2.2.2.2.1, ((g.2.1 ++ [(r36.1, ((r36.2.1.1, (r36.2.1.2.1, ())), r36.2.2))]), (g.2.2.1, ()))))))))))))), ()))))))) (req (inb (w64 (((g.2.1.length : Nat) : Int) - (1 : Int))) g.2.1.length) (agree (Option.bind (movesMake g.1 (getD' g.2.1 (((w64 (((g.2.1.length : Nat) : Int) - (1 : Int)))).toNat) ([], (([], ([], ())), ((0 : Int), ((0 : Int), ()))))) m) fun r37 =>
  req (room (g.2.1.length + ([(r37.1, ((r37.2.1.1, (r37.2.1.2.1, ())), r37.2.2))]).length) 88) (some ((), ((g.1.1, (g.1.2.1, (g.1.2.2.1, (g.1.2.2.2.1, (g.1.2.2.2.2.1, (g.1.2.2.2.2.2.1, (g.1.2.2.2.2.2.2.1, (g.1.2.2.2.2.2.2.2.1, (g.1.2.2.2.2.2.2.2.2.1, (g.1.2.2.2.2.2.2.2.2.2.1, (g.1.2.2.2.2.2.2.2.2.2.2.1, ((g.2.1 ++ [(r37.1, ((r37.2.1.1, (r37.2.1.2.1, ())), r37.2.2))]), (g.2.2.1, ()))))))))))))), ())))) (Option.bind (movesMake g.1 (getD' g.2.1 (((w64 (((g.2.1.length : Nat) : Int) - (1 : Int)))).toNat) ([], (([], ([], ())), ((0 : Int), ((0 : Int), ()))))) m) fun r38 =>
  req (room (g.2.1.length + ([(r38.1, ((r38.2.1.1, (r38.2.1.2.1, ())), r38.2.2))]).length) 88) (some ((), ((g.1.1, (g.1.2.1, (g.1.2.2.1, (g.1.2.2.2.1, (g.1.2.2.2.2.1, (g.1.2.2.2.2.2.1, (g.1.2.2.2.2.2.2.1, (g.1.2.2.2.2.2.2.2.1, (g.1.2.2.2.2.2.2.2.2.1, (g.1.2.2.2.2.2.2.2.2.2.1, (g.1.2.2.2.2.2.2.2.2.2.2.1, ((g.2.1 ++ [(r38.1, ((r38.2.1.1, (r38.2.1.2.1, ())), r38.2.2))]), (g.2.2.1, ()))))))))))))), ()))))))))))) fun x39 =>
  req (room (x39.2.1.2.2.2.2.2.2.2.2.2.2.2.2.1.length + ([m]).length) 24) (some (((x39.2.1.1, (x39.2.1.2.1, (x39.2.1.2.2.1, (x39.2.1.2.2.2.1, (x39.2.1.2.2.2.2.1, (x39.2.1.2.2.2.2.2.1, (x39.2.1.2.2.2.2.2.2.1, (x39.2.1.2.2.2.2.2.2.2.1, (x39.2.1.2.2.2.2.2.2.2.2.1, (x39.2.1.2.2.2.2.2.2.2.2.2.1, (x39.2.1.2.2.2.2.2.2.2.2.2.2.1, ()))))))))))), (x39.2.1.2.2.2.2.2.2.2.2.2.2.2.1, ((x39.2.1.2.2.2.2.2.2.2.2.2.2.2.2.1 ++ [m]), ()))), (0 : Int)))
noncomputable def plainGamePosition (g : (ByteArray × Int × Int × (List (Int × Int × Int × (List (Int × Int × Int × Int × Unit)) × Unit)) × (List Int) × Bool × Bool × (List (Int × Int × Int × Bool × Unit)) × Int × Int × Int × Unit) × (List ((List Int) × ((List Int) × (List Int) × Unit) × Int × Int × Unit)) × (List (Int × Int × Int × Unit)) × Unit) : Option ((List Int) × ((List Int) × (List Int) × Unit) × Int × Int × Unit) :=
  Option.bind (at? g.2.1 (w64 (((g.2.1.length : Nat) : Int) - (1 : Int)))) fun d3 =>
  Option.bind (placeCopy d3) fun r4 =>
  some (r4.1, ((r4.2.1.1, (r4.2.1.2.1, ())), r4.2.2))
noncomputable def plainRun_L1 (l : List (Int × Int × Int × Unit)) (x5 : (Int × Unit) × (Unit)) : Option (((Int × Unit) × (Unit)) ⊕ (((Unit) × (Unit)) ⊕ (((List Int) × ((List Int) × (List Int) × Unit) × Int × Int × Unit) × Int × Int × Unit))) :=
  bif (decide (x5.1.1 < ((l.length : Nat) : Int))) then (Option.bind (at? l x5.1.1) fun d6 =>
  none)
  else some (Sum.inr (Sum.inl ((), ())))
noncomputable def plainRun_L2 (l : List (Int × Int × Int × Unit)) (x12 : (Int × Unit) × (((List Int) × (List Int) × (List Int) × Int × Int × Unit) × (ByteArray × Int × Int × (List (Int × Int × Int × (List (Int × Int × Int × Int × Unit)) × Unit)) × (List Int) × Bool × Bool × (List (Int × Int × Int × Bool × Unit)) × Int × Int × Int × (List ((List Int) × ((List Int) × (List Int) × Unit) × Int × Int × Unit)) × (List (Int × Int × Int × Unit)) × Unit) × Unit)) : Option (((Int × Unit) × (((List Int) × (List Int) × (List Int) × Int × Int × Unit) × (ByteArray × Int × Int × (List (Int × Int × Int × (List (Int × Int × Int × Int × Unit)) × Unit)) × (List Int) × Bool × Bool × (List (Int × Int × Int × Bool × Unit)) × Int × Int × Int × (List ((List Int) × ((List Int) × (List Int) × Unit) × Int × Int × Unit)) × (List (Int × Int × Int × Unit)) × Unit) × Unit)) ⊕ (((Unit) × (((List Int) × (List Int) × (List Int) × Int × Int × Unit) × (ByteArray × Int × Int × (List (Int × Int × Int × (List (Int × Int × Int × Int × Unit)) × Unit)) × (List Int) × Bool × Bool × (List (Int × Int × Int × Bool × Unit)) × Int × Int × Int × (List ((List Int) × ((List Int) × (List Int) × Unit) × Int × Int × Unit)) × (List (Int × Int × Int × Unit)) × Unit) × Unit)) ⊕ (((List Int) × ((List Int) × (List Int) × Unit) × Int × Int × Unit) × Int × Int × Unit))) :=
  bif (decide (x12.1.1 < ((l.length : Nat) : Int))) then (Option.bind (at? l x12.1.1) fun d13 =>
  Option.bind (plainGamePlay ((x12.2.2.1.1, (x12.2.2.1.2.1, (x12.2.2.1.2.2.1, (x12.2.2.1.2.2.2.1, (x12.2.2.1.2.2.2.2.1, (x12.2.2.1.2.2.2.2.2.1, (x12.2.2.1.2.2.2.2.2.2.1, (x12.2.2.1.2.2.2.2.2.2.2.1, (x12.2.2.1.2.2.2.2.2.2.2.2.1, (x12.2.2.1.2.2.2.2.2.2.2.2.2.1, (x12.2.2.1.2.2.2.2.2.2.2.2.2.2.1, ()))))))))))), (x12.2.2.1.2.2.2.2.2.2.2.2.2.2.2.1, (x12.2.2.1.2.2.2.2.2.2.2.2.2.2.2.2.1, ()))) d13) fun r14 =>
  bif (r14.2 != (0 : Int)) then some (Sum.inr (Sum.inr ((([] : List Int), ((([] : List Int), (([] : List Int), ())), ((0 : Int), ((0 : Int), ())))), ((0 : Int), (r14.2, ())))))
  else some (Sum.inl (((w64 (x12.1.1 + (1 : Int))), ()), ((x12.2.1.1, (x12.2.1.2.1, (x12.2.1.2.2.1, x12.2.1.2.2.2))), (r14.1.1.1, (r14.1.1.2.1, (r14.1.1.2.2.1, (r14.1.1.2.2.2.1, (r14.1.1.2.2.2.2.1, (r14.1.1.2.2.2.2.2.1, (r14.1.1.2.2.2.2.2.2.1, (r14.1.1.2.2.2.2.2.2.2.1, (r14.1.1.2.2.2.2.2.2.2.2.1, (r14.1.1.2.2.2.2.2.2.2.2.2.1, (r14.1.1.2.2.2.2.2.2.2.2.2.2.1, (r14.1.2.1, (r14.1.2.2.1, ()))))))))))))), ()))))
  else some (Sum.inr (Sum.inl ((), ((x12.2.1.1, (x12.2.1.2.1, (x12.2.1.2.2.1, x12.2.1.2.2.2))), (x12.2.2.1.1, (x12.2.2.1.2.1, (x12.2.2.1.2.2.1, (x12.2.2.1.2.2.2.1, (x12.2.2.1.2.2.2.2.1, (x12.2.2.1.2.2.2.2.2.1, (x12.2.2.1.2.2.2.2.2.2.1, (x12.2.2.1.2.2.2.2.2.2.2.1, (x12.2.2.1.2.2.2.2.2.2.2.2.1, (x12.2.2.1.2.2.2.2.2.2.2.2.2.1, (x12.2.2.1.2.2.2.2.2.2.2.2.2.2.1, (x12.2.2.1.2.2.2.2.2.2.2.2.2.2.2.1, (x12.2.2.1.2.2.2.2.2.2.2.2.2.2.2.2.1, ()))))))))))))), ()))))
noncomputable def plainRun (r : ByteArray × Int × Int × (List (Int × Int × Int × (List (Int × Int × Int × Int × Unit)) × Unit)) × (List Int) × Bool × Bool × (List (Int × Int × Int × Bool × Unit)) × Int × Int × Int × Unit) (l : List (Int × Int × Int × Unit)) : Option (((List Int) × ((List Int) × (List Int) × Unit) × Int × Int × Unit) × Int × Int × Unit) :=
  Option.bind (placeBegin r) fun r4 =>
  bif (r4.2.1 != (0 : Int)) then (bif (r4.2.1 != (0 : Int)) then some ((([] : List Int), ((([] : List Int), (([] : List Int), ())), ((0 : Int), ((0 : Int), ())))), ((0 : Int), r4.2))
  else Option.bind (α := ((Unit) × (Unit)) ⊕ (((List Int) × ((List Int) × (List Int) × Unit) × Int × Int × Unit) × Int × Int × Unit)) (iterW (plainRun_L1 l) (((0 : Int), ()), ())) (Sum.elim (fun x7 =>
  none) some))
  else Option.bind (agree (Option.bind (rulesCopy r) fun r8 =>
  some (((r8, ([(r4.1.1, ((r4.1.2.1.1, (r4.1.2.1.2.1, ())), r4.1.2.2))], (([] : List (Int × Int × Int × Unit)), ()))), (0 : Int), ()), ())) (agree (Option.bind (rulesCopy r) fun r9 =>
  some (((r9, ([(r4.1.1, ((r4.1.2.1.1, (r4.1.2.1.2.1, ())), r4.1.2.2))], (([] : List (Int × Int × Int × Unit)), ()))), (0 : Int), ()), ())) (Option.bind (rulesCopy r) fun r10 =>
  some (((r10, ([(r4.1.1, ((r4.1.2.1.1, (r4.1.2.1.2.1, ())), r4.1.2.2))], (([] : List (Int × Int × Int × Unit)), ()))), (0 : Int), ()), ())))) fun x11 =>
  bif (x11.1.2.1 != (0 : Int)) then some ((([] : List Int), ((([] : List Int), (([] : List Int), ())), ((0 : Int), ((0 : Int), ())))), ((0 : Int), (x11.1.2.1, ())))
  else Option.bind (α := ((Unit) × (((List Int) × (List Int) × (List Int) × Int × Int × Unit) × (ByteArray × Int × Int × (List (Int × Int × Int × (List (Int × Int × Int × Int × Unit)) × Unit)) × (List Int) × Bool × Bool × (List (Int × Int × Int × Bool × Unit)) × Int × Int × Int × (List ((List Int) × ((List Int) × (List Int) × Unit) × Int × Int × Unit)) × (List (Int × Int × Int × Unit)) × Unit) × Unit)) ⊕ (((List Int) × ((List Int) × (List Int) × Unit) × Int × Int × Unit) × Int × Int × Unit)) (iterW (plainRun_L2 l) (((0 : Int), ()), ((([] : List Int), (([] : List Int), (([] : List Int), ((0 : Int), ((0 : Int), ()))))), (x11.1.1.1.1, (x11.1.1.1.2.1, (x11.1.1.1.2.2.1, (x11.1.1.1.2.2.2.1, (x11.1.1.1.2.2.2.2.1, (x11.1.1.1.2.2.2.2.2.1, (x11.1.1.1.2.2.2.2.2.2.1, (x11.1.1.1.2.2.2.2.2.2.2.1, (x11.1.1.1.2.2.2.2.2.2.2.2.1, (x11.1.1.1.2.2.2.2.2.2.2.2.2.1, (x11.1.1.1.2.2.2.2.2.2.2.2.2.2.1, (x11.1.1.2.1, (x11.1.1.2.2.1, ()))))))))))))), ()))) (Sum.elim (fun x15 =>
  Option.bind (plainGamePosition ((x15.2.2.1.1, (x15.2.2.1.2.1, (x15.2.2.1.2.2.1, (x15.2.2.1.2.2.2.1, (x15.2.2.1.2.2.2.2.1, (x15.2.2.1.2.2.2.2.2.1, (x15.2.2.1.2.2.2.2.2.2.1, (x15.2.2.1.2.2.2.2.2.2.2.1, (x15.2.2.1.2.2.2.2.2.2.2.2.1, (x15.2.2.1.2.2.2.2.2.2.2.2.2.1, (x15.2.2.1.2.2.2.2.2.2.2.2.2.2.1, ()))))))))))), (x15.2.2.1.2.2.2.2.2.2.2.2.2.2.2.1, (x15.2.2.1.2.2.2.2.2.2.2.2.2.2.2.2.1, ())))) fun r16 =>
  Option.bind (plainGameResult ((x15.2.2.1.1, (x15.2.2.1.2.1, (x15.2.2.1.2.2.1, (x15.2.2.1.2.2.2.1, (x15.2.2.1.2.2.2.2.1, (x15.2.2.1.2.2.2.2.2.1, (x15.2.2.1.2.2.2.2.2.2.1, (x15.2.2.1.2.2.2.2.2.2.2.1, (x15.2.2.1.2.2.2.2.2.2.2.2.1, (x15.2.2.1.2.2.2.2.2.2.2.2.2.1, (x15.2.2.1.2.2.2.2.2.2.2.2.2.2.1, ()))))))))))), (x15.2.2.1.2.2.2.2.2.2.2.2.2.2.2.1, (x15.2.2.1.2.2.2.2.2.2.2.2.2.2.2.2.1, ())))) fun r17 =>
  some ((r16.1, ((r16.2.1.1, (r16.2.1.2.1, ())), r16.2.2)), (r17, ((0 : Int), ())))) some)
noncomputable def law3Tic_o : Option (ByteArray × Int × Int × (List (Int × Int × Int × (List (Int × Int × Int × Int × Unit)) × Unit)) × (List Int) × Bool × Bool × (List (Int × Int × Int × Bool × Unit)) × Int × Int × Int × Unit) :=
  some ((ByteArray.mk #[84, 73, 67]), ((3 : Int), ((3 : Int), ([((83 : Int), ((5 : Int), ((0 : Int), (([] : List (Int × Int × Int × Int × Unit)), ()))))], ((List.replicate 9 (0 : Int)), (false, (false, ([((0 : Int), ((0 : Int), ((3 : Int), (false, ()))))], ((2 : Int), ((0 : Int), ((0 : Int), ())))))))))))
def law3Tic : ByteArray × Int × Int × (List (Int × Int × Int × (List (Int × Int × Int × Int × Unit)) × Unit)) × (List Int) × Bool × Bool × (List (Int × Int × Int × Bool × Unit)) × Int × Int × Int × Unit :=
  ((ByteArray.mk #[84, 73, 67]), ((3 : Int), ((3 : Int), ([((83 : Int), ((5 : Int), ((0 : Int), (([] : List (Int × Int × Int × Int × Unit)), ()))))], ((List.replicate 9 (0 : Int)), (false, (false, ([((0 : Int), ((0 : Int), ((3 : Int), (false, ()))))], ((2 : Int), ((0 : Int), ((0 : Int), ())))))))))))
theorem law3Tic_eq : law3Tic_o = some (law3Tic) := by
  unfold law3Tic_o law3Tic
  first | rfl | simp only [cond_some]
noncomputable def law3Drop_o (to : Int) : Option (Int × Int × Int × Unit) :=
  some ((-1 : Int), (to, ((0 : Int), ())))
def law3Drop (to : Int) : Int × Int × Int × Unit :=
  ((-1 : Int), (to, ((0 : Int), ())))
theorem law3Drop_eq (to : Int) : law3Drop_o to = some (law3Drop to) := by
  unfold law3Drop_o law3Drop
  first | rfl | simp only [cond_some]
end Go.Proofs.Ytfppnefcicdnfaa
namespace Go.Proofs.Ytfppnefcicdnfaa
open Go.Den
set_option linter.unusedVariables false
set_option maxRecDepth 100000
noncomputable def cmpIsNaN_uint64_o (x : Int) : Option (Bool) :=
  some (x != x)
def cmpIsNaN_uint64 (x : Int) : Bool :=
  (x != x)
theorem cmpIsNaN_uint64_eq (x : Int) : cmpIsNaN_uint64_o x = some (cmpIsNaN_uint64 x) := by
  unfold cmpIsNaN_uint64_o cmpIsNaN_uint64
  first | rfl | simp only [cond_some]
noncomputable def cmpCompare_uint64_o (x : Int) (y : Int) : Option (Int) :=
  bif (cmpIsNaN_uint64 x) then (bif (cmpIsNaN_uint64 y) then some (0 : Int)
  else some (-1 : Int))
  else bif (cmpIsNaN_uint64 y) then some (1 : Int)
  else bif (decide (x < y)) then some (-1 : Int)
  else bif (decide (x > y)) then some (1 : Int)
  else some (0 : Int)
def cmpCompare_uint64 (x : Int) (y : Int) : Int :=
  bif (cmpIsNaN_uint64 x) then (bif (cmpIsNaN_uint64 y) then (0 : Int)
  else (-1 : Int))
  else bif (cmpIsNaN_uint64 y) then (1 : Int)
  else bif (decide (x < y)) then (-1 : Int)
  else bif (decide (x > y)) then (1 : Int)
  else (0 : Int)
theorem cmpCompare_uint64_eq (x : Int) (y : Int) : cmpCompare_uint64_o x y = some (cmpCompare_uint64 x y) := by
  unfold cmpCompare_uint64_o cmpCompare_uint64
  first | rfl | simp only [cond_some]
noncomputable def bookOrder (a : Int × (Int × Int × Int × Unit) × Int × Unit) (b : Int × (Int × Int × Int × Unit) × Int × Unit) : Option (Int) :=
  Option.bind (cmpOr_int ([(cmpCompare_uint64 a.1 b.1), (cmpCompare_int a.2.1.1 b.2.1.1), (cmpCompare_int a.2.1.2.1 b.2.1.2.1), (cmpCompare_int a.2.1.2.2.1 b.2.1.2.2.1)])) fun r2 =>
  some r2
noncomputable def bookCheck_L1 (b : List (Int × (Int × Int × Int × Unit) × Int × Unit)) (x1 : (Int × Unit) × (Unit)) : Option (((Int × Unit) × (Unit)) ⊕ (((Unit) × (Unit)) ⊕ Int)) :=
  bif (decide (x1.1.1 < ((b.length : Nat) : Int))) then (Option.bind (at? b x1.1.1) fun d2 =>
  bif ((decide (d2.2.2.1 < (1 : Int))) || (decide (d2.2.2.1 > (1000000 : Int)))) then some (Sum.inr (Sum.inr (4 : Int)))
  else Option.bind (gat (decide (x1.1.1 > (0 : Int))) ((0 : Int), (((0 : Int), ((0 : Int), ((0 : Int), ()))), ((0 : Int), ()))) b (w64 (x1.1.1 - (1 : Int)))) fun d3 =>
  Option.bind (gopt (decide (x1.1.1 > (0 : Int))) (0 : Int) (bookOrder d3 d2)) fun r4 =>
  bif ((decide (x1.1.1 > (0 : Int))) && (decide (r4 ≥ (0 : Int)))) then some (Sum.inr (Sum.inr (3 : Int)))
  else some (Sum.inl (((w64 (x1.1.1 + (1 : Int))), ()), ())))
  else some (Sum.inr (Sum.inl ((), ())))
noncomputable def bookCheck (b : List (Int × (Int × Int × Int × Unit) × Int × Unit)) : Option (Int) :=
  bif (decide (((b.length : Nat) : Int) > (1000 : Int))) then some (2 : Int)
  else Option.bind (α := ((Unit) × (Unit)) ⊕ Int) (iterW (bookCheck_L1 b) (((0 : Int), ()), ())) (Sum.elim (fun x5 =>
  some (0 : Int)) some)
noncomputable def slicesClone_BookEntry (s : List (Int × (Int × Int × Int × Unit) × Int × Unit)) : Option (List (Int × (Int × Int × Int × Unit) × Int × Unit)) :=
  bif (s.isEmpty) then (agree (some ([] : List (Int × (Int × Int × Int × Unit) × Int × Unit))) (req (room (([] : List (Int × (Int × Int × Int × Unit) × Int × Unit)).length + s.length) 40) (some (([] : List (Int × (Int × Int × Int × Unit) × Int × Unit)) ++ s))))
  else req (room (([] : List (Int × (Int × Int × Int × Unit) × Int × Unit)).length + s.length) 40) (some (([] : List (Int × (Int × Int × Int × Unit) × Int × Unit)) ++ s))
noncomputable def bookFull_o (b : List (Int × (Int × Int × Int × Unit) × Int × Unit)) : Option ((List (Int × (Int × Int × Int × Unit) × Int × Unit)) × Int × Unit) :=
  bif (decide (((b.length : Nat) : Int) > (1000 : Int))) then some (([] : List (Int × (Int × Int × Int × Unit) × Int × Unit)), ((9 : Int), ()))
  else some (b, ((0 : Int), ()))
def bookFull (b : List (Int × (Int × Int × Int × Unit) × Int × Unit)) : (List (Int × (Int × Int × Int × Unit) × Int × Unit)) × Int × Unit :=
  bif (decide (((b.length : Nat) : Int) > (1000 : Int))) then (([] : List (Int × (Int × Int × Int × Unit) × Int × Unit)), ((9 : Int), ()))
  else (b, ((0 : Int), ()))
theorem bookFull_eq (b : List (Int × (Int × Int × Int × Unit) × Int × Unit)) : bookFull_o b = some (bookFull b) := by
  unfold bookFull_o bookFull
  first | rfl | simp only [cond_some]
noncomputable def bookAdd_L2 (x10 : ((List (Int × (Int × Int × Int × Unit) × Int × Unit)) × Int × Unit) × (((List Int) × (List Int) × (List Int) × Int × Int × Unit) × Unit)) (r12 : Int) (d11 : Int × Int × Int × Unit) (weight : Int) (x13 : (Int × Int × Unit) × (Unit)) : Option (((Int × Int × Unit) × (Unit)) ⊕ ((Int × Unit) × (Unit))) :=
  bif (decide (x13.1.1 < x13.1.2.1)) then (req (inb (w64 (shK .shr .u64 (wu64 (w64 (x13.1.1 + x13.1.2.1))) (1 : Int))) x10.1.1.length) (Option.bind (bookOrder (getD' x10.1.1 (((w64 (shK .shr .u64 (wu64 (w64 (x13.1.1 + x13.1.2.1))) (1 : Int)))).toNat) ((0 : Int), (((0 : Int), ((0 : Int), ((0 : Int), ()))), ((0 : Int), ())))) (r12, (d11, (weight, ())))) fun r14 =>
  Option.bind (bif (decide (r14 < (0 : Int))) then some (((w64 ((w64 (shK .shr .u64 (wu64 (w64 (x13.1.1 + x13.1.2.1))) (1 : Int))) + (1 : Int))), x13.1.2.1, ()), ())
  else some ((x13.1.1, (w64 (shK .shr .u64 (wu64 (w64 (x13.1.1 + x13.1.2.1))) (1 : Int))), ()), ())) fun x15 =>
  some (Sum.inl ((x15.1.1, x15.1.2.1, ()), ()))))
  else some (Sum.inr ((x13.1.1, ()), ()))
noncomputable def bookAdd_L1 (game : List (Int × Int × Int × Unit)) (plies : Int) (weight : Int) (r : ByteArray × Int × Int × (List (Int × Int × Int × (List (Int × Int × Int × Int × Unit)) × Unit)) × (List Int) × Bool × Bool × (List (Int × Int × Int × Bool × Unit)) × Int × Int × Int × Unit) (x10 : ((List (Int × (Int × Int × Int × Unit) × Int × Unit)) × Int × Unit) × (((List Int) × (List Int) × (List Int) × Int × Int × Unit) × Unit)) : Option ((((List (Int × (Int × Int × Int × Unit) × Int × Unit)) × Int × Unit) × (((List Int) × (List Int) × (List Int) × Int × Int × Unit) × Unit)) ⊕ (((List (Int × (Int × Int × Int × Unit) × Int × Unit)) × Unit) × (((List Int) × (List Int) × (List Int) × Int × Int × Unit) × Unit))) :=
  bif (decide (x10.1.2.1 < ((((game.take ((if ((game.length : Nat) : Int) < plies then ((game.length : Nat) : Int) else plies)).toNat).drop 0).length : Nat) : Int))) then (Option.bind (at? ((game.take ((if ((game.length : Nat) : Int) < plies then ((game.length : Nat) : Int) else plies)).toNat).drop 0) x10.1.2.1) fun d11 =>
  Option.bind (Option.bind (zobOf (x10.2.1.1, ((x10.2.1.2.1, (x10.2.1.2.2.1, ())), x10.2.1.2.2.2))) fun r12 =>
  Option.bind (iterW (bookAdd_L2 x10 r12 d11 weight) (((0 : Int), ((x10.1.1.length : Nat) : Int), ()), ())) fun x16 =>
  Option.bind (req (imp (decide (x16.1.1 < ((x10.1.1.length : Nat) : Int))) (inb x16.1.1 x10.1.1.length)) (bif (decide (x16.1.1 < ((x10.1.1.length : Nat) : Int))) then (Option.bind (bookOrder (getD' x10.1.1 ((x16.1.1).toNat) ((0 : Int), (((0 : Int), ((0 : Int), ((0 : Int), ()))), ((0 : Int), ())))) (r12, (d11, (weight, ())))) fun r17 =>
  some ((x16.1.1, (r17 == (0 : Int)), ()), ()))
  else some ((x16.1.1, false, ()), ()))) fun x18 =>
  bif (!x18.1.2.1) then req (decide (0 ≤ x18.1.1) && (decide (x18.1.1 ≤ ((x10.1.1.length : Nat) : Int)) && (Nat.blt 0 ([(r12, (d11, (weight, ())))]).length && room (x10.1.1.length + ([(r12, (d11, (weight, ())))]).length) 40))) (some (((x10.1.1.take (x18.1.1).toNat ++ ([(r12, (d11, (weight, ())))] ++ x10.1.1.drop (x18.1.1).toNat)), ()), ()))
  else req (inb x18.1.1 x10.1.1.length) (req (inb x18.1.1 x10.1.1.length) (some (((x10.1.1.set ((x18.1.1).toNat) ((getD' x10.1.1 ((x18.1.1).toNat) ((0 : Int), (((0 : Int), ((0 : Int), ((0 : Int), ()))), ((0 : Int), ())))).1, (((((getD' x10.1.1 ((x18.1.1).toNat) ((0 : Int), (((0 : Int), ((0 : Int), ((0 : Int), ()))), ((0 : Int), ())))).2).1).1, (((((getD' x10.1.1 ((x18.1.1).toNat) ((0 : Int), (((0 : Int), ((0 : Int), ((0 : Int), ()))), ((0 : Int), ())))).2).1).2).1, ((((((getD' x10.1.1 ((x18.1.1).toNat) ((0 : Int), (((0 : Int), ((0 : Int), ((0 : Int), ()))), ((0 : Int), ())))).2).1).2).2).1, ()))), ((if (1000000 : Int) < (w64 ((((getD' x10.1.1 ((x18.1.1).toNat) ((0 : Int), (((0 : Int), ((0 : Int), ((0 : Int), ()))), ((0 : Int), ())))).2).2).1 + weight)) then (1000000 : Int) else (w64 ((((getD' x10.1.1 ((x18.1.1).toNat) ((0 : Int), (((0 : Int), ((0 : Int), ((0 : Int), ()))), ((0 : Int), ())))).2).2).1 + weight))), ())))), ()), ())))) fun x19 =>
  Option.bind (movesMake r (x10.2.1.1, ((x10.2.1.2.1, (x10.2.1.2.2.1, ())), x10.2.1.2.2.2)) d11) fun r20 =>
  some (Sum.inl ((x19.1.1, (w64 (x10.1.2.1 + (1 : Int))), ()), ((r20.1, (r20.2.1.1, (r20.2.1.2.1, r20.2.2))), ()))))
  else some (Sum.inr ((x10.1.1, ()), ((x10.2.1.1, (x10.2.1.2.1, (x10.2.1.2.2.1, x10.2.1.2.2.2))), ())))
noncomputable def bookAdd (r : ByteArray × Int × Int × (List (Int × Int × Int × (List (Int × Int × Int × Int × Unit)) × Unit)) × (List Int) × Bool × Bool × (List (Int × Int × Int × Bool × Unit)) × Int × Int × Int × Unit) (b : List (Int × (Int × Int × Int × Unit) × Int × Unit)) (game : List (Int × Int × Int × Unit)) (plies : Int) (weight : Int) : Option ((List (Int × (Int × Int × Int × Unit) × Int × Unit)) × Int × Unit) :=
  Option.bind (bookCheck b) fun r6 =>
  bif (r6 != (0 : Int)) then some (([] : List (Int × (Int × Int × Int × Unit) × Int × Unit)), (r6, ()))
  else Option.bind (plainRun r game) fun r7 =>
  bif (r7.2.2.1 != (0 : Int)) then some (([] : List (Int × (Int × Int × Int × Unit) × Int × Unit)), r7.2.2)
  else bif (((decide (plies < (0 : Int))) || (decide (weight < (1 : Int)))) || (decide (weight > (1000000 : Int)))) then some (([] : List (Int × (Int × Int × Int × Unit) × Int × Unit)), ((4 : Int), ()))
  else Option.bind (slicesClone_BookEntry b) fun r8 =>
  Option.bind (placeBegin r) fun r9 =>
  req (boundsI (0 : Int) (if ((game.length : Nat) : Int) < plies then ((game.length : Nat) : Int) else plies) game.length) (Option.bind (iterW (bookAdd_L1 game plies weight r) ((r8, (0 : Int), ()), ((r9.1.1, (r9.1.2.1.1, (r9.1.2.1.2.1, r9.1.2.2))), ()))) fun x21 =>
  Option.bind (bookFull_o x21.1.1) fun r22 =>
  some r22)
noncomputable def law3Books : Option (Bool) :=
  Option.bind (bookAdd ((law3Tic).1, (((law3Tic).2).1, ((((law3Tic).2).2).1, (((((law3Tic).2).2).2).1, ((((((law3Tic).2).2).2).2).1, (((((((law3Tic).2).2).2).2).2).1, ((((((((law3Tic).2).2).2).2).2).2).1, (((((((((law3Tic).2).2).2).2).2).2).2).1, ((((((((((law3Tic).2).2).2).2).2).2).2).2).1, (((((((((((law3Tic).2).2).2).2).2).2).2).2).2).1, ((((((((((((law3Tic).2).2).2).2).2).2).2).2).2).2).1, ()))))))))))) ([] : List (Int × (Int × Int × Int × Unit) × Int × Unit)) ([(law3Drop (4 : Int))]) (1 : Int) (7 : Int)) fun r3 =>
  Option.bind (gat ((r3.2.1 == (0 : Int)) && (((r3.1.length : Nat) : Int) == (1 : Int))) ((0 : Int), (((0 : Int), ((0 : Int), ((0 : Int), ()))), ((0 : Int), ()))) r3.1 (0 : Int)) fun d4 =>
  some (((r3.2.1 == (0 : Int)) && (((r3.1.length : Nat) : Int) == (1 : Int))) && (d4.2.2.1 == (7 : Int)))
end Go.Proofs.Ytfppnefcicdnfaa
namespace Go.Proofs.Ytfppnefcicdnfaa
open Go.Den
set_option linter.unusedVariables false
set_option maxRecDepth 100000
noncomputable def law3Shelf (b : List (Int × (Int × Int × Int × Unit) × Int × Unit)) : Option (List (Int × (Int × Int × Int × Unit) × Int × Unit)) :=
  req (boundsI (0 : Int) (if (40 : Int) < ((b.length : Nat) : Int) then (40 : Int) else ((b.length : Nat) : Int)) b.length) (some ((b.take ((if (40 : Int) < ((b.length : Nat) : Int) then (40 : Int) else ((b.length : Nat) : Int))).toNat).drop 0))
noncomputable def bookMerge_L1 (a : List (Int × (Int × Int × Int × Unit) × Int × Unit)) (b : List (Int × (Int × Int × Int × Unit) × Int × Unit)) (x3 : (Int × Unit) × (Unit)) : Option (((Int × Unit) × (Unit)) ⊕ (((Unit) × (Unit)) ⊕ ((List (Int × (Int × Int × Int × Unit) × Int × Unit)) × Int × Unit))) :=
  bif (decide (x3.1.1 < (2 : Int))) then (req (inb x3.1.1 2) (Option.bind (bookCheck (getD' [a, b] (x3.1.1).toNat [])) fun r4 =>
  bif (r4 != (0 : Int)) then some (Sum.inr (Sum.inr (([] : List (Int × (Int × Int × Int × Unit) × Int × Unit)), (r4, ()))))
  else some (Sum.inl (((w64 (x3.1.1 + (1 : Int))), ()), ()))))
  else some (Sum.inr (Sum.inl ((), ())))
noncomputable def bookMerge_L3 (x7 : ((List (Int × (Int × Int × Int × Unit) × Int × Unit)) × Int × Unit) × (Unit)) (d8 : Int × (Int × Int × Int × Unit) × Int × Unit) (x9 : (Int × Int × Unit) × (Unit)) : Option (((Int × Int × Unit) × (Unit)) ⊕ ((Int × Unit) × (Unit))) :=
  bif (decide (x9.1.1 < x9.1.2.1)) then (req (inb (w64 (shK .shr .u64 (wu64 (w64 (x9.1.1 + x9.1.2.1))) (1 : Int))) x7.1.1.length) (Option.bind (bookOrder (getD' x7.1.1 (((w64 (shK .shr .u64 (wu64 (w64 (x9.1.1 + x9.1.2.1))) (1 : Int)))).toNat) ((0 : Int), (((0 : Int), ((0 : Int), ((0 : Int), ()))), ((0 : Int), ())))) d8) fun r10 =>
  Option.bind (bif (decide (r10 < (0 : Int))) then some (((w64 ((w64 (shK .shr .u64 (wu64 (w64 (x9.1.1 + x9.1.2.1))) (1 : Int))) + (1 : Int))), x9.1.2.1, ()), ())
  else some ((x9.1.1, (w64 (shK .shr .u64 (wu64 (w64 (x9.1.1 + x9.1.2.1))) (1 : Int))), ()), ())) fun x11 =>
  some (Sum.inl ((x11.1.1, x11.1.2.1, ()), ()))))
  else some (Sum.inr ((x9.1.1, ()), ()))
noncomputable def bookMerge_L2 (b : List (Int × (Int × Int × Int × Unit) × Int × Unit)) (x7 : ((List (Int × (Int × Int × Int × Unit) × Int × Unit)) × Int × Unit) × (Unit)) : Option ((((List (Int × (Int × Int × Int × Unit) × Int × Unit)) × Int × Unit) × (Unit)) ⊕ (((List (Int × (Int × Int × Int × Unit) × Int × Unit)) × Unit) × (Unit))) :=
  bif (decide (x7.1.2.1 < ((b.length : Nat) : Int))) then (Option.bind (at? b x7.1.2.1) fun d8 =>
  Option.bind (Option.bind (iterW (bookMerge_L3 x7 d8) (((0 : Int), ((x7.1.1.length : Nat) : Int), ()), ())) fun x12 =>
  Option.bind (req (imp (decide (x12.1.1 < ((x7.1.1.length : Nat) : Int))) (inb x12.1.1 x7.1.1.length)) (bif (decide (x12.1.1 < ((x7.1.1.length : Nat) : Int))) then (Option.bind (bookOrder (getD' x7.1.1 ((x12.1.1).toNat) ((0 : Int), (((0 : Int), ((0 : Int), ((0 : Int), ()))), ((0 : Int), ())))) d8) fun r13 =>
  some ((x12.1.1, (r13 == (0 : Int)), ()), ()))
  else some ((x12.1.1, false, ()), ()))) fun x14 =>
  bif (!x14.1.2.1) then req (decide (0 ≤ x14.1.1) && (decide (x14.1.1 ≤ ((x7.1.1.length : Nat) : Int)) && (Nat.blt 0 ([d8]).length && room (x7.1.1.length + ([d8]).length) 40))) (some (((x7.1.1.take (x14.1.1).toNat ++ ([d8] ++ x7.1.1.drop (x14.1.1).toNat)), ()), ()))
  else req (inb x14.1.1 x7.1.1.length) (req (inb x14.1.1 x7.1.1.length) (some (((x7.1.1.set ((x14.1.1).toNat) ((getD' x7.1.1 ((x14.1.1).toNat) ((0 : Int), (((0 : Int), ((0 : Int), ((0 : Int), ()))), ((0 : Int), ())))).1, (((((getD' x7.1.1 ((x14.1.1).toNat) ((0 : Int), (((0 : Int), ((0 : Int), ((0 : Int), ()))), ((0 : Int), ())))).2).1).1, (((((getD' x7.1.1 ((x14.1.1).toNat) ((0 : Int), (((0 : Int), ((0 : Int), ((0 : Int), ()))), ((0 : Int), ())))).2).1).2).1, ((((((getD' x7.1.1 ((x14.1.1).toNat) ((0 : Int), (((0 : Int), ((0 : Int), ((0 : Int), ()))), ((0 : Int), ())))).2).1).2).2).1, ()))), ((if (1000000 : Int) < (w64 ((((getD' x7.1.1 ((x14.1.1).toNat) ((0 : Int), (((0 : Int), ((0 : Int), ((0 : Int), ()))), ((0 : Int), ())))).2).2).1 + d8.2.2.1)) then (1000000 : Int) else (w64 ((((getD' x7.1.1 ((x14.1.1).toNat) ((0 : Int), (((0 : Int), ((0 : Int), ((0 : Int), ()))), ((0 : Int), ())))).2).2).1 + d8.2.2.1))), ())))), ()), ())))) fun x15 =>
  some (Sum.inl ((x15.1.1, (w64 (x7.1.2.1 + (1 : Int))), ()), ())))
  else some (Sum.inr ((x7.1.1, ()), ()))
noncomputable def bookMerge (a : List (Int × (Int × Int × Int × Unit) × Int × Unit)) (b : List (Int × (Int × Int × Int × Unit) × Int × Unit)) : Option ((List (Int × (Int × Int × Int × Unit) × Int × Unit)) × Int × Unit) :=
  Option.bind (α := ((Unit) × (Unit)) ⊕ ((List (Int × (Int × Int × Int × Unit) × Int × Unit)) × Int × Unit)) (iterW (bookMerge_L1 a b) (((0 : Int), ()), ())) (Sum.elim (fun x5 =>
  Option.bind (slicesClone_BookEntry a) fun r6 =>
  Option.bind (iterW (bookMerge_L2 b) ((r6, (0 : Int), ()), ())) fun x16 =>
  Option.bind (bookFull_o x16.1.1) fun r17 =>
  some r17) some)
noncomputable def bookTrim_L2 (least : Int) (x6 : (Int × Int × Unit) × ((List (Int × (Int × Int × Int × Unit) × Int × Unit)) × Unit)) : Option (((Int × Int × Unit) × ((List (Int × (Int × Int × Int × Unit) × Int × Unit)) × Unit)) ⊕ ((Int × Unit) × ((List (Int × (Int × Int × Int × Unit) × Int × Unit)) × Unit))) :=
  bif (decide (x6.1.2.1 < ((x6.2.1.length : Nat) : Int))) then (req (inb x6.1.2.1 x6.2.1.length) (Option.bind (bif (!(decide ((((getD' x6.2.1 ((x6.1.2.1).toNat) ((0 : Int), (((0 : Int), ((0 : Int), ((0 : Int), ()))), ((0 : Int), ())))).2).2).1 < least))) then req (inb x6.1.1 x6.2.1.length) (some (((w64 (x6.1.1 + (1 : Int))), ()), ((x6.2.1.set ((x6.1.1).toNat) (getD' x6.2.1 ((x6.1.2.1).toNat) ((0 : Int), (((0 : Int), ((0 : Int), ((0 : Int), ()))), ((0 : Int), ()))))), ())))
  else some ((x6.1.1, ()), (x6.2.1, ()))) fun x7 =>
  some (Sum.inl ((x7.1.1, (w64 (x6.1.2.1 + (1 : Int))), ()), (x7.2.1, ())))))
  else some (Sum.inr ((x6.1.1, ()), (x6.2.1, ())))
noncomputable def bookTrim_L1 (r4 : List (Int × (Int × Int × Int × Unit) × Int × Unit)) (least : Int) (x5 : (Int × Unit) × (Unit)) : Option (((Int × Unit) × (Unit)) ⊕ (((Unit) × (Unit)) ⊕ ((List (Int × (Int × Int × Int × Unit) × Int × Unit)) × Int × Unit))) :=
  bif (decide (x5.1.1 < ((r4.length : Nat) : Int))) then (req (inb x5.1.1 r4.length) (bif (decide ((((getD' r4 ((x5.1.1).toNat) ((0 : Int), (((0 : Int), ((0 : Int), ((0 : Int), ()))), ((0 : Int), ())))).2).2).1 < least)) then (Option.map Sum.inr (Option.map Sum.inr (bif (x5.1.1 == (-1 : Int)) then some (r4, ((0 : Int), ()))
  else Option.bind (iterW (bookTrim_L2 least) ((x5.1.1, (w64 (x5.1.1 + (1 : Int))), ()), (r4, ()))) fun x8 =>
  req (boundsI x8.1.1 ((x8.2.1.length : Nat) : Int) x8.2.1.length) (req (boundsI 0 x8.1.1 (x8.2.1.take (x8.1.1).toNat ++ (List.replicate ((((x8.2.1.length : Nat) : Int)).toNat - (x8.1.1).toNat) ((0 : Int), (((0 : Int), ((0 : Int), ((0 : Int), ()))), ((0 : Int), ()))) ++ x8.2.1.drop ((x8.1.1).toNat + ((((x8.2.1.length : Nat) : Int)).toNat - (x8.1.1).toNat)))).length) (some (((x8.2.1.take (x8.1.1).toNat ++ (List.replicate ((((x8.2.1.length : Nat) : Int)).toNat - (x8.1.1).toNat) ((0 : Int), (((0 : Int), ((0 : Int), ((0 : Int), ()))), ((0 : Int), ()))) ++ x8.2.1.drop ((x8.1.1).toNat + ((((x8.2.1.length : Nat) : Int)).toNat - (x8.1.1).toNat)))).take (x8.1.1).toNat), ((0 : Int), ())))))))
  else some (Sum.inl (((w64 (x5.1.1 + (1 : Int))), ()), ()))))
  else some (Sum.inr (Sum.inl ((), ())))
noncomputable def bookTrim (b : List (Int × (Int × Int × Int × Unit) × Int × Unit)) (least : Int) : Option ((List (Int × (Int × Int × Int × Unit) × Int × Unit)) × Int × Unit) :=
  Option.bind (bookCheck b) fun r3 =>
  bif (r3 != (0 : Int)) then some (([] : List (Int × (Int × Int × Int × Unit) × Int × Unit)), (r3, ()))
  else Option.bind (slicesClone_BookEntry b) fun r4 =>
  Option.bind (α := ((Unit) × (Unit)) ⊕ ((List (Int × (Int × Int × Int × Unit) × Int × Unit)) × Int × Unit)) (iterW (bookTrim_L1 r4 least) (((0 : Int), ()), ())) (Sum.elim (fun x9 =>
  some (r4, ((0 : Int), ()))) some)
noncomputable def ref3Ahead_o (a : Int × (Int × Int × Int × Unit) × Int × Unit) (b : Int × (Int × Int × Int × Unit) × Int × Unit) : Option (Bool) :=
  bif (a.1 != b.1) then some (decide (a.1 < b.1))
  else bif (a.2.1.1 != b.2.1.1) then some (decide (a.2.1.1 < b.2.1.1))
  else bif (a.2.1.2.1 != b.2.1.2.1) then some (decide (a.2.1.2.1 < b.2.1.2.1))
  else some (decide (a.2.1.2.2.1 < b.2.1.2.2.1))
def ref3Ahead (a : Int × (Int × Int × Int × Unit) × Int × Unit) (b : Int × (Int × Int × Int × Unit) × Int × Unit) : Bool :=
  bif (a.1 != b.1) then (decide (a.1 < b.1))
  else bif (a.2.1.1 != b.2.1.1) then (decide (a.2.1.1 < b.2.1.1))
  else bif (a.2.1.2.1 != b.2.1.2.1) then (decide (a.2.1.2.1 < b.2.1.2.1))
  else (decide (a.2.1.2.2.1 < b.2.1.2.2.1))
theorem ref3Ahead_eq (a : Int × (Int × Int × Int × Unit) × Int × Unit) (b : Int × (Int × Int × Int × Unit) × Int × Unit) : ref3Ahead_o a b = some (ref3Ahead a b) := by
  unfold ref3Ahead_o ref3Ahead
  first | rfl | simp only [cond_some]
noncomputable def law3Shelved_L1 (b : List (Int × (Int × Int × Int × Unit) × Int × Unit)) (x1 : (Int × Unit) × (Unit)) : Option (((Int × Unit) × (Unit)) ⊕ (((Unit) × (Unit)) ⊕ Int)) :=
  bif (decide (x1.1.1 < ((b.length : Nat) : Int))) then (Option.bind (at? b x1.1.1) fun d2 =>
  bif ((decide (d2.2.2.1 < (1 : Int))) || (decide (d2.2.2.1 > (1000000 : Int)))) then some (Sum.inr (Sum.inr (4 : Int)))
  else Option.bind (gat (decide (x1.1.1 > (0 : Int))) ((0 : Int), (((0 : Int), ((0 : Int), ((0 : Int), ()))), ((0 : Int), ()))) b (w64 (x1.1.1 - (1 : Int)))) fun d3 =>
  bif ((decide (x1.1.1 > (0 : Int))) && (!(ref3Ahead d3 d2))) then some (Sum.inr (Sum.inr (3 : Int)))
  else some (Sum.inl (((w64 (x1.1.1 + (1 : Int))), ()), ())))
  else some (Sum.inr (Sum.inl ((), ())))
noncomputable def law3Shelved (b : List (Int × (Int × Int × Int × Unit) × Int × Unit)) : Option (Int) :=
  Option.bind (α := ((Unit) × (Unit)) ⊕ Int) (iterW (law3Shelved_L1 b) (((0 : Int), ()), ())) (Sum.elim (fun x4 =>
  some (0 : Int)) some)
noncomputable def law3SameBook_L1 (a : List (Int × (Int × Int × Int × Unit) × Int × Unit)) (b : List (Int × (Int × Int × Int × Unit) × Int × Unit)) (x1 : (Int × Unit) × (Unit)) : Option (((Int × Unit) × (Unit)) ⊕ (((Unit) × (Unit)) ⊕ Bool)) :=
  bif (decide (x1.1.1 < ((a.length : Nat) : Int))) then (Option.bind (at? a x1.1.1) fun d2 =>
  Option.bind (at? b x1.1.1) fun d3 =>
  bif (!((d2.1 == d3.1) && (((d2.2.1.1 == d3.2.1.1) && ((d2.2.1.2.1 == d3.2.1.2.1) && ((d2.2.1.2.2.1 == d3.2.1.2.2.1) && true))) && ((d2.2.2.1 == d3.2.2.1) && true)))) then some (Sum.inr (Sum.inr false))
  else some (Sum.inl (((w64 (x1.1.1 + (1 : Int))), ()), ())))
  else some (Sum.inr (Sum.inl ((), ())))
noncomputable def law3SameBook (a : List (Int × (Int × Int × Int × Unit) × Int × Unit)) (b : List (Int × (Int × Int × Int × Unit) × Int × Unit)) : Option (Bool) :=
  bif (((a.length : Nat) : Int) != ((b.length : Nat) : Int)) then some false
  else Option.bind (α := ((Unit) × (Unit)) ⊕ Bool) (iterW (law3SameBook_L1 a b) (((0 : Int), ()), ())) (Sum.elim (fun x4 =>
  some true) some)
noncomputable def ref3Weigh_L2 (x1 : ((List (Int × (Int × Int × Int × Unit) × Int × Unit)) × Int × Unit) × (Unit)) (d2 : Int × (Int × Int × Int × Unit) × Int × Unit) (x3 : (Bool × Int × Unit) × ((List (Int × (Int × Int × Int × Unit) × Int × Unit)) × Unit)) : Option (((Bool × Int × Unit) × ((List (Int × (Int × Int × Int × Unit) × Int × Unit)) × Unit)) ⊕ ((Bool × Unit) × ((List (Int × (Int × Int × Int × Unit) × Int × Unit)) × Unit))) :=
  bif (decide (x3.1.2.1 < ((x1.1.1.length : Nat) : Int))) then (req (inb x3.1.2.1 x3.2.1.length) (req (imp ((getD' x3.2.1 ((x3.1.2.1).toNat) ((0 : Int), (((0 : Int), ((0 : Int), ((0 : Int), ()))), ((0 : Int), ())))).1 == d2.1) (inb x3.1.2.1 x3.2.1.length)) (Option.bind (bif (((getD' x3.2.1 ((x3.1.2.1).toNat) ((0 : Int), (((0 : Int), ((0 : Int), ((0 : Int), ()))), ((0 : Int), ())))).1 == d2.1) && (((((getD' x3.2.1 ((x3.1.2.1).toNat) ((0 : Int), (((0 : Int), ((0 : Int), ((0 : Int), ()))), ((0 : Int), ())))).2).1).1 == d2.2.1.1) && ((((((getD' x3.2.1 ((x3.1.2.1).toNat) ((0 : Int), (((0 : Int), ((0 : Int), ((0 : Int), ()))), ((0 : Int), ())))).2).1).2).1 == d2.2.1.2.1) && (((((((getD' x3.2.1 ((x3.1.2.1).toNat) ((0 : Int), (((0 : Int), ((0 : Int), ((0 : Int), ()))), ((0 : Int), ())))).2).1).2).2).1 == d2.2.1.2.2.1) && true)))) then (req (inb x3.1.2.1 x3.2.1.length) (req (inb x3.1.2.1 x3.2.1.length) (req (inb x3.1.2.1 (x3.2.1.set ((x3.1.2.1).toNat) ((getD' x3.2.1 ((x3.1.2.1).toNat) ((0 : Int), (((0 : Int), ((0 : Int), ((0 : Int), ()))), ((0 : Int), ())))).1, (((((getD' x3.2.1 ((x3.1.2.1).toNat) ((0 : Int), (((0 : Int), ((0 : Int), ((0 : Int), ()))), ((0 : Int), ())))).2).1).1, (((((getD' x3.2.1 ((x3.1.2.1).toNat) ((0 : Int), (((0 : Int), ((0 : Int), ((0 : Int), ()))), ((0 : Int), ())))).2).1).2).1, ((((((getD' x3.2.1 ((x3.1.2.1).toNat) ((0 : Int), (((0 : Int), ((0 : Int), ((0 : Int), ()))), ((0 : Int), ())))).2).1).2).2).1, ()))), ((w64 ((((getD' x3.2.1 ((x3.1.2.1).toNat) ((0 : Int), (((0 : Int), ((0 : Int), ((0 : Int), ()))), ((0 : Int), ())))).2).2).1 + d2.2.2.1)), ())))).length) (Option.bind (bif (decide ((((getD' (x3.2.1.set ((x3.1.2.1).toNat) ((getD' x3.2.1 ((x3.1.2.1).toNat) ((0 : Int), (((0 : Int), ((0 : Int), ((0 : Int), ()))), ((0 : Int), ())))).1, (((((getD' x3.2.1 ((x3.1.2.1).toNat) ((0 : Int), (((0 : Int), ((0 : Int), ((0 : Int), ()))), ((0 : Int), ())))).2).1).1, (((((getD' x3.2.1 ((x3.1.2.1).toNat) ((0 : Int), (((0 : Int), ((0 : Int), ((0 : Int), ()))), ((0 : Int), ())))).2).1).2).1, ((((((getD' x3.2.1 ((x3.1.2.1).toNat) ((0 : Int), (((0 : Int), ((0 : Int), ((0 : Int), ()))), ((0 : Int), ())))).2).1).2).2).1, ()))), ((w64 ((((getD' x3.2.1 ((x3.1.2.1).toNat) ((0 : Int), (((0 : Int), ((0 : Int), ((0 : Int), ()))), ((0 : Int), ())))).2).2).1 + d2.2.2.1)), ())))) ((x3.1.2.1).toNat) ((0 : Int), (((0 : Int), ((0 : Int), ((0 : Int), ()))), ((0 : Int), ())))).2).2).1 > (1000000 : Int))) then req (inb x3.1.2.1 (x3.2.1.set ((x3.1.2.1).toNat) ((getD' x3.2.1 ((x3.1.2.1).toNat) ((0 : Int), (((0 : Int), ((0 : Int), ((0 : Int), ()))), ((0 : Int), ())))).1, (((((getD' x3.2.1 ((x3.1.2.1).toNat) ((0 : Int), (((0 : Int), ((0 : Int), ((0 : Int), ()))), ((0 : Int), ())))).2).1).1, (((((getD' x3.2.1 ((x3.1.2.1).toNat) ((0 : Int), (((0 : Int), ((0 : Int), ((0 : Int), ()))), ((0 : Int), ())))).2).1).2).1, ((((((getD' x3.2.1 ((x3.1.2.1).toNat) ((0 : Int), (((0 : Int), ((0 : Int), ((0 : Int), ()))), ((0 : Int), ())))).2).1).2).2).1, ()))), ((w64 ((((getD' x3.2.1 ((x3.1.2.1).toNat) ((0 : Int), (((0 : Int), ((0 : Int), ((0 : Int), ()))), ((0 : Int), ())))).2).2).1 + d2.2.2.1)), ())))).length) (some ((), (((x3.2.1.set ((x3.1.2.1).toNat) ((getD' x3.2.1 ((x3.1.2.1).toNat) ((0 : Int), (((0 : Int), ((0 : Int), ((0 : Int), ()))), ((0 : Int), ())))).1, (((((getD' x3.2.1 ((x3.1.2.1).toNat) ((0 : Int), (((0 : Int), ((0 : Int), ((0 : Int), ()))), ((0 : Int), ())))).2).1).1, (((((getD' x3.2.1 ((x3.1.2.1).toNat) ((0 : Int), (((0 : Int), ((0 : Int), ((0 : Int), ()))), ((0 : Int), ())))).2).1).2).1, ((((((getD' x3.2.1 ((x3.1.2.1).toNat) ((0 : Int), (((0 : Int), ((0 : Int), ((0 : Int), ()))), ((0 : Int), ())))).2).1).2).2).1, ()))), ((w64 ((((getD' x3.2.1 ((x3.1.2.1).toNat) ((0 : Int), (((0 : Int), ((0 : Int), ((0 : Int), ()))), ((0 : Int), ())))).2).2).1 + d2.2.2.1)), ())))).set ((x3.1.2.1).toNat) ((getD' (x3.2.1.set ((x3.1.2.1).toNat) ((getD' x3.2.1 ((x3.1.2.1).toNat) ((0 : Int), (((0 : Int), ((0 : Int), ((0 : Int), ()))), ((0 : Int), ())))).1, (((((getD' x3.2.1 ((x3.1.2.1).toNat) ((0 : Int), (((0 : Int), ((0 : Int), ((0 : Int), ()))), ((0 : Int), ())))).2).1).1, (((((getD' x3.2.1 ((x3.1.2.1).toNat) ((0 : Int), (((0 : Int), ((0 : Int), ((0 : Int), ()))), ((0 : Int), ())))).2).1).2).1, ((((((getD' x3.2.1 ((x3.1.2.1).toNat) ((0 : Int), (((0 : Int), ((0 : Int), ((0 : Int), ()))), ((0 : Int), ())))).2).1).2).2).1, ()))), ((w64 ((((getD' x3.2.1 ((x3.1.2.1).toNat) ((0 : Int), (((0 : Int), ((0 : Int), ((0 : Int), ()))), ((0 : Int), ())))).2).2).1 + d2.2.2.1)), ())))) ((x3.1.2.1).toNat) ((0 : Int), (((0 : Int), ((0 : Int), ((0 : Int), ()))), ((0 : Int), ())))).1, (((((getD' (x3.2.1.set ((x3.1.2.1).toNat) ((getD' x3.2.1 ((x3.1.2.1).toNat) ((0 : Int), (((0 : Int), ((0 : Int), ((0 : Int), ()))), ((0 : Int), ())))).1, (((((getD' x3.2.1 ((x3.1.2.1).toNat) ((0 : Int), (((0 : Int), ((0 : Int), ((0 : Int), ()))), ((0 : Int), ())))).2).1).1, (((((getD' x3.2.1 ((x3.1.2.1).toNat) ((0 : Int), (((0 : Int), ((0 : Int), ((0 : Int), ()))), ((0 : Int), ())))).2).1).2).1, ((((((getD' x3.2.1 ((x3.1.2.1).toNat) ((0 : Int), (((0 : Int), ((0 : Int), ((0 : Int), ()))), ((0 : Int), ())))).2).1).2).2).1, ()))), ((w64 ((((getD' x3.2.1 ((x3.1.2.1).toNat) ((0 : Int), (((0 : Int), ((0 : Int), ((0 : Int), ()))), ((0 : Int), ())))).2).2).1 + d2.2.2.1)), ())))) ((x3.1.2.1).toNat) ((0 : Int), (((0 : Int), ((0 : Int), ((0 : Int), ()))), ((0 : Int), ())))).2).1).1, (((((getD' (x3.2.1.set ((x3.1.2.1).toNat) ((getD' x3.2.1 ((x3.1.2.1).toNat) ((0 : Int), (((0 : Int), ((0 : Int), ((0 : Int), ()))), ((0 : Int), ())))).1, (((((getD' x3.2.1 ((x3.1.2.1).toNat) ((0 : Int), (((0 : Int), ((0 : Int), ((0 : Int), ()))), ((0 : Int), ())))).2).1).1, (((((getD' x3.2.1 ((x3.1.2.1).toNat) ((0 : Int), (((0 : Int), ((0 : Int), ((0 : Int), ()))), ((0 : Int), ())))).2).1).2).1, ((((((getD' x3.2.1 ((x3.1.2.1).toNat) ((0 : Int), (((0 : Int), ((0 : Int), ((0 : Int), ()))), ((0 : Int), ())))).2).1).2).2).1, ()))), ((w64 ((((getD' x3.2.1 ((x3.1.2.1).toNat) ((0 : Int), (((0 : Int), ((0 : Int), ((0 : Int), ()))), ((0 : Int), ())))).2).2).1 + d2.2.2.1)), ())))) ((x3.1.2.1).toNat) ((0 : Int), (((0 : Int), ((0 : Int), ((0 : Int), ()))), ((0 : Int), ())))).2).1).2).1, ((((((getD' (x3.2.1.set ((x3.1.2.1).toNat) ((getD' x3.2.1 ((x3.1.2.1).toNat) ((0 : Int), (((0 : Int), ((0 : Int), ((0 : Int), ()))), ((0 : Int), ())))).1, (((((getD' x3.2.1 ((x3.1.2.1).toNat) ((0 : Int), (((0 : Int), ((0 : Int), ((0 : Int), ()))), ((0 : Int), ())))).2).1).1, (((((getD' x3.2.1 ((x3.1.2.1).toNat) ((0 : Int), (((0 : Int), ((0 : Int), ((0 : Int), ()))), ((0 : Int), ())))).2).1).2).1, ((((((getD' x3.2.1 ((x3.1.2.1).toNat) ((0 : Int), (((0 : Int), ((0 : Int), ((0 : Int), ()))), ((0 : Int), ())))).2).1).2).2).1, ()))), ((w64 ((((getD' x3.2.1 ((x3.1.2.1).toNat) ((0 : Int), (((0 : Int), ((0 : Int), ((0 : Int), ()))), ((0 : Int), ())))).2).2).1 + d2.2.2.1)), ())))) ((x3.1.2.1).toNat) ((0 : Int), (((0 : Int), ((0 : Int), ((0 : Int), ()))), ((0 : Int), ())))).2).1).2).2).1, ()))), ((1000000 : Int), ())))), ())))
  else some ((), ((x3.2.1.set ((x3.1.2.1).toNat) ((getD' x3.2.1 ((x3.1.2.1).toNat) ((0 : Int), (((0 : Int), ((0 : Int), ((0 : Int), ()))), ((0 : Int), ())))).1, (((((getD' x3.2.1 ((x3.1.2.1).toNat) ((0 : Int), (((0 : Int), ((0 : Int), ((0 : Int), ()))), ((0 : Int), ())))).2).1).1, (((((getD' x3.2.1 ((x3.1.2.1).toNat) ((0 : Int), (((0 : Int), ((0 : Int), ((0 : Int), ()))), ((0 : Int), ())))).2).1).2).1, ((((((getD' x3.2.1 ((x3.1.2.1).toNat) ((0 : Int), (((0 : Int), ((0 : Int), ((0 : Int), ()))), ((0 : Int), ())))).2).1).2).2).1, ()))), ((w64 ((((getD' x3.2.1 ((x3.1.2.1).toNat) ((0 : Int), (((0 : Int), ((0 : Int), ((0 : Int), ()))), ((0 : Int), ())))).2).2).1 + d2.2.2.1)), ())))), ()))) fun x4 =>
  some ((true, ()), (x4.2.1, ()))))))
  else some ((x3.1.1, ()), (x3.2.1, ()))) fun x5 =>
  some (Sum.inl ((x5.1.1, (w64 (x3.1.2.1 + (1 : Int))), ()), (x5.2.1, ()))))))
  else some (Sum.inr ((x3.1.1, ()), (x3.2.1, ())))
noncomputable def ref3Weigh_L1 (l : List (Int × (Int × Int × Int × Unit) × Int × Unit)) (x1 : ((List (Int × (Int × Int × Int × Unit) × Int × Unit)) × Int × Unit) × (Unit)) : Option ((((List (Int × (Int × Int × Int × Unit) × Int × Unit)) × Int × Unit) × (Unit)) ⊕ (((List (Int × (Int × Int × Int × Unit) × Int × Unit)) × Unit) × (Unit))) :=
  bif (decide (x1.1.2.1 < ((l.length : Nat) : Int))) then (Option.bind (Option.bind (at? l x1.1.2.1) fun d2 =>
  Option.bind (iterW (ref3Weigh_L2 x1 d2) ((false, (0 : Int), ()), (x1.1.1, ()))) fun x6 =>
  Option.bind (bif (!x6.1.1) then req (room (x6.2.1.length + ([d2]).length) 40) (some (((x6.2.1 ++ [d2]), ()), ()))
  else some ((x6.2.1, ()), ())) fun x7 =>
  some ((x7.1.1, ()), ())) fun x8 =>
  some (Sum.inl ((x8.1.1, (w64 (x1.1.2.1 + (1 : Int))), ()), ())))
  else some (Sum.inr ((x1.1.1, ()), ()))
noncomputable def ref3Weigh_L4 (x11 : (Int × Unit) × ((List (Int × (Int × Int × Int × Unit) × Int × Unit)) × Unit)) : Option (((Int × Unit) × ((List (Int × (Int × Int × Int × Unit) × Int × Unit)) × Unit)) ⊕ ((Unit) × ((List (Int × (Int × Int × Int × Unit) × Int × Unit)) × Unit))) :=
  req (imp (decide (x11.1.1 > (0 : Int))) (inb x11.1.1 x11.2.1.length)) (req (imp (decide (x11.1.1 > (0 : Int))) (inb (w64 (x11.1.1 - (1 : Int))) x11.2.1.length)) (bif ((decide (x11.1.1 > (0 : Int))) && (ref3Ahead (getD' x11.2.1 ((x11.1.1).toNat) ((0 : Int), (((0 : Int), ((0 : Int), ((0 : Int), ()))), ((0 : Int), ())))) (getD' x11.2.1 (((w64 (x11.1.1 - (1 : Int)))).toNat) ((0 : Int), (((0 : Int), ((0 : Int), ((0 : Int), ()))), ((0 : Int), ())))))) then req (inb (w64 (x11.1.1 - (1 : Int))) x11.2.1.length) (req (inb x11.1.1 x11.2.1.length) (req (inb x11.1.1 x11.2.1.length) (req (inb (w64 (x11.1.1 - (1 : Int))) (x11.2.1.set ((x11.1.1).toNat) (getD' x11.2.1 (((w64 (x11.1.1 - (1 : Int)))).toNat) ((0 : Int), (((0 : Int), ((0 : Int), ((0 : Int), ()))), ((0 : Int), ()))))).length) (some (Sum.inl (((w64 (x11.1.1 - (1 : Int))), ()), (((x11.2.1.set ((x11.1.1).toNat) (getD' x11.2.1 (((w64 (x11.1.1 - (1 : Int)))).toNat) ((0 : Int), (((0 : Int), ((0 : Int), ((0 : Int), ()))), ((0 : Int), ()))))).set (((w64 (x11.1.1 - (1 : Int)))).toNat) (getD' x11.2.1 ((x11.1.1).toNat) ((0 : Int), (((0 : Int), ((0 : Int), ((0 : Int), ()))), ((0 : Int), ()))))), ())))))))
  else some (Sum.inr ((), (x11.2.1, ())))))
noncomputable def ref3Weigh_L3 (x9 : ((List (Int × (Int × Int × Int × Unit) × Int × Unit)) × Unit) × (Unit)) (x10 : (Int × Unit) × ((List (Int × (Int × Int × Int × Unit) × Int × Unit)) × Unit)) : Option (((Int × Unit) × ((List (Int × (Int × Int × Int × Unit) × Int × Unit)) × Unit)) ⊕ ((Unit) × ((List (Int × (Int × Int × Int × Unit) × Int × Unit)) × Unit))) :=
  bif (decide (x10.1.1 < ((x9.1.1.length : Nat) : Int))) then (Option.bind (Option.bind (iterW (ref3Weigh_L4) ((x10.1.1, ()), (x10.2.1, ()))) fun x12 =>
  some ((), (x12.2.1, ()))) fun x13 =>
  some (Sum.inl (((w64 (x10.1.1 + (1 : Int))), ()), (x13.2.1, ()))))
  else some (Sum.inr ((), (x10.2.1, ())))
noncomputable def ref3Weigh (l : List (Int × (Int × Int × Int × Unit) × Int × Unit)) : Option (List (Int × (Int × Int × Int × Unit) × Int × Unit)) :=
  Option.bind (iterW (ref3Weigh_L1 l) ((([] : List (Int × (Int × Int × Int × Unit) × Int × Unit)), (0 : Int), ()), ())) fun x9 =>
  Option.bind (iterW (ref3Weigh_L3 x9) (((0 : Int), ()), (x9.1.1, ()))) fun x14 =>
  some x14.2.1
noncomputable def law3BookMerges_L1 (r10 : List (Int × (Int × Int × Int × Unit) × Int × Unit)) (least : Int) (x17 : ((List (Int × (Int × Int × Int × Unit) × Int × Unit)) × Int × Unit) × (Unit)) : Option ((((List (Int × (Int × Int × Int × Unit) × Int × Unit)) × Int × Unit) × (Unit)) ⊕ (((List (Int × (Int × Int × Int × Unit) × Int × Unit)) × Unit) × (Unit))) :=
  bif (decide (x17.1.2.1 < ((r10.length : Nat) : Int))) then (Option.bind (at? r10 x17.1.2.1) fun d18 =>
  Option.bind (bif (decide (d18.2.2.1 ≥ least)) then req (room (x17.1.1.length + ([d18]).length) 40) (some (((x17.1.1 ++ [d18]), ()), ()))
  else some ((x17.1.1, ()), ())) fun x19 =>
  some (Sum.inl ((x19.1.1, (w64 (x17.1.2.1 + (1 : Int))), ()), ())))
  else some (Sum.inr ((x17.1.1, ()), ()))
noncomputable def law3BookMerges (a : List (Int × (Int × Int × Int × Unit) × Int × Unit)) (b : List (Int × (Int × Int × Int × Unit) × Int × Unit)) (least : Int) : Option (Bool) :=
  Option.bind (law3Books) fun r9 =>
  bif (!r9) then some false
  else Option.bind (law3Shelf a) fun r10 =>
  Option.bind (law3Shelf b) fun r11 =>
  Option.bind (bookMerge r10 r11) fun r12 =>
  Option.bind (bookTrim r10 least) fun r13 =>
  Option.bind (law3Shelved r10) fun r14 =>
  Option.bind (law3Shelved r11) fun r15 =>
  Option.bind (bookCheck r10) fun r16 =>
  bif (((r16 != r14) || (r13.2.1 != r14)) || ((r14 != (0 : Int)) && (decide (((r13.1.length : Nat) : Int) > (0 : Int))))) then some false
  else Option.bind (α := ((Int × Unit) × (Unit)) ⊕ Bool) (bif (r14 == (0 : Int)) then (Option.bind (iterW (law3BookMerges_L1 r10 least) ((([] : List (Int × (Int × Int × Int × Unit) × Int × Unit)), (0 : Int), ()), ())) fun x20 =>
  Option.bind (law3SameBook r13.1 x20.1.1) fun r21 =>
  bif (!r21) then some (Sum.inr false)
  else some (Sum.inl ((r15, ()), ())))
  else some (Sum.inl ((r14, ()), ()))) (Sum.elim (fun x22 =>
  bif (x22.1.1 != (0 : Int)) then some ((r12.2.1 == x22.1.1) && (((r12.1.length : Nat) : Int) == (0 : Int)))
  else Option.bind (bif (r12.2.1 == (0 : Int)) then (req (room (([] : List (Int × (Int × Int × Int × Unit) × Int × Unit)).length + r10.length) 40) (req (room ((([] : List (Int × (Int × Int × Int × Unit) × Int × Unit)) ++ r10).length + r11.length) 40) (Option.bind (ref3Weigh ((([] : List (Int × (Int × Int × Int × Unit) × Int × Unit)) ++ r10) ++ r11)) fun r23 =>
  Option.bind (law3SameBook r12.1 r23) fun r24 =>
  some ((r24, ()), ()))))
  else some ((false, ()), ())) fun x25 =>
  some x25.1.1) some)
end Go.Proofs.Ytfppnefcicdnfaa
namespace Go.Den
open Go.Eng Go.Sort Go.Proofs Go.Shelf Go.Lib
set_option linter.unusedVariables false
set_option linter.unusedSectionVars false
set_option linter.unusedSimpArgs false
instance (τ : Ty) : Inhabited (D τ) := ⟨dflt τ⟩

theorem flat_get {α : Type} [Inhabited α] (enc : α → List Value) (k : Nat) (hk : ∀ x, (enc x).length = k) : ∀ (l : List α) (t : Nat), t < l.length * k → (l.map enc).flatten[t]? = some ((enc l[t / k]!)[t % k]!)
  | [], t, h => by simp at h
  | x :: l, t, h => by
    rw [List.map_cons, List.flatten_cons]
    have k0 : 0 < k := by
      rcases Nat.eq_zero_or_pos k with e | e
      · subst e; simp at h
      · exact e
    by_cases ht : t < k
    · rw [List.getElem?_append_left (by rw [hk]; exact ht), Nat.div_eq_of_lt ht, Nat.mod_eq_of_lt ht]
      simp [hk, ht]
    · rw [List.getElem?_append_right (by rw [hk]; omega), hk, flat_get enc k hk l (t - k) (by rw [List.length_cons, Nat.add_mul] at h; omega)]
      obtain ⟨u, rfl⟩ : ∃ u, t = u + k := ⟨t - k, by omega⟩
      rw [Nat.add_sub_cancel, Nat.add_div_right _ k0, Nat.add_mod_right]
      simp
theorem flen {α : Type} (enc : α → List Value) (k : Nat) (hk : ∀ x, (enc x).length = k) : ∀ l : List α, ((l.map enc).flatten).length = l.length * k
  | [] => by simp
  | x :: l => by rw [List.map_cons, List.flatten_cons, List.length_append, hk, flen enc k hk l, List.length_cons, Nat.add_mul]; omega
theorem flatK_list {α : Type} [Inhabited α] (enc : α → List Value) (k : Nat) (hk : ∀ x, (enc x).length = k) (l : List α) : flatK enc k l.toArray = ((l.map enc).flatten).toArray := by
  have hl := flen enc k hk l
  refine ext_get! (by simp [hl]) fun t ht => ?_
  have ht' : t < l.toArray.size * k := by simpa using ht
  rw [get_flatK _ _ _ _ ht']
  have := flat_get enc k hk l t (by simpa using ht')
  simp [this]

variable [CT : Ctx]
theorem flat_mk {w : World} {S : Nat → Prop} : ∀ (τ : Ty) (x : D τ), τ.flat = true → Rep w S τ x [] (cellsV τ x)
  | .int k, x, _ => ⟨rfl, rfl⟩
  | .bool, x, _ => ⟨rfl, rfl⟩
  | .str, x, _ => ⟨rfl, rfl⟩
  | .nil, x, _ => ⟨rfl, rfl⟩
  | .sl e, x, h => by cases h
  | .osl i e, x, h => by cases h
  | .obx _, x, h => by cases h
  | .err, x, h => by cases h
  | .bld _ _, x, h => by cases h
  | .st f r, x, h => by
    simp only [Ty.flat, Bool.and_eq_true] at h
    exact ⟨_, _, [], [], rfl, rfl, flat_mk f x.1 h.1, flat_mk r x.2 h.2⟩
theorem repL_flat {w : World} {S : Nat → Prop} {τ : Ty} (hf : τ.flat = true) : ∀ {xs : List (D τ)} {us : List Value}, RepL (fun x c => Rep w S τ x [] c) xs us → us = (xs.map (cellsV τ)).flatten
  | [], us, h => h
  | x :: xs, us, ⟨c, r, e, h1, h2⟩ => by
    rw [e, flat_rep τ hf h1, repL_flat hf h2]; rfl
theorem flat_repL {w : World} {S : Nat → Prop} {τ : Ty} (hf : τ.flat = true) : ∀ (xs : List (D τ)), RepL (fun x c => Rep w S τ x [] c) xs (xs.map (cellsV τ)).flatten
  | [] => rfl
  | x :: xs => ⟨_, _, rfl, flat_mk τ x hf, flat_repL hf xs⟩
theorem chg_grow {w w' : World} (h : Chg (CT := ⟨[], [], true, []⟩) [] w w') : ∃ q os', w' = grow (w.drewN q) os' := by
  refine ⟨w'.drawn - w.drawn, w'.heap.extract w.heap.size w'.heap.size, ?_⟩
  obtain ⟨heap, tape, drawn, os, output⟩ := w
  obtain ⟨heap', tape', drawn', os', output'⟩ := w'
  obtain ⟨h1, h2, h3, h4, h5, h6⟩ := h
  simp only at h1 h2 h3 h4 h5 h6
  subst h1 h2 h3
  have h6 := h6 trivial
  have : heap' = heap ++ heap'.extract heap.size heap'.size := by
    apply Array.ext_getElem?
    intro j
    rw [Array.getElem?_append]
    by_cases hj : j < heap.size
    · rw [if_pos hj]; exact h5 j hj (by simp)
    · rw [if_neg hj, Array.getElem?_extract]
      by_cases hj2 : j < heap'.size
      · rw [if_pos (by omega)]; congr 1; omega
      · rw [if_neg (by omega), Array.getElem?_eq_none (by omega)]
  show World.mk heap' tape' drawn' os' output' = World.mk (heap ++ heap'.extract heap.size heap'.size) tape' (drawn + (drawn' - drawn)) os' output'
  rw [← this]
  congr 1
  omega

section
variable {P : Program} {ρ : Ren}
/-- slices.SortFunc at structs without slices, by a function that tells all elements apart -/
theorem srt_structs (L : SlLaysF0.n6 P ρ) {f : FuncId} (hf6 : ρ.f 6 = f) {τ : Ty} {i : TypeId} (hi : ρ.t 24 = i) (hflat : τ.flat = true) (hagg : τ.isAgg = true) (aE : ∀ w, (isAgg i).run P w = .ok true w) (zE : ∀ w, (Go.sizeOf i).run P w = .ok τ.size w) {g : FuncId} {res : List Ty} {φ : DL [τ, τ] → Option Int} {tot : Option (DL [τ, τ] → Int)}
    (hc : ConOK (CT := ⟨[], [], true, []⟩) P g ⟨[τ, τ], true, res, .int .i64, φ, tot⟩) (cf : D τ → D τ → Int) (hcf : ∀ x y, φ (x, y, ()) = some (cf x y)) (hO : SWO (ltOf cf)) (hT : ∀ x y, (ltOf cf) x y = false → (ltOf cf) y x = false → x = y) (eg : ∀ args w, (callFunc g args).run P w = .ok (.enter g args) w) :
    SrtOK P f ⟨i, τ, some g, fun xs => xs.mergeSort fun x y => !(ltOf cf) y x⟩ := by
  subst hf6; subst hi
  refine ⟨hflat, fun xs => List.length_mergeSort xs, fun w S v M xs us hlen hown hrep => ?_⟩
  simp only at hown hrep ⊢
  have hsz : ∀ x : D τ, (cellsV τ x).length = τ.size := fun x => Rep.length τ (flat_mk (w := w) (S := S) τ x hflat)
  have hus := repL_flat hflat hrep
  rcases hown with ⟨rfl, ⟨ao, rfl⟩, h3, h4⟩ | ⟨b, cap, cur, rfl, rfl, hb, hcap, hcap2, hcs, htake⟩
  · have hxs : xs = [] := List.length_eq_zero_iff.1 h3
    subst hxs
    refine (AnyF.slices_SortFunc_none L ao 0 _ w).mono ?_
    rintro e w' ⟨rfl, rfl⟩
    exact ⟨rfl, Chg.refl _ _, us, .inl ⟨rfl, ⟨ao, rfl⟩, rfl, h4⟩, by subst h4; simp [RepL]⟩
  · have hrow := hb
    obtain ⟨fz, hb, hfz⟩ := hb
    have hcmp : CmpLays P g #[] (cellsV τ) τ.size cf b 0 xs.toArray.size w := fun m os dk hdk x y => by
      have := ConOK.calls (CT := ⟨[], [], true, []⟩) hc (sortWorldK (cellsV τ) τ.size w b 0 m dk os) (fun _ => False) (#[.agg (cellsV τ x).toArray, .agg (cellsV τ y).toArray] ++ #[]) (x, y, ()) (cf x y) (fun _ h => h.elim) (tabR_nil (CT := ⟨[], [], true, []⟩) rfl rfl)
        ⟨_, _, rfl, ⟨cellsV τ x, flat_mk (CT := ⟨[], [], true, []⟩) τ x hflat, by simp [oneV, hagg]⟩, _, _, rfl, ⟨cellsV τ y, flat_mk (CT := ⟨[], [], true, []⟩) τ y hflat, by simp [oneV, hagg]⟩, rfl⟩ (hcf x y)
      refine this.mono ?_
      rintro e w' ⟨v, rfl, hch, M', cs, _, _, hr, hv⟩
      refine ⟨?_, chg_grow hch⟩
      rw [hv, hr.2]
      rfl
    have hblk : b < w.heap.size := (Array.getElem?_eq_some_iff.1 hb).1
    have hul : us.length = xs.length * τ.size := by rw [hus]; exact flen _ _ hsz xs
    have hnc : xs.length * τ.size ≤ cur.size := by rw [hcs]; exact Nat.mul_le_mul_right _ hcap
    have hH : HoldsK (cellsV τ) τ.size w b 0 xs.toArray := by
      intro j hj
      rw [size_flatK] at hj
      rw [flatK_list _ _ hsz, ← hus]
      have hj' : j < us.length := by rw [hul]; simpa using hj
      refine ⟨?_, by rw [Nat.zero_add]; exact hrow.fro (by omega)⟩
      simp only [World.cell?, hb, Nat.zero_add]
      have : cur[j]? = us[j]? := by
        rw [← htake, List.getElem?_take, if_pos (by rw [← hul]; exact hj'), Array.getElem?_toList]
      simp [this, hj']
    have := AnyQ.slices_SortFunc_total L τ.size aE zE (cellsV τ) hsz (fun x v hv => Rep.one τ (flat_mk (w := w) (S := S) τ x hflat) v hv) cf hO g #[] b 0 cap xs.toArray w eg hcmp hH hblk (by simpa using hlen) hT
    simp only [List.size_toArray] at this
    refine this.mono ?_
    rintro e w' ⟨rfl, n, os, rfl⟩
    have hl := List.length_mergeSort (le := fun x y => !ltOf cf y x) xs
    generalize hys : xs.mergeSort (fun x y => !ltOf cf y x) = ys at hl ⊢
    simp only [hys]
    have hyl : ((ys.map (cellsV τ)).flatten).length = xs.length * τ.size := by rw [flen _ _ hsz ys, hl]
    have hheap : ∀ j, j < w.heap.size → (sortWorldK (cellsV τ) τ.size w b 0 n ys.toArray os).heap[j]? = if b = j then some (.cells (putCells id 0 (flatK (cellsV τ) τ.size ys.toArray) cur) (ρ.t 24) fz) else w.heap[j]? := fun j hj => by
      simp only [sortWorldK, putRowK, putRow, grow, mapBlock, Sort.ahead]
      rw [Array.getElem?_append_left (by simpa using hj), Array.getElem?_modify]
      by_cases e : b = j
      · subst e; simp [hb, onCells]
      · simp [e]
    refine ⟨trivial, ⟨rfl, rfl, rfl, ?_, fun j hj hn => ?_, ?_⟩, _, .inr ⟨b, cap, putCells id 0 (flatK (cellsV τ) τ.size ys.toArray) cur, rfl, rfl, ?_, hcap, hcap2, ?_, rfl⟩, ?_⟩
    · simp [sortWorldK, putRowK, putRow, grow, mapBlock, Sort.ahead]
    · rw [hheap j hj, if_neg (fun e => hn (by simp [e]))]
    · simp [sortWorldK, putRowK, putRow, grow, mapBlock, Sort.ahead]
    · exact ⟨fz, by rw [hheap b hblk, if_pos rfl], by simpa [putCells] using hfz⟩
    · simp [putCells, hcs]
    · have : (putCells id 0 (flatK (cellsV τ) τ.size ys.toArray) cur).toList.take (xs.length * τ.size) = (ys.map (cellsV τ)).flatten := by
        apply List.ext_getElem?
        intro j
        rw [List.getElem?_take]
        by_cases hj : j < xs.length * τ.size
        · rw [if_pos hj, Array.getElem?_toList, flatK_list _ _ hsz]
          have h1 : j < cur.size := by omega
          simp [putCells, Array.getElem?_mapIdx, h1, hyl, hj]
        · rw [if_neg hj, List.getElem?_eq_none (by rw [hyl]; omega)]
      rw [this]
      exact flat_repL hflat ys
end
end Go.Den
