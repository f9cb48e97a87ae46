/- What functions compute, in plain Lean: ClaimFalls. No condition of its own. -/
import Derived.Test.YtaaigenpmaiodaaDen0
import Derived.Test.YtaaigenpmaiodaaGameS
namespace Go.Proofs.Ytaaigenpmaiodaa
open Go.Den
set_option linter.unusedVariables false
set_option maxRecDepth 100000
noncomputable def claimTypes_L1 (p : (List Int) × ((List Int) × (List Int) × Unit) × Int × Int × Unit) (player : Int) (x1 : ((List Int) × Int × Int × Unit) × (Unit)) : Option ((((List Int) × Int × Int × Unit) × (Unit)) ⊕ (((List Int) × Int × Unit) × (Unit))) :=
  bif (decide (x1.1.2.2.1 < ((p.1.length : Nat) : Int))) then (Option.bind (at? p.1 x1.1.2.2.1) fun d2 =>
  req (imp (decide (d2 > (0 : Int))) true) (Option.bind (bif ((decide (d2 > (0 : Int))) && (((w64 (d2 - (1 : Int))).tmod (2 : Int)) == player)) then req (room (x1.1.1.length + ([(w64 ((w64 (d2 - (1 : Int))).tdiv (2 : Int)))]).length) 8) (some (((x1.1.1 ++ [(w64 ((w64 (d2 - (1 : Int))).tdiv (2 : Int)))]), (w64 (x1.1.2.1 + (1 : Int))), ()), ()))
  else some ((x1.1.1, x1.1.2.1, ()), ())) fun x3 =>
  some (Sum.inl ((x3.1.1, x3.1.2.1, (w64 (x1.1.2.2.1 + (1 : Int))), ()), ()))))
  else some (Sum.inr ((x1.1.1, x1.1.2.1, ()), ()))
noncomputable def claimTypes_L2 (p : (List Int) × ((List Int) × (List Int) × Unit) × Int × Int × Unit) (player : Int) (x5 : ((List Int) × Int × Int × Unit) × (Unit)) : Option ((((List Int) × Int × Int × Unit) × (Unit)) ⊕ (((List Int) × Int × Unit) × (Unit))) :=
  bif (decide (x5.1.2.2.1 < (((getD' [p.2.1.1, p.2.1.2.1] (player).toNat []).length : Nat) : Int))) then (Option.bind (at? (getD' [p.2.1.1, p.2.1.2.1] (player).toNat []) x5.1.2.2.1) fun d6 =>
  Option.bind (bif (decide (d6 > (0 : Int))) then req (room (x5.1.1.length + ([x5.1.2.2.1]).length) 8) (some (((x5.1.1 ++ [x5.1.2.2.1]), (w64 (x5.1.2.1 + d6)), ()), ()))
  else some ((x5.1.1, x5.1.2.1, ()), ())) fun x7 =>
  some (Sum.inl ((x7.1.1, x7.1.2.1, (w64 (x5.1.2.2.1 + (1 : Int))), ()), ())))
  else some (Sum.inr ((x5.1.1, x5.1.2.1, ()), ()))
noncomputable def claimTypes (p : (List Int) × ((List Int) × (List Int) × Unit) × Int × Int × Unit) (player : Int) : Option ((List Int) × Int × Unit) :=
  Option.bind (iterW (claimTypes_L1 p player) ((([] : List Int), (0 : Int), (0 : Int), ()), ())) fun x4 =>
  req (inb player 2) (Option.bind (iterW (claimTypes_L2 p player) ((x4.1.1, x4.1.2.1, (0 : Int), ()), ())) fun x8 =>
  some (x8.1.1, (x8.1.2.1, ())))
noncomputable def claimBecomes_L1 (r : ByteArray × Int × Int × (List (Int × Int × Int × (List (Int × Int × Int × Int × Unit)) × Unit)) × (List Int) × Bool × Bool × (List (Int × Int × Int × Bool × Unit)) × Int × Int × Int × Unit) (piece : Int) (x1 : (Int × Int × Unit) × (Unit)) : Option (((Int × Int × Unit) × (Unit)) ⊕ (((Unit) × (Unit)) ⊕ Bool)) :=
  bif (decide (x1.1.2.1 < (w64 (((r.2.2.2.1.length : Nat) : Int) + (1 : Int))))) then (bif (x1.1.1 == piece) then some (Sum.inr (Sum.inr true))
  else Option.bind (at? r.2.2.2.1 x1.1.1) fun d2 =>
  bif (d2.2.2.1 == (0 : Int)) then some (Sum.inr (Sum.inr false))
  else Option.bind (at? r.2.2.2.1 x1.1.1) fun d3 =>
  some (Sum.inl (((w64 (d3.2.2.1 - (1 : Int))), (w64 (x1.1.2.1 + (1 : Int))), ()), ())))
  else some (Sum.inr (Sum.inl ((), ())))
noncomputable def claimBecomes (r : ByteArray × Int × Int × (List (Int × Int × Int × (List (Int × Int × Int × Int × Unit)) × Unit)) × (List Int) × Bool × Bool × (List (Int × Int × Int × Bool × Unit)) × Int × Int × Int × Unit) (k : Int) (piece : Int) : Option (Bool) :=
  Option.bind (α := ((Unit) × (Unit)) ⊕ Bool) (iterW (claimBecomes_L1 r piece) ((k, (0 : Int), ()), ())) (Sum.elim (fun x4 =>
  some false) some)
noncomputable def claimAble_L1 (r2 : (List Int) × Int × Unit) (r : ByteArray × Int × Int × (List (Int × Int × Int × (List (Int × Int × Int × Int × Unit)) × Unit)) × (List Int) × Bool × Bool × (List (Int × Int × Int × Bool × Unit)) × Int × Int × Int × Unit) (x : Int × Int × Int × Bool × Unit) (x3 : (Int × Unit) × (Unit)) : Option (((Int × Unit) × (Unit)) ⊕ (((Unit) × (Unit)) ⊕ ((Bool × Unit) × (Unit)))) :=
  bif (decide (x3.1.1 < ((r2.1.length : Nat) : Int))) then (req (inb x3.1.1 r2.1.length) (Option.bind (claimBecomes r (getD' r2.1 ((x3.1.1).toNat) (0 : Int)) x.2.1) fun r4 =>
  bif r4 then some (Sum.inr (Sum.inr (((decide (x3.1.1 ≥ (0 : Int))), ()), ())))
  else some (Sum.inl (((w64 (x3.1.1 + (1 : Int))), ()), ()))))
  else some (Sum.inr (Sum.inl ((), ())))
noncomputable def claimAble_L3 (d8 : Int × Int × Int × (List (Int × Int × Int × Int × Unit)) × Unit) (x7 : (Int × Unit) × (Unit)) (x9 : (Int × Unit) × (Unit)) : Option (((Int × Unit) × (Unit)) ⊕ (((Unit) × (Unit)) ⊕ (((Int × Unit) × (Unit)) ⊕ (((Unit) × (Unit)) ⊕ ((Bool × Unit) × (Unit)))))) :=
  bif (decide (x9.1.1 < ((d8.2.2.2.1.length : Nat) : Int))) then (Option.bind (at? d8.2.2.2.1 x9.1.1) fun d10 =>
  bif (d10.2.2.2.1 != (0 : Int)) then (Option.map Sum.inr (Option.map Sum.inr (bif (decide (x9.1.1 ≥ (0 : Int))) then some (Sum.inr (Sum.inr (((decide (x7.1.1 ≥ (0 : Int))), ()), ())))
  else some (Sum.inl (((w64 (x7.1.1 + (1 : Int))), ()), ())))))
  else some (Sum.inl (((w64 (x9.1.1 + (1 : Int))), ()), ())))
  else some (Sum.inr (Sum.inl ((), ())))
noncomputable def claimAble_L2 (r2 : (List Int) × Int × Unit) (r : ByteArray × Int × Int × (List (Int × Int × Int × (List (Int × Int × Int × Int × Unit)) × Unit)) × (List Int) × Bool × Bool × (List (Int × Int × Int × Bool × Unit)) × Int × Int × Int × Unit) (x7 : (Int × Unit) × (Unit)) : Option (((Int × Unit) × (Unit)) ⊕ (((Unit) × (Unit)) ⊕ ((Bool × Unit) × (Unit)))) :=
  bif (decide (x7.1.1 < ((r2.1.length : Nat) : Int))) then (req (inb x7.1.1 r2.1.length) (Option.bind (at? r.2.2.2.1 (getD' r2.1 ((x7.1.1).toNat) (0 : Int))) fun d8 =>
  Option.bind (α := ((Unit) × (Unit)) ⊕ (((Int × Unit) × (Unit)) ⊕ (((Unit) × (Unit)) ⊕ ((Bool × Unit) × (Unit))))) (iterW (claimAble_L3 d8 x7) (((0 : Int), ()), ())) (Sum.elim (fun x11 =>
  some (Sum.inl (((w64 (x7.1.1 + (1 : Int))), ()), ()))) some)))
  else some (Sum.inr (Sum.inl ((), ())))
noncomputable def claimAble (r : ByteArray × Int × Int × (List (Int × Int × Int × (List (Int × Int × Int × Int × Unit)) × Unit)) × (List Int) × Bool × Bool × (List (Int × Int × Int × Bool × Unit)) × Int × Int × Int × Unit) (p : (List Int) × ((List Int) × (List Int) × Unit) × Int × Int × Unit) (x : Int × Int × Int × Bool × Unit) (player : Int) : Option (Bool) :=
  Option.bind (claimTypes p player) fun r2 =>
  bif (x.2.2.2.1 || (x.1 == (2 : Int))) then some true
  else Option.bind (bif ((x.1 == (0 : Int)) && (decide (r2.2.1 ≥ x.2.2.1))) then some ((true, ()), ())
  else bif (x.1 == (1 : Int)) then (Option.bind (α := ((Unit) × (Unit)) ⊕ ((Bool × Unit) × (Unit))) (iterW (claimAble_L1 r2 r x) (((0 : Int), ()), ())) (Sum.elim (fun x5 =>
  some ((false, ()), ())) some))
  else some ((false, ()), ())) fun x6 =>
  bif x6.1.1 then some true
  else Option.bind (bif r.2.2.2.2.2.2.1 then (Option.bind (α := ((Unit) × (Unit)) ⊕ ((Bool × Unit) × (Unit))) (iterW (claimAble_L2 r2 r) (((0 : Int), ()), ())) (Sum.elim (fun x12 =>
  some ((false, ()), ())) some))
  else some ((false, ()), ())) fun x13 =>
  some x13.1.1
noncomputable def claimAble_i_L1 (r : ByteArray × Int × Int × (List (Int × Int × Int × (List (Int × Int × Int × Int × Unit)) × Unit)) × (List Int) × Bool × Bool × (List (Int × Int × Int × Bool × Unit)) × Int × Int × Int × Unit) (p : (List Int) × ((List Int) × (List Int) × Unit) × Int × Int × Unit) (player : Int) (x3 : (Int × Unit) × (Unit)) : Option (((Int × Unit) × (Unit)) ⊕ (((Unit) × (Unit)) ⊕ ((Bool × Int × Unit) × (Unit)))) :=
  bif (decide (x3.1.1 < ((r.2.2.2.2.2.2.2.1.length : Nat) : Int))) then (Option.bind (at? r.2.2.2.2.2.2.2.1 x3.1.1) fun d4 =>
  Option.bind (claimAble r p d4 player) fun r5 =>
  bif r5 then some (Sum.inr (Sum.inr (((decide (x3.1.1 ≥ (0 : Int))), (0 : Int), ()), ())))
  else some (Sum.inl (((w64 (x3.1.1 + (1 : Int))), ()), ())))
  else some (Sum.inr (Sum.inl ((), ())))
noncomputable def claimAble_i (r : ByteArray × Int × Int × (List (Int × Int × Int × (List (Int × Int × Int × Int × Unit)) × Unit)) × (List Int) × Bool × Bool × (List (Int × Int × Int × Bool × Unit)) × Int × Int × Int × Unit) (p : (List Int) × ((List Int) × (List Int) × Unit) × Int × Int × Unit) (player : Int) : Option (Bool × Int × Unit) :=
  Option.bind (placeCheck r p) fun r2 =>
  bif (r2 != (0 : Int)) then some (false, (r2, ()))
  else bif ((player != (0 : Int)) && (player != (1 : Int))) then some (false, ((1 : Int), ()))
  else Option.bind (bif (r.2.2.2.2.2.2.2.2.1 != (2 : Int)) then some ((true, (0 : Int), ()), ())
  else Option.bind (α := ((Unit) × (Unit)) ⊕ ((Bool × Int × Unit) × (Unit))) (iterW (claimAble_i_L1 r p player) (((0 : Int), ()), ())) (Sum.elim (fun x6 =>
  some ((false, (0 : Int), ()), ())) some)) fun x7 =>
  some (x7.1.1, (x7.1.2.1, ()))
noncomputable def claimFallen (r : ByteArray × Int × Int × (List (Int × Int × Int × (List (Int × Int × Int × Int × Unit)) × Unit)) × (List Int) × Bool × Bool × (List (Int × Int × Int × Bool × Unit)) × Int × Int × Int × Unit) (p : (List Int) × ((List Int) × (List Int) × Unit) × Int × Int × Unit) (player : Int) : Option (Int × Int × Unit) :=
  Option.bind (claimAble_i r p player) fun r3 =>
  bif (r3.2.1 != (0 : Int)) then some ((0 : Int), r3.2)
  else Option.bind (claimAble_i r p (w64 ((1 : Int) - player))) fun r4 =>
  bif r4.1 then some ((w64 ((2 : Int) - player)), ((0 : Int), ()))
  else some ((3 : Int), ((0 : Int), ()))
noncomputable def law3Able_L1 (p : (List Int) × ((List Int) × (List Int) × Unit) × Int × Int × Unit) (player : Int) (x1 : (Int × Unit) × ((Int × Int × Int × Int × Int × Int × Unit) × Unit)) : Option (((Int × Unit) × ((Int × Int × Int × Int × Int × Int × Unit) × Unit)) ⊕ ((Unit) × ((Int × Int × Int × Int × Int × Int × Unit) × Unit))) :=
  bif (decide (x1.1.1 < ((p.1.length : Nat) : Int))) then (Option.bind (at? p.1 x1.1.1) fun d2 =>
  req (imp (decide (d2 > (0 : Int))) true) (Option.bind (bif ((decide (d2 > (0 : Int))) && (((w64 (d2 - (1 : Int))).tmod (2 : Int)) == player)) then req (inb (w64 ((w64 (d2 - (1 : Int))).tdiv (2 : Int))) 6) (req (inb (w64 ((w64 (d2 - (1 : Int))).tdiv (2 : Int))) 6) (some ((), (((bif ((w64 ((w64 (d2 - (1 : Int))).tdiv (2 : Int))) == (0 : Int)) then (w64 ((getD' [x1.2.1.1, x1.2.1.2.1, x1.2.1.2.2.1, x1.2.1.2.2.2.1, x1.2.1.2.2.2.2.1, x1.2.1.2.2.2.2.2.1] ((w64 ((w64 (d2 - (1 : Int))).tdiv (2 : Int)))).toNat 0) + (1 : Int))) else x1.2.1.1), ((bif ((w64 ((w64 (d2 - (1 : Int))).tdiv (2 : Int))) == (1 : Int)) then (w64 ((getD' [x1.2.1.1, x1.2.1.2.1, x1.2.1.2.2.1, x1.2.1.2.2.2.1, x1.2.1.2.2.2.2.1, x1.2.1.2.2.2.2.2.1] ((w64 ((w64 (d2 - (1 : Int))).tdiv (2 : Int)))).toNat 0) + (1 : Int))) else x1.2.1.2.1), ((bif ((w64 ((w64 (d2 - (1 : Int))).tdiv (2 : Int))) == (2 : Int)) then (w64 ((getD' [x1.2.1.1, x1.2.1.2.1, x1.2.1.2.2.1, x1.2.1.2.2.2.1, x1.2.1.2.2.2.2.1, x1.2.1.2.2.2.2.2.1] ((w64 ((w64 (d2 - (1 : Int))).tdiv (2 : Int)))).toNat 0) + (1 : Int))) else x1.2.1.2.2.1), ((bif ((w64 ((w64 (d2 - (1 : Int))).tdiv (2 : Int))) == (3 : Int)) then (w64 ((getD' [x1.2.1.1, x1.2.1.2.1, x1.2.1.2.2.1, x1.2.1.2.2.2.1, x1.2.1.2.2.2.2.1, x1.2.1.2.2.2.2.2.1] ((w64 ((w64 (d2 - (1 : Int))).tdiv (2 : Int)))).toNat 0) + (1 : Int))) else x1.2.1.2.2.2.1), ((bif ((w64 ((w64 (d2 - (1 : Int))).tdiv (2 : Int))) == (4 : Int)) then (w64 ((getD' [x1.2.1.1, x1.2.1.2.1, x1.2.1.2.2.1, x1.2.1.2.2.2.1, x1.2.1.2.2.2.2.1, x1.2.1.2.2.2.2.2.1] ((w64 ((w64 (d2 - (1 : Int))).tdiv (2 : Int)))).toNat 0) + (1 : Int))) else x1.2.1.2.2.2.2.1), ((bif ((w64 ((w64 (d2 - (1 : Int))).tdiv (2 : Int))) == (5 : Int)) then (w64 ((getD' [x1.2.1.1, x1.2.1.2.1, x1.2.1.2.2.1, x1.2.1.2.2.2.1, x1.2.1.2.2.2.2.1, x1.2.1.2.2.2.2.2.1] ((w64 ((w64 (d2 - (1 : Int))).tdiv (2 : Int)))).toNat 0) + (1 : Int))) else x1.2.1.2.2.2.2.2.1), ())))))), ()))))
  else some ((), (x1.2.1, ()))) fun x3 =>
  some (Sum.inl (((w64 (x1.1.1 + (1 : Int))), ()), (x3.2.1, ())))))
  else some (Sum.inr ((), (x1.2.1, ())))
noncomputable def law3Able_L2 (p : (List Int) × ((List Int) × (List Int) × Unit) × Int × Int × Unit) (player : Int) (x5 : (Int × Unit) × ((Int × Int × Int × Int × Int × Int × Unit) × Unit)) : Option (((Int × Unit) × ((Int × Int × Int × Int × Int × Int × Unit) × Unit)) ⊕ ((Unit) × ((Int × Int × Int × Int × Int × Int × Unit) × Unit))) :=
  bif (decide (x5.1.1 < (((getD' [p.2.1.1, p.2.1.2.1] (player).toNat []).length : Nat) : Int))) then (Option.bind (at? (getD' [p.2.1.1, p.2.1.2.1] (player).toNat []) x5.1.1) fun d6 =>
  req (inb x5.1.1 6) (req (inb x5.1.1 6) (some (Sum.inl (((w64 (x5.1.1 + (1 : Int))), ()), (((bif (x5.1.1 == (0 : Int)) then (w64 ((getD' [x5.2.1.1, x5.2.1.2.1, x5.2.1.2.2.1, x5.2.1.2.2.2.1, x5.2.1.2.2.2.2.1, x5.2.1.2.2.2.2.2.1] (x5.1.1).toNat 0) + d6)) else x5.2.1.1), ((bif (x5.1.1 == (1 : Int)) then (w64 ((getD' [x5.2.1.1, x5.2.1.2.1, x5.2.1.2.2.1, x5.2.1.2.2.2.1, x5.2.1.2.2.2.2.1, x5.2.1.2.2.2.2.2.1] (x5.1.1).toNat 0) + d6)) else x5.2.1.2.1), ((bif (x5.1.1 == (2 : Int)) then (w64 ((getD' [x5.2.1.1, x5.2.1.2.1, x5.2.1.2.2.1, x5.2.1.2.2.2.1, x5.2.1.2.2.2.2.1, x5.2.1.2.2.2.2.2.1] (x5.1.1).toNat 0) + d6)) else x5.2.1.2.2.1), ((bif (x5.1.1 == (3 : Int)) then (w64 ((getD' [x5.2.1.1, x5.2.1.2.1, x5.2.1.2.2.1, x5.2.1.2.2.2.1, x5.2.1.2.2.2.2.1, x5.2.1.2.2.2.2.2.1] (x5.1.1).toNat 0) + d6)) else x5.2.1.2.2.2.1), ((bif (x5.1.1 == (4 : Int)) then (w64 ((getD' [x5.2.1.1, x5.2.1.2.1, x5.2.1.2.2.1, x5.2.1.2.2.2.1, x5.2.1.2.2.2.2.1, x5.2.1.2.2.2.2.2.1] (x5.1.1).toNat 0) + d6)) else x5.2.1.2.2.2.2.1), ((bif (x5.1.1 == (5 : Int)) then (w64 ((getD' [x5.2.1.1, x5.2.1.2.1, x5.2.1.2.2.1, x5.2.1.2.2.2.1, x5.2.1.2.2.2.2.1, x5.2.1.2.2.2.2.2.1] (x5.1.1).toNat 0) + d6)) else x5.2.1.2.2.2.2.2.1), ())))))), ()))))))
  else some (Sum.inr ((), (x5.2.1, ())))
noncomputable def law3Able_L4 (d9 : Int × Int × Int × (List (Int × Int × Int × Int × Unit)) × Unit) (x8 : (Bool × Int × Int × Unit) × (Unit)) (x7 : (Unit) × ((Int × Int × Int × Int × Int × Int × Unit) × Unit)) (x10 : (Bool × Int × Unit) × (Unit)) : Option (((Bool × Int × Unit) × (Unit)) ⊕ ((Bool × Unit) × (Unit))) :=
  bif (decide (x10.1.2.1 < ((d9.2.2.2.1.length : Nat) : Int))) then (Option.bind (at? d9.2.2.2.1 x10.1.2.1) fun d11 =>
  req (imp (!x10.1.1) (inb x8.1.2.2.1 6)) (some (Sum.inl (((x10.1.1 || ((decide ((getD' [x7.2.1.1, x7.2.1.2.1, x7.2.1.2.2.1, x7.2.1.2.2.2.1, x7.2.1.2.2.2.2.1, x7.2.1.2.2.2.2.2.1] (x8.1.2.2.1).toNat 0) > (0 : Int))) && (decide (d11.2.2.2.1 > (0 : Int))))), (w64 (x10.1.2.1 + (1 : Int))), ()), ()))))
  else some (Sum.inr ((x10.1.1, ()), ()))
noncomputable def law3Able_L3 (r : ByteArray × Int × Int × (List (Int × Int × Int × (List (Int × Int × Int × Int × Unit)) × Unit)) × (List Int) × Bool × Bool × (List (Int × Int × Int × Bool × Unit)) × Int × Int × Int × Unit) (x7 : (Unit) × ((Int × Int × Int × Int × Int × Int × Unit) × Unit)) (x8 : (Bool × Int × Int × Unit) × (Unit)) : Option (((Bool × Int × Int × Unit) × (Unit)) ⊕ ((Bool × Int × Unit) × (Unit))) :=
  bif (decide (x8.1.2.2.1 < ((r.2.2.2.1.length : Nat) : Int))) then (Option.bind (Option.bind (at? r.2.2.2.1 x8.1.2.2.1) fun d9 =>
  req (inb x8.1.2.2.1 6) (Option.bind (iterW (law3Able_L4 d9 x8 x7) ((x8.1.1, (0 : Int), ()), ())) fun x12 =>
  some ((x12.1.1, (w64 (x8.1.2.1 + (getD' [x7.2.1.1, x7.2.1.2.1, x7.2.1.2.2.1, x7.2.1.2.2.2.1, x7.2.1.2.2.2.2.1, x7.2.1.2.2.2.2.2.1] (x8.1.2.2.1).toNat 0))), ()), ()))) fun x13 =>
  some (Sum.inl ((x13.1.1, x13.1.2.1, (w64 (x8.1.2.2.1 + (1 : Int))), ()), ())))
  else some (Sum.inr ((x8.1.1, x8.1.2.1, ()), ()))
noncomputable def law3Able_L7 (r : ByteArray × Int × Int × (List (Int × Int × Int × (List (Int × Int × Int × Int × Unit)) × Unit)) × (List Int) × Bool × Bool × (List (Int × Int × Int × Bool × Unit)) × Int × Int × Int × Unit) (x18 : (Int × Unit) × ((Bool × Bool × Bool × Bool × Bool × Bool × Unit) × Unit)) : Option (((Int × Unit) × ((Bool × Bool × Bool × Bool × Bool × Bool × Unit) × Unit)) ⊕ ((Unit) × ((Bool × Bool × Bool × Bool × Bool × Bool × Unit) × Unit))) :=
  bif (decide (x18.1.1 < ((r.2.2.2.1.length : Nat) : Int))) then (Option.bind (at? r.2.2.2.1 x18.1.1) fun d19 =>
  req (inb x18.1.1 6) (req (imp ((decide (d19.2.2.1 > (0 : Int))) && (!(getD' [x18.2.1.1, x18.2.1.2.1, x18.2.1.2.2.1, x18.2.1.2.2.2.1, x18.2.1.2.2.2.2.1, x18.2.1.2.2.2.2.2.1] (x18.1.1).toNat false))) (inb (w64 (d19.2.2.1 - (1 : Int))) 6)) (req (inb x18.1.1 6) (some (Sum.inl (((w64 (x18.1.1 + (1 : Int))), ()), (((bif (x18.1.1 == (0 : Int)) then ((getD' [x18.2.1.1, x18.2.1.2.1, x18.2.1.2.2.1, x18.2.1.2.2.2.1, x18.2.1.2.2.2.2.1, x18.2.1.2.2.2.2.2.1] (x18.1.1).toNat false) || ((decide (d19.2.2.1 > (0 : Int))) && (getD' [x18.2.1.1, x18.2.1.2.1, x18.2.1.2.2.1, x18.2.1.2.2.2.1, x18.2.1.2.2.2.2.1, x18.2.1.2.2.2.2.2.1] ((w64 (d19.2.2.1 - (1 : Int)))).toNat false))) else x18.2.1.1), ((bif (x18.1.1 == (1 : Int)) then ((getD' [x18.2.1.1, x18.2.1.2.1, x18.2.1.2.2.1, x18.2.1.2.2.2.1, x18.2.1.2.2.2.2.1, x18.2.1.2.2.2.2.2.1] (x18.1.1).toNat false) || ((decide (d19.2.2.1 > (0 : Int))) && (getD' [x18.2.1.1, x18.2.1.2.1, x18.2.1.2.2.1, x18.2.1.2.2.2.1, x18.2.1.2.2.2.2.1, x18.2.1.2.2.2.2.2.1] ((w64 (d19.2.2.1 - (1 : Int)))).toNat false))) else x18.2.1.2.1), ((bif (x18.1.1 == (2 : Int)) then ((getD' [x18.2.1.1, x18.2.1.2.1, x18.2.1.2.2.1, x18.2.1.2.2.2.1, x18.2.1.2.2.2.2.1, x18.2.1.2.2.2.2.2.1] (x18.1.1).toNat false) || ((decide (d19.2.2.1 > (0 : Int))) && (getD' [x18.2.1.1, x18.2.1.2.1, x18.2.1.2.2.1, x18.2.1.2.2.2.1, x18.2.1.2.2.2.2.1, x18.2.1.2.2.2.2.2.1] ((w64 (d19.2.2.1 - (1 : Int)))).toNat false))) else x18.2.1.2.2.1), ((bif (x18.1.1 == (3 : Int)) then ((getD' [x18.2.1.1, x18.2.1.2.1, x18.2.1.2.2.1, x18.2.1.2.2.2.1, x18.2.1.2.2.2.2.1, x18.2.1.2.2.2.2.2.1] (x18.1.1).toNat false) || ((decide (d19.2.2.1 > (0 : Int))) && (getD' [x18.2.1.1, x18.2.1.2.1, x18.2.1.2.2.1, x18.2.1.2.2.2.1, x18.2.1.2.2.2.2.1, x18.2.1.2.2.2.2.2.1] ((w64 (d19.2.2.1 - (1 : Int)))).toNat false))) else x18.2.1.2.2.2.1), ((bif (x18.1.1 == (4 : Int)) then ((getD' [x18.2.1.1, x18.2.1.2.1, x18.2.1.2.2.1, x18.2.1.2.2.2.1, x18.2.1.2.2.2.2.1, x18.2.1.2.2.2.2.2.1] (x18.1.1).toNat false) || ((decide (d19.2.2.1 > (0 : Int))) && (getD' [x18.2.1.1, x18.2.1.2.1, x18.2.1.2.2.1, x18.2.1.2.2.2.1, x18.2.1.2.2.2.2.1, x18.2.1.2.2.2.2.2.1] ((w64 (d19.2.2.1 - (1 : Int)))).toNat false))) else x18.2.1.2.2.2.2.1), ((bif (x18.1.1 == (5 : Int)) then ((getD' [x18.2.1.1, x18.2.1.2.1, x18.2.1.2.2.1, x18.2.1.2.2.2.1, x18.2.1.2.2.2.2.1, x18.2.1.2.2.2.2.2.1] (x18.1.1).toNat false) || ((decide (d19.2.2.1 > (0 : Int))) && (getD' [x18.2.1.1, x18.2.1.2.1, x18.2.1.2.2.1, x18.2.1.2.2.2.1, x18.2.1.2.2.2.2.1, x18.2.1.2.2.2.2.2.1] ((w64 (d19.2.2.1 - (1 : Int)))).toNat false))) else x18.2.1.2.2.2.2.2.1), ())))))), ())))))))
  else some (Sum.inr ((), (x18.2.1, ())))
noncomputable def law3Able_L6 (r : ByteArray × Int × Int × (List (Int × Int × Int × (List (Int × Int × Int × Int × Unit)) × Unit)) × (List Int) × Bool × Bool × (List (Int × Int × Int × Bool × Unit)) × Int × Int × Int × Unit) (x17 : (Int × Unit) × ((Bool × Bool × Bool × Bool × Bool × Bool × Unit) × Unit)) : Option (((Int × Unit) × ((Bool × Bool × Bool × Bool × Bool × Bool × Unit) × Unit)) ⊕ ((Unit) × ((Bool × Bool × Bool × Bool × Bool × Bool × Unit) × Unit))) :=
  bif (decide (x17.1.1 < ((r.2.2.2.1.length : Nat) : Int))) then (Option.bind (Option.bind (iterW (law3Able_L7 r) (((0 : Int), ()), (x17.2.1, ()))) fun x20 =>
  some ((), (x20.2.1, ()))) fun x21 =>
  some (Sum.inl (((w64 (x17.1.1 + (1 : Int))), ()), (x21.2.1, ()))))
  else some (Sum.inr ((), (x17.2.1, ())))
noncomputable def law3Able_L8 (r : ByteArray × Int × Int × (List (Int × Int × Int × (List (Int × Int × Int × Int × Unit)) × Unit)) × (List Int) × Bool × Bool × (List (Int × Int × Int × Bool × Unit)) × Int × Int × Int × Unit) (x22 : (Unit) × ((Bool × Bool × Bool × Bool × Bool × Bool × Unit) × Unit)) (x7 : (Unit) × ((Int × Int × Int × Int × Int × Int × Unit) × Unit)) (x23 : (Int × Int × Unit) × (Unit)) : Option (((Int × Int × Unit) × (Unit)) ⊕ ((Int × Unit) × (Unit))) :=
  bif (decide (x23.1.2.1 < ((r.2.2.2.1.length : Nat) : Int))) then (req (inb x23.1.2.1 6) (Option.bind (bif (getD' [x22.2.1.1, x22.2.1.2.1, x22.2.1.2.2.1, x22.2.1.2.2.2.1, x22.2.1.2.2.2.2.1, x22.2.1.2.2.2.2.2.1] (x23.1.2.1).toNat false) then req (inb x23.1.2.1 6) (some (((w64 (x23.1.1 + (getD' [x7.2.1.1, x7.2.1.2.1, x7.2.1.2.2.1, x7.2.1.2.2.2.1, x7.2.1.2.2.2.2.1, x7.2.1.2.2.2.2.2.1] (x23.1.2.1).toNat 0))), ()), ()))
  else some ((x23.1.1, ()), ())) fun x24 =>
  some (Sum.inl ((x24.1.1, (w64 (x23.1.2.1 + (1 : Int))), ()), ()))))
  else some (Sum.inr ((x23.1.1, ()), ()))
noncomputable def law3Able_L5 (r : ByteArray × Int × Int × (List (Int × Int × Int × (List (Int × Int × Int × Int × Unit)) × Unit)) × (List Int) × Bool × Bool × (List (Int × Int × Int × Bool × Unit)) × Int × Int × Int × Unit) (x7 : (Unit) × ((Int × Int × Int × Int × Int × Int × Unit) × Unit)) (x14 : (Bool × Int × Unit) × (Unit)) (x15 : (Bool × Int × Unit) × (Unit)) : Option (((Bool × Int × Unit) × (Unit)) ⊕ ((Bool × Unit) × (Unit))) :=
  bif (decide (x15.1.2.1 < ((r.2.2.2.2.2.2.2.1.length : Nat) : Int))) then (Option.bind (Option.bind (at? r.2.2.2.2.2.2.2.1 x15.1.2.1) fun d16 =>
  req (inb d16.2.1 6) (Option.bind (iterW (law3Able_L6 r) (((0 : Int), ()), (((bif (d16.2.1 == (0 : Int)) then true else false), ((bif (d16.2.1 == (1 : Int)) then true else false), ((bif (d16.2.1 == (2 : Int)) then true else false), ((bif (d16.2.1 == (3 : Int)) then true else false), ((bif (d16.2.1 == (4 : Int)) then true else false), ((bif (d16.2.1 == (5 : Int)) then true else false), ())))))), ()))) fun x22 =>
  Option.bind (iterW (law3Able_L8 r x22 x7) (((0 : Int), (0 : Int), ()), ())) fun x25 =>
  some ((((((x15.1.1 || d16.2.2.2.1) || ((d16.1 == (0 : Int)) && ((decide (x14.1.2.1 ≥ d16.2.2.1)) || (r.2.2.2.2.2.2.1 && x14.1.1)))) || ((d16.1 == (1 : Int)) && ((decide (x25.1.1 > (0 : Int))) || (r.2.2.2.2.2.2.1 && x14.1.1)))) || (d16.1 == (2 : Int))), ()), ()))) fun x26 =>
  some (Sum.inl ((x26.1.1, (w64 (x15.1.2.1 + (1 : Int))), ()), ())))
  else some (Sum.inr ((x15.1.1, ()), ()))
noncomputable def law3Able (r : ByteArray × Int × Int × (List (Int × Int × Int × (List (Int × Int × Int × Int × Unit)) × Unit)) × (List Int) × Bool × Bool × (List (Int × Int × Int × Bool × Unit)) × Int × Int × Int × Unit) (p : (List Int) × ((List Int) × (List Int) × Unit) × Int × Int × Unit) (player : Int) : Option (Bool) :=
  Option.bind (iterW (law3Able_L1 p player) (((0 : Int), ()), (((0 : Int), ((0 : Int), ((0 : Int), ((0 : Int), ((0 : Int), ((0 : Int), ())))))), ()))) fun x4 =>
  req (inb player 2) (Option.bind (iterW (law3Able_L2 p player) (((0 : Int), ()), (x4.2.1, ()))) fun x7 =>
  Option.bind (iterW (law3Able_L3 r x7) ((false, (0 : Int), (0 : Int), ()), ())) fun x14 =>
  Option.bind (iterW (law3Able_L5 r x7 x14) (((r.2.2.2.2.2.2.2.2.1 != (2 : Int)), (0 : Int), ()), ())) fun x27 =>
  some x27.1.1)
noncomputable def law3ClaimFalls (r : ByteArray × Int × Int × (List (Int × Int × Int × (List (Int × Int × Int × Int × Unit)) × Unit)) × (List Int) × Bool × Bool × (List (Int × Int × Int × Bool × Unit)) × Int × Int × Int × Unit) (p : (List Int) × ((List Int) × (List Int) × Unit) × Int × Int × Unit) (player : Int) : Option (Bool) :=
  Option.bind (law3Claims) fun r7 =>
  bif (!r7) then some false
  else bif (law3Great r) then some true
  else Option.bind (claimAble_i r p player) fun r8 =>
  Option.bind (claimFallen r p player) fun r9 =>
  Option.bind (placeCheck r p) fun r10 =>
  bif (r10 != (0 : Int)) then some ((((r8.2.1 == r10) && (r9.2.1 == r10)) && (!r8.1)) && (r9.1 == (0 : Int)))
  else bif ((player != (0 : Int)) && (player != (1 : Int))) then some ((((r8.2.1 == (1 : Int)) && (r9.2.1 == (1 : Int))) && (!r8.1)) && (r9.1 == (0 : Int)))
  else Option.bind (law3Able r p (w64 ((1 : Int) - player))) fun r11 =>
  Option.bind (bif (!r11) then some (((3 : Int), ()), ())
  else some (((w64 ((2 : Int) - player)), ()), ())) fun x12 =>
  Option.bind (gopt (r8.2.1 == (0 : Int)) false (law3Able r p player)) fun r13 =>
  some ((((r8.2.1 == (0 : Int)) && (r8.1 == r13)) && (r9.2.1 == (0 : Int))) && (r9.1 == x12.1.1))
end Go.Proofs.Ytaaigenpmaiodaa
