/- Functions that can be evaluated: SymmColours. No condition of its own. -/
import Derived.Test.YtejmikpmkfnlgaaDenP
import Derived.Test.YtejmikpmkfnlgaaSymmColoursS
namespace Go.Proofs.Ytejmikpmkfnlgaa
open Go.Den
set_option linter.unusedVariables false
set_option maxRecDepth 100000
def symmTo_c (fu : Nat) (width : Int) (height : Int) (s : Int) (square : Int) : Option (Int) :=
  req (width != 0) (req (width != 0) (Option.bind (bif ((iand .i64 s (4 : Int)) != (0 : Int)) then some (((w64 (square.tdiv width)), (square.tmod width), ()), ())
  else some (((square.tmod width), (w64 (square.tdiv width)), ()), ())) fun x1 =>
  Option.bind (bif ((iand .i64 s (1 : Int)) != (0 : Int)) then some (((w64 ((w64 (width - (1 : Int))) - x1.1.1)), ()), ())
  else some ((x1.1.1, ()), ())) fun x2 =>
  Option.bind (bif ((iand .i64 s (2 : Int)) != (0 : Int)) then some (((w64 ((w64 (height - (1 : Int))) - x1.1.2.1)), ()), ())
  else some ((x1.1.2.1, ()), ())) fun x3 =>
  some (w64 ((w64 (x3.1.1 * width)) + x2.1.1))))
theorem symmTo_m (fu : Nat) (width : Int) (height : Int) (s : Int) (square : Int) : Le (symmTo_c fu width height s square) (symmTo width height s square) := by
  unfold symmTo_c symmTo
  repeat (first | exact Le.refl _ | assumption | apply Le.cond | apply Le.req | apply Le.gopt | apply Le.map | apply Le.agree | refine Le.iter (fun _ => ?_) _ _ | refine Le.bind ?_ (Le.elim (fun _ => ?_) (fun _ => ?_)) | refine Le.bind ?_ (fun _ => ?_) | apply hself)
def symmCycles_L2_c (fu : Nat) (width : Int) (height : Int) (s : Int) (x2 : (Int × Unit) × ((List Bool) × Unit)) : Option (((Int × Unit) × ((List Bool) × Unit)) ⊕ ((Unit) × ((List Bool) × Unit))) :=
  req (inb x2.1.1 x2.2.1.length) (bif (!(getD' x2.2.1 ((x2.1.1).toNat) false)) then (req (inb x2.1.1 x2.2.1.length) (Option.bind (symmTo_c fu width height s x2.1.1) fun r3 =>
  some (Sum.inl ((r3, ()), ((x2.2.1.set ((x2.1.1).toNat) true), ())))))
  else some (Sum.inr ((), (x2.2.1, ()))))
theorem symmCycles_L2_m (fu : Nat) (width : Int) (height : Int) (s : Int) (x2 : (Int × Unit) × ((List Bool) × Unit)) : Le (symmCycles_L2_c fu width height s x2) (symmCycles_L2 width height s x2) := by
  unfold symmCycles_L2_c symmCycles_L2
  repeat (first | exact Le.refl _ | assumption | apply symmTo_m | apply Le.cond | apply Le.req | apply Le.gopt | apply Le.map | apply Le.agree | refine Le.iter (fun _ => ?_) _ _ | refine Le.bind ?_ (Le.elim (fun _ => ?_) (fun _ => ?_)) | refine Le.bind ?_ (fun _ => ?_) | apply hself)
def symmCycles_L1_c (fu : Nat) (width : Int) (height : Int) (s : Int) (x1 : (Int × Int × Unit) × ((List Bool) × Unit)) : Option (((Int × Int × Unit) × ((List Bool) × Unit)) ⊕ ((Int × Unit) × ((List Bool) × Unit))) :=
  bif (decide (x1.1.2.1 < (((List.replicate ((w64 (width * height))).toNat false).length : Nat) : Int))) then (Option.bind (req (inb x1.1.2.1 x1.2.1.length) (bif (getD' x1.2.1 ((x1.1.2.1).toNat) false) then some ((x1.1.1, ()), (x1.2.1, ()))
  else Option.bind (iterN (symmCycles_L2_c fu width height s) fu ((x1.1.2.1, ()), (x1.2.1, ()))) fun x4 =>
  some (((w64 (x1.1.1 + (1 : Int))), ()), (x4.2.1, ())))) fun x5 =>
  some (Sum.inl ((x5.1.1, (w64 (x1.1.2.1 + (1 : Int))), ()), (x5.2.1, ()))))
  else some (Sum.inr ((x1.1.1, ()), (x1.2.1, ())))
theorem symmCycles_L1_m (fu : Nat) (width : Int) (height : Int) (s : Int) (x1 : (Int × Int × Unit) × ((List Bool) × Unit)) : Le (symmCycles_L1_c fu width height s x1) (symmCycles_L1 width height s x1) := by
  unfold symmCycles_L1_c symmCycles_L1
  repeat (first | exact Le.refl _ | assumption | apply symmCycles_L2_m | apply Le.cond | apply Le.req | apply Le.gopt | apply Le.map | apply Le.agree | refine Le.iter (fun _ => ?_) _ _ | refine Le.bind ?_ (Le.elim (fun _ => ?_) (fun _ => ?_)) | refine Le.bind ?_ (fun _ => ?_) | apply hself)
def symmCycles_c (fu : Nat) (width : Int) (height : Int) (s : Int) : Option (Int) :=
  req (decide (0 ≤ (w64 (width * height))) && ((w64 (width * height)) == (w64 (width * height)) && room ((w64 (width * height))).toNat 1)) (Option.bind (iterN (symmCycles_L1_c fu width height s) fu (((0 : Int), (0 : Int), ()), ((List.replicate ((w64 (width * height))).toNat false), ()))) fun x6 =>
  some x6.1.1)
theorem symmCycles_m (fu : Nat) (width : Int) (height : Int) (s : Int) : Le (symmCycles_c fu width height s) (symmCycles width height s) := by
  unfold symmCycles_c symmCycles
  repeat (first | exact Le.refl _ | assumption | apply symmCycles_L1_m | apply Le.cond | apply Le.req | apply Le.gopt | apply Le.map | apply Le.agree | refine Le.iter (fun _ => ?_) _ _ | refine Le.bind ?_ (Le.elim (fun _ => ?_) (fun _ => ?_)) | refine Le.bind ?_ (fun _ => ?_) | apply hself)
def symmColours_L2_c (fu : Nat) (r2 : Int) (colours : Int) (x3 : (Int × Int × Unit) × (Unit)) : Option (((Int × Int × Unit) × (Unit)) ⊕ (((Int × Unit) × (Unit)) ⊕ (((Int × Unit) × (Unit)) ⊕ (((Int × Int × Unit) × (Unit)) ⊕ (((Int × Unit) × (Unit)) ⊕ (Int × Int × Unit)))))) :=
  bif (decide (x3.1.2.1 < r2)) then (bif (decide ((w64 (x3.1.1 * colours)) > (281474976710656 : Int))) then some (Sum.inr (Sum.inr (Sum.inr (Sum.inr (Sum.inr ((0 : Int), ((2 : Int), ())))))))
  else some (Sum.inl (((w64 (x3.1.1 * colours)), (w64 (x3.1.2.1 + (1 : Int))), ()), ())))
  else some (Sum.inr (Sum.inl ((x3.1.1, ()), ())))
theorem symmColours_L2_m (fu : Nat) (r2 : Int) (colours : Int) (x3 : (Int × Int × Unit) × (Unit)) : Le (symmColours_L2_c fu r2 colours x3) (symmColours_L2 r2 colours x3) := by
  unfold symmColours_L2_c symmColours_L2
  repeat (first | exact Le.refl _ | assumption | apply Le.cond | apply Le.req | apply Le.gopt | apply Le.map | apply Le.agree | refine Le.iter (fun _ => ?_) _ _ | refine Le.bind ?_ (Le.elim (fun _ => ?_) (fun _ => ?_)) | refine Le.bind ?_ (fun _ => ?_) | apply hself)
def symmColours_L1_c (fu : Nat) (width : Int) (height : Int) (colours : Int) (x1 : (Int × Int × Unit) × (Unit)) : Option (((Int × Int × Unit) × (Unit)) ⊕ (((Int × Unit) × (Unit)) ⊕ (Int × Int × Unit))) :=
  bif (decide (x1.1.2.1 < (symmCount width height))) then (Option.bind (α := ((Int × Unit) × (Unit)) ⊕ (((Int × Int × Unit) × (Unit)) ⊕ (((Int × Unit) × (Unit)) ⊕ (Int × Int × Unit)))) (Option.bind (symmCycles_c fu width height x1.1.2.1) fun r2 =>
  Option.bind (α := ((Int × Unit) × (Unit)) ⊕ (((Int × Unit) × (Unit)) ⊕ (((Int × Int × Unit) × (Unit)) ⊕ (((Int × Unit) × (Unit)) ⊕ (Int × Int × Unit))))) (iterN (symmColours_L2_c fu r2 colours) fu (((1 : Int), (0 : Int), ()), ())) (Sum.elim (fun x4 =>
  some (Sum.inl (((w64 (x1.1.1 + x4.1.1)), ()), ()))) some)) (Sum.elim (fun x5 =>
  some (Sum.inl ((x5.1.1, (w64 (x1.1.2.1 + (1 : Int))), ()), ()))) some))
  else some (Sum.inr (Sum.inl ((x1.1.1, ()), ())))
theorem symmColours_L1_m (fu : Nat) (width : Int) (height : Int) (colours : Int) (x1 : (Int × Int × Unit) × (Unit)) : Le (symmColours_L1_c fu width height colours x1) (symmColours_L1 width height colours x1) := by
  unfold symmColours_L1_c symmColours_L1
  repeat (first | exact Le.refl _ | assumption | apply symmCycles_m | apply symmColours_L2_m | apply Le.cond | apply Le.req | apply Le.gopt | apply Le.map | apply Le.agree | refine Le.iter (fun _ => ?_) _ _ | refine Le.bind ?_ (Le.elim (fun _ => ?_) (fun _ => ?_)) | refine Le.bind ?_ (fun _ => ?_) | apply hself)
def symmColours_c (fu : Nat) (width : Int) (height : Int) (colours : Int) : Option (Int × Int × Unit) :=
  bif ((symmCheck width height) != (0 : Int)) then some ((0 : Int), ((symmCheck width height), ()))
  else bif ((decide (colours < (0 : Int))) || (decide (colours > (16 : Int)))) then some ((0 : Int), ((1 : Int), ()))
  else Option.bind (α := ((Int × Unit) × (Unit)) ⊕ (Int × Int × Unit)) (iterN (symmColours_L1_c fu width height colours) fu (((0 : Int), (0 : Int), ()), ())) (Sum.elim (fun x6 =>
  req ((symmCount width height) != 0) (some ((w64 (x6.1.1.tdiv (symmCount width height))), ((0 : Int), ())))) some)
theorem symmColours_m (fu : Nat) (width : Int) (height : Int) (colours : Int) : Le (symmColours_c fu width height colours) (symmColours width height colours) := by
  unfold symmColours_c symmColours
  repeat (first | exact Le.refl _ | assumption | apply symmColours_L1_m | apply Le.cond | apply Le.req | apply Le.gopt | apply Le.map | apply Le.agree | refine Le.iter (fun _ => ?_) _ _ | refine Le.bind ?_ (Le.elim (fun _ => ?_) (fun _ => ?_)) | refine Le.bind ?_ (fun _ => ?_) | apply hself)
def ref1Moved_c (fu : Nat) (width : Int) (height : Int) (s : Int) (square : Int) : Option (Int) :=
  req (width != 0) (req (width != 0) (Option.bind (bif (decide (s ≥ (4 : Int))) then some (((w64 (square.tdiv width)), (square.tmod width), ()), ())
  else some (((square.tmod width), (w64 (square.tdiv width)), ()), ())) fun x1 =>
  Option.bind (bif ((s.tmod (2 : Int)) == (1 : Int)) then some (((w64 ((w64 (width - x1.1.1)) - (1 : Int))), ()), ())
  else some ((x1.1.1, ()), ())) fun x2 =>
  Option.bind (bif (((w64 (s.tdiv (2 : Int))).tmod (2 : Int)) == (1 : Int)) then some (((w64 ((w64 (height - x1.1.2.1)) - (1 : Int))), ()), ())
  else some ((x1.1.2.1, ()), ())) fun x3 =>
  some (w64 (x2.1.1 + (w64 (x3.1.1 * width))))))
theorem ref1Moved_m (fu : Nat) (width : Int) (height : Int) (s : Int) (square : Int) : Le (ref1Moved_c fu width height s square) (ref1Moved width height s square) := by
  unfold ref1Moved_c ref1Moved
  repeat (first | exact Le.refl _ | assumption | apply Le.cond | apply Le.req | apply Le.gopt | apply Le.map | apply Le.agree | refine Le.iter (fun _ => ?_) _ _ | refine Le.bind ?_ (Le.elim (fun _ => ?_) (fun _ => ?_)) | refine Le.bind ?_ (fun _ => ?_) | apply hself)
def law1SymmColours_L1_c (fu : Nat) (width : Int) (height : Int) (colours : Int) (x5 : (Int × Int × Unit) × (Unit)) : Option (((Int × Int × Unit) × (Unit)) ⊕ ((Int × Unit) × (Unit))) :=
  bif (decide (x5.1.2.1 < (w64 (width * height)))) then some (Sum.inl (((w64 (x5.1.1 * colours)), (w64 (x5.1.2.1 + (1 : Int))), ()), ()))
  else some (Sum.inr ((x5.1.1, ()), ()))
theorem law1SymmColours_L1_m (fu : Nat) (width : Int) (height : Int) (colours : Int) (x5 : (Int × Int × Unit) × (Unit)) : Le (law1SymmColours_L1_c fu width height colours x5) (law1SymmColours_L1 width height colours x5) := by
  unfold law1SymmColours_L1_c law1SymmColours_L1
  repeat (first | exact Le.refl _ | assumption | apply Le.cond | apply Le.req | apply Le.gopt | apply Le.map | apply Le.agree | refine Le.iter (fun _ => ?_) _ _ | refine Le.bind ?_ (Le.elim (fun _ => ?_) (fun _ => ?_)) | refine Le.bind ?_ (fun _ => ?_) | apply hself)
def law1SymmColours_L3_c (fu : Nat) (colours : Int) (x8 : (Int × Int × Unit) × ((List Int) × Unit)) : Option (((Int × Int × Unit) × ((List Int) × Unit)) ⊕ ((Unit) × ((List Int) × Unit))) :=
  bif (decide (x8.1.1 < ((x8.2.1.length : Nat) : Int))) then req (colours != 0) (req (inb x8.1.1 x8.2.1.length) (req (colours != 0) (some (Sum.inl (((w64 (x8.1.1 + (1 : Int))), (w64 (x8.1.2.1.tdiv colours)), ()), ((x8.2.1.set ((x8.1.1).toNat) (x8.1.2.1.tmod colours)), ()))))))
  else some (Sum.inr ((), (x8.2.1, ())))
theorem law1SymmColours_L3_m (fu : Nat) (colours : Int) (x8 : (Int × Int × Unit) × ((List Int) × Unit)) : Le (law1SymmColours_L3_c fu colours x8) (law1SymmColours_L3 colours x8) := by
  unfold law1SymmColours_L3_c law1SymmColours_L3
  repeat (first | exact Le.refl _ | assumption | apply Le.cond | apply Le.req | apply Le.gopt | apply Le.map | apply Le.agree | refine Le.iter (fun _ => ?_) _ _ | refine Le.bind ?_ (Le.elim (fun _ => ?_) (fun _ => ?_)) | refine Le.bind ?_ (fun _ => ?_) | apply hself)
def law1SymmColours_L5_c (fu : Nat) (x9 : (Unit) × ((List Int) × Unit)) (width : Int) (height : Int) (x10 : (Bool × Int × Unit) × (Unit)) (x11 : (Int × Unit) × ((List Int) × Unit)) : Option (((Int × Unit) × ((List Int) × Unit)) ⊕ ((Unit) × ((List Int) × Unit))) :=
  bif (decide (x11.1.1 < ((x9.2.1.length : Nat) : Int))) then (req (inb x11.1.1 x9.2.1.length) (Option.bind (ref1Moved_c fu width height x10.1.2.1 x11.1.1) fun r12 =>
  req (inb r12 x11.2.1.length) (some (Sum.inl (((w64 (x11.1.1 + (1 : Int))), ()), ((x11.2.1.set ((r12).toNat) (getD' x9.2.1 ((x11.1.1).toNat) (0 : Int))), ()))))))
  else some (Sum.inr ((), (x11.2.1, ())))
theorem law1SymmColours_L5_m (fu : Nat) (x9 : (Unit) × ((List Int) × Unit)) (width : Int) (height : Int) (x10 : (Bool × Int × Unit) × (Unit)) (x11 : (Int × Unit) × ((List Int) × Unit)) : Le (law1SymmColours_L5_c fu x9 width height x10 x11) (law1SymmColours_L5 x9 width height x10 x11) := by
  unfold law1SymmColours_L5_c law1SymmColours_L5
  repeat (first | exact Le.refl _ | assumption | apply ref1Moved_m | apply Le.cond | apply Le.req | apply Le.gopt | apply Le.map | apply Le.agree | refine Le.iter (fun _ => ?_) _ _ | refine Le.bind ?_ (Le.elim (fun _ => ?_) (fun _ => ?_)) | refine Le.bind ?_ (fun _ => ?_) | apply hself)
def law1SymmColours_L6_c (fu : Nat) (x13 : (Unit) × ((List Int) × Unit)) (x9 : (Unit) × ((List Int) × Unit)) (x14 : (Bool × Int × Unit) × (Unit)) : Option (((Bool × Int × Unit) × (Unit)) ⊕ ((Bool × Unit) × (Unit))) :=
  bif (decide (x14.1.2.1 < ((x13.2.1.length : Nat) : Int))) then (req (inb x14.1.2.1 x13.2.1.length) (req (inb x14.1.2.1 x9.2.1.length) (bif ((getD' x13.2.1 ((x14.1.2.1).toNat) (0 : Int)) != (getD' x9.2.1 ((x14.1.2.1).toNat) (0 : Int))) then req (imp x14.1.1 (inb x14.1.2.1 x13.2.1.length)) (req (imp x14.1.1 (inb x14.1.2.1 x9.2.1.length)) (some (Sum.inr (((x14.1.1 && (decide ((getD' x13.2.1 ((x14.1.2.1).toNat) (0 : Int)) > (getD' x9.2.1 ((x14.1.2.1).toNat) (0 : Int))))), ()), ()))))
  else some (Sum.inl ((x14.1.1, (w64 (x14.1.2.1 + (1 : Int))), ()), ())))))
  else some (Sum.inr ((x14.1.1, ()), ()))
theorem law1SymmColours_L6_m (fu : Nat) (x13 : (Unit) × ((List Int) × Unit)) (x9 : (Unit) × ((List Int) × Unit)) (x14 : (Bool × Int × Unit) × (Unit)) : Le (law1SymmColours_L6_c fu x13 x9 x14) (law1SymmColours_L6 x13 x9 x14) := by
  unfold law1SymmColours_L6_c law1SymmColours_L6
  repeat (first | exact Le.refl _ | assumption | apply Le.cond | apply Le.req | apply Le.gopt | apply Le.map | apply Le.agree | refine Le.iter (fun _ => ?_) _ _ | refine Le.bind ?_ (Le.elim (fun _ => ?_) (fun _ => ?_)) | refine Le.bind ?_ (fun _ => ?_) | apply hself)
def law1SymmColours_L4_c (fu : Nat) (width : Int) (height : Int) (x9 : (Unit) × ((List Int) × Unit)) (x10 : (Bool × Int × Unit) × (Unit)) : Option (((Bool × Int × Unit) × (Unit)) ⊕ ((Bool × Unit) × (Unit))) :=
  bif (decide (x10.1.2.1 < (ref1Symmetries width height))) then (Option.bind (req (decide (0 ≤ ((x9.2.1.length : Nat) : Int)) && (((x9.2.1.length : Nat) : Int) == ((x9.2.1.length : Nat) : Int) && room (((x9.2.1.length : Nat) : Int)).toNat 8)) (Option.bind (iterN (law1SymmColours_L5_c fu x9 width height x10) fu (((0 : Int), ()), ((List.replicate (((x9.2.1.length : Nat) : Int)).toNat (0 : Int)), ()))) fun x13 =>
  Option.bind (iterN (law1SymmColours_L6_c fu x13 x9) fu ((x10.1.1, (0 : Int), ()), ())) fun x15 =>
  some ((x15.1.1, ()), ()))) fun x16 =>
  some (Sum.inl ((x16.1.1, (w64 (x10.1.2.1 + (1 : Int))), ()), ())))
  else some (Sum.inr ((x10.1.1, ()), ()))
theorem law1SymmColours_L4_m (fu : Nat) (width : Int) (height : Int) (x9 : (Unit) × ((List Int) × Unit)) (x10 : (Bool × Int × Unit) × (Unit)) : Le (law1SymmColours_L4_c fu width height x9 x10) (law1SymmColours_L4 width height x9 x10) := by
  unfold law1SymmColours_L4_c law1SymmColours_L4
  repeat (first | exact Le.refl _ | assumption | apply law1SymmColours_L5_m | apply law1SymmColours_L6_m | apply Le.cond | apply Le.req | apply Le.gopt | apply Le.map | apply Le.agree | refine Le.iter (fun _ => ?_) _ _ | refine Le.bind ?_ (Le.elim (fun _ => ?_) (fun _ => ?_)) | refine Le.bind ?_ (fun _ => ?_) | apply hself)
def law1SymmColours_L2_c (fu : Nat) (x6 : (Int × Unit) × (Unit)) (width : Int) (height : Int) (colours : Int) (x7 : (Int × Int × Unit) × (Unit)) : Option (((Int × Int × Unit) × (Unit)) ⊕ ((Int × Unit) × (Unit))) :=
  bif (decide (x7.1.2.1 < x6.1.1)) then (Option.bind (req (decide (0 ≤ (w64 (width * height))) && ((w64 (width * height)) == (w64 (width * height)) && room ((w64 (width * height))).toNat 8)) (Option.bind (iterN (law1SymmColours_L3_c fu colours) fu (((0 : Int), x7.1.2.1, ()), ((List.replicate ((w64 (width * height))).toNat (0 : Int)), ()))) fun x9 =>
  Option.bind (iterN (law1SymmColours_L4_c fu width height x9) fu ((true, (0 : Int), ()), ())) fun x17 =>
  Option.bind (bif x17.1.1 then some (((w64 (x7.1.1 + (1 : Int))), ()), ())
  else some ((x7.1.1, ()), ())) fun x18 =>
  some ((x18.1.1, ()), ()))) fun x19 =>
  some (Sum.inl ((x19.1.1, (w64 (x7.1.2.1 + (1 : Int))), ()), ())))
  else some (Sum.inr ((x7.1.1, ()), ()))
theorem law1SymmColours_L2_m (fu : Nat) (x6 : (Int × Unit) × (Unit)) (width : Int) (height : Int) (colours : Int) (x7 : (Int × Int × Unit) × (Unit)) : Le (law1SymmColours_L2_c fu x6 width height colours x7) (law1SymmColours_L2 x6 width height colours x7) := by
  unfold law1SymmColours_L2_c law1SymmColours_L2
  repeat (first | exact Le.refl _ | assumption | apply law1SymmColours_L3_m | apply law1SymmColours_L4_m | apply Le.cond | apply Le.req | apply Le.gopt | apply Le.map | apply Le.agree | refine Le.iter (fun _ => ?_) _ _ | refine Le.bind ?_ (Le.elim (fun _ => ?_) (fun _ => ?_)) | refine Le.bind ?_ (fun _ => ?_) | apply hself)
def law1SymmColours_c (fu : Nat) (width : Int) (height : Int) (colours : Int) : Option (Bool) :=
  Option.bind (symmColours_c fu (2 : Int) (2 : Int) (2 : Int)) fun r3 =>
  bif ((r3.2.1 != (0 : Int)) || (r3.1 != (6 : Int))) then some false
  else Option.bind (symmColours_c fu width height colours) fun r4 =>
  bif ((ref1Symmetries width height) == (0 : Int)) then some ((r4.2.1 == (4 : Int)) && (r4.1 == (0 : Int)))
  else bif (!(ref1In colours (0 : Int) (16 : Int))) then some ((r4.2.1 == (1 : Int)) && (r4.1 == (0 : Int)))
  else bif ((decide ((w64 (width * height)) > (8 : Int))) || (decide (colours > (3 : Int)))) then some true
  else Option.bind (iterN (law1SymmColours_L1_c fu width height colours) fu (((1 : Int), (0 : Int), ()), ())) fun x6 =>
  Option.bind (iterN (law1SymmColours_L2_c fu x6 width height colours) fu (((0 : Int), (0 : Int), ()), ())) fun x20 =>
  some ((r4.2.1 == (0 : Int)) && (r4.1 == x20.1.1))
theorem law1SymmColours_m (fu : Nat) (width : Int) (height : Int) (colours : Int) : Le (law1SymmColours_c fu width height colours) (law1SymmColours width height colours) := by
  unfold law1SymmColours_c law1SymmColours
  repeat (first | exact Le.refl _ | assumption | apply symmColours_m | apply law1SymmColours_L1_m | apply law1SymmColours_L2_m | apply Le.cond | apply Le.req | apply Le.gopt | apply Le.map | apply Le.agree | refine Le.iter (fun _ => ?_) _ _ | refine Le.bind ?_ (Le.elim (fun _ => ?_) (fun _ => ?_)) | refine Le.bind ?_ (fun _ => ?_) | apply hself)
end Go.Proofs.Ytejmikpmkfnlgaa
