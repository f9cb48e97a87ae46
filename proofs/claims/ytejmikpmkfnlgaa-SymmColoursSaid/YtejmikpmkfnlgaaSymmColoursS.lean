/- What functions compute, in plain Lean: SymmColours. No condition of its own. -/
import Derived.Test.YtejmikpmkfnlgaaDen0
namespace Go.Proofs.Ytejmikpmkfnlgaa
open Go.Den
set_option linter.unusedVariables false
set_option maxRecDepth 100000
noncomputable def symmCheck_o (width : Int) (height : Int) : Option (Int) :=
  bif ((((decide (width < (1 : Int))) || (decide (width > (8 : Int)))) || (decide (height < (1 : Int)))) || (decide (height > (8 : Int)))) then some (4 : Int)
  else some (0 : Int)
def symmCheck (width : Int) (height : Int) : Int :=
  bif ((((decide (width < (1 : Int))) || (decide (width > (8 : Int)))) || (decide (height < (1 : Int)))) || (decide (height > (8 : Int)))) then (4 : Int)
  else (0 : Int)
theorem symmCheck_eq (width : Int) (height : Int) : symmCheck_o width height = some (symmCheck width height) := by
  unfold symmCheck_o symmCheck
  first | rfl | simp only [cond_some]
noncomputable def symmCount_o (width : Int) (height : Int) : Option (Int) :=
  bif (width == height) then some (8 : Int)
  else some (4 : Int)
def symmCount (width : Int) (height : Int) : Int :=
  bif (width == height) then (8 : Int)
  else (4 : Int)
theorem symmCount_eq (width : Int) (height : Int) : symmCount_o width height = some (symmCount width height) := by
  unfold symmCount_o symmCount
  first | rfl | simp only [cond_some]
noncomputable def symmTo (width : Int) (height : Int) (s : Int) (square : Int) : Option (Int) :=
  req (width != 0) (req (width != 0) (Option.bind (bif ((iand .i64 s (4 : Int)) != (0 : Int)) then some (((w64 (square.tdiv width)), (square.tmod width), ()), ())
  else some (((square.tmod width), (w64 (square.tdiv width)), ()), ())) fun x1 =>
  Option.bind (bif ((iand .i64 s (1 : Int)) != (0 : Int)) then some (((w64 ((w64 (width - (1 : Int))) - x1.1.1)), ()), ())
  else some ((x1.1.1, ()), ())) fun x2 =>
  Option.bind (bif ((iand .i64 s (2 : Int)) != (0 : Int)) then some (((w64 ((w64 (height - (1 : Int))) - x1.1.2.1)), ()), ())
  else some ((x1.1.2.1, ()), ())) fun x3 =>
  some (w64 ((w64 (x3.1.1 * width)) + x2.1.1))))
noncomputable def symmCycles_L2 (width : Int) (height : Int) (s : Int) (x2 : (Int × Unit) × ((List Bool) × Unit)) : Option (((Int × Unit) × ((List Bool) × Unit)) ⊕ ((Unit) × ((List Bool) × Unit))) :=
  req (inb x2.1.1 x2.2.1.length) (bif (!(getD' x2.2.1 ((x2.1.1).toNat) false)) then (req (inb x2.1.1 x2.2.1.length) (Option.bind (symmTo width height s x2.1.1) fun r3 =>
  some (Sum.inl ((r3, ()), ((x2.2.1.set ((x2.1.1).toNat) true), ())))))
  else some (Sum.inr ((), (x2.2.1, ()))))
noncomputable def symmCycles_L1 (width : Int) (height : Int) (s : Int) (x1 : (Int × Int × Unit) × ((List Bool) × Unit)) : Option (((Int × Int × Unit) × ((List Bool) × Unit)) ⊕ ((Int × Unit) × ((List Bool) × Unit))) :=
  bif (decide (x1.1.2.1 < (((List.replicate ((w64 (width * height))).toNat false).length : Nat) : Int))) then (Option.bind (req (inb x1.1.2.1 x1.2.1.length) (bif (getD' x1.2.1 ((x1.1.2.1).toNat) false) then some ((x1.1.1, ()), (x1.2.1, ()))
  else Option.bind (iterW (symmCycles_L2 width height s) ((x1.1.2.1, ()), (x1.2.1, ()))) fun x4 =>
  some (((w64 (x1.1.1 + (1 : Int))), ()), (x4.2.1, ())))) fun x5 =>
  some (Sum.inl ((x5.1.1, (w64 (x1.1.2.1 + (1 : Int))), ()), (x5.2.1, ()))))
  else some (Sum.inr ((x1.1.1, ()), (x1.2.1, ())))
noncomputable def symmCycles (width : Int) (height : Int) (s : Int) : Option (Int) :=
  req (decide (0 ≤ (w64 (width * height))) && ((w64 (width * height)) == (w64 (width * height)) && room ((w64 (width * height))).toNat 1)) (Option.bind (iterW (symmCycles_L1 width height s) (((0 : Int), (0 : Int), ()), ((List.replicate ((w64 (width * height))).toNat false), ()))) fun x6 =>
  some x6.1.1)
noncomputable def symmColours_L2 (r2 : Int) (colours : Int) (x3 : (Int × Int × Unit) × (Unit)) : Option (((Int × Int × Unit) × (Unit)) ⊕ (((Int × Unit) × (Unit)) ⊕ (((Int × Unit) × (Unit)) ⊕ (((Int × Int × Unit) × (Unit)) ⊕ (((Int × Unit) × (Unit)) ⊕ (Int × Int × Unit)))))) :=
  bif (decide (x3.1.2.1 < r2)) then (bif (decide ((w64 (x3.1.1 * colours)) > (281474976710656 : Int))) then some (Sum.inr (Sum.inr (Sum.inr (Sum.inr (Sum.inr ((0 : Int), ((2 : Int), ())))))))
  else some (Sum.inl (((w64 (x3.1.1 * colours)), (w64 (x3.1.2.1 + (1 : Int))), ()), ())))
  else some (Sum.inr (Sum.inl ((x3.1.1, ()), ())))
noncomputable def symmColours_L1 (width : Int) (height : Int) (colours : Int) (x1 : (Int × Int × Unit) × (Unit)) : Option (((Int × Int × Unit) × (Unit)) ⊕ (((Int × Unit) × (Unit)) ⊕ (Int × Int × Unit))) :=
  bif (decide (x1.1.2.1 < (symmCount width height))) then (Option.bind (α := ((Int × Unit) × (Unit)) ⊕ (((Int × Int × Unit) × (Unit)) ⊕ (((Int × Unit) × (Unit)) ⊕ (Int × Int × Unit)))) (Option.bind (symmCycles width height x1.1.2.1) fun r2 =>
  Option.bind (α := ((Int × Unit) × (Unit)) ⊕ (((Int × Unit) × (Unit)) ⊕ (((Int × Int × Unit) × (Unit)) ⊕ (((Int × Unit) × (Unit)) ⊕ (Int × Int × Unit))))) (iterW (symmColours_L2 r2 colours) (((1 : Int), (0 : Int), ()), ())) (Sum.elim (fun x4 =>
  some (Sum.inl (((w64 (x1.1.1 + x4.1.1)), ()), ()))) some)) (Sum.elim (fun x5 =>
  some (Sum.inl ((x5.1.1, (w64 (x1.1.2.1 + (1 : Int))), ()), ()))) some))
  else some (Sum.inr (Sum.inl ((x1.1.1, ()), ())))
noncomputable def symmColours (width : Int) (height : Int) (colours : Int) : Option (Int × Int × Unit) :=
  bif ((symmCheck width height) != (0 : Int)) then some ((0 : Int), ((symmCheck width height), ()))
  else bif ((decide (colours < (0 : Int))) || (decide (colours > (16 : Int)))) then some ((0 : Int), ((1 : Int), ()))
  else Option.bind (α := ((Int × Unit) × (Unit)) ⊕ (Int × Int × Unit)) (iterW (symmColours_L1 width height colours) (((0 : Int), (0 : Int), ()), ())) (Sum.elim (fun x6 =>
  req ((symmCount width height) != 0) (some ((w64 (x6.1.1.tdiv (symmCount width height))), ((0 : Int), ())))) some)
noncomputable def ref1In_o (n : Int) (low : Int) (high : Int) : Option (Bool) :=
  some ((decide (n ≥ low)) && (decide (n ≤ high)))
def ref1In (n : Int) (low : Int) (high : Int) : Bool :=
  ((decide (n ≥ low)) && (decide (n ≤ high)))
theorem ref1In_eq (n : Int) (low : Int) (high : Int) : ref1In_o n low high = some (ref1In n low high) := by
  unfold ref1In_o ref1In
  first | rfl | simp only [cond_some]
noncomputable def ref1Symmetries_o (width : Int) (height : Int) : Option (Int) :=
  bif ((!(ref1In width (1 : Int) (8 : Int))) || (!(ref1In height (1 : Int) (8 : Int)))) then some (0 : Int)
  else bif (width != height) then some (4 : Int)
  else some (8 : Int)
def ref1Symmetries (width : Int) (height : Int) : Int :=
  bif ((!(ref1In width (1 : Int) (8 : Int))) || (!(ref1In height (1 : Int) (8 : Int)))) then (0 : Int)
  else bif (width != height) then (4 : Int)
  else (8 : Int)
theorem ref1Symmetries_eq (width : Int) (height : Int) : ref1Symmetries_o width height = some (ref1Symmetries width height) := by
  unfold ref1Symmetries_o ref1Symmetries
  first | rfl | simp only [cond_some]
noncomputable def ref1Moved (width : Int) (height : Int) (s : Int) (square : Int) : Option (Int) :=
  req (width != 0) (req (width != 0) (Option.bind (bif (decide (s ≥ (4 : Int))) then some (((w64 (square.tdiv width)), (square.tmod width), ()), ())
  else some (((square.tmod width), (w64 (square.tdiv width)), ()), ())) fun x1 =>
  Option.bind (bif ((s.tmod (2 : Int)) == (1 : Int)) then some (((w64 ((w64 (width - x1.1.1)) - (1 : Int))), ()), ())
  else some ((x1.1.1, ()), ())) fun x2 =>
  Option.bind (bif (((w64 (s.tdiv (2 : Int))).tmod (2 : Int)) == (1 : Int)) then some (((w64 ((w64 (height - x1.1.2.1)) - (1 : Int))), ()), ())
  else some ((x1.1.2.1, ()), ())) fun x3 =>
  some (w64 (x2.1.1 + (w64 (x3.1.1 * width))))))
noncomputable def law1SymmColours_L1 (width : Int) (height : Int) (colours : Int) (x5 : (Int × Int × Unit) × (Unit)) : Option (((Int × Int × Unit) × (Unit)) ⊕ ((Int × Unit) × (Unit))) :=
  bif (decide (x5.1.2.1 < (w64 (width * height)))) then some (Sum.inl (((w64 (x5.1.1 * colours)), (w64 (x5.1.2.1 + (1 : Int))), ()), ()))
  else some (Sum.inr ((x5.1.1, ()), ()))
noncomputable def law1SymmColours_L3 (colours : Int) (x8 : (Int × Int × Unit) × ((List Int) × Unit)) : Option (((Int × Int × Unit) × ((List Int) × Unit)) ⊕ ((Unit) × ((List Int) × Unit))) :=
  bif (decide (x8.1.1 < ((x8.2.1.length : Nat) : Int))) then req (colours != 0) (req (inb x8.1.1 x8.2.1.length) (req (colours != 0) (some (Sum.inl (((w64 (x8.1.1 + (1 : Int))), (w64 (x8.1.2.1.tdiv colours)), ()), ((x8.2.1.set ((x8.1.1).toNat) (x8.1.2.1.tmod colours)), ()))))))
  else some (Sum.inr ((), (x8.2.1, ())))
noncomputable def law1SymmColours_L5 (x9 : (Unit) × ((List Int) × Unit)) (width : Int) (height : Int) (x10 : (Bool × Int × Unit) × (Unit)) (x11 : (Int × Unit) × ((List Int) × Unit)) : Option (((Int × Unit) × ((List Int) × Unit)) ⊕ ((Unit) × ((List Int) × Unit))) :=
  bif (decide (x11.1.1 < ((x9.2.1.length : Nat) : Int))) then (req (inb x11.1.1 x9.2.1.length) (Option.bind (ref1Moved width height x10.1.2.1 x11.1.1) fun r12 =>
  req (inb r12 x11.2.1.length) (some (Sum.inl (((w64 (x11.1.1 + (1 : Int))), ()), ((x11.2.1.set ((r12).toNat) (getD' x9.2.1 ((x11.1.1).toNat) (0 : Int))), ()))))))
  else some (Sum.inr ((), (x11.2.1, ())))
noncomputable def law1SymmColours_L6 (x13 : (Unit) × ((List Int) × Unit)) (x9 : (Unit) × ((List Int) × Unit)) (x14 : (Bool × Int × Unit) × (Unit)) : Option (((Bool × Int × Unit) × (Unit)) ⊕ ((Bool × Unit) × (Unit))) :=
  bif (decide (x14.1.2.1 < ((x13.2.1.length : Nat) : Int))) then (req (inb x14.1.2.1 x13.2.1.length) (req (inb x14.1.2.1 x9.2.1.length) (bif ((getD' x13.2.1 ((x14.1.2.1).toNat) (0 : Int)) != (getD' x9.2.1 ((x14.1.2.1).toNat) (0 : Int))) then req (imp x14.1.1 (inb x14.1.2.1 x13.2.1.length)) (req (imp x14.1.1 (inb x14.1.2.1 x9.2.1.length)) (some (Sum.inr (((x14.1.1 && (decide ((getD' x13.2.1 ((x14.1.2.1).toNat) (0 : Int)) > (getD' x9.2.1 ((x14.1.2.1).toNat) (0 : Int))))), ()), ()))))
  else some (Sum.inl ((x14.1.1, (w64 (x14.1.2.1 + (1 : Int))), ()), ())))))
  else some (Sum.inr ((x14.1.1, ()), ()))
noncomputable def law1SymmColours_L4 (width : Int) (height : Int) (x9 : (Unit) × ((List Int) × Unit)) (x10 : (Bool × Int × Unit) × (Unit)) : Option (((Bool × Int × Unit) × (Unit)) ⊕ ((Bool × Unit) × (Unit))) :=
  bif (decide (x10.1.2.1 < (ref1Symmetries width height))) then (Option.bind (req (decide (0 ≤ ((x9.2.1.length : Nat) : Int)) && (((x9.2.1.length : Nat) : Int) == ((x9.2.1.length : Nat) : Int) && room (((x9.2.1.length : Nat) : Int)).toNat 8)) (Option.bind (iterW (law1SymmColours_L5 x9 width height x10) (((0 : Int), ()), ((List.replicate (((x9.2.1.length : Nat) : Int)).toNat (0 : Int)), ()))) fun x13 =>
  Option.bind (iterW (law1SymmColours_L6 x13 x9) ((x10.1.1, (0 : Int), ()), ())) fun x15 =>
  some ((x15.1.1, ()), ()))) fun x16 =>
  some (Sum.inl ((x16.1.1, (w64 (x10.1.2.1 + (1 : Int))), ()), ())))
  else some (Sum.inr ((x10.1.1, ()), ()))
noncomputable def law1SymmColours_L2 (x6 : (Int × Unit) × (Unit)) (width : Int) (height : Int) (colours : Int) (x7 : (Int × Int × Unit) × (Unit)) : Option (((Int × Int × Unit) × (Unit)) ⊕ ((Int × Unit) × (Unit))) :=
  bif (decide (x7.1.2.1 < x6.1.1)) then (Option.bind (req (decide (0 ≤ (w64 (width * height))) && ((w64 (width * height)) == (w64 (width * height)) && room ((w64 (width * height))).toNat 8)) (Option.bind (iterW (law1SymmColours_L3 colours) (((0 : Int), x7.1.2.1, ()), ((List.replicate ((w64 (width * height))).toNat (0 : Int)), ()))) fun x9 =>
  Option.bind (iterW (law1SymmColours_L4 width height x9) ((true, (0 : Int), ()), ())) fun x17 =>
  Option.bind (bif x17.1.1 then some (((w64 (x7.1.1 + (1 : Int))), ()), ())
  else some ((x7.1.1, ()), ())) fun x18 =>
  some ((x18.1.1, ()), ()))) fun x19 =>
  some (Sum.inl ((x19.1.1, (w64 (x7.1.2.1 + (1 : Int))), ()), ())))
  else some (Sum.inr ((x7.1.1, ()), ()))
noncomputable def law1SymmColours (width : Int) (height : Int) (colours : Int) : Option (Bool) :=
  Option.bind (symmColours (2 : Int) (2 : Int) (2 : Int)) fun r3 =>
  bif ((r3.2.1 != (0 : Int)) || (r3.1 != (6 : Int))) then some false
  else Option.bind (symmColours width height colours) fun r4 =>
  bif ((ref1Symmetries width height) == (0 : Int)) then some ((r4.2.1 == (4 : Int)) && (r4.1 == (0 : Int)))
  else bif (!(ref1In colours (0 : Int) (16 : Int))) then some ((r4.2.1 == (1 : Int)) && (r4.1 == (0 : Int)))
  else bif ((decide ((w64 (width * height)) > (8 : Int))) || (decide (colours > (3 : Int)))) then some true
  else Option.bind (iterW (law1SymmColours_L1 width height colours) (((1 : Int), (0 : Int), ()), ())) fun x6 =>
  Option.bind (iterW (law1SymmColours_L2 x6 width height colours) (((0 : Int), (0 : Int), ()), ())) fun x20 =>
  some ((r4.2.1 == (0 : Int)) && (r4.1 == x20.1.1))
end Go.Proofs.Ytejmikpmkfnlgaa
