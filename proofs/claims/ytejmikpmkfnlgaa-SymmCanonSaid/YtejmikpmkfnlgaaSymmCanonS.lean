/- What functions compute, in plain Lean: SymmCanon. No condition of its own. -/
import Derived.Test.YtejmikpmkfnlgaaDen0
namespace Go.Proofs.Ytejmikpmkfnlgaa
open Go.Den
set_option linter.unusedVariables false
set_option maxRecDepth 100000
noncomputable def symmCheck_o (width : Int) (height : Int) : Option (Int) :=
  bif ((((decide (width < (1 : Int))) || (decide (width > (8 : Int)))) || (decide (height < (1 : Int)))) || (decide (height > (8 : Int)))) then some (4 : Int)
  else some (0 : Int)
def symmCheck (width : Int) (height : Int) : Int :=
  bif ((((decide (width < (1 : Int))) || (decide (width > (8 : Int)))) || (decide (height < (1 : Int)))) || (decide (height > (8 : Int)))) then (4 : Int)
  else (0 : Int)
theorem symmCheck_eq (width : Int) (height : Int) : symmCheck_o width height = some (symmCheck width height) := by
  unfold symmCheck_o symmCheck
  first | rfl | simp only [cond_some]
noncomputable def slicesClone_int (s : List Int) : Option (List Int) :=
  bif (s.isEmpty) then (agree (some ([])) (req (room (([] : List Int).length + s.length) 8) (some (([] : List Int) ++ s))))
  else req (room (([] : List Int).length + s.length) 8) (some (([] : List Int) ++ s))
noncomputable def symmCount_o (width : Int) (height : Int) : Option (Int) :=
  bif (width == height) then some (8 : Int)
  else some (4 : Int)
def symmCount (width : Int) (height : Int) : Int :=
  bif (width == height) then (8 : Int)
  else (4 : Int)
theorem symmCount_eq (width : Int) (height : Int) : symmCount_o width height = some (symmCount width height) := by
  unfold symmCount_o symmCount
  first | rfl | simp only [cond_some]
noncomputable def symmTo (width : Int) (height : Int) (s : Int) (square : Int) : Option (Int) :=
  req (width != 0) (req (width != 0) (Option.bind (bif ((iand .i64 s (4 : Int)) != (0 : Int)) then some (((w64 (square.tdiv width)), (square.tmod width), ()), ())
  else some (((square.tmod width), (w64 (square.tdiv width)), ()), ())) fun x1 =>
  Option.bind (bif ((iand .i64 s (1 : Int)) != (0 : Int)) then some (((w64 ((w64 (width - (1 : Int))) - x1.1.1)), ()), ())
  else some ((x1.1.1, ()), ())) fun x2 =>
  Option.bind (bif ((iand .i64 s (2 : Int)) != (0 : Int)) then some (((w64 ((w64 (height - (1 : Int))) - x1.1.2.1)), ()), ())
  else some ((x1.1.2.1, ()), ())) fun x3 =>
  some (w64 ((w64 (x3.1.1 * width)) + x2.1.1))))
noncomputable def symmApply_L1 (cells : List Int) (width : Int) (height : Int) (s : Int) (x1 : (Int × Unit) × ((List Int) × Unit)) : Option (((Int × Unit) × ((List Int) × Unit)) ⊕ ((Unit) × ((List Int) × Unit))) :=
  bif (decide (x1.1.1 < ((cells.length : Nat) : Int))) then (Option.bind (at? cells x1.1.1) fun d2 =>
  Option.bind (symmTo width height s x1.1.1) fun r3 =>
  req (inb r3 x1.2.1.length) (some (Sum.inl (((w64 (x1.1.1 + (1 : Int))), ()), ((x1.2.1.set ((r3).toNat) d2), ())))))
  else some (Sum.inr ((), (x1.2.1, ())))
noncomputable def symmApply (width : Int) (height : Int) (s : Int) (cells : List Int) : Option (List Int) :=
  req (decide (0 ≤ ((cells.length : Nat) : Int)) && (((cells.length : Nat) : Int) == ((cells.length : Nat) : Int) && room (((cells.length : Nat) : Int)).toNat 8)) (Option.bind (iterW (symmApply_L1 cells width height s) (((0 : Int), ()), ((List.replicate (((cells.length : Nat) : Int)).toNat (0 : Int)), ()))) fun x4 =>
  some x4.2.1)
noncomputable def cmpIsNaN_int_o (x : Int) : Option (Bool) :=
  some (x != x)
def cmpIsNaN_int (x : Int) : Bool :=
  (x != x)
theorem cmpIsNaN_int_eq (x : Int) : cmpIsNaN_int_o x = some (cmpIsNaN_int x) := by
  unfold cmpIsNaN_int_o cmpIsNaN_int
  first | rfl | simp only [cond_some]
noncomputable def cmpCompare_int_o (x : Int) (y : Int) : Option (Int) :=
  bif (cmpIsNaN_int x) then (bif (cmpIsNaN_int y) then some (0 : Int)
  else some (-1 : Int))
  else bif (cmpIsNaN_int y) then some (1 : Int)
  else bif (decide (x < y)) then some (-1 : Int)
  else bif (decide (x > y)) then some (1 : Int)
  else some (0 : Int)
def cmpCompare_int (x : Int) (y : Int) : Int :=
  bif (cmpIsNaN_int x) then (bif (cmpIsNaN_int y) then (0 : Int)
  else (-1 : Int))
  else bif (cmpIsNaN_int y) then (1 : Int)
  else bif (decide (x < y)) then (-1 : Int)
  else bif (decide (x > y)) then (1 : Int)
  else (0 : Int)
theorem cmpCompare_int_eq (x : Int) (y : Int) : cmpCompare_int_o x y = some (cmpCompare_int x y) := by
  unfold cmpCompare_int_o cmpCompare_int
  first | rfl | simp only [cond_some]
noncomputable def slicesCompare_int_L1 (s1 : List Int) (s2 : List Int) (x1 : (Int × Unit) × (Unit)) : Option (((Int × Unit) × (Unit)) ⊕ (((Unit) × (Unit)) ⊕ Int)) :=
  bif (decide (x1.1.1 < ((s1.length : Nat) : Int))) then (Option.bind (at? s1 x1.1.1) fun d2 =>
  bif (decide (x1.1.1 ≥ ((s2.length : Nat) : Int))) then some (Sum.inr (Sum.inr (1 : Int)))
  else Option.bind (at? s2 x1.1.1) fun d3 =>
  bif ((cmpCompare_int d2 d3) != (0 : Int)) then some (Sum.inr (Sum.inr (cmpCompare_int d2 d3)))
  else some (Sum.inl (((w64 (x1.1.1 + (1 : Int))), ()), ())))
  else some (Sum.inr (Sum.inl ((), ())))
noncomputable def slicesCompare_int (s1 : List Int) (s2 : List Int) : Option (Int) :=
  Option.bind (α := ((Unit) × (Unit)) ⊕ Int) (iterW (slicesCompare_int_L1 s1 s2) (((0 : Int), ()), ())) (Sum.elim (fun x4 =>
  bif (decide (((s1.length : Nat) : Int) < ((s2.length : Nat) : Int))) then some (-1 : Int)
  else some (0 : Int)) some)
noncomputable def symmCanon_L1 (width : Int) (height : Int) (cells : List Int) (x3 : ((List Int) × Int × Int × Unit) × (Unit)) : Option ((((List Int) × Int × Int × Unit) × (Unit)) ⊕ (((List Int) × Int × Unit) × (Unit))) :=
  bif (decide (x3.1.2.2.1 < (symmCount width height))) then (Option.bind (symmApply width height x3.1.2.2.1 cells) fun r4 =>
  Option.bind (slicesCompare_int r4 x3.1.1) fun r5 =>
  Option.bind (bif (decide (r5 < (0 : Int))) then some ((r4, x3.1.2.2.1, ()), ())
  else some ((x3.1.1, x3.1.2.1, ()), ())) fun x6 =>
  some (Sum.inl ((x6.1.1, x6.1.2.1, (w64 (x3.1.2.2.1 + (1 : Int))), ()), ())))
  else some (Sum.inr ((x3.1.1, x3.1.2.1, ()), ()))
noncomputable def symmCanon (width : Int) (height : Int) (cells : List Int) : Option ((List Int) × Int × Int × Unit) :=
  bif ((symmCheck width height) != (0 : Int)) then some ([], ((0 : Int), ((symmCheck width height), ())))
  else bif (((cells.length : Nat) : Int) != (w64 (width * height))) then some ([], ((0 : Int), ((3 : Int), ())))
  else Option.bind (slicesClone_int cells) fun r2 =>
  Option.bind (iterW (symmCanon_L1 width height cells) ((r2, (0 : Int), (0 : Int), ()), ())) fun x7 =>
  some (x7.1.1, (x7.1.2.1, ((0 : Int), ())))
noncomputable def ref1SameInts_L1 (a : List Int) (b : List Int) (x1 : (Int × Unit) × (Unit)) : Option (((Int × Unit) × (Unit)) ⊕ (((Unit) × (Unit)) ⊕ Bool)) :=
  bif (decide (x1.1.1 < ((a.length : Nat) : Int))) then (Option.bind (at? a x1.1.1) fun d2 =>
  Option.bind (at? b x1.1.1) fun d3 =>
  bif (d2 != d3) then some (Sum.inr (Sum.inr false))
  else some (Sum.inl (((w64 (x1.1.1 + (1 : Int))), ()), ())))
  else some (Sum.inr (Sum.inl ((), ())))
noncomputable def ref1SameInts (a : List Int) (b : List Int) : Option (Bool) :=
  bif (((a.length : Nat) : Int) != ((b.length : Nat) : Int)) then some false
  else Option.bind (α := ((Unit) × (Unit)) ⊕ Bool) (iterW (ref1SameInts_L1 a b) (((0 : Int), ()), ())) (Sum.elim (fun x4 =>
  some true) some)
noncomputable def ref1In_o (n : Int) (low : Int) (high : Int) : Option (Bool) :=
  some ((decide (n ≥ low)) && (decide (n ≤ high)))
def ref1In (n : Int) (low : Int) (high : Int) : Bool :=
  ((decide (n ≥ low)) && (decide (n ≤ high)))
theorem ref1In_eq (n : Int) (low : Int) (high : Int) : ref1In_o n low high = some (ref1In n low high) := by
  unfold ref1In_o ref1In
  first | rfl | simp only [cond_some]
noncomputable def ref1Symmetries_o (width : Int) (height : Int) : Option (Int) :=
  bif ((!(ref1In width (1 : Int) (8 : Int))) || (!(ref1In height (1 : Int) (8 : Int)))) then some (0 : Int)
  else bif (width != height) then some (4 : Int)
  else some (8 : Int)
def ref1Symmetries (width : Int) (height : Int) : Int :=
  bif ((!(ref1In width (1 : Int) (8 : Int))) || (!(ref1In height (1 : Int) (8 : Int)))) then (0 : Int)
  else bif (width != height) then (4 : Int)
  else (8 : Int)
theorem ref1Symmetries_eq (width : Int) (height : Int) : ref1Symmetries_o width height = some (ref1Symmetries width height) := by
  unfold ref1Symmetries_o ref1Symmetries
  first | rfl | simp only [cond_some]
noncomputable def ref1Moved (width : Int) (height : Int) (s : Int) (square : Int) : Option (Int) :=
  req (width != 0) (req (width != 0) (Option.bind (bif (decide (s ≥ (4 : Int))) then some (((w64 (square.tdiv width)), (square.tmod width), ()), ())
  else some (((square.tmod width), (w64 (square.tdiv width)), ()), ())) fun x1 =>
  Option.bind (bif ((s.tmod (2 : Int)) == (1 : Int)) then some (((w64 ((w64 (width - x1.1.1)) - (1 : Int))), ()), ())
  else some ((x1.1.1, ()), ())) fun x2 =>
  Option.bind (bif (((w64 (s.tdiv (2 : Int))).tmod (2 : Int)) == (1 : Int)) then some (((w64 ((w64 (height - x1.1.2.1)) - (1 : Int))), ()), ())
  else some ((x1.1.2.1, ()), ())) fun x3 =>
  some (w64 (x2.1.1 + (w64 (x3.1.1 * width))))))
noncomputable def law1SymmCanon_L2 (cells : List Int) (width : Int) (height : Int) (x10 : ((List Int) × Int × Int × Unit) × (Unit)) (x11 : (Int × Unit) × ((List Int) × Unit)) : Option (((Int × Unit) × ((List Int) × Unit)) ⊕ ((Unit) × ((List Int) × Unit))) :=
  bif (decide (x11.1.1 < ((cells.length : Nat) : Int))) then (Option.bind (at? cells x11.1.1) fun d12 =>
  Option.bind (ref1Moved width height x10.1.2.2.1 x11.1.1) fun r13 =>
  req (inb r13 x11.2.1.length) (some (Sum.inl (((w64 (x11.1.1 + (1 : Int))), ()), ((x11.2.1.set ((r13).toNat) d12), ())))))
  else some (Sum.inr ((), (x11.2.1, ())))
noncomputable def law1SymmCanon_L3 (x14 : (Unit) × ((List Int) × Unit)) (x10 : ((List Int) × Int × Int × Unit) × (Unit)) (x15 : ((List Int) × Int × Int × Unit) × (Unit)) : Option ((((List Int) × Int × Int × Unit) × (Unit)) ⊕ (((List Int) × Int × Unit) × (Unit))) :=
  bif (decide (x15.1.2.2.1 < ((x14.2.1.length : Nat) : Int))) then (req (inb x15.1.2.2.1 x14.2.1.length) (Option.bind (at? x15.1.1 x15.1.2.2.1) fun d16 =>
  bif ((getD' x14.2.1 ((x15.1.2.2.1).toNat) (0 : Int)) != d16) then (req (inb x15.1.2.2.1 x14.2.1.length) (Option.bind (at? x15.1.1 x15.1.2.2.1) fun d17 =>
  bif (decide ((getD' x14.2.1 ((x15.1.2.2.1).toNat) (0 : Int)) < d17)) then some (Sum.inr ((x14.2.1, x10.1.2.2.1, ()), ()))
  else some (Sum.inr ((x15.1.1, x15.1.2.1, ()), ()))))
  else some (Sum.inl ((x15.1.1, x15.1.2.1, (w64 (x15.1.2.2.1 + (1 : Int))), ()), ()))))
  else some (Sum.inr ((x15.1.1, x15.1.2.1, ()), ()))
noncomputable def law1SymmCanon_L1 (width : Int) (height : Int) (cells : List Int) (x10 : ((List Int) × Int × Int × Unit) × (Unit)) : Option ((((List Int) × Int × Int × Unit) × (Unit)) ⊕ (((List Int) × Int × Unit) × (Unit))) :=
  bif (decide (x10.1.2.2.1 < (ref1Symmetries width height))) then (Option.bind (req (decide (0 ≤ ((cells.length : Nat) : Int)) && (((cells.length : Nat) : Int) == ((cells.length : Nat) : Int) && room (((cells.length : Nat) : Int)).toNat 8)) (Option.bind (iterW (law1SymmCanon_L2 cells width height x10) (((0 : Int), ()), ((List.replicate (((cells.length : Nat) : Int)).toNat (0 : Int)), ()))) fun x14 =>
  Option.bind (iterW (law1SymmCanon_L3 x14 x10) ((x10.1.1, x10.1.2.1, (0 : Int), ()), ())) fun x18 =>
  some ((x18.1.1, x18.1.2.1, ()), ()))) fun x19 =>
  some (Sum.inl ((x19.1.1, x19.1.2.1, (w64 (x10.1.2.2.1 + (1 : Int))), ()), ())))
  else some (Sum.inr ((x10.1.1, x10.1.2.1, ()), ()))
noncomputable def law1SymmCanon (width : Int) (height : Int) (cells : List Int) : Option (Bool) :=
  Option.bind (symmCanon (2 : Int) (1 : Int) ([(6 : Int), (5 : Int)])) fun r4 =>
  Option.bind (bif ((r4.2.2.1 != (0 : Int)) || (r4.2.1 != (1 : Int))) then some ((true, ()), ())
  else Option.bind (ref1SameInts r4.1 ([(5 : Int), (6 : Int)])) fun r5 =>
  some (((!r5), ()), ())) fun x6 =>
  bif x6.1.1 then some false
  else Option.bind (symmCanon width height cells) fun r7 =>
  Option.bind (bif ((ref1Symmetries width height) == (0 : Int)) then some (((4 : Int), ()), ())
  else Option.bind (bif (((cells.length : Nat) : Int) != (w64 (width * height))) then some (((3 : Int), ()), ())
  else some (((0 : Int), ()), ())) fun x8 =>
  some ((x8.1.1, ()), ())) fun x9 =>
  bif (x9.1.1 != (0 : Int)) then some (((r7.2.2.1 == x9.1.1) && (((r7.1.length : Nat) : Int) == (0 : Int))) && (r7.2.1 == (0 : Int)))
  else Option.bind (iterW (law1SymmCanon_L1 width height cells) ((cells, (0 : Int), (0 : Int), ()), ())) fun x20 =>
  Option.bind (gopt ((r7.2.2.1 == (0 : Int)) && (r7.2.1 == x20.1.2.1)) false (ref1SameInts r7.1 x20.1.1)) fun r21 =>
  some (((r7.2.2.1 == (0 : Int)) && (r7.2.1 == x20.1.2.1)) && r21)
end Go.Proofs.Ytejmikpmkfnlgaa
