/- What functions compute, in plain Lean: SymmMaps. No condition of its own. -/
import Derived.Test.YtpajmeljfpolcaaDen0
import Derived.Test.YtpajmeljfpolcaaCoreS
import Derived.Test.YtpajmeljfpolcaaISortS
namespace Go.Proofs.Ytpajmeljfpolcaa
open Go.Den
set_option linter.unusedVariables false
set_option maxRecDepth 100000
noncomputable def symmCheck_o (width : Int) (height : Int) : Option (Int) :=
  bif ((((decide (width < (1 : Int))) || (decide (width > (8 : Int)))) || (decide (height < (1 : Int)))) || (decide (height > (8 : Int)))) then some (4 : Int)
  else some (0 : Int)
def symmCheck (width : Int) (height : Int) : Int :=
  bif ((((decide (width < (1 : Int))) || (decide (width > (8 : Int)))) || (decide (height < (1 : Int)))) || (decide (height > (8 : Int)))) then (4 : Int)
  else (0 : Int)
theorem symmCheck_eq (width : Int) (height : Int) : symmCheck_o width height = some (symmCheck width height) := by
  unfold symmCheck_o symmCheck
  first | rfl | simp only [cond_some]
noncomputable def symmCount_o (width : Int) (height : Int) : Option (Int) :=
  bif (width == height) then some (8 : Int)
  else some (4 : Int)
def symmCount (width : Int) (height : Int) : Int :=
  bif (width == height) then (8 : Int)
  else (4 : Int)
theorem symmCount_eq (width : Int) (height : Int) : symmCount_o width height = some (symmCount width height) := by
  unfold symmCount_o symmCount
  first | rfl | simp only [cond_some]
noncomputable def symmCheck_i_L1 (l : List Int) (width : Int) (height : Int) (x1 : (Int × Unit) × (Unit)) : Option (((Int × Unit) × (Unit)) ⊕ (((Unit) × (Unit)) ⊕ Int)) :=
  bif (decide (x1.1.1 < ((l.length : Nat) : Int))) then (Option.bind (at? l x1.1.1) fun d2 =>
  bif ((decide (d2 < (0 : Int))) || (decide (d2 ≥ (symmCount width height)))) then some (Sum.inr (Sum.inr (8 : Int)))
  else some (Sum.inl (((w64 (x1.1.1 + (1 : Int))), ()), ())))
  else some (Sum.inr (Sum.inl ((), ())))
noncomputable def symmCheck_i (width : Int) (height : Int) (l : List Int) : Option (Int) :=
  bif ((symmCheck width height) != (0 : Int)) then some (symmCheck width height)
  else Option.bind (α := ((Unit) × (Unit)) ⊕ Int) (iterW (symmCheck_i_L1 l width height) (((0 : Int), ()), ())) (Sum.elim (fun x3 =>
  some (0 : Int)) some)
noncomputable def symmTo (width : Int) (height : Int) (s : Int) (square : Int) : Option (Int) :=
  req (width != 0) (req (width != 0) (Option.bind (bif ((iand .i64 s (4 : Int)) != (0 : Int)) then some (((w64 (square.tdiv width)), (square.tmod width), ()), ())
  else some (((square.tmod width), (w64 (square.tdiv width)), ()), ())) fun x1 =>
  Option.bind (bif ((iand .i64 s (1 : Int)) != (0 : Int)) then some (((w64 ((w64 (width - (1 : Int))) - x1.1.1)), ()), ())
  else some ((x1.1.1, ()), ())) fun x2 =>
  Option.bind (bif ((iand .i64 s (2 : Int)) != (0 : Int)) then some (((w64 ((w64 (height - (1 : Int))) - x1.1.2.1)), ()), ())
  else some ((x1.1.2.1, ()), ())) fun x3 =>
  some (w64 ((w64 (x3.1.1 * width)) + x2.1.1))))
noncomputable def symmMap (width : Int) (height : Int) (s : Int) (square : Int) : Option (Int × Int × Unit) :=
  Option.bind (symmCheck_i width height ([s])) fun r3 =>
  bif (r3 != (0 : Int)) then some ((0 : Int), (r3, ()))
  else bif ((decide (square < (0 : Int))) || (decide (square ≥ (w64 (width * height))))) then some ((0 : Int), ((4 : Int), ()))
  else Option.bind (symmTo width height s square) fun r4 =>
  some (r4, ((0 : Int), ()))
noncomputable def cmpLess_int_o (x : Int) (y : Int) : Option (Bool) :=
  some (((cmpIsNaN_int x) && (!(cmpIsNaN_int y))) || (decide (x < y)))
def cmpLess_int (x : Int) (y : Int) : Bool :=
  (((cmpIsNaN_int x) && (!(cmpIsNaN_int y))) || (decide (x < y)))
theorem cmpLess_int_eq (x : Int) (y : Int) : cmpLess_int_o x y = some (cmpLess_int x y) := by
  unfold cmpLess_int_o cmpLess_int
  first | rfl | simp only [cond_some]
noncomputable def symmOrbit_L1 (width : Int) (height : Int) (square : Int) (x1 : ((List Int) × Int × Unit) × (Unit)) : Option ((((List Int) × Int × Unit) × (Unit)) ⊕ (((List Int) × Unit) × (Unit))) :=
  bif (decide (x1.1.2.1 < (symmCount width height))) then (Option.bind (symmTo width height x1.1.2.1 square) fun r2 =>
  req (room (x1.1.1.length + ([r2]).length) 8) (some (Sum.inl (((x1.1.1 ++ [r2]), (w64 (x1.1.2.1 + (1 : Int))), ()), ()))))
  else some (Sum.inr ((x1.1.1, ()), ()))
noncomputable def symmOrbit_L3 (x4 : (Int × Unit) × ((List Int) × Unit)) (x5 : (Int × Int × Unit) × ((List Int) × Unit)) : Option (((Int × Int × Unit) × ((List Int) × Unit)) ⊕ ((Int × Unit) × ((List Int) × Unit))) :=
  bif (decide (x5.1.2.1 < ((((((x4.2.1.length : Nat) : Int)).toNat - (x4.1.1).toNat) : Nat) : Int))) then (req (inb x5.1.2.1 ((((x4.2.1.length : Nat) : Int)).toNat - (x4.1.1).toNat)) (req (inb (w64 (x5.1.2.1 - (1 : Int))) ((((x4.2.1.length : Nat) : Int)).toNat - (x4.1.1).toNat)) (Option.bind (bif ((getD' x5.2.1 ((x4.1.1).toNat + (x5.1.2.1).toNat) (0 : Int)) != (getD' x5.2.1 ((x4.1.1).toNat + ((w64 (x5.1.2.1 - (1 : Int)))).toNat) (0 : Int))) then req (inb x5.1.2.1 ((((x4.2.1.length : Nat) : Int)).toNat - (x4.1.1).toNat)) (req (inb x5.1.1 x5.2.1.length) (some (((w64 (x5.1.1 + (1 : Int))), ()), ((x5.2.1.set ((x5.1.1).toNat) (getD' x5.2.1 ((x4.1.1).toNat + (x5.1.2.1).toNat) (0 : Int))), ()))))
  else some ((x5.1.1, ()), (x5.2.1, ()))) fun x6 =>
  some (Sum.inl ((x6.1.1, (w64 (x5.1.2.1 + (1 : Int))), ()), (x6.2.1, ()))))))
  else some (Sum.inr ((x5.1.1, ()), (x5.2.1, ())))
noncomputable def symmOrbit_L2 (x4 : (Int × Unit) × ((List Int) × Unit)) : Option (((Int × Unit) × ((List Int) × Unit)) ⊕ (((Unit) × ((List Int) × Unit)) ⊕ (((List Int) × Int × Unit) × (Unit)))) :=
  bif (decide (x4.1.1 < ((x4.2.1.length : Nat) : Int))) then (Option.bind (α := ((Int × Unit) × ((List Int) × Unit)) ⊕ (((Int × Unit) × ((List Int) × Unit)) ⊕ (((Unit) × ((List Int) × Unit)) ⊕ (((List Int) × Int × Unit) × (Unit))))) (req (inb x4.1.1 x4.2.1.length) (req (inb (w64 (x4.1.1 - (1 : Int))) x4.2.1.length) (bif ((getD' x4.2.1 ((x4.1.1).toNat) (0 : Int)) == (getD' x4.2.1 (((w64 (x4.1.1 - (1 : Int)))).toNat) (0 : Int))) then (req (boundsI x4.1.1 ((x4.2.1.length : Nat) : Int) x4.2.1.length) (Option.bind (iterW (symmOrbit_L3 x4) ((x4.1.1, (1 : Int), ()), (x4.2.1, ()))) fun x7 =>
  req (boundsI x7.1.1 ((x7.2.1.length : Nat) : Int) x7.2.1.length) (req (boundsI 0 x7.1.1 (x7.2.1.take (x7.1.1).toNat ++ (List.replicate ((((x7.2.1.length : Nat) : Int)).toNat - (x7.1.1).toNat) (0 : Int) ++ x7.2.1.drop ((x7.1.1).toNat + ((((x7.2.1.length : Nat) : Int)).toNat - (x7.1.1).toNat)))).length) (some (Sum.inr (Sum.inr (Sum.inr ((((x7.2.1.take (x7.1.1).toNat ++ (List.replicate ((((x7.2.1.length : Nat) : Int)).toNat - (x7.1.1).toNat) (0 : Int) ++ x7.2.1.drop ((x7.1.1).toNat + ((((x7.2.1.length : Nat) : Int)).toNat - (x7.1.1).toNat)))).take (x7.1.1).toNat), (0 : Int), ()), ()))))))))
  else some (Sum.inl ((x4.1.1, ()), (x4.2.1, ())))))) (Sum.elim (fun x8 =>
  some (Sum.inl (((w64 (x8.1.1 + (1 : Int))), ()), (x8.2.1, ())))) some))
  else some (Sum.inr (Sum.inl ((), (x4.2.1, ()))))
noncomputable def symmOrbit (width : Int) (height : Int) (square : Int) : Option ((List Int) × Int × Unit) :=
  bif ((symmCheck width height) != (0 : Int)) then some (([] : List Int), ((symmCheck width height), ()))
  else bif ((decide (square < (0 : Int))) || (decide (square ≥ (w64 (width * height))))) then some (([] : List Int), ((4 : Int), ()))
  else Option.bind (iterW (symmOrbit_L1 width height square) ((([] : List Int), (0 : Int), ()), ())) fun x3 =>
  req (Nat.blt x3.1.1.length 4611686018427387904) (Option.bind (bif (decide ((((sortInts x3.1.1).length : Nat) : Int) < (2 : Int))) then some (((sortInts x3.1.1), (0 : Int), ()), ())
  else Option.bind (α := ((Unit) × ((List Int) × Unit)) ⊕ (((List Int) × Int × Unit) × (Unit))) (iterW (symmOrbit_L2) (((1 : Int), ()), ((sortInts x3.1.1), ()))) (Sum.elim (fun x9 =>
  some ((x9.2.1, (0 : Int), ()), ())) some)) fun x10 =>
  some (x10.1.1, (x10.1.2.1, ())))
noncomputable def symmApply_L1 (cells : List Int) (width : Int) (height : Int) (s : Int) (x1 : (Int × Unit) × ((List Int) × Unit)) : Option (((Int × Unit) × ((List Int) × Unit)) ⊕ ((Unit) × ((List Int) × Unit))) :=
  bif (decide (x1.1.1 < ((cells.length : Nat) : Int))) then (Option.bind (at? cells x1.1.1) fun d2 =>
  Option.bind (symmTo width height s x1.1.1) fun r3 =>
  req (inb r3 x1.2.1.length) (some (Sum.inl (((w64 (x1.1.1 + (1 : Int))), ()), ((x1.2.1.set ((r3).toNat) d2), ())))))
  else some (Sum.inr ((), (x1.2.1, ())))
noncomputable def symmApply (width : Int) (height : Int) (s : Int) (cells : List Int) : Option (List Int) :=
  req (decide (0 ≤ ((cells.length : Nat) : Int)) && (((cells.length : Nat) : Int) == ((cells.length : Nat) : Int) && room (((cells.length : Nat) : Int)).toNat 8)) (Option.bind (iterW (symmApply_L1 cells width height s) (((0 : Int), ()), ((List.replicate (((cells.length : Nat) : Int)).toNat (0 : Int)), ()))) fun x4 =>
  some x4.2.1)
noncomputable def symmApply_i (width : Int) (height : Int) (s : Int) (cells : List Int) : Option ((List Int) × Int × Unit) :=
  Option.bind (symmCheck_i width height ([s])) fun r3 =>
  bif (r3 != (0 : Int)) then some (([] : List Int), (r3, ()))
  else bif (((cells.length : Nat) : Int) != (w64 (width * height))) then some (([] : List Int), ((3 : Int), ()))
  else Option.bind (symmApply width height s cells) fun r4 =>
  some (r4, ((0 : Int), ()))
noncomputable def symmAll_L1 (width : Int) (height : Int) (x1 : ((List Int) × Int × Unit) × (Unit)) : Option ((((List Int) × Int × Unit) × (Unit)) ⊕ (((List Int) × Unit) × (Unit))) :=
  bif (decide (x1.1.2.1 < (symmCount width height))) then req (room (x1.1.1.length + ([x1.1.2.1]).length) 8) (some (Sum.inl (((x1.1.1 ++ [x1.1.2.1]), (w64 (x1.1.2.1 + (1 : Int))), ()), ())))
  else some (Sum.inr ((x1.1.1, ()), ()))
noncomputable def symmAll (width : Int) (height : Int) : Option ((List Int) × Int × Unit) :=
  bif ((symmCheck width height) != (0 : Int)) then some (([] : List Int), ((symmCheck width height), ()))
  else Option.bind (iterW (symmAll_L1 width height) ((([] : List Int), (0 : Int), ()), ())) fun x2 =>
  some (x2.1.1, ((0 : Int), ()))
noncomputable def ref1Symmetries_o (width : Int) (height : Int) : Option (Int) :=
  bif ((!(ref1In width (1 : Int) (8 : Int))) || (!(ref1In height (1 : Int) (8 : Int)))) then some (0 : Int)
  else bif (width != height) then some (4 : Int)
  else some (8 : Int)
def ref1Symmetries (width : Int) (height : Int) : Int :=
  bif ((!(ref1In width (1 : Int) (8 : Int))) || (!(ref1In height (1 : Int) (8 : Int)))) then (0 : Int)
  else bif (width != height) then (4 : Int)
  else (8 : Int)
theorem ref1Symmetries_eq (width : Int) (height : Int) : ref1Symmetries_o width height = some (ref1Symmetries width height) := by
  unfold ref1Symmetries_o ref1Symmetries
  first | rfl | simp only [cond_some]
noncomputable def ref1Moved (width : Int) (height : Int) (s : Int) (square : Int) : Option (Int) :=
  req (width != 0) (req (width != 0) (Option.bind (bif (decide (s ≥ (4 : Int))) then some (((w64 (square.tdiv width)), (square.tmod width), ()), ())
  else some (((square.tmod width), (w64 (square.tdiv width)), ()), ())) fun x1 =>
  Option.bind (bif ((s.tmod (2 : Int)) == (1 : Int)) then some (((w64 ((w64 (width - x1.1.1)) - (1 : Int))), ()), ())
  else some ((x1.1.1, ()), ())) fun x2 =>
  Option.bind (bif (((w64 (s.tdiv (2 : Int))).tmod (2 : Int)) == (1 : Int)) then some (((w64 ((w64 (height - x1.1.2.1)) - (1 : Int))), ()), ())
  else some ((x1.1.2.1, ()), ())) fun x3 =>
  some (w64 (x2.1.1 + (w64 (x3.1.1 * width))))))
noncomputable def law1SymmMaps_L2 (square : Int) (width : Int) (height : Int) (x20 : (Int × Int × Unit) × (Unit)) (x21 : (Bool × Int × Unit) × (Unit)) : Option (((Bool × Int × Unit) × (Unit)) ⊕ ((Bool × Unit) × (Unit))) :=
  bif ((ref1In square (0 : Int) (w64 ((w64 (width * height)) - (1 : Int)))) && (decide (x21.1.2.1 < (ref1Symmetries width height)))) then (Option.bind (gopt (!x21.1.1) (0 : Int) (ref1Moved width height x21.1.2.1 square)) fun r22 =>
  some (Sum.inl (((x21.1.1 || (r22 == x20.1.2.1)), (w64 (x21.1.2.1 + (1 : Int))), ()), ())))
  else some (Sum.inr ((x21.1.1, ()), ()))
noncomputable def law1SymmMaps_L1 (width : Int) (height : Int) (square : Int) (r18 : (List Int) × Int × Unit) (x20 : (Int × Int × Unit) × (Unit)) : Option (((Int × Int × Unit) × (Unit)) ⊕ (((Int × Unit) × (Unit)) ⊕ Bool)) :=
  bif (decide (x20.1.2.1 < (w64 (width * height)))) then (Option.bind (α := ((Int × Unit) × (Unit)) ⊕ (((Int × Int × Unit) × (Unit)) ⊕ (((Int × Unit) × (Unit)) ⊕ Bool))) (Option.bind (iterW (law1SymmMaps_L2 square width height x20) ((false, (0 : Int), ()), ())) fun x23 =>
  req (imp ((!(decide (x20.1.1 ≥ ((r18.1.length : Nat) : Int)))) && x23.1.1) (inb x20.1.1 r18.1.length)) (bif (x23.1.1 && ((decide (x20.1.1 ≥ ((r18.1.length : Nat) : Int))) || ((getD' r18.1 ((x20.1.1).toNat) (0 : Int)) != x20.1.2.1))) then some (Sum.inr (Sum.inr (Sum.inr false)))
  else Option.bind (bif x23.1.1 then some (((w64 (x20.1.1 + (1 : Int))), ()), ())
  else some ((x20.1.1, ()), ())) fun x24 =>
  some (Sum.inl ((x24.1.1, ()), ())))) (Sum.elim (fun x25 =>
  some (Sum.inl ((x25.1.1, (w64 (x20.1.2.1 + (1 : Int))), ()), ()))) some))
  else some (Sum.inr (Sum.inl ((x20.1.1, ()), ())))
noncomputable def law1SymmMaps_L3 (cells : List Int) (width : Int) (height : Int) (s : Int) (r17 : (List Int) × Int × Unit) (x28 : (Int × Unit) × (Unit)) : Option (((Int × Unit) × (Unit)) ⊕ (((Unit) × (Unit)) ⊕ Bool)) :=
  bif (decide (x28.1.1 < ((cells.length : Nat) : Int))) then (Option.bind (at? cells x28.1.1) fun d29 =>
  Option.bind (ref1Moved width height s x28.1.1) fun r30 =>
  req (inb r30 r17.1.length) (bif ((getD' r17.1 ((r30).toNat) (0 : Int)) != d29) then some (Sum.inr (Sum.inr false))
  else some (Sum.inl (((w64 (x28.1.1 + (1 : Int))), ()), ()))))
  else some (Sum.inr (Sum.inl ((), ())))
noncomputable def law1SymmMaps (width : Int) (height : Int) (s : Int) (square : Int) (cells : List Int) : Option (Bool) :=
  Option.bind (symmMap (3 : Int) (3 : Int) (5 : Int) (0 : Int)) fun r9 =>
  bif ((r9.2.1 != (0 : Int)) || (r9.1 != (2 : Int))) then some false
  else Option.bind (symmOrbit (3 : Int) (2 : Int) (0 : Int)) fun r10 =>
  Option.bind (bif (r10.2.1 != (0 : Int)) then some ((true, ()), ())
  else Option.bind (ref1SameInts r10.1 ([(0 : Int), (2 : Int), (3 : Int), (5 : Int)])) fun r11 =>
  some (((!r11), ()), ())) fun x12 =>
  bif x12.1.1 then some false
  else Option.bind (symmApply_i (2 : Int) (1 : Int) (1 : Int) ([(5 : Int), (6 : Int)])) fun r13 =>
  Option.bind (bif (r13.2.1 != (0 : Int)) then some ((true, ()), ())
  else Option.bind (ref1SameInts r13.1 ([(6 : Int), (5 : Int)])) fun r14 =>
  some (((!r14), ()), ())) fun x15 =>
  bif x15.1.1 then some false
  else Option.bind (symmMap width height s square) fun r16 =>
  Option.bind (symmApply_i width height s cells) fun r17 =>
  Option.bind (symmOrbit width height square) fun r18 =>
  Option.bind (symmAll width height) fun r19 =>
  bif ((ref1Symmetries width height) == (0 : Int)) then some ((((((r16.2.1 == (4 : Int)) && (r17.2.1 == (4 : Int))) && (r18.2.1 == (4 : Int))) && (r19.2.1 == (4 : Int))) && (r16.1 == (0 : Int))) && ((w64 ((w64 (((r17.1.length : Nat) : Int) + ((r18.1.length : Nat) : Int))) + ((r19.1.length : Nat) : Int))) == (0 : Int)))
  else bif ((r19.2.1 != (0 : Int)) || (((r19.1.length : Nat) : Int) != (ref1Symmetries width height))) then some false
  else bif ((!((ref1In square (0 : Int) (w64 ((w64 (width * height)) - (1 : Int)))) == (r18.2.1 == (0 : Int)))) || ((!(ref1In square (0 : Int) (w64 ((w64 (width * height)) - (1 : Int))))) && (r18.2.1 != (4 : Int)))) then some false
  else Option.bind (α := ((Int × Unit) × (Unit)) ⊕ Bool) (iterW (law1SymmMaps_L1 width height square r18) (((0 : Int), (0 : Int), ()), ())) (Sum.elim (fun x26 =>
  bif (x26.1.1 != ((r18.1.length : Nat) : Int)) then some false
  else bif (!(ref1In s (0 : Int) (w64 ((ref1Symmetries width height) - (1 : Int))))) then some ((((r16.2.1 == (8 : Int)) && (r17.2.1 == (8 : Int))) && (r16.1 == (0 : Int))) && (((r17.1.length : Nat) : Int) == (0 : Int)))
  else Option.bind (gopt ((!(r16.2.1 != (0 : Int))) && ((ref1In square (0 : Int) (w64 ((w64 (width * height)) - (1 : Int)))) && (!((!(ref1In square (0 : Int) (w64 ((w64 (width * height)) - (1 : Int))))) && ((r16.2.1 != (4 : Int)) || (r16.1 != (0 : Int))))))) (0 : Int) (ref1Moved width height s square)) fun r27 =>
  bif (((!(ref1In square (0 : Int) (w64 ((w64 (width * height)) - (1 : Int))))) && ((r16.2.1 != (4 : Int)) || (r16.1 != (0 : Int)))) || ((ref1In square (0 : Int) (w64 ((w64 (width * height)) - (1 : Int)))) && ((r16.2.1 != (0 : Int)) || (r16.1 != r27)))) then some false
  else bif (((cells.length : Nat) : Int) != (w64 (width * height))) then some ((r17.2.1 == (3 : Int)) && (((r17.1.length : Nat) : Int) == (0 : Int)))
  else bif ((r17.2.1 != (0 : Int)) || (((r17.1.length : Nat) : Int) != ((cells.length : Nat) : Int))) then some false
  else Option.bind (α := ((Unit) × (Unit)) ⊕ Bool) (iterW (law1SymmMaps_L3 cells width height s r17) (((0 : Int), ()), ())) (Sum.elim (fun x31 =>
  some true) some)) some)
end Go.Proofs.Ytpajmeljfpolcaa
