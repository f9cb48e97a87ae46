/- What functions compute, in plain Lean: MSort. No condition of its own. -/
import Derived.Test.YtocnfflklfeocaaDen0
namespace Go.Proofs.Ytocnfflklfeocaa
open Go.Den
set_option linter.unusedVariables false
set_option maxRecDepth 100000
noncomputable def cmpIsNaN_int_o (x : Int) : Option (Bool) :=
  some (x != x)
def cmpIsNaN_int (x : Int) : Bool :=
  (x != x)
theorem cmpIsNaN_int_eq (x : Int) : cmpIsNaN_int_o x = some (cmpIsNaN_int x) := by
  unfold cmpIsNaN_int_o cmpIsNaN_int
  first | rfl | simp only [cond_some]
noncomputable def cmpCompare_int_o (x : Int) (y : Int) : Option (Int) :=
  bif (cmpIsNaN_int x) then (bif (cmpIsNaN_int y) then some (0 : Int)
  else some (-1 : Int))
  else bif (cmpIsNaN_int y) then some (1 : Int)
  else bif (decide (x < y)) then some (-1 : Int)
  else bif (decide (x > y)) then some (1 : Int)
  else some (0 : Int)
def cmpCompare_int (x : Int) (y : Int) : Int :=
  bif (cmpIsNaN_int x) then (bif (cmpIsNaN_int y) then (0 : Int)
  else (-1 : Int))
  else bif (cmpIsNaN_int y) then (1 : Int)
  else bif (decide (x < y)) then (-1 : Int)
  else bif (decide (x > y)) then (1 : Int)
  else (0 : Int)
theorem cmpCompare_int_eq (x : Int) (y : Int) : cmpCompare_int_o x y = some (cmpCompare_int x y) := by
  unfold cmpCompare_int_o cmpCompare_int
  first | rfl | simp only [cond_some]
noncomputable def cmpOr_int_L1 (vals : List Int) (x1 : (Int × Unit) × (Unit)) : Option (((Int × Unit) × (Unit)) ⊕ (((Unit) × (Unit)) ⊕ Int)) :=
  bif (decide (x1.1.1 < ((vals.length : Nat) : Int))) then (Option.bind (at? vals x1.1.1) fun d2 =>
  bif (d2 != (0 : Int)) then some (Sum.inr (Sum.inr d2))
  else some (Sum.inl (((w64 (x1.1.1 + (1 : Int))), ()), ())))
  else some (Sum.inr (Sum.inl ((), ())))
noncomputable def cmpOr_int (vals : List Int) : Option (Int) :=
  Option.bind (α := ((Unit) × (Unit)) ⊕ Int) (iterW (cmpOr_int_L1 vals) (((0 : Int), ()), ())) (Sum.elim (fun x3 =>
  some (0 : Int)) some)
noncomputable def movesCmp (a : Int × Int × Int × Unit) (b : Int × Int × Int × Unit) : Option (Int) :=
  Option.bind (cmpOr_int ([(cmpCompare_int a.1 b.1), (cmpCompare_int a.2.1 b.2.1), (cmpCompare_int a.2.2.1 b.2.2.1)])) fun r2 =>
  some r2
abbrev Mv := Int × Int × Int × Unit
def mvLt (x y : Mv) : Bool := decide (x.1 < y.1) || (x.1 == y.1 && (decide (x.2.1 < y.2.1) || (x.2.1 == y.2.1 && decide (x.2.2.1 < y.2.2.1))))
/-- moves, in order -/
def sortMoves (xs : List Mv) : List Mv := xs.mergeSort fun x y => !mvLt y x
end Go.Proofs.Ytocnfflklfeocaa
