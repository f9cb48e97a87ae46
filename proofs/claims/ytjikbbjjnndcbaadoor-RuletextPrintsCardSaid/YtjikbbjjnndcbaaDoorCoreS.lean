/- What functions compute, in plain Lean: Core. No condition of its own. -/
import Derived.Test.YtjikbbjjnndcbaaDoorDen0
import Derived.Test.YtjikbbjjnndcbaaDoorDecS
namespace Go.Proofs.YtjikbbjjnndcbaaDoor
open Go.Den
set_option linter.unusedVariables false
set_option maxRecDepth 100000
noncomputable def rulesName_L1 (s : ByteArray) (x1 : (Int × Unit) × (Unit)) : Option (((Int × Unit) × (Unit)) ⊕ (((Unit) × (Unit)) ⊕ Bool)) :=
  bif (decide (x1.1.1 < ((s.size : Nat) : Int))) then (Option.bind (strAt s x1.1.1) fun c2 =>
  Option.bind (gopt (decide (((c2.toNat : Nat) : Int) ≥ (65 : Int))) 0 (strAt s x1.1.1)) fun c3 =>
  Option.bind (gopt ((!(x1.1.1 == (0 : Int))) && (!((decide (((c2.toNat : Nat) : Int) ≥ (65 : Int))) && (decide (((c3.toNat : Nat) : Int) ≤ (90 : Int)))))) 0 (strAt s x1.1.1)) fun c4 =>
  Option.bind (gopt ((!((x1.1.1 == (0 : Int)) || (decide (((c4.toNat : Nat) : Int) < (48 : Int))))) && (!((decide (((c2.toNat : Nat) : Int) ≥ (65 : Int))) && (decide (((c3.toNat : Nat) : Int) ≤ (90 : Int)))))) 0 (strAt s x1.1.1)) fun c5 =>
  bif ((!((decide (((c2.toNat : Nat) : Int) ≥ (65 : Int))) && (decide (((c3.toNat : Nat) : Int) ≤ (90 : Int))))) && (((x1.1.1 == (0 : Int)) || (decide (((c4.toNat : Nat) : Int) < (48 : Int)))) || (decide (((c5.toNat : Nat) : Int) > (57 : Int))))) then some (Sum.inr (Sum.inr false))
  else some (Sum.inl (((w64 (x1.1.1 + (1 : Int))), ()), ())))
  else some (Sum.inr (Sum.inl ((), ())))
noncomputable def rulesName (s : ByteArray) : Option (Bool) :=
  Option.bind (α := ((Unit) × (Unit)) ⊕ Bool) (iterW (rulesName_L1 s) (((0 : Int), ()), ())) (Sum.elim (fun x6 =>
  some ((!(s.toList == (ByteArray.mk #[]).toList)) && (decide (((s.size : Nat) : Int) ≤ (8 : Int))))) some)
noncomputable def rulesWithin_o (n : Int) (low : Int) (high : Int) : Option (Bool) :=
  some ((decide (n ≥ low)) && (decide (n ≤ high)))
def rulesWithin (n : Int) (low : Int) (high : Int) : Bool :=
  ((decide (n ≥ low)) && (decide (n ≤ high)))
theorem rulesWithin_eq (n : Int) (low : Int) (high : Int) : rulesWithin_o n low high = some (rulesWithin n low high) := by
  unfold rulesWithin_o rulesWithin
  first | rfl | simp only [cond_some]
noncomputable def rulesPieces_L3 (d2 : Int × Int × Int × (List (Int × Int × Int × Int × Unit)) × Unit) (x5 : (Int × Unit) × (Unit)) : Option (((Int × Unit) × (Unit)) ⊕ (((Unit) × (Unit)) ⊕ (((Unit) × (Unit)) ⊕ (((Int × Unit) × (Unit)) ⊕ (((Unit) × (Unit)) ⊕ Int))))) :=
  bif (decide (x5.1.1 < ((d2.2.2.2.1.length : Nat) : Int))) then (Option.bind (at? d2.2.2.2.1 x5.1.1) fun d6 =>
  bif (((((!(rulesWithin d6.1 (-7 : Int) (7 : Int))) || (!(rulesWithin d6.2.1 (-7 : Int) (7 : Int)))) || ((d6.1 == (0 : Int)) && (d6.2.1 == (0 : Int)))) || (!(rulesWithin d6.2.2.1 (1 : Int) (7 : Int)))) || (!(rulesWithin d6.2.2.2.1 (0 : Int) (2 : Int)))) then some (Sum.inr (Sum.inr (Sum.inr (Sum.inr (Sum.inr (4 : Int))))))
  else some (Sum.inl (((w64 (x5.1.1 + (1 : Int))), ()), ())))
  else some (Sum.inr (Sum.inl ((), ())))
noncomputable def rulesPieces_L2 (r : ByteArray × Int × Int × (List (Int × Int × Int × (List (Int × Int × Int × Int × Unit)) × Unit)) × (List Int) × Bool × Bool × (List (Int × Int × Int × Bool × Unit)) × Int × Int × Int × Unit) (x1 : (Int × Unit) × (Unit)) (d2 : Int × Int × Int × (List (Int × Int × Int × Int × Unit)) × Unit) (x3 : (Int × Unit) × (Unit)) : Option (((Int × Unit) × (Unit)) ⊕ (((Unit) × (Unit)) ⊕ (((Unit) × (Unit)) ⊕ (((Int × Unit) × (Unit)) ⊕ (((Unit) × (Unit)) ⊕ Int))))) :=
  bif (decide (x3.1.1 < ((((r.2.2.2.1.take (x1.1.1).toNat).drop 0).length : Nat) : Int))) then (Option.bind (at? ((r.2.2.2.1.take (x1.1.1).toNat).drop 0) x3.1.1) fun d4 =>
  bif (d4.1 == d2.1) then (Option.map Sum.inr (Option.map Sum.inr (bif (decide (x3.1.1 ≥ (0 : Int))) then some (Sum.inr (Sum.inr (Sum.inr (7 : Int))))
  else bif ((!(rulesWithin d2.2.1 (0 : Int) (64 : Int))) || (!(rulesWithin d2.2.2.1 (0 : Int) ((r.2.2.2.1.length : Nat) : Int)))) then some (Sum.inr (Sum.inr (Sum.inr (4 : Int))))
  else bif (decide (((d2.2.2.2.1.length : Nat) : Int) > (16 : Int))) then some (Sum.inr (Sum.inr (Sum.inr (2 : Int))))
  else Option.bind (α := ((Unit) × (Unit)) ⊕ (((Unit) × (Unit)) ⊕ (((Int × Unit) × (Unit)) ⊕ (((Unit) × (Unit)) ⊕ Int)))) (iterW (rulesPieces_L3 d2) (((0 : Int), ()), ())) (Sum.elim (fun x7 =>
  some (Sum.inl ((), ()))) some))))
  else some (Sum.inl (((w64 (x3.1.1 + (1 : Int))), ()), ())))
  else some (Sum.inr (Sum.inl ((), ())))
noncomputable def rulesPieces_L4 (d2 : Int × Int × Int × (List (Int × Int × Int × Int × Unit)) × Unit) (x9 : (Int × Unit) × (Unit)) : Option (((Int × Unit) × (Unit)) ⊕ (((Unit) × (Unit)) ⊕ (((Unit) × (Unit)) ⊕ (((Int × Unit) × (Unit)) ⊕ (((Unit) × (Unit)) ⊕ Int))))) :=
  bif (decide (x9.1.1 < ((d2.2.2.2.1.length : Nat) : Int))) then (Option.bind (at? d2.2.2.2.1 x9.1.1) fun d10 =>
  bif (((((!(rulesWithin d10.1 (-7 : Int) (7 : Int))) || (!(rulesWithin d10.2.1 (-7 : Int) (7 : Int)))) || ((d10.1 == (0 : Int)) && (d10.2.1 == (0 : Int)))) || (!(rulesWithin d10.2.2.1 (1 : Int) (7 : Int)))) || (!(rulesWithin d10.2.2.2.1 (0 : Int) (2 : Int)))) then some (Sum.inr (Sum.inr (Sum.inr (Sum.inr (Sum.inr (4 : Int))))))
  else some (Sum.inl (((w64 (x9.1.1 + (1 : Int))), ()), ())))
  else some (Sum.inr (Sum.inl ((), ())))
noncomputable def rulesPieces_L1 (r : ByteArray × Int × Int × (List (Int × Int × Int × (List (Int × Int × Int × Int × Unit)) × Unit)) × (List Int) × Bool × Bool × (List (Int × Int × Int × Bool × Unit)) × Int × Int × Int × Unit) (x1 : (Int × Unit) × (Unit)) : Option (((Int × Unit) × (Unit)) ⊕ (((Unit) × (Unit)) ⊕ Int)) :=
  bif (decide (x1.1.1 < ((r.2.2.2.1.length : Nat) : Int))) then (Option.bind (α := ((Unit) × (Unit)) ⊕ (((Int × Unit) × (Unit)) ⊕ (((Unit) × (Unit)) ⊕ Int))) (Option.bind (at? r.2.2.2.1 x1.1.1) fun d2 =>
  bif ((decide (d2.1 < (65 : Int))) || (decide (d2.1 > (90 : Int)))) then some (Sum.inr (Sum.inr (Sum.inr (6 : Int))))
  else req (boundsI (0 : Int) x1.1.1 r.2.2.2.1.length) (Option.bind (α := ((Unit) × (Unit)) ⊕ (((Unit) × (Unit)) ⊕ (((Int × Unit) × (Unit)) ⊕ (((Unit) × (Unit)) ⊕ Int)))) (iterW (rulesPieces_L2 r x1 d2) (((0 : Int), ()), ())) (Sum.elim (fun x8 =>
  bif ((!(rulesWithin d2.2.1 (0 : Int) (64 : Int))) || (!(rulesWithin d2.2.2.1 (0 : Int) ((r.2.2.2.1.length : Nat) : Int)))) then some (Sum.inr (Sum.inr (Sum.inr (4 : Int))))
  else bif (decide (((d2.2.2.2.1.length : Nat) : Int) > (16 : Int))) then some (Sum.inr (Sum.inr (Sum.inr (2 : Int))))
  else Option.bind (α := ((Unit) × (Unit)) ⊕ (((Unit) × (Unit)) ⊕ (((Int × Unit) × (Unit)) ⊕ (((Unit) × (Unit)) ⊕ Int)))) (iterW (rulesPieces_L4 d2) (((0 : Int), ()), ())) (Sum.elim (fun x11 =>
  some (Sum.inl ((), ()))) some)) some))) (Sum.elim (fun x12 =>
  some (Sum.inl (((w64 (x1.1.1 + (1 : Int))), ()), ()))) some))
  else some (Sum.inr (Sum.inl ((), ())))
noncomputable def rulesPieces (r : ByteArray × Int × Int × (List (Int × Int × Int × (List (Int × Int × Int × Int × Unit)) × Unit)) × (List Int) × Bool × Bool × (List (Int × Int × Int × Bool × Unit)) × Int × Int × Int × Unit) : Option (Int) :=
  bif (((r.2.2.2.1.length : Nat) : Int) == (0 : Int)) then some (8 : Int)
  else bif (decide (((r.2.2.2.1.length : Nat) : Int) > (6 : Int))) then some (2 : Int)
  else Option.bind (α := ((Unit) × (Unit)) ⊕ Int) (iterW (rulesPieces_L1 r) (((0 : Int), ()), ())) (Sum.elim (fun x13 =>
  some (0 : Int)) some)
noncomputable def rulesConditions_L1 (r : ByteArray × Int × Int × (List (Int × Int × Int × (List (Int × Int × Int × Int × Unit)) × Unit)) × (List Int) × Bool × Bool × (List (Int × Int × Int × Bool × Unit)) × Int × Int × Int × Unit) (x1 : (Int × Unit) × (Unit)) : Option (((Int × Unit) × (Unit)) ⊕ (((Unit) × (Unit)) ⊕ Int)) :=
  bif (decide (x1.1.1 < ((r.2.2.2.2.2.2.2.1.length : Nat) : Int))) then (Option.bind (at? r.2.2.2.2.2.2.2.1 x1.1.1) fun d2 =>
  Option.bind (α := ((Bool × Bool × Unit) × (Unit)) ⊕ (((Int × Unit) × (Unit)) ⊕ (((Unit) × (Unit)) ⊕ Int))) (bif (d2.1 == (0 : Int)) then some (Sum.inl (((rulesWithin d2.2.2.1 (1 : Int) (64 : Int)), (d2.2.1 == (0 : Int)), ()), ()))
  else Option.bind (α := ((Bool × Unit) × (Unit)) ⊕ (((Bool × Bool × Unit) × (Unit)) ⊕ (((Int × Unit) × (Unit)) ⊕ (((Unit) × (Unit)) ⊕ Int)))) (bif (d2.1 == (1 : Int)) then some (Sum.inl (((d2.2.2.1 == (0 : Int)), ()), ()))
  else bif (d2.1 == (2 : Int)) then some (Sum.inl (((rulesWithin d2.2.2.1 (1 : Int) (64 : Int)), ()), ()))
  else some (Sum.inr (Sum.inr (Sum.inr (Sum.inr (1 : Int)))))) (Sum.elim (fun x3 =>
  some (Sum.inl ((x3.1.1, (rulesWithin d2.2.1 (0 : Int) (w64 (((r.2.2.2.1.length : Nat) : Int) - (1 : Int)))), ()), ()))) some)) (Sum.elim (fun x4 =>
  bif ((!x4.1.1) || (!x4.1.2.1)) then some (Sum.inr (Sum.inr (4 : Int)))
  else some (Sum.inl (((w64 (x1.1.1 + (1 : Int))), ()), ()))) some))
  else some (Sum.inr (Sum.inl ((), ())))
noncomputable def rulesConditions (r : ByteArray × Int × Int × (List (Int × Int × Int × (List (Int × Int × Int × Int × Unit)) × Unit)) × (List Int) × Bool × Bool × (List (Int × Int × Int × Bool × Unit)) × Int × Int × Int × Unit) : Option (Int) :=
  bif (decide (((r.2.2.2.2.2.2.2.1.length : Nat) : Int) > (6 : Int))) then some (2 : Int)
  else Option.bind (α := ((Unit) × (Unit)) ⊕ Int) (iterW (rulesConditions_L1 r) (((0 : Int), ()), ())) (Sum.elim (fun x5 =>
  some (0 : Int)) some)
noncomputable def rulesCheck_L1 (r : ByteArray × Int × Int × (List (Int × Int × Int × (List (Int × Int × Int × Int × Unit)) × Unit)) × (List Int) × Bool × Bool × (List (Int × Int × Int × Bool × Unit)) × Int × Int × Int × Unit) (x6 : (Int × Unit) × (Unit)) : Option (((Int × Unit) × (Unit)) ⊕ (((Unit) × (Unit)) ⊕ Int)) :=
  bif (decide (x6.1.1 < ((r.2.2.2.2.1.length : Nat) : Int))) then (Option.bind (at? r.2.2.2.2.1 x6.1.1) fun d7 =>
  bif (!(rulesWithin d7 (0 : Int) (w64 ((2 : Int) * ((r.2.2.2.1.length : Nat) : Int))))) then (Option.map Sum.inr (Option.map Sum.inr (bif (decide (x6.1.1 ≥ (0 : Int))) then some (4 : Int)
  else Option.bind (rulesConditions r) fun r8 =>
  bif (r8 != (0 : Int)) then some r8
  else bif (((!(rulesWithin r.2.2.2.2.2.2.2.2.1 (0 : Int) (2 : Int))) || (!(rulesWithin r.2.2.2.2.2.2.2.2.2.1 (0 : Int) (200 : Int)))) || ((r.2.2.2.2.2.2.2.2.2.2.1 != (0 : Int)) && (!(rulesWithin r.2.2.2.2.2.2.2.2.2.2.1 (2 : Int) (5 : Int))))) then some (4 : Int)
  else some (0 : Int))))
  else some (Sum.inl (((w64 (x6.1.1 + (1 : Int))), ()), ())))
  else some (Sum.inr (Sum.inl ((), ())))
noncomputable def rulesCheck (r : ByteArray × Int × Int × (List (Int × Int × Int × (List (Int × Int × Int × Int × Unit)) × Unit)) × (List Int) × Bool × Bool × (List (Int × Int × Int × Bool × Unit)) × Int × Int × Int × Unit) : Option (Int) :=
  Option.bind (rulesName r.1) fun r4 =>
  bif (!r4) then some (6 : Int)
  else bif ((!(rulesWithin r.2.1 (1 : Int) (8 : Int))) || (!(rulesWithin r.2.2.1 (1 : Int) (8 : Int)))) then some (4 : Int)
  else Option.bind (rulesPieces r) fun r5 =>
  bif (r5 != (0 : Int)) then some r5
  else bif (((r.2.2.2.2.1.length : Nat) : Int) != (w64 (r.2.1 * r.2.2.1))) then some (3 : Int)
  else Option.bind (α := ((Unit) × (Unit)) ⊕ Int) (iterW (rulesCheck_L1 r) (((0 : Int), ()), ())) (Sum.elim (fun x9 =>
  Option.bind (rulesConditions r) fun r10 =>
  bif (r10 != (0 : Int)) then some r10
  else bif (((!(rulesWithin r.2.2.2.2.2.2.2.2.1 (0 : Int) (2 : Int))) || (!(rulesWithin r.2.2.2.2.2.2.2.2.2.1 (0 : Int) (200 : Int)))) || ((r.2.2.2.2.2.2.2.2.2.2.1 != (0 : Int)) && (!(rulesWithin r.2.2.2.2.2.2.2.2.2.2.1 (2 : Int) (5 : Int))))) then some (4 : Int)
  else some (0 : Int)) some)
noncomputable def slicesClone_int (s : List Int) : Option (List Int) :=
  bif (s.isEmpty) then (agree (some ([] : List Int)) (req (room (([] : List Int).length + s.length) 8) (some (([] : List Int) ++ s))))
  else req (room (([] : List Int).length + s.length) 8) (some (([] : List Int) ++ s))
noncomputable def placeBegin_L1 (r : ByteArray × Int × Int × (List (Int × Int × Int × (List (Int × Int × Int × Int × Unit)) × Unit)) × (List Int) × Bool × Bool × (List (Int × Int × Int × Bool × Unit)) × Int × Int × Int × Unit) (x5 : (Int × Unit) × (((List Int) × (List Int) × (List Int) × Int × Int × Unit) × Unit)) : Option (((Int × Unit) × (((List Int) × (List Int) × (List Int) × Int × Int × Unit) × Unit)) ⊕ ((Unit) × (((List Int) × (List Int) × (List Int) × Int × Int × Unit) × Unit))) :=
  bif (decide (x5.1.1 < ((r.2.2.2.1.length : Nat) : Int))) then (Option.bind (at? r.2.2.2.1 x5.1.1) fun d6 =>
  Option.bind (agree (agree (req (room (x5.2.1.2.1.length + ([d6.2.1]).length) 8) (req (room (x5.2.1.2.2.1.length + ([d6.2.1]).length) 8) (some ((), ((x5.2.1.1, ((x5.2.1.2.1 ++ [d6.2.1]), ((x5.2.1.2.2.1 ++ [d6.2.1]), x5.2.1.2.2.2))), ()))))) (agree (agree (req (room (x5.2.1.2.1.length + ([d6.2.1]).length) 8) (req (room (x5.2.1.2.2.1.length + ([d6.2.1]).length) 8) (some ((), ((x5.2.1.1, ((x5.2.1.2.1 ++ [d6.2.1]), ((x5.2.1.2.2.1 ++ [d6.2.1]), x5.2.1.2.2.2))), ()))))) (agree (req (room (x5.2.1.2.1.length + ([d6.2.1]).length) 8) (req (room (x5.2.1.2.2.1.length + ([d6.2.1]).length) 8) (some ((), ((x5.2.1.1, ((x5.2.1.2.1 ++ [d6.2.1]), ((x5.2.1.2.2.1 ++ [d6.2.1]), x5.2.1.2.2.2))), ()))))) (req (room (x5.2.1.2.1.length + ([d6.2.1]).length) 8) (req (room (x5.2.1.2.2.1.length + ([d6.2.1]).length) 8) (some ((), ((x5.2.1.1, ((x5.2.1.2.1 ++ [d6.2.1]), ((x5.2.1.2.2.1 ++ [d6.2.1]), x5.2.1.2.2.2))), ()))))))) (agree (req (room (x5.2.1.2.1.length + ([d6.2.1]).length) 8) (req (room (x5.2.1.2.2.1.length + ([d6.2.1]).length) 8) (some ((), ((x5.2.1.1, ((x5.2.1.2.1 ++ [d6.2.1]), ((x5.2.1.2.2.1 ++ [d6.2.1]), x5.2.1.2.2.2))), ()))))) (agree (agree (req (room (x5.2.1.2.1.length + ([d6.2.1]).length) 8) (req (room (x5.2.1.2.2.1.length + ([d6.2.1]).length) 8) (some ((), ((x5.2.1.1, ((x5.2.1.2.1 ++ [d6.2.1]), ((x5.2.1.2.2.1 ++ [d6.2.1]), x5.2.1.2.2.2))), ()))))) (req (room (x5.2.1.2.1.length + ([d6.2.1]).length) 8) (req (room (x5.2.1.2.2.1.length + ([d6.2.1]).length) 8) (some ((), ((x5.2.1.1, ((x5.2.1.2.1 ++ [d6.2.1]), ((x5.2.1.2.2.1 ++ [d6.2.1]), x5.2.1.2.2.2))), ())))))) (agree (req (room (x5.2.1.2.1.length + ([d6.2.1]).length) 8) (req (room (x5.2.1.2.2.1.length + ([d6.2.1]).length) 8) (some ((), ((x5.2.1.1, ((x5.2.1.2.1 ++ [d6.2.1]), ((x5.2.1.2.2.1 ++ [d6.2.1]), x5.2.1.2.2.2))), ()))))) (req (room (x5.2.1.2.1.length + ([d6.2.1]).length) 8) (req (room (x5.2.1.2.2.1.length + ([d6.2.1]).length) 8) (some ((), ((x5.2.1.1, ((x5.2.1.2.1 ++ [d6.2.1]), ((x5.2.1.2.2.1 ++ [d6.2.1]), x5.2.1.2.2.2))), ())))))))))) (agree (agree (agree (req (room (x5.2.1.2.1.length + ([d6.2.1]).length) 8) (req (room (x5.2.1.2.2.1.length + ([d6.2.1]).length) 8) (some ((), ((x5.2.1.1, ((x5.2.1.2.1 ++ [d6.2.1]), ((x5.2.1.2.2.1 ++ [d6.2.1]), x5.2.1.2.2.2))), ()))))) (agree (req (room (x5.2.1.2.1.length + ([d6.2.1]).length) 8) (req (room (x5.2.1.2.2.1.length + ([d6.2.1]).length) 8) (some ((), ((x5.2.1.1, ((x5.2.1.2.1 ++ [d6.2.1]), ((x5.2.1.2.2.1 ++ [d6.2.1]), x5.2.1.2.2.2))), ()))))) (req (room (x5.2.1.2.1.length + ([d6.2.1]).length) 8) (req (room (x5.2.1.2.2.1.length + ([d6.2.1]).length) 8) (some ((), ((x5.2.1.1, ((x5.2.1.2.1 ++ [d6.2.1]), ((x5.2.1.2.2.1 ++ [d6.2.1]), x5.2.1.2.2.2))), ()))))))) (agree (agree (req (room (x5.2.1.2.1.length + ([d6.2.1]).length) 8) (req (room (x5.2.1.2.2.1.length + ([d6.2.1]).length) 8) (some ((), ((x5.2.1.1, ((x5.2.1.2.1 ++ [d6.2.1]), ((x5.2.1.2.2.1 ++ [d6.2.1]), x5.2.1.2.2.2))), ()))))) (req (room (x5.2.1.2.1.length + ([d6.2.1]).length) 8) (req (room (x5.2.1.2.2.1.length + ([d6.2.1]).length) 8) (some ((), ((x5.2.1.1, ((x5.2.1.2.1 ++ [d6.2.1]), ((x5.2.1.2.2.1 ++ [d6.2.1]), x5.2.1.2.2.2))), ())))))) (req (room (x5.2.1.2.1.length + ([d6.2.1]).length) 8) (req (room (x5.2.1.2.2.1.length + ([d6.2.1]).length) 8) (some ((), ((x5.2.1.1, ((x5.2.1.2.1 ++ [d6.2.1]), ((x5.2.1.2.2.1 ++ [d6.2.1]), x5.2.1.2.2.2))), ()))))))) (agree (agree (req (room (x5.2.1.2.1.length + ([d6.2.1]).length) 8) (req (room (x5.2.1.2.2.1.length + ([d6.2.1]).length) 8) (some ((), ((x5.2.1.1, ((x5.2.1.2.1 ++ [d6.2.1]), ((x5.2.1.2.2.1 ++ [d6.2.1]), x5.2.1.2.2.2))), ()))))) (agree (agree (req (room (x5.2.1.2.1.length + ([d6.2.1]).length) 8) (req (room (x5.2.1.2.2.1.length + ([d6.2.1]).length) 8) (some ((), ((x5.2.1.1, ((x5.2.1.2.1 ++ [d6.2.1]), ((x5.2.1.2.2.1 ++ [d6.2.1]), x5.2.1.2.2.2))), ()))))) (req (room (x5.2.1.2.1.length + ([d6.2.1]).length) 8) (req (room (x5.2.1.2.2.1.length + ([d6.2.1]).length) 8) (some ((), ((x5.2.1.1, ((x5.2.1.2.1 ++ [d6.2.1]), ((x5.2.1.2.2.1 ++ [d6.2.1]), x5.2.1.2.2.2))), ())))))) (agree (req (room (x5.2.1.2.1.length + ([d6.2.1]).length) 8) (req (room (x5.2.1.2.2.1.length + ([d6.2.1]).length) 8) (some ((), ((x5.2.1.1, ((x5.2.1.2.1 ++ [d6.2.1]), ((x5.2.1.2.2.1 ++ [d6.2.1]), x5.2.1.2.2.2))), ()))))) (req (room (x5.2.1.2.1.length + ([d6.2.1]).length) 8) (req (room (x5.2.1.2.2.1.length + ([d6.2.1]).length) 8) (some ((), ((x5.2.1.1, ((x5.2.1.2.1 ++ [d6.2.1]), ((x5.2.1.2.2.1 ++ [d6.2.1]), x5.2.1.2.2.2))), ())))))))) (agree (agree (agree (req (room (x5.2.1.2.1.length + ([d6.2.1]).length) 8) (req (room (x5.2.1.2.2.1.length + ([d6.2.1]).length) 8) (some ((), ((x5.2.1.1, ((x5.2.1.2.1 ++ [d6.2.1]), ((x5.2.1.2.2.1 ++ [d6.2.1]), x5.2.1.2.2.2))), ()))))) (req (room (x5.2.1.2.1.length + ([d6.2.1]).length) 8) (req (room (x5.2.1.2.2.1.length + ([d6.2.1]).length) 8) (some ((), ((x5.2.1.1, ((x5.2.1.2.1 ++ [d6.2.1]), ((x5.2.1.2.2.1 ++ [d6.2.1]), x5.2.1.2.2.2))), ())))))) (req (room (x5.2.1.2.1.length + ([d6.2.1]).length) 8) (req (room (x5.2.1.2.2.1.length + ([d6.2.1]).length) 8) (some ((), ((x5.2.1.1, ((x5.2.1.2.1 ++ [d6.2.1]), ((x5.2.1.2.2.1 ++ [d6.2.1]), x5.2.1.2.2.2))), ())))))) (agree (agree (req (room (x5.2.1.2.1.length + ([d6.2.1]).length) 8) (req (room (x5.2.1.2.2.1.length + ([d6.2.1]).length) 8) (some ((), ((x5.2.1.1, ((x5.2.1.2.1 ++ [d6.2.1]), ((x5.2.1.2.2.1 ++ [d6.2.1]), x5.2.1.2.2.2))), ()))))) (req (room (x5.2.1.2.1.length + ([d6.2.1]).length) 8) (req (room (x5.2.1.2.2.1.length + ([d6.2.1]).length) 8) (some ((), ((x5.2.1.1, ((x5.2.1.2.1 ++ [d6.2.1]), ((x5.2.1.2.2.1 ++ [d6.2.1]), x5.2.1.2.2.2))), ())))))) (req (room (x5.2.1.2.1.length + ([d6.2.1]).length) 8) (req (room (x5.2.1.2.2.1.length + ([d6.2.1]).length) 8) (some ((), ((x5.2.1.1, ((x5.2.1.2.1 ++ [d6.2.1]), ((x5.2.1.2.2.1 ++ [d6.2.1]), x5.2.1.2.2.2))), ())))))))))) fun x7 =>
  some (Sum.inl (((w64 (x5.1.1 + (1 : Int))), ()), ((x7.2.1.1, (x7.2.1.2.1, (x7.2.1.2.2.1, x7.2.1.2.2.2))), ()))))
  else some (Sum.inr ((), ((x5.2.1.1, (x5.2.1.2.1, (x5.2.1.2.2.1, x5.2.1.2.2.2))), ())))
noncomputable def placeBegin (r : ByteArray × Int × Int × (List (Int × Int × Int × (List (Int × Int × Int × Int × Unit)) × Unit)) × (List Int) × Bool × Bool × (List (Int × Int × Int × Bool × Unit)) × Int × Int × Int × Unit) : Option (((List Int) × ((List Int) × (List Int) × Unit) × Int × Int × Unit) × Int × Unit) :=
  Option.bind (rulesCheck r) fun r3 =>
  bif (r3 != (0 : Int)) then some ((([] : List Int), ((([] : List Int), (([] : List Int), ())), ((0 : Int), ((0 : Int), ())))), (r3, ()))
  else Option.bind (slicesClone_int r.2.2.2.2.1) fun r4 =>
  Option.bind (iterW (placeBegin_L1 r) (((0 : Int), ()), ((r4, (([] : List Int), (([] : List Int), ((0 : Int), ((0 : Int), ()))))), ()))) fun x8 =>
  some ((x8.2.1.1, ((x8.2.1.2.1, (x8.2.1.2.2.1, ())), x8.2.1.2.2.2)), ((0 : Int), ()))
noncomputable def slicesConcat_int_L1 (slices : List (List Int)) (x1 : (Int × Int × Unit) × (Unit)) : Option (((Int × Int × Unit) × (Unit)) ⊕ ((Int × Unit) × (Unit))) :=
  bif (decide (x1.1.2.1 < ((slices.length : Nat) : Int))) then (Option.bind (at? slices x1.1.2.1) fun d2 =>
  bif (decide ((w64 (x1.1.1 + ((d2.length : Nat) : Int))) < (0 : Int))) then none
  else some (Sum.inl (((w64 (x1.1.1 + ((d2.length : Nat) : Int))), (w64 (x1.1.2.1 + (1 : Int))), ()), ())))
  else some (Sum.inr ((x1.1.1, ()), ()))
noncomputable def slicesConcat_int_L2 (slices : List (List Int)) (x5 : ((List Int) × Int × Unit) × (Unit)) : Option ((((List Int) × Int × Unit) × (Unit)) ⊕ (((List Int) × Unit) × (Unit))) :=
  bif (decide (x5.1.2.1 < ((slices.length : Nat) : Int))) then (Option.bind (at? slices x5.1.2.1) fun d6 =>
  req (room (x5.1.1.length + d6.length) 8) (some (Sum.inl (((x5.1.1 ++ d6), (w64 (x5.1.2.1 + (1 : Int))), ()), ()))))
  else some (Sum.inr ((x5.1.1, ()), ()))
noncomputable def slicesConcat_int (slices : List (List Int)) : Option (List Int) :=
  Option.bind (iterW (slicesConcat_int_L1 slices) (((0 : Int), (0 : Int), ()), ())) fun x3 =>
  bif (decide (x3.1.1 < (0 : Int))) then none
  else Option.bind (bif (decide ((w64 (x3.1.1 - (0 : Int))) > (0 : Int))) then req (decide (0 < (w64 (x3.1.1 - (0 : Int)))) && room ((w64 (x3.1.1 - (0 : Int)))).toNat 8) (req (boundsI 0 (0 : Int) (List.replicate ((w64 (x3.1.1 - (0 : Int)))).toNat (0 : Int)).length) (some ((((List.replicate ((w64 (x3.1.1 - (0 : Int)))).toNat (0 : Int)).take 0), ()), ())))
  else some ((([] : List Int), ()), ())) fun x4 =>
  Option.bind (iterW (slicesConcat_int_L2 slices) ((x4.1.1, (0 : Int), ()), ())) fun x7 =>
  some x7.1.1
noncomputable def placeSound_L2 (r2 : List Int) (p : (List Int) × ((List Int) × (List Int) × Unit) × Int × Int × Unit) (x5 : (Int × Unit) × (Unit)) : Option (((Int × Unit) × (Unit)) ⊕ (((Unit) × (Unit)) ⊕ ((Bool × Unit) × (Unit)))) :=
  bif (decide (x5.1.1 < ((r2.length : Nat) : Int))) then (req (inb x5.1.1 r2.length) (bif ((decide ((getD' r2 ((x5.1.1).toNat) (0 : Int)) < (0 : Int))) || (decide ((getD' r2 ((x5.1.1).toNat) (0 : Int)) > (1000 : Int)))) then some (Sum.inr (Sum.inr ((((((decide (x5.1.1 ≥ (0 : Int))) || ((p.2.2.1 != (0 : Int)) && (p.2.2.1 != (1 : Int)))) || (decide (p.2.2.2.1 < (0 : Int)))) || (decide (p.2.2.2.1 > (200 : Int)))), ()), ())))
  else some (Sum.inl (((w64 (x5.1.1 + (1 : Int))), ()), ()))))
  else some (Sum.inr (Sum.inl ((), ())))
noncomputable def placeSound_L1 (p : (List Int) × ((List Int) × (List Int) × Unit) × Int × Int × Unit) (r : ByteArray × Int × Int × (List (Int × Int × Int × (List (Int × Int × Int × Int × Unit)) × Unit)) × (List Int) × Bool × Bool × (List (Int × Int × Int × Bool × Unit)) × Int × Int × Int × Unit) (r2 : List Int) (x3 : (Int × Unit) × (Unit)) : Option (((Int × Unit) × (Unit)) ⊕ (((Unit) × (Unit)) ⊕ ((Bool × Unit) × (Unit)))) :=
  bif (decide (x3.1.1 < ((p.1.length : Nat) : Int))) then (Option.bind (at? p.1 x3.1.1) fun d4 =>
  bif ((decide (d4 < (0 : Int))) || (decide (d4 > (w64 ((2 : Int) * ((r.2.2.2.1.length : Nat) : Int)))))) then (Option.map Sum.inr (Option.map Sum.inr (bif (decide (x3.1.1 ≥ (0 : Int))) then some ((true, ()), ())
  else Option.bind (α := ((Unit) × (Unit)) ⊕ ((Bool × Unit) × (Unit))) (iterW (placeSound_L2 r2 p) (((0 : Int), ()), ())) (Sum.elim (fun x6 =>
  some ((((((p.2.2.1 != (0 : Int)) && (p.2.2.1 != (1 : Int))) || (decide (p.2.2.2.1 < (0 : Int)))) || (decide (p.2.2.2.1 > (200 : Int)))), ()), ())) some))))
  else some (Sum.inl (((w64 (x3.1.1 + (1 : Int))), ()), ())))
  else some (Sum.inr (Sum.inl ((), ())))
noncomputable def placeSound_L3 (r2 : List Int) (p : (List Int) × ((List Int) × (List Int) × Unit) × Int × Int × Unit) (x8 : (Int × Unit) × (Unit)) : Option (((Int × Unit) × (Unit)) ⊕ (((Unit) × (Unit)) ⊕ ((Bool × Unit) × (Unit)))) :=
  bif (decide (x8.1.1 < ((r2.length : Nat) : Int))) then (req (inb x8.1.1 r2.length) (bif ((decide ((getD' r2 ((x8.1.1).toNat) (0 : Int)) < (0 : Int))) || (decide ((getD' r2 ((x8.1.1).toNat) (0 : Int)) > (1000 : Int)))) then some (Sum.inr (Sum.inr ((((((decide (x8.1.1 ≥ (0 : Int))) || ((p.2.2.1 != (0 : Int)) && (p.2.2.1 != (1 : Int)))) || (decide (p.2.2.2.1 < (0 : Int)))) || (decide (p.2.2.2.1 > (200 : Int)))), ()), ())))
  else some (Sum.inl (((w64 (x8.1.1 + (1 : Int))), ()), ()))))
  else some (Sum.inr (Sum.inl ((), ())))
noncomputable def placeSound_L5 (r2 : List Int) (p : (List Int) × ((List Int) × (List Int) × Unit) × Int × Int × Unit) (x12 : (Int × Unit) × (Unit)) : Option (((Int × Unit) × (Unit)) ⊕ (((Unit) × (Unit)) ⊕ ((Bool × Unit) × (Unit)))) :=
  bif (decide (x12.1.1 < ((r2.length : Nat) : Int))) then (req (inb x12.1.1 r2.length) (bif ((decide ((getD' r2 ((x12.1.1).toNat) (0 : Int)) < (0 : Int))) || (decide ((getD' r2 ((x12.1.1).toNat) (0 : Int)) > (1000 : Int)))) then some (Sum.inr (Sum.inr ((((((decide (x12.1.1 ≥ (0 : Int))) || ((p.2.2.1 != (0 : Int)) && (p.2.2.1 != (1 : Int)))) || (decide (p.2.2.2.1 < (0 : Int)))) || (decide (p.2.2.2.1 > (200 : Int)))), ()), ())))
  else some (Sum.inl (((w64 (x12.1.1 + (1 : Int))), ()), ()))))
  else some (Sum.inr (Sum.inl ((), ())))
noncomputable def placeSound_L4 (p : (List Int) × ((List Int) × (List Int) × Unit) × Int × Int × Unit) (r : ByteArray × Int × Int × (List (Int × Int × Int × (List (Int × Int × Int × Int × Unit)) × Unit)) × (List Int) × Bool × Bool × (List (Int × Int × Int × Bool × Unit)) × Int × Int × Int × Unit) (r2 : List Int) (x10 : (Int × Unit) × (Unit)) : Option (((Int × Unit) × (Unit)) ⊕ (((Unit) × (Unit)) ⊕ ((Bool × Unit) × (Unit)))) :=
  bif (decide (x10.1.1 < ((p.1.length : Nat) : Int))) then (Option.bind (at? p.1 x10.1.1) fun d11 =>
  bif ((decide (d11 < (0 : Int))) || (decide (d11 > (w64 ((2 : Int) * ((r.2.2.2.1.length : Nat) : Int)))))) then (Option.map Sum.inr (Option.map Sum.inr (bif (decide (x10.1.1 ≥ (0 : Int))) then some ((true, ()), ())
  else Option.bind (α := ((Unit) × (Unit)) ⊕ ((Bool × Unit) × (Unit))) (iterW (placeSound_L5 r2 p) (((0 : Int), ()), ())) (Sum.elim (fun x13 =>
  some ((((((p.2.2.1 != (0 : Int)) && (p.2.2.1 != (1 : Int))) || (decide (p.2.2.2.1 < (0 : Int)))) || (decide (p.2.2.2.1 > (200 : Int)))), ()), ())) some))))
  else some (Sum.inl (((w64 (x10.1.1 + (1 : Int))), ()), ())))
  else some (Sum.inr (Sum.inl ((), ())))
noncomputable def placeSound_L6 (r2 : List Int) (p : (List Int) × ((List Int) × (List Int) × Unit) × Int × Int × Unit) (x15 : (Int × Unit) × (Unit)) : Option (((Int × Unit) × (Unit)) ⊕ (((Unit) × (Unit)) ⊕ ((Bool × Unit) × (Unit)))) :=
  bif (decide (x15.1.1 < ((r2.length : Nat) : Int))) then (req (inb x15.1.1 r2.length) (bif ((decide ((getD' r2 ((x15.1.1).toNat) (0 : Int)) < (0 : Int))) || (decide ((getD' r2 ((x15.1.1).toNat) (0 : Int)) > (1000 : Int)))) then some (Sum.inr (Sum.inr ((((((decide (x15.1.1 ≥ (0 : Int))) || ((p.2.2.1 != (0 : Int)) && (p.2.2.1 != (1 : Int)))) || (decide (p.2.2.2.1 < (0 : Int)))) || (decide (p.2.2.2.1 > (200 : Int)))), ()), ())))
  else some (Sum.inl (((w64 (x15.1.1 + (1 : Int))), ()), ()))))
  else some (Sum.inr (Sum.inl ((), ())))
noncomputable def placeSound (r : ByteArray × Int × Int × (List (Int × Int × Int × (List (Int × Int × Int × Int × Unit)) × Unit)) × (List Int) × Bool × Bool × (List (Int × Int × Int × Bool × Unit)) × Int × Int × Int × Unit) (p : (List Int) × ((List Int) × (List Int) × Unit) × Int × Int × Unit) : Option (Int) :=
  bif (((((p.1.length : Nat) : Int) != (w64 (r.2.1 * r.2.2.1))) || (((p.2.1.1.length : Nat) : Int) != ((r.2.2.2.1.length : Nat) : Int))) || (((p.2.1.2.1.length : Nat) : Int) != ((r.2.2.2.1.length : Nat) : Int))) then some (3 : Int)
  else Option.bind (slicesConcat_int ([p.2.1.1, p.2.1.2.1])) fun r2 =>
  Option.bind (agree (Option.bind (α := ((Unit) × (Unit)) ⊕ ((Bool × Unit) × (Unit))) (iterW (placeSound_L1 p r r2) (((0 : Int), ()), ())) (Sum.elim (fun x7 =>
  Option.bind (α := ((Unit) × (Unit)) ⊕ ((Bool × Unit) × (Unit))) (iterW (placeSound_L3 r2 p) (((0 : Int), ()), ())) (Sum.elim (fun x9 =>
  some ((((((p.2.2.1 != (0 : Int)) && (p.2.2.1 != (1 : Int))) || (decide (p.2.2.2.1 < (0 : Int)))) || (decide (p.2.2.2.1 > (200 : Int)))), ()), ())) some)) some)) (Option.bind (α := ((Unit) × (Unit)) ⊕ ((Bool × Unit) × (Unit))) (iterW (placeSound_L4 p r r2) (((0 : Int), ()), ())) (Sum.elim (fun x14 =>
  Option.bind (α := ((Unit) × (Unit)) ⊕ ((Bool × Unit) × (Unit))) (iterW (placeSound_L6 r2 p) (((0 : Int), ()), ())) (Sum.elim (fun x16 =>
  some ((((((p.2.2.1 != (0 : Int)) && (p.2.2.1 != (1 : Int))) || (decide (p.2.2.2.1 < (0 : Int)))) || (decide (p.2.2.2.1 > (200 : Int)))), ()), ())) some)) some))) fun x17 =>
  bif x17.1.1 then some (4 : Int)
  else some (0 : Int)
noncomputable def placeCheck (r : ByteArray × Int × Int × (List (Int × Int × Int × (List (Int × Int × Int × Int × Unit)) × Unit)) × (List Int) × Bool × Bool × (List (Int × Int × Int × Bool × Unit)) × Int × Int × Int × Unit) (p : (List Int) × ((List Int) × (List Int) × Unit) × Int × Int × Unit) : Option (Int) :=
  Option.bind (rulesCheck r) fun r3 =>
  bif (r3 != (0 : Int)) then some r3
  else Option.bind (placeSound r p) fun r4 =>
  some r4
noncomputable def ref1In_o (n : Int) (low : Int) (high : Int) : Option (Bool) :=
  some ((decide (n ≥ low)) && (decide (n ≤ high)))
def ref1In (n : Int) (low : Int) (high : Int) : Bool :=
  ((decide (n ≥ low)) && (decide (n ≤ high)))
theorem ref1In_eq (n : Int) (low : Int) (high : Int) : ref1In_o n low high = some (ref1In n low high) := by
  unfold ref1In_o ref1In
  first | rfl | simp only [cond_some]
noncomputable def ref1Named_L1 (s : ByteArray) (x1 : (Int × Unit) × (Unit)) : Option (((Int × Unit) × (Unit)) ⊕ (((Unit) × (Unit)) ⊕ Bool)) :=
  bif (decide (x1.1.1 < ((s.size : Nat) : Int))) then (Option.bind (strAt s x1.1.1) fun c2 =>
  Option.bind (gopt (!(ref1In (w64 ((c2.toNat : Nat) : Int)) (48 : Int) (57 : Int))) 0 (strAt s x1.1.1)) fun c3 =>
  bif (((!(ref1In (w64 ((c2.toNat : Nat) : Int)) (48 : Int) (57 : Int))) && (!(ref1In (w64 ((c3.toNat : Nat) : Int)) (65 : Int) (90 : Int)))) || ((ref1In (w64 ((c2.toNat : Nat) : Int)) (48 : Int) (57 : Int)) && (x1.1.1 == (0 : Int)))) then some (Sum.inr (Sum.inr false))
  else some (Sum.inl (((w64 (x1.1.1 + (1 : Int))), ()), ())))
  else some (Sum.inr (Sum.inl ((), ())))
noncomputable def ref1Named (s : ByteArray) : Option (Bool) :=
  Option.bind (α := ((Unit) × (Unit)) ⊕ Bool) (iterW (ref1Named_L1 s) (((0 : Int), ()), ())) (Sum.elim (fun x4 =>
  some (ref1In ((s.size : Nat) : Int) (1 : Int) (8 : Int))) some)
noncomputable def ref1PieceError_L1 (i : Int) (l : List (Int × Int × Int × (List (Int × Int × Int × Int × Unit)) × Unit)) (d2 : Int × Int × Int × (List (Int × Int × Int × Int × Unit)) × Unit) (x3 : (Int × Unit) × (Unit)) : Option (((Int × Unit) × (Unit)) ⊕ (((Unit) × (Unit)) ⊕ Int)) :=
  bif (decide (x3.1.1 < i)) then (Option.bind (at? l x3.1.1) fun d4 =>
  bif (d4.1 == d2.1) then some (Sum.inr (Sum.inr (7 : Int)))
  else some (Sum.inl (((w64 (x3.1.1 + (1 : Int))), ()), ())))
  else some (Sum.inr (Sum.inl ((), ())))
noncomputable def ref1PieceError_L2 (d2 : Int × Int × Int × (List (Int × Int × Int × Int × Unit)) × Unit) (x6 : (Int × Unit) × (Unit)) : Option (((Int × Unit) × (Unit)) ⊕ (((Unit) × (Unit)) ⊕ Int)) :=
  bif (decide (x6.1.1 < ((d2.2.2.2.1.length : Nat) : Int))) then (Option.bind (at? d2.2.2.2.1 x6.1.1) fun d7 =>
  bif (((((!(ref1In d7.1 (-7 : Int) (7 : Int))) || (!(ref1In d7.2.1 (-7 : Int) (7 : Int)))) || ((d7.1 == (0 : Int)) && (d7.2.1 == (0 : Int)))) || (!(ref1In d7.2.2.1 (1 : Int) (7 : Int)))) || (!(ref1In d7.2.2.2.1 (0 : Int) (2 : Int)))) then some (Sum.inr (Sum.inr (4 : Int)))
  else some (Sum.inl (((w64 (x6.1.1 + (1 : Int))), ()), ())))
  else some (Sum.inr (Sum.inl ((), ())))
noncomputable def ref1PieceError (l : List (Int × Int × Int × (List (Int × Int × Int × Int × Unit)) × Unit)) (i : Int) : Option (Int) :=
  Option.bind (at? l i) fun d2 =>
  bif (!(ref1In (w64 d2.1) (65 : Int) (90 : Int))) then some (6 : Int)
  else Option.bind (α := ((Unit) × (Unit)) ⊕ Int) (iterW (ref1PieceError_L1 i l d2) (((0 : Int), ()), ())) (Sum.elim (fun x5 =>
  bif ((!(ref1In d2.2.1 (0 : Int) (64 : Int))) || (!(ref1In d2.2.2.1 (0 : Int) ((l.length : Nat) : Int)))) then some (4 : Int)
  else bif (decide (((d2.2.2.2.1.length : Nat) : Int) > (16 : Int))) then some (2 : Int)
  else Option.bind (α := ((Unit) × (Unit)) ⊕ Int) (iterW (ref1PieceError_L2 d2) (((0 : Int), ()), ())) (Sum.elim (fun x8 =>
  some (0 : Int)) some)) some)
noncomputable def ref1RulesError_L1 (r : ByteArray × Int × Int × (List (Int × Int × Int × (List (Int × Int × Int × Int × Unit)) × Unit)) × (List Int) × Bool × Bool × (List (Int × Int × Int × Bool × Unit)) × Int × Int × Int × Unit) (x3 : (Int × Unit) × (Unit)) : Option (((Int × Unit) × (Unit)) ⊕ (((Unit) × (Unit)) ⊕ Int)) :=
  bif (decide (x3.1.1 < ((r.2.2.2.1.length : Nat) : Int))) then (Option.bind (ref1PieceError r.2.2.2.1 x3.1.1) fun r4 =>
  bif (r4 != (0 : Int)) then some (Sum.inr (Sum.inr r4))
  else some (Sum.inl (((w64 (x3.1.1 + (1 : Int))), ()), ())))
  else some (Sum.inr (Sum.inl ((), ())))
noncomputable def ref1RulesError_L2 (r : ByteArray × Int × Int × (List (Int × Int × Int × (List (Int × Int × Int × Int × Unit)) × Unit)) × (List Int) × Bool × Bool × (List (Int × Int × Int × Bool × Unit)) × Int × Int × Int × Unit) (x6 : (Int × Unit) × (Unit)) : Option (((Int × Unit) × (Unit)) ⊕ (((Unit) × (Unit)) ⊕ Int)) :=
  bif (decide (x6.1.1 < ((r.2.2.2.2.1.length : Nat) : Int))) then (Option.bind (at? r.2.2.2.2.1 x6.1.1) fun d7 =>
  bif (!(ref1In d7 (0 : Int) (w64 ((2 : Int) * ((r.2.2.2.1.length : Nat) : Int))))) then some (Sum.inr (Sum.inr (4 : Int)))
  else some (Sum.inl (((w64 (x6.1.1 + (1 : Int))), ()), ())))
  else some (Sum.inr (Sum.inl ((), ())))
noncomputable def ref1RulesError_L3 (r : ByteArray × Int × Int × (List (Int × Int × Int × (List (Int × Int × Int × Int × Unit)) × Unit)) × (List Int) × Bool × Bool × (List (Int × Int × Int × Bool × Unit)) × Int × Int × Int × Unit) (x9 : (Int × Unit) × (Unit)) : Option (((Int × Unit) × (Unit)) ⊕ (((Unit) × (Unit)) ⊕ Int)) :=
  bif (decide (x9.1.1 < ((r.2.2.2.2.2.2.2.1.length : Nat) : Int))) then (Option.bind (at? r.2.2.2.2.2.2.2.1 x9.1.1) fun d10 =>
  bif (!(ref1In d10.1 (0 : Int) (2 : Int))) then some (Sum.inr (Sum.inr (1 : Int)))
  else Option.bind (bif (d10.1 == (1 : Int)) then some (((d10.2.2.1 == (0 : Int)), ()), ())
  else some (((ref1In d10.2.2.1 (1 : Int) (64 : Int)), ()), ())) fun x11 =>
  Option.bind (bif (d10.1 == (0 : Int)) then some (((d10.2.1 == (0 : Int)), ()), ())
  else some (((ref1In d10.2.1 (0 : Int) (w64 (((r.2.2.2.1.length : Nat) : Int) - (1 : Int)))), ()), ())) fun x12 =>
  bif ((!x11.1.1) || (!x12.1.1)) then some (Sum.inr (Sum.inr (4 : Int)))
  else some (Sum.inl (((w64 (x9.1.1 + (1 : Int))), ()), ())))
  else some (Sum.inr (Sum.inl ((), ())))
noncomputable def ref1RulesError (r : ByteArray × Int × Int × (List (Int × Int × Int × (List (Int × Int × Int × Int × Unit)) × Unit)) × (List Int) × Bool × Bool × (List (Int × Int × Int × Bool × Unit)) × Int × Int × Int × Unit) : Option (Int) :=
  Option.bind (ref1Named r.1) fun r2 =>
  bif (!r2) then some (6 : Int)
  else bif ((!(ref1In r.2.1 (1 : Int) (8 : Int))) || (!(ref1In r.2.2.1 (1 : Int) (8 : Int)))) then some (4 : Int)
  else bif (((r.2.2.2.1.length : Nat) : Int) == (0 : Int)) then some (8 : Int)
  else bif (decide (((r.2.2.2.1.length : Nat) : Int) > (6 : Int))) then some (2 : Int)
  else Option.bind (α := ((Unit) × (Unit)) ⊕ Int) (iterW (ref1RulesError_L1 r) (((0 : Int), ()), ())) (Sum.elim (fun x5 =>
  bif (((r.2.2.2.2.1.length : Nat) : Int) != (w64 (r.2.1 * r.2.2.1))) then some (3 : Int)
  else Option.bind (α := ((Unit) × (Unit)) ⊕ Int) (iterW (ref1RulesError_L2 r) (((0 : Int), ()), ())) (Sum.elim (fun x8 =>
  bif (decide (((r.2.2.2.2.2.2.2.1.length : Nat) : Int) > (6 : Int))) then some (2 : Int)
  else Option.bind (α := ((Unit) × (Unit)) ⊕ Int) (iterW (ref1RulesError_L3 r) (((0 : Int), ()), ())) (Sum.elim (fun x13 =>
  bif (((!(ref1In r.2.2.2.2.2.2.2.2.1 (0 : Int) (2 : Int))) || (!(ref1In r.2.2.2.2.2.2.2.2.2.1 (0 : Int) (200 : Int)))) || ((r.2.2.2.2.2.2.2.2.2.2.1 != (0 : Int)) && (!(ref1In r.2.2.2.2.2.2.2.2.2.2.1 (2 : Int) (5 : Int))))) then some (4 : Int)
  else some (0 : Int)) some)) some)) some)
noncomputable def ref1PlaceError_L1 (p : (List Int) × ((List Int) × (List Int) × Unit) × Int × Int × Unit) (r : ByteArray × Int × Int × (List (Int × Int × Int × (List (Int × Int × Int × Int × Unit)) × Unit)) × (List Int) × Bool × Bool × (List (Int × Int × Int × Bool × Unit)) × Int × Int × Int × Unit) (x3 : (Bool × Int × Unit) × (Unit)) : Option (((Bool × Int × Unit) × (Unit)) ⊕ ((Bool × Unit) × (Unit))) :=
  bif (decide (x3.1.2.1 < ((p.1.length : Nat) : Int))) then (Option.bind (at? p.1 x3.1.2.1) fun d4 =>
  some (Sum.inl (((x3.1.1 && (ref1In d4 (0 : Int) (w64 ((2 : Int) * ((r.2.2.2.1.length : Nat) : Int))))), (w64 (x3.1.2.1 + (1 : Int))), ()), ())))
  else some (Sum.inr ((x3.1.1, ()), ()))
noncomputable def ref1PlaceError_L3 (p : (List Int) × ((List Int) × (List Int) × Unit) × Int × Int × Unit) (x6 : (Bool × Int × Unit) × (Unit)) (x7 : (Bool × Int × Unit) × (Unit)) : Option (((Bool × Int × Unit) × (Unit)) ⊕ ((Bool × Unit) × (Unit))) :=
  bif (decide (x7.1.2.1 < (((getD' [p.2.1.1, p.2.1.2.1] (x6.1.2.1).toNat []).length : Nat) : Int))) then (Option.bind (at? (getD' [p.2.1.1, p.2.1.2.1] (x6.1.2.1).toNat []) x7.1.2.1) fun d8 =>
  some (Sum.inl (((x7.1.1 && (ref1In d8 (0 : Int) (1000 : Int))), (w64 (x7.1.2.1 + (1 : Int))), ()), ())))
  else some (Sum.inr ((x7.1.1, ()), ()))
noncomputable def ref1PlaceError_L2 (p : (List Int) × ((List Int) × (List Int) × Unit) × Int × Int × Unit) (x6 : (Bool × Int × Unit) × (Unit)) : Option (((Bool × Int × Unit) × (Unit)) ⊕ ((Bool × Unit) × (Unit))) :=
  bif (decide (x6.1.2.1 < (2 : Int))) then (Option.bind (req (inb x6.1.2.1 2) (Option.bind (iterW (ref1PlaceError_L3 p x6) ((x6.1.1, (0 : Int), ()), ())) fun x9 =>
  some ((x9.1.1, ()), ()))) fun x10 =>
  some (Sum.inl ((x10.1.1, (w64 (x6.1.2.1 + (1 : Int))), ()), ())))
  else some (Sum.inr ((x6.1.1, ()), ()))
noncomputable def ref1PlaceError (r : ByteArray × Int × Int × (List (Int × Int × Int × (List (Int × Int × Int × Int × Unit)) × Unit)) × (List Int) × Bool × Bool × (List (Int × Int × Int × Bool × Unit)) × Int × Int × Int × Unit) (p : (List Int) × ((List Int) × (List Int) × Unit) × Int × Int × Unit) : Option (Int) :=
  Option.bind (ref1RulesError r) fun r2 =>
  bif (r2 != (0 : Int)) then some r2
  else bif (((((p.1.length : Nat) : Int) != (w64 (r.2.1 * r.2.2.1))) || (((p.2.1.1.length : Nat) : Int) != ((r.2.2.2.1.length : Nat) : Int))) || (((p.2.1.2.1.length : Nat) : Int) != ((r.2.2.2.1.length : Nat) : Int))) then some (3 : Int)
  else Option.bind (iterW (ref1PlaceError_L1 p r) ((((ref1In p.2.2.1 (0 : Int) (1 : Int)) && (ref1In p.2.2.2.1 (0 : Int) (200 : Int))), (0 : Int), ()), ())) fun x5 =>
  Option.bind (iterW (ref1PlaceError_L2 p) ((x5.1.1, (0 : Int), ()), ())) fun x11 =>
  bif (!x11.1.1) then some (4 : Int)
  else some (0 : Int)
noncomputable def ref1SameInts_L1 (a : List Int) (b : List Int) (x1 : (Int × Unit) × (Unit)) : Option (((Int × Unit) × (Unit)) ⊕ (((Unit) × (Unit)) ⊕ Bool)) :=
  bif (decide (x1.1.1 < ((a.length : Nat) : Int))) then (Option.bind (at? a x1.1.1) fun d2 =>
  Option.bind (at? b x1.1.1) fun d3 =>
  bif (d2 != d3) then some (Sum.inr (Sum.inr false))
  else some (Sum.inl (((w64 (x1.1.1 + (1 : Int))), ()), ())))
  else some (Sum.inr (Sum.inl ((), ())))
noncomputable def ref1SameInts (a : List Int) (b : List Int) : Option (Bool) :=
  bif (((a.length : Nat) : Int) != ((b.length : Nat) : Int)) then some false
  else Option.bind (α := ((Unit) × (Unit)) ⊕ Bool) (iterW (ref1SameInts_L1 a b) (((0 : Int), ()), ())) (Sum.elim (fun x4 =>
  some true) some)
noncomputable def ref1SamePlace (p : (List Int) × ((List Int) × (List Int) × Unit) × Int × Int × Unit) (q : (List Int) × ((List Int) × (List Int) × Unit) × Int × Int × Unit) : Option (Bool) :=
  Option.bind (gopt ((p.2.2.1 == q.2.2.1) && (p.2.2.2.1 == q.2.2.2.1)) false (ref1SameInts p.1 q.1)) fun r4 =>
  Option.bind (gopt (((p.2.2.1 == q.2.2.1) && (p.2.2.2.1 == q.2.2.2.1)) && r4) false (ref1SameInts p.2.1.1 q.2.1.1)) fun r5 =>
  Option.bind (gopt ((((p.2.2.1 == q.2.2.1) && (p.2.2.2.1 == q.2.2.2.1)) && r4) && r5) false (ref1SameInts p.2.1.2.1 q.2.1.2.1)) fun r6 =>
  some (((((p.2.2.1 == q.2.2.1) && (p.2.2.2.1 == q.2.2.2.1)) && r4) && r5) && r6)
noncomputable def ref1Begin_L2 (r : ByteArray × Int × Int × (List (Int × Int × Int × (List (Int × Int × Int × Int × Unit)) × Unit)) × (List Int) × Bool × Bool × (List (Int × Int × Int × Bool × Unit)) × Int × Int × Int × Unit) (x1 : (Int × Unit) × (((List Int) × (List Int) × (List Int) × Int × Int × Unit) × Unit)) (x2 : (Int × Unit) × (((List Int) × (List Int) × (List Int) × Int × Int × Unit) × Unit)) : Option (((Int × Unit) × (((List Int) × (List Int) × (List Int) × Int × Int × Unit) × Unit)) ⊕ ((Unit) × (((List Int) × (List Int) × (List Int) × Int × Int × Unit) × Unit))) :=
  bif (decide (x2.1.1 < ((r.2.2.2.1.length : Nat) : Int))) then (Option.bind (at? r.2.2.2.1 x2.1.1) fun d3 =>
  Option.bind (req (inb x1.1.1 2) (bif (x1.1.1 == (0 : Int)) then (req (room (x2.2.1.2.1.length + ([d3.2.1]).length) 8) (req (inb x1.1.1 2) (bif (x1.1.1 == (0 : Int)) then some ((), ((x2.2.1.1, ((x2.2.1.2.1 ++ [d3.2.1]), (x2.2.1.2.2.1, x2.2.1.2.2.2))), ()))
  else none)))
  else req (room (x2.2.1.2.2.1.length + ([d3.2.1]).length) 8) (req (inb x1.1.1 2) (bif (x1.1.1 == (0 : Int)) then none
  else some ((), ((x2.2.1.1, (x2.2.1.2.1, ((x2.2.1.2.2.1 ++ [d3.2.1]), x2.2.1.2.2.2))), ())))))) fun x4 =>
  some (Sum.inl (((w64 (x2.1.1 + (1 : Int))), ()), ((x4.2.1.1, (x4.2.1.2.1, (x4.2.1.2.2.1, x4.2.1.2.2.2))), ()))))
  else some (Sum.inr ((), ((x2.2.1.1, (x2.2.1.2.1, (x2.2.1.2.2.1, x2.2.1.2.2.2))), ())))
noncomputable def ref1Begin_L1 (r : ByteArray × Int × Int × (List (Int × Int × Int × (List (Int × Int × Int × Int × Unit)) × Unit)) × (List Int) × Bool × Bool × (List (Int × Int × Int × Bool × Unit)) × Int × Int × Int × Unit) (x1 : (Int × Unit) × (((List Int) × (List Int) × (List Int) × Int × Int × Unit) × Unit)) : Option (((Int × Unit) × (((List Int) × (List Int) × (List Int) × Int × Int × Unit) × Unit)) ⊕ ((Unit) × (((List Int) × (List Int) × (List Int) × Int × Int × Unit) × Unit))) :=
  bif (decide (x1.1.1 < (2 : Int))) then (Option.bind (Option.bind (iterW (ref1Begin_L2 r x1) (((0 : Int), ()), ((x1.2.1.1, (x1.2.1.2.1, (x1.2.1.2.2.1, x1.2.1.2.2.2))), ()))) fun x5 =>
  some ((), ((x5.2.1.1, (x5.2.1.2.1, (x5.2.1.2.2.1, x5.2.1.2.2.2))), ()))) fun x6 =>
  some (Sum.inl (((w64 (x1.1.1 + (1 : Int))), ()), ((x6.2.1.1, (x6.2.1.2.1, (x6.2.1.2.2.1, x6.2.1.2.2.2))), ()))))
  else some (Sum.inr ((), ((x1.2.1.1, (x1.2.1.2.1, (x1.2.1.2.2.1, x1.2.1.2.2.2))), ())))
noncomputable def ref1Begin (r : ByteArray × Int × Int × (List (Int × Int × Int × (List (Int × Int × Int × Int × Unit)) × Unit)) × (List Int) × Bool × Bool × (List (Int × Int × Int × Bool × Unit)) × Int × Int × Int × Unit) : Option ((List Int) × ((List Int) × (List Int) × Unit) × Int × Int × Unit) :=
  req (room (([] : List Int).length + r.2.2.2.2.1.length) 8) (Option.bind (iterW (ref1Begin_L1 r) (((0 : Int), ()), (((([] : List Int) ++ r.2.2.2.2.1), (([] : List Int), (([] : List Int), ((0 : Int), ((0 : Int), ()))))), ()))) fun x7 =>
  some (x7.2.1.1, ((x7.2.1.2.1, (x7.2.1.2.2.1, ())), x7.2.1.2.2.2)))
noncomputable def law1Three_o : Option (ByteArray × Int × Int × (List (Int × Int × Int × (List (Int × Int × Int × Int × Unit)) × Unit)) × (List Int) × Bool × Bool × (List (Int × Int × Int × Bool × Unit)) × Int × Int × Int × Unit) :=
  some ((ByteArray.mk #[84, 73, 67]), ((3 : Int), ((3 : Int), ([((65 : Int), ((5 : Int), ((0 : Int), (([] : List (Int × Int × Int × Int × Unit)), ()))))], ((List.replicate 9 (0 : Int)), (false, (false, ([((0 : Int), ((0 : Int), ((3 : Int), (false, ()))))], ((2 : Int), ((0 : Int), ((0 : Int), ())))))))))))
def law1Three : ByteArray × Int × Int × (List (Int × Int × Int × (List (Int × Int × Int × Int × Unit)) × Unit)) × (List Int) × Bool × Bool × (List (Int × Int × Int × Bool × Unit)) × Int × Int × Int × Unit :=
  ((ByteArray.mk #[84, 73, 67]), ((3 : Int), ((3 : Int), ([((65 : Int), ((5 : Int), ((0 : Int), (([] : List (Int × Int × Int × Int × Unit)), ()))))], ((List.replicate 9 (0 : Int)), (false, (false, ([((0 : Int), ((0 : Int), ((3 : Int), (false, ()))))], ((2 : Int), ((0 : Int), ((0 : Int), ())))))))))))
theorem law1Three_eq : law1Three_o = some (law1Three) := by
  unfold law1Three_o law1Three
  first | rfl | simp only [cond_some]
end Go.Proofs.YtjikbbjjnndcbaaDoor
