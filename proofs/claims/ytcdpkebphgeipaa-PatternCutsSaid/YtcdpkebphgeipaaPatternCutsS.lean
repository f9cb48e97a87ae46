/- What functions compute, in plain Lean: PatternCuts. No condition of its own. -/
import Derived.Test.YtcdpkebphgeipaaDen0
namespace Go.Proofs.Ytcdpkebphgeipaa
open Go.Den
set_option linter.unusedVariables false
set_option maxRecDepth 100000
noncomputable def law3Tic_o : Option (ByteArray × Int × Int × (List (Int × Int × Int × (List (Int × Int × Int × Int × Unit)) × Unit)) × (List Int) × Bool × Bool × (List (Int × Int × Int × Bool × Unit)) × Int × Int × Int × Unit) :=
  some ((ByteArray.mk #[84, 73, 67]), ((3 : Int), ((3 : Int), ([((83 : Int), ((5 : Int), ((0 : Int), ([], ()))))], ((List.replicate 9 (0 : Int)), (false, (false, ([((0 : Int), ((0 : Int), ((3 : Int), (false, ()))))], ((2 : Int), ((0 : Int), ((0 : Int), ())))))))))))
def law3Tic : ByteArray × Int × Int × (List (Int × Int × Int × (List (Int × Int × Int × Int × Unit)) × Unit)) × (List Int) × Bool × Bool × (List (Int × Int × Int × Bool × Unit)) × Int × Int × Int × Unit :=
  ((ByteArray.mk #[84, 73, 67]), ((3 : Int), ((3 : Int), ([((83 : Int), ((5 : Int), ((0 : Int), ([], ()))))], ((List.replicate 9 (0 : Int)), (false, (false, ([((0 : Int), ((0 : Int), ((3 : Int), (false, ()))))], ((2 : Int), ((0 : Int), ((0 : Int), ())))))))))))
theorem law3Tic_eq : law3Tic_o = some (law3Tic) := by
  unfold law3Tic_o law3Tic
  first | rfl | simp only [cond_some]
noncomputable def rulesName_L1 (s : ByteArray) (x1 : (Int × Unit) × (Unit)) : Option (((Int × Unit) × (Unit)) ⊕ (((Unit) × (Unit)) ⊕ Bool)) :=
  bif (decide (x1.1.1 < ((s.size : Nat) : Int))) then (Option.bind (strAt s x1.1.1) fun c2 =>
  Option.bind (gopt (decide (((c2.toNat : Nat) : Int) ≥ (65 : Int))) 0 (strAt s x1.1.1)) fun c3 =>
  Option.bind (gopt ((!(x1.1.1 == (0 : Int))) && (!((decide (((c2.toNat : Nat) : Int) ≥ (65 : Int))) && (decide (((c3.toNat : Nat) : Int) ≤ (90 : Int)))))) 0 (strAt s x1.1.1)) fun c4 =>
  Option.bind (gopt ((!((x1.1.1 == (0 : Int)) || (decide (((c4.toNat : Nat) : Int) < (48 : Int))))) && (!((decide (((c2.toNat : Nat) : Int) ≥ (65 : Int))) && (decide (((c3.toNat : Nat) : Int) ≤ (90 : Int)))))) 0 (strAt s x1.1.1)) fun c5 =>
  bif ((!((decide (((c2.toNat : Nat) : Int) ≥ (65 : Int))) && (decide (((c3.toNat : Nat) : Int) ≤ (90 : Int))))) && (((x1.1.1 == (0 : Int)) || (decide (((c4.toNat : Nat) : Int) < (48 : Int)))) || (decide (((c5.toNat : Nat) : Int) > (57 : Int))))) then some (Sum.inr (Sum.inr false))
  else some (Sum.inl (((w64 (x1.1.1 + (1 : Int))), ()), ())))
  else some (Sum.inr (Sum.inl ((), ())))
noncomputable def rulesName (s : ByteArray) : Option (Bool) :=
  Option.bind (α := ((Unit) × (Unit)) ⊕ Bool) (iterW (rulesName_L1 s) (((0 : Int), ()), ())) (Sum.elim (fun x6 =>
  some ((!(s.toList == (ByteArray.mk #[]).toList)) && (decide (((s.size : Nat) : Int) ≤ (8 : Int))))) some)
noncomputable def rulesWithin_o (n : Int) (low : Int) (high : Int) : Option (Bool) :=
  some ((decide (n ≥ low)) && (decide (n ≤ high)))
def rulesWithin (n : Int) (low : Int) (high : Int) : Bool :=
  ((decide (n ≥ low)) && (decide (n ≤ high)))
theorem rulesWithin_eq (n : Int) (low : Int) (high : Int) : rulesWithin_o n low high = some (rulesWithin n low high) := by
  unfold rulesWithin_o rulesWithin
  first | rfl | simp only [cond_some]
noncomputable def rulesPieces_L3 (d2 : Int × Int × Int × (List (Int × Int × Int × Int × Unit)) × Unit) (x5 : (Int × Unit) × (Unit)) : Option (((Int × Unit) × (Unit)) ⊕ (((Unit) × (Unit)) ⊕ (((Unit) × (Unit)) ⊕ (((Int × Unit) × (Unit)) ⊕ (((Unit) × (Unit)) ⊕ Int))))) :=
  bif (decide (x5.1.1 < ((d2.2.2.2.1.length : Nat) : Int))) then (Option.bind (at? d2.2.2.2.1 x5.1.1) fun d6 =>
  bif (((((!(rulesWithin d6.1 (-7 : Int) (7 : Int))) || (!(rulesWithin d6.2.1 (-7 : Int) (7 : Int)))) || ((d6.1 == (0 : Int)) && (d6.2.1 == (0 : Int)))) || (!(rulesWithin d6.2.2.1 (1 : Int) (7 : Int)))) || (!(rulesWithin d6.2.2.2.1 (0 : Int) (2 : Int)))) then some (Sum.inr (Sum.inr (Sum.inr (Sum.inr (Sum.inr (4 : Int))))))
  else some (Sum.inl (((w64 (x5.1.1 + (1 : Int))), ()), ())))
  else some (Sum.inr (Sum.inl ((), ())))
noncomputable def rulesPieces_L2 (r : ByteArray × Int × Int × (List (Int × Int × Int × (List (Int × Int × Int × Int × Unit)) × Unit)) × (List Int) × Bool × Bool × (List (Int × Int × Int × Bool × Unit)) × Int × Int × Int × Unit) (x1 : (Int × Unit) × (Unit)) (d2 : Int × Int × Int × (List (Int × Int × Int × Int × Unit)) × Unit) (x3 : (Int × Unit) × (Unit)) : Option (((Int × Unit) × (Unit)) ⊕ (((Unit) × (Unit)) ⊕ (((Unit) × (Unit)) ⊕ (((Int × Unit) × (Unit)) ⊕ (((Unit) × (Unit)) ⊕ Int))))) :=
  bif (decide (x3.1.1 < ((((r.2.2.2.1.take (x1.1.1).toNat).drop 0).length : Nat) : Int))) then (Option.bind (at? ((r.2.2.2.1.take (x1.1.1).toNat).drop 0) x3.1.1) fun d4 =>
  bif (d4.1 == d2.1) then (Option.map Sum.inr (Option.map Sum.inr (bif (decide (x3.1.1 ≥ (0 : Int))) then some (Sum.inr (Sum.inr (Sum.inr (7 : Int))))
  else bif ((!(rulesWithin d2.2.1 (0 : Int) (64 : Int))) || (!(rulesWithin d2.2.2.1 (0 : Int) ((r.2.2.2.1.length : Nat) : Int)))) then some (Sum.inr (Sum.inr (Sum.inr (4 : Int))))
  else bif (decide (((d2.2.2.2.1.length : Nat) : Int) > (16 : Int))) then some (Sum.inr (Sum.inr (Sum.inr (2 : Int))))
  else Option.bind (α := ((Unit) × (Unit)) ⊕ (((Unit) × (Unit)) ⊕ (((Int × Unit) × (Unit)) ⊕ (((Unit) × (Unit)) ⊕ Int)))) (iterW (rulesPieces_L3 d2) (((0 : Int), ()), ())) (Sum.elim (fun x7 =>
  some (Sum.inl ((), ()))) some))))
  else some (Sum.inl (((w64 (x3.1.1 + (1 : Int))), ()), ())))
  else some (Sum.inr (Sum.inl ((), ())))
noncomputable def rulesPieces_L4 (d2 : Int × Int × Int × (List (Int × Int × Int × Int × Unit)) × Unit) (x9 : (Int × Unit) × (Unit)) : Option (((Int × Unit) × (Unit)) ⊕ (((Unit) × (Unit)) ⊕ (((Unit) × (Unit)) ⊕ (((Int × Unit) × (Unit)) ⊕ (((Unit) × (Unit)) ⊕ Int))))) :=
  bif (decide (x9.1.1 < ((d2.2.2.2.1.length : Nat) : Int))) then (Option.bind (at? d2.2.2.2.1 x9.1.1) fun d10 =>
  bif (((((!(rulesWithin d10.1 (-7 : Int) (7 : Int))) || (!(rulesWithin d10.2.1 (-7 : Int) (7 : Int)))) || ((d10.1 == (0 : Int)) && (d10.2.1 == (0 : Int)))) || (!(rulesWithin d10.2.2.1 (1 : Int) (7 : Int)))) || (!(rulesWithin d10.2.2.2.1 (0 : Int) (2 : Int)))) then some (Sum.inr (Sum.inr (Sum.inr (Sum.inr (Sum.inr (4 : Int))))))
  else some (Sum.inl (((w64 (x9.1.1 + (1 : Int))), ()), ())))
  else some (Sum.inr (Sum.inl ((), ())))
noncomputable def rulesPieces_L1 (r : ByteArray × Int × Int × (List (Int × Int × Int × (List (Int × Int × Int × Int × Unit)) × Unit)) × (List Int) × Bool × Bool × (List (Int × Int × Int × Bool × Unit)) × Int × Int × Int × Unit) (x1 : (Int × Unit) × (Unit)) : Option (((Int × Unit) × (Unit)) ⊕ (((Unit) × (Unit)) ⊕ Int)) :=
  bif (decide (x1.1.1 < ((r.2.2.2.1.length : Nat) : Int))) then (Option.bind (α := ((Unit) × (Unit)) ⊕ (((Int × Unit) × (Unit)) ⊕ (((Unit) × (Unit)) ⊕ Int))) (Option.bind (at? r.2.2.2.1 x1.1.1) fun d2 =>
  bif ((decide (d2.1 < (65 : Int))) || (decide (d2.1 > (90 : Int)))) then some (Sum.inr (Sum.inr (Sum.inr (6 : Int))))
  else req (boundsI (0 : Int) x1.1.1 r.2.2.2.1.length) (Option.bind (α := ((Unit) × (Unit)) ⊕ (((Unit) × (Unit)) ⊕ (((Int × Unit) × (Unit)) ⊕ (((Unit) × (Unit)) ⊕ Int)))) (iterW (rulesPieces_L2 r x1 d2) (((0 : Int), ()), ())) (Sum.elim (fun x8 =>
  bif ((!(rulesWithin d2.2.1 (0 : Int) (64 : Int))) || (!(rulesWithin d2.2.2.1 (0 : Int) ((r.2.2.2.1.length : Nat) : Int)))) then some (Sum.inr (Sum.inr (Sum.inr (4 : Int))))
  else bif (decide (((d2.2.2.2.1.length : Nat) : Int) > (16 : Int))) then some (Sum.inr (Sum.inr (Sum.inr (2 : Int))))
  else Option.bind (α := ((Unit) × (Unit)) ⊕ (((Unit) × (Unit)) ⊕ (((Int × Unit) × (Unit)) ⊕ (((Unit) × (Unit)) ⊕ Int)))) (iterW (rulesPieces_L4 d2) (((0 : Int), ()), ())) (Sum.elim (fun x11 =>
  some (Sum.inl ((), ()))) some)) some))) (Sum.elim (fun x12 =>
  some (Sum.inl (((w64 (x1.1.1 + (1 : Int))), ()), ()))) some))
  else some (Sum.inr (Sum.inl ((), ())))
noncomputable def rulesPieces (r : ByteArray × Int × Int × (List (Int × Int × Int × (List (Int × Int × Int × Int × Unit)) × Unit)) × (List Int) × Bool × Bool × (List (Int × Int × Int × Bool × Unit)) × Int × Int × Int × Unit) : Option (Int) :=
  bif (((r.2.2.2.1.length : Nat) : Int) == (0 : Int)) then some (8 : Int)
  else bif (decide (((r.2.2.2.1.length : Nat) : Int) > (6 : Int))) then some (2 : Int)
  else Option.bind (α := ((Unit) × (Unit)) ⊕ Int) (iterW (rulesPieces_L1 r) (((0 : Int), ()), ())) (Sum.elim (fun x13 =>
  some (0 : Int)) some)
noncomputable def rulesConditions_L1 (r : ByteArray × Int × Int × (List (Int × Int × Int × (List (Int × Int × Int × Int × Unit)) × Unit)) × (List Int) × Bool × Bool × (List (Int × Int × Int × Bool × Unit)) × Int × Int × Int × Unit) (x1 : (Int × Unit) × (Unit)) : Option (((Int × Unit) × (Unit)) ⊕ (((Unit) × (Unit)) ⊕ Int)) :=
  bif (decide (x1.1.1 < ((r.2.2.2.2.2.2.2.1.length : Nat) : Int))) then (Option.bind (at? r.2.2.2.2.2.2.2.1 x1.1.1) fun d2 =>
  Option.bind (α := ((Bool × Bool × Unit) × (Unit)) ⊕ (((Int × Unit) × (Unit)) ⊕ (((Unit) × (Unit)) ⊕ Int))) (bif (d2.1 == (0 : Int)) then some (Sum.inl (((rulesWithin d2.2.2.1 (1 : Int) (64 : Int)), (d2.2.1 == (0 : Int)), ()), ()))
  else Option.bind (α := ((Bool × Unit) × (Unit)) ⊕ (((Bool × Bool × Unit) × (Unit)) ⊕ (((Int × Unit) × (Unit)) ⊕ (((Unit) × (Unit)) ⊕ Int)))) (bif (d2.1 == (1 : Int)) then some (Sum.inl (((d2.2.2.1 == (0 : Int)), ()), ()))
  else bif (d2.1 == (2 : Int)) then some (Sum.inl (((rulesWithin d2.2.2.1 (1 : Int) (64 : Int)), ()), ()))
  else some (Sum.inr (Sum.inr (Sum.inr (Sum.inr (1 : Int)))))) (Sum.elim (fun x3 =>
  some (Sum.inl ((x3.1.1, (rulesWithin d2.2.1 (0 : Int) (w64 (((r.2.2.2.1.length : Nat) : Int) - (1 : Int)))), ()), ()))) some)) (Sum.elim (fun x4 =>
  bif ((!x4.1.1) || (!x4.1.2.1)) then some (Sum.inr (Sum.inr (4 : Int)))
  else some (Sum.inl (((w64 (x1.1.1 + (1 : Int))), ()), ()))) some))
  else some (Sum.inr (Sum.inl ((), ())))
noncomputable def rulesConditions (r : ByteArray × Int × Int × (List (Int × Int × Int × (List (Int × Int × Int × Int × Unit)) × Unit)) × (List Int) × Bool × Bool × (List (Int × Int × Int × Bool × Unit)) × Int × Int × Int × Unit) : Option (Int) :=
  bif (decide (((r.2.2.2.2.2.2.2.1.length : Nat) : Int) > (6 : Int))) then some (2 : Int)
  else Option.bind (α := ((Unit) × (Unit)) ⊕ Int) (iterW (rulesConditions_L1 r) (((0 : Int), ()), ())) (Sum.elim (fun x5 =>
  some (0 : Int)) some)
noncomputable def rulesCheck_L1 (r : ByteArray × Int × Int × (List (Int × Int × Int × (List (Int × Int × Int × Int × Unit)) × Unit)) × (List Int) × Bool × Bool × (List (Int × Int × Int × Bool × Unit)) × Int × Int × Int × Unit) (x6 : (Int × Unit) × (Unit)) : Option (((Int × Unit) × (Unit)) ⊕ (((Unit) × (Unit)) ⊕ Int)) :=
  bif (decide (x6.1.1 < ((r.2.2.2.2.1.length : Nat) : Int))) then (Option.bind (at? r.2.2.2.2.1 x6.1.1) fun d7 =>
  bif (!(rulesWithin d7 (0 : Int) (w64 ((2 : Int) * ((r.2.2.2.1.length : Nat) : Int))))) then (Option.map Sum.inr (Option.map Sum.inr (bif (decide (x6.1.1 ≥ (0 : Int))) then some (4 : Int)
  else Option.bind (rulesConditions r) fun r8 =>
  bif (r8 != (0 : Int)) then some r8
  else bif (((!(rulesWithin r.2.2.2.2.2.2.2.2.1 (0 : Int) (2 : Int))) || (!(rulesWithin r.2.2.2.2.2.2.2.2.2.1 (0 : Int) (200 : Int)))) || ((r.2.2.2.2.2.2.2.2.2.2.1 != (0 : Int)) && (!(rulesWithin r.2.2.2.2.2.2.2.2.2.2.1 (2 : Int) (5 : Int))))) then some (4 : Int)
  else some (0 : Int))))
  else some (Sum.inl (((w64 (x6.1.1 + (1 : Int))), ()), ())))
  else some (Sum.inr (Sum.inl ((), ())))
noncomputable def rulesCheck (r : ByteArray × Int × Int × (List (Int × Int × Int × (List (Int × Int × Int × Int × Unit)) × Unit)) × (List Int) × Bool × Bool × (List (Int × Int × Int × Bool × Unit)) × Int × Int × Int × Unit) : Option (Int) :=
  Option.bind (rulesName r.1) fun r4 =>
  bif (!r4) then some (6 : Int)
  else bif ((!(rulesWithin r.2.1 (1 : Int) (8 : Int))) || (!(rulesWithin r.2.2.1 (1 : Int) (8 : Int)))) then some (4 : Int)
  else Option.bind (rulesPieces r) fun r5 =>
  bif (r5 != (0 : Int)) then some r5
  else bif (((r.2.2.2.2.1.length : Nat) : Int) != (w64 (r.2.1 * r.2.2.1))) then some (3 : Int)
  else Option.bind (α := ((Unit) × (Unit)) ⊕ Int) (iterW (rulesCheck_L1 r) (((0 : Int), ()), ())) (Sum.elim (fun x9 =>
  Option.bind (rulesConditions r) fun r10 =>
  bif (r10 != (0 : Int)) then some r10
  else bif (((!(rulesWithin r.2.2.2.2.2.2.2.2.1 (0 : Int) (2 : Int))) || (!(rulesWithin r.2.2.2.2.2.2.2.2.2.1 (0 : Int) (200 : Int)))) || ((r.2.2.2.2.2.2.2.2.2.2.1 != (0 : Int)) && (!(rulesWithin r.2.2.2.2.2.2.2.2.2.2.1 (2 : Int) (5 : Int))))) then some (4 : Int)
  else some (0 : Int)) some)
noncomputable def slicesClone_int (s : List Int) : Option (List Int) :=
  bif (s.isEmpty) then (agree (some ([])) (req (room (([] : List Int).length + s.length) 8) (some (([] : List Int) ++ s))))
  else req (room (([] : List Int).length + s.length) 8) (some (([] : List Int) ++ s))
noncomputable def placeBegin_L1 (r : ByteArray × Int × Int × (List (Int × Int × Int × (List (Int × Int × Int × Int × Unit)) × Unit)) × (List Int) × Bool × Bool × (List (Int × Int × Int × Bool × Unit)) × Int × Int × Int × Unit) (x5 : (Int × Unit) × (((List Int) × (List Int) × (List Int) × Int × Int × Unit) × Unit)) : Option (((Int × Unit) × (((List Int) × (List Int) × (List Int) × Int × Int × Unit) × Unit)) ⊕ ((Unit) × (((List Int) × (List Int) × (List Int) × Int × Int × Unit) × Unit))) :=
  bif (decide (x5.1.1 < ((r.2.2.2.1.length : Nat) : Int))) then (Option.bind (at? r.2.2.2.1 x5.1.1) fun d6 =>
  Option.bind (agree (agree (req (room (x5.2.1.2.1.length + ([d6.2.1]).length) 8) (req (room (x5.2.1.2.2.1.length + ([d6.2.1]).length) 8) (some ((), ((x5.2.1.1, ((x5.2.1.2.1 ++ [d6.2.1]), ((x5.2.1.2.2.1 ++ [d6.2.1]), x5.2.1.2.2.2))), ()))))) (agree (agree (req (room (x5.2.1.2.1.length + ([d6.2.1]).length) 8) (req (room (x5.2.1.2.2.1.length + ([d6.2.1]).length) 8) (some ((), ((x5.2.1.1, ((x5.2.1.2.1 ++ [d6.2.1]), ((x5.2.1.2.2.1 ++ [d6.2.1]), x5.2.1.2.2.2))), ()))))) (agree (req (room (x5.2.1.2.1.length + ([d6.2.1]).length) 8) (req (room (x5.2.1.2.2.1.length + ([d6.2.1]).length) 8) (some ((), ((x5.2.1.1, ((x5.2.1.2.1 ++ [d6.2.1]), ((x5.2.1.2.2.1 ++ [d6.2.1]), x5.2.1.2.2.2))), ()))))) (req (room (x5.2.1.2.1.length + ([d6.2.1]).length) 8) (req (room (x5.2.1.2.2.1.length + ([d6.2.1]).length) 8) (some ((), ((x5.2.1.1, ((x5.2.1.2.1 ++ [d6.2.1]), ((x5.2.1.2.2.1 ++ [d6.2.1]), x5.2.1.2.2.2))), ()))))))) (agree (req (room (x5.2.1.2.1.length + ([d6.2.1]).length) 8) (req (room (x5.2.1.2.2.1.length + ([d6.2.1]).length) 8) (some ((), ((x5.2.1.1, ((x5.2.1.2.1 ++ [d6.2.1]), ((x5.2.1.2.2.1 ++ [d6.2.1]), x5.2.1.2.2.2))), ()))))) (agree (agree (req (room (x5.2.1.2.1.length + ([d6.2.1]).length) 8) (req (room (x5.2.1.2.2.1.length + ([d6.2.1]).length) 8) (some ((), ((x5.2.1.1, ((x5.2.1.2.1 ++ [d6.2.1]), ((x5.2.1.2.2.1 ++ [d6.2.1]), x5.2.1.2.2.2))), ()))))) (req (room (x5.2.1.2.1.length + ([d6.2.1]).length) 8) (req (room (x5.2.1.2.2.1.length + ([d6.2.1]).length) 8) (some ((), ((x5.2.1.1, ((x5.2.1.2.1 ++ [d6.2.1]), ((x5.2.1.2.2.1 ++ [d6.2.1]), x5.2.1.2.2.2))), ())))))) (agree (req (room (x5.2.1.2.1.length + ([d6.2.1]).length) 8) (req (room (x5.2.1.2.2.1.length + ([d6.2.1]).length) 8) (some ((), ((x5.2.1.1, ((x5.2.1.2.1 ++ [d6.2.1]), ((x5.2.1.2.2.1 ++ [d6.2.1]), x5.2.1.2.2.2))), ()))))) (req (room (x5.2.1.2.1.length + ([d6.2.1]).length) 8) (req (room (x5.2.1.2.2.1.length + ([d6.2.1]).length) 8) (some ((), ((x5.2.1.1, ((x5.2.1.2.1 ++ [d6.2.1]), ((x5.2.1.2.2.1 ++ [d6.2.1]), x5.2.1.2.2.2))), ())))))))))) (agree (agree (agree (req (room (x5.2.1.2.1.length + ([d6.2.1]).length) 8) (req (room (x5.2.1.2.2.1.length + ([d6.2.1]).length) 8) (some ((), ((x5.2.1.1, ((x5.2.1.2.1 ++ [d6.2.1]), ((x5.2.1.2.2.1 ++ [d6.2.1]), x5.2.1.2.2.2))), ()))))) (agree (req (room (x5.2.1.2.1.length + ([d6.2.1]).length) 8) (req (room (x5.2.1.2.2.1.length + ([d6.2.1]).length) 8) (some ((), ((x5.2.1.1, ((x5.2.1.2.1 ++ [d6.2.1]), ((x5.2.1.2.2.1 ++ [d6.2.1]), x5.2.1.2.2.2))), ()))))) (req (room (x5.2.1.2.1.length + ([d6.2.1]).length) 8) (req (room (x5.2.1.2.2.1.length + ([d6.2.1]).length) 8) (some ((), ((x5.2.1.1, ((x5.2.1.2.1 ++ [d6.2.1]), ((x5.2.1.2.2.1 ++ [d6.2.1]), x5.2.1.2.2.2))), ()))))))) (agree (agree (req (room (x5.2.1.2.1.length + ([d6.2.1]).length) 8) (req (room (x5.2.1.2.2.1.length + ([d6.2.1]).length) 8) (some ((), ((x5.2.1.1, ((x5.2.1.2.1 ++ [d6.2.1]), ((x5.2.1.2.2.1 ++ [d6.2.1]), x5.2.1.2.2.2))), ()))))) (req (room (x5.2.1.2.1.length + ([d6.2.1]).length) 8) (req (room (x5.2.1.2.2.1.length + ([d6.2.1]).length) 8) (some ((), ((x5.2.1.1, ((x5.2.1.2.1 ++ [d6.2.1]), ((x5.2.1.2.2.1 ++ [d6.2.1]), x5.2.1.2.2.2))), ())))))) (req (room (x5.2.1.2.1.length + ([d6.2.1]).length) 8) (req (room (x5.2.1.2.2.1.length + ([d6.2.1]).length) 8) (some ((), ((x5.2.1.1, ((x5.2.1.2.1 ++ [d6.2.1]), ((x5.2.1.2.2.1 ++ [d6.2.1]), x5.2.1.2.2.2))), ()))))))) (agree (agree (req (room (x5.2.1.2.1.length + ([d6.2.1]).length) 8) (req (room (x5.2.1.2.2.1.length + ([d6.2.1]).length) 8) (some ((), ((x5.2.1.1, ((x5.2.1.2.1 ++ [d6.2.1]), ((x5.2.1.2.2.1 ++ [d6.2.1]), x5.2.1.2.2.2))), ()))))) (agree (agree (req (room (x5.2.1.2.1.length + ([d6.2.1]).length) 8) (req (room (x5.2.1.2.2.1.length + ([d6.2.1]).length) 8) (some ((), ((x5.2.1.1, ((x5.2.1.2.1 ++ [d6.2.1]), ((x5.2.1.2.2.1 ++ [d6.2.1]), x5.2.1.2.2.2))), ()))))) (req (room (x5.2.1.2.1.length + ([d6.2.1]).length) 8) (req (room (x5.2.1.2.2.1.length + ([d6.2.1]).length) 8) (some ((), ((x5.2.1.1, ((x5.2.1.2.1 ++ [d6.2.1]), ((x5.2.1.2.2.1 ++ [d6.2.1]), x5.2.1.2.2.2))), ())))))) (agree (req (room (x5.2.1.2.1.length + ([d6.2.1]).length) 8) (req (room (x5.2.1.2.2.1.length + ([d6.2.1]).length) 8) (some ((), ((x5.2.1.1, ((x5.2.1.2.1 ++ [d6.2.1]), ((x5.2.1.2.2.1 ++ [d6.2.1]), x5.2.1.2.2.2))), ()))))) (req (room (x5.2.1.2.1.length + ([d6.2.1]).length) 8) (req (room (x5.2.1.2.2.1.length + ([d6.2.1]).length) 8) (some ((), ((x5.2.1.1, ((x5.2.1.2.1 ++ [d6.2.1]), ((x5.2.1.2.2.1 ++ [d6.2.1]), x5.2.1.2.2.2))), ())))))))) (agree (agree (agree (req (room (x5.2.1.2.1.length + ([d6.2.1]).length) 8) (req (room (x5.2.1.2.2.1.length + ([d6.2.1]).length) 8) (some ((), ((x5.2.1.1, ((x5.2.1.2.1 ++ [d6.2.1]), ((x5.2.1.2.2.1 ++ [d6.2.1]), x5.2.1.2.2.2))), ()))))) (req (room (x5.2.1.2.1.length + ([d6.2.1]).length) 8) (req (room (x5.2.1.2.2.1.length + ([d6.2.1]).length) 8) (some ((), ((x5.2.1.1, ((x5.2.1.2.1 ++ [d6.2.1]), ((x5.2.1.2.2.1 ++ [d6.2.1]), x5.2.1.2.2.2))), ())))))) (req (room (x5.2.1.2.1.length + ([d6.2.1]).length) 8) (req (room (x5.2.1.2.2.1.length + ([d6.2.1]).length) 8) (some ((), ((x5.2.1.1, ((x5.2.1.2.1 ++ [d6.2.1]), ((x5.2.1.2.2.1 ++ [d6.2.1]), x5.2.1.2.2.2))), ())))))) (agree (agree (req (room (x5.2.1.2.1.length + ([d6.2.1]).length) 8) (req (room (x5.2.1.2.2.1.length + ([d6.2.1]).length) 8) (some ((), ((x5.2.1.1, ((x5.2.1.2.1 ++ [d6.2.1]), ((x5.2.1.2.2.1 ++ [d6.2.1]), x5.2.1.2.2.2))), ()))))) (req (room (x5.2.1.2.1.length + ([d6.2.1]).length) 8) (req (room (x5.2.1.2.2.1.length + ([d6.2.1]).length) 8) (some ((), ((x5.2.1.1, ((x5.2.1.2.1 ++ [d6.2.1]), ((x5.2.1.2.2.1 ++ [d6.2.1]), x5.2.1.2.2.2))), ())))))) (req (room (x5.2.1.2.1.length + ([d6.2.1]).length) 8) (req (room (x5.2.1.2.2.1.length + ([d6.2.1]).length) 8) (some ((), ((x5.2.1.1, ((x5.2.1.2.1 ++ [d6.2.1]), ((x5.2.1.2.2.1 ++ [d6.2.1]), x5.2.1.2.2.2))), ())))))))))) fun x7 =>
  some (Sum.inl (((w64 (x5.1.1 + (1 : Int))), ()), ((x7.2.1.1, (x7.2.1.2.1, (x7.2.1.2.2.1, x7.2.1.2.2.2))), ()))))
  else some (Sum.inr ((), ((x5.2.1.1, (x5.2.1.2.1, (x5.2.1.2.2.1, x5.2.1.2.2.2))), ())))
noncomputable def placeBegin (r : ByteArray × Int × Int × (List (Int × Int × Int × (List (Int × Int × Int × Int × Unit)) × Unit)) × (List Int) × Bool × Bool × (List (Int × Int × Int × Bool × Unit)) × Int × Int × Int × Unit) : Option (((List Int) × ((List Int) × (List Int) × Unit) × Int × Int × Unit) × Int × Unit) :=
  Option.bind (rulesCheck r) fun r3 =>
  bif (r3 != (0 : Int)) then some (([], (([], ([], ())), ((0 : Int), ((0 : Int), ())))), (r3, ()))
  else Option.bind (slicesClone_int r.2.2.2.2.1) fun r4 =>
  Option.bind (iterW (placeBegin_L1 r) (((0 : Int), ()), ((r4, ([], ([], ((0 : Int), ((0 : Int), ()))))), ()))) fun x8 =>
  some ((x8.2.1.1, ((x8.2.1.2.1, (x8.2.1.2.2.1, ())), x8.2.1.2.2.2)), ((0 : Int), ()))
noncomputable def patternCheck_L1 (x : Int × Int × (List Int) × Int × Unit) (r : ByteArray × Int × Int × (List (Int × Int × Int × (List (Int × Int × Int × Int × Unit)) × Unit)) × (List Int) × Bool × Bool × (List (Int × Int × Int × Bool × Unit)) × Int × Int × Int × Unit) (x3 : (Int × Unit) × (Unit)) : Option (((Int × Unit) × (Unit)) ⊕ (((Unit) × (Unit)) ⊕ Int)) :=
  bif (decide (x3.1.1 < ((x.2.2.1.length : Nat) : Int))) then (Option.bind (at? x.2.2.1 x3.1.1) fun d4 =>
  bif ((decide (d4 < (-3 : Int))) || (decide (d4 > (w64 ((2 : Int) * ((r.2.2.2.1.length : Nat) : Int)))))) then (Option.map Sum.inr (Option.map Sum.inr (bif (decide (x3.1.1 ≥ (0 : Int))) then some (4 : Int)
  else bif ((decide (x.2.2.2.1 < (-1 : Int))) || (decide (x.2.2.2.1 > (1 : Int)))) then some (4 : Int)
  else some (0 : Int))))
  else some (Sum.inl (((w64 (x3.1.1 + (1 : Int))), ()), ())))
  else some (Sum.inr (Sum.inl ((), ())))
noncomputable def patternCheck (r : ByteArray × Int × Int × (List (Int × Int × Int × (List (Int × Int × Int × Int × Unit)) × Unit)) × (List Int) × Bool × Bool × (List (Int × Int × Int × Bool × Unit)) × Int × Int × Int × Unit) (x : Int × Int × (List Int) × Int × Unit) : Option (Int) :=
  Option.bind (rulesCheck r) fun r2 =>
  bif (r2 != (0 : Int)) then some r2
  else bif ((((decide (x.1 < (1 : Int))) || (decide (x.1 > r.2.1))) || (decide (x.2.1 < (1 : Int)))) || (decide (x.2.1 > r.2.2.1))) then some (4 : Int)
  else bif (((x.2.2.1.length : Nat) : Int) != (w64 (x.1 * x.2.1))) then some (3 : Int)
  else Option.bind (α := ((Unit) × (Unit)) ⊕ Int) (iterW (patternCheck_L1 x r) (((0 : Int), ()), ())) (Sum.elim (fun x5 =>
  bif ((decide (x.2.2.2.1 < (-1 : Int))) || (decide (x.2.2.2.1 > (1 : Int)))) then some (4 : Int)
  else some (0 : Int)) some)
noncomputable def slicesConcat_int_L1 (slices : List (List Int)) (x1 : (Int × Int × Unit) × (Unit)) : Option (((Int × Int × Unit) × (Unit)) ⊕ ((Int × Unit) × (Unit))) :=
  bif (decide (x1.1.2.1 < ((slices.length : Nat) : Int))) then (Option.bind (at? slices x1.1.2.1) fun d2 =>
  bif (decide ((w64 (x1.1.1 + ((d2.length : Nat) : Int))) < (0 : Int))) then none
  else some (Sum.inl (((w64 (x1.1.1 + ((d2.length : Nat) : Int))), (w64 (x1.1.2.1 + (1 : Int))), ()), ())))
  else some (Sum.inr ((x1.1.1, ()), ()))
noncomputable def slicesConcat_int_L2 (slices : List (List Int)) (x5 : ((List Int) × Int × Unit) × (Unit)) : Option ((((List Int) × Int × Unit) × (Unit)) ⊕ (((List Int) × Unit) × (Unit))) :=
  bif (decide (x5.1.2.1 < ((slices.length : Nat) : Int))) then (Option.bind (at? slices x5.1.2.1) fun d6 =>
  req (room (x5.1.1.length + d6.length) 8) (some (Sum.inl (((x5.1.1 ++ d6), (w64 (x5.1.2.1 + (1 : Int))), ()), ()))))
  else some (Sum.inr ((x5.1.1, ()), ()))
noncomputable def slicesConcat_int (slices : List (List Int)) : Option (List Int) :=
  Option.bind (iterW (slicesConcat_int_L1 slices) (((0 : Int), (0 : Int), ()), ())) fun x3 =>
  bif (decide (x3.1.1 < (0 : Int))) then none
  else Option.bind (bif (decide ((w64 (x3.1.1 - (0 : Int))) > (0 : Int))) then req (decide (0 < (w64 (x3.1.1 - (0 : Int)))) && room ((w64 (x3.1.1 - (0 : Int)))).toNat 8) (req (boundsI 0 (0 : Int) (List.replicate ((w64 (x3.1.1 - (0 : Int)))).toNat (0 : Int)).length) (some ((((List.replicate ((w64 (x3.1.1 - (0 : Int)))).toNat (0 : Int)).take 0), ()), ())))
  else some (([], ()), ())) fun x4 =>
  Option.bind (iterW (slicesConcat_int_L2 slices) ((x4.1.1, (0 : Int), ()), ())) fun x7 =>
  some x7.1.1
noncomputable def placeSound_L2 (r2 : List Int) (p : (List Int) × ((List Int) × (List Int) × Unit) × Int × Int × Unit) (x5 : (Int × Unit) × (Unit)) : Option (((Int × Unit) × (Unit)) ⊕ (((Unit) × (Unit)) ⊕ ((Bool × Unit) × (Unit)))) :=
  bif (decide (x5.1.1 < ((r2.length : Nat) : Int))) then (req (inb x5.1.1 r2.length) (bif ((decide ((getD' r2 ((x5.1.1).toNat) (0 : Int)) < (0 : Int))) || (decide ((getD' r2 ((x5.1.1).toNat) (0 : Int)) > (1000 : Int)))) then some (Sum.inr (Sum.inr ((((((decide (x5.1.1 ≥ (0 : Int))) || ((p.2.2.1 != (0 : Int)) && (p.2.2.1 != (1 : Int)))) || (decide (p.2.2.2.1 < (0 : Int)))) || (decide (p.2.2.2.1 > (200 : Int)))), ()), ())))
  else some (Sum.inl (((w64 (x5.1.1 + (1 : Int))), ()), ()))))
  else some (Sum.inr (Sum.inl ((), ())))
noncomputable def placeSound_L1 (p : (List Int) × ((List Int) × (List Int) × Unit) × Int × Int × Unit) (r : ByteArray × Int × Int × (List (Int × Int × Int × (List (Int × Int × Int × Int × Unit)) × Unit)) × (List Int) × Bool × Bool × (List (Int × Int × Int × Bool × Unit)) × Int × Int × Int × Unit) (r2 : List Int) (x3 : (Int × Unit) × (Unit)) : Option (((Int × Unit) × (Unit)) ⊕ (((Unit) × (Unit)) ⊕ ((Bool × Unit) × (Unit)))) :=
  bif (decide (x3.1.1 < ((p.1.length : Nat) : Int))) then (Option.bind (at? p.1 x3.1.1) fun d4 =>
  bif ((decide (d4 < (0 : Int))) || (decide (d4 > (w64 ((2 : Int) * ((r.2.2.2.1.length : Nat) : Int)))))) then (Option.map Sum.inr (Option.map Sum.inr (bif (decide (x3.1.1 ≥ (0 : Int))) then some ((true, ()), ())
  else Option.bind (α := ((Unit) × (Unit)) ⊕ ((Bool × Unit) × (Unit))) (iterW (placeSound_L2 r2 p) (((0 : Int), ()), ())) (Sum.elim (fun x6 =>
  some ((((((p.2.2.1 != (0 : Int)) && (p.2.2.1 != (1 : Int))) || (decide (p.2.2.2.1 < (0 : Int)))) || (decide (p.2.2.2.1 > (200 : Int)))), ()), ())) some))))
  else some (Sum.inl (((w64 (x3.1.1 + (1 : Int))), ()), ())))
  else some (Sum.inr (Sum.inl ((), ())))
noncomputable def placeSound_L3 (r2 : List Int) (p : (List Int) × ((List Int) × (List Int) × Unit) × Int × Int × Unit) (x8 : (Int × Unit) × (Unit)) : Option (((Int × Unit) × (Unit)) ⊕ (((Unit) × (Unit)) ⊕ ((Bool × Unit) × (Unit)))) :=
  bif (decide (x8.1.1 < ((r2.length : Nat) : Int))) then (req (inb x8.1.1 r2.length) (bif ((decide ((getD' r2 ((x8.1.1).toNat) (0 : Int)) < (0 : Int))) || (decide ((getD' r2 ((x8.1.1).toNat) (0 : Int)) > (1000 : Int)))) then some (Sum.inr (Sum.inr ((((((decide (x8.1.1 ≥ (0 : Int))) || ((p.2.2.1 != (0 : Int)) && (p.2.2.1 != (1 : Int)))) || (decide (p.2.2.2.1 < (0 : Int)))) || (decide (p.2.2.2.1 > (200 : Int)))), ()), ())))
  else some (Sum.inl (((w64 (x8.1.1 + (1 : Int))), ()), ()))))
  else some (Sum.inr (Sum.inl ((), ())))
noncomputable def placeSound_L5 (r2 : List Int) (p : (List Int) × ((List Int) × (List Int) × Unit) × Int × Int × Unit) (x12 : (Int × Unit) × (Unit)) : Option (((Int × Unit) × (Unit)) ⊕ (((Unit) × (Unit)) ⊕ ((Bool × Unit) × (Unit)))) :=
  bif (decide (x12.1.1 < ((r2.length : Nat) : Int))) then (req (inb x12.1.1 r2.length) (bif ((decide ((getD' r2 ((x12.1.1).toNat) (0 : Int)) < (0 : Int))) || (decide ((getD' r2 ((x12.1.1).toNat) (0 : Int)) > (1000 : Int)))) then some (Sum.inr (Sum.inr ((((((decide (x12.1.1 ≥ (0 : Int))) || ((p.2.2.1 != (0 : Int)) && (p.2.2.1 != (1 : Int)))) || (decide (p.2.2.2.1 < (0 : Int)))) || (decide (p.2.2.2.1 > (200 : Int)))), ()), ())))
  else some (Sum.inl (((w64 (x12.1.1 + (1 : Int))), ()), ()))))
  else some (Sum.inr (Sum.inl ((), ())))
noncomputable def placeSound_L4 (p : (List Int) × ((List Int) × (List Int) × Unit) × Int × Int × Unit) (r : ByteArray × Int × Int × (List (Int × Int × Int × (List (Int × Int × Int × Int × Unit)) × Unit)) × (List Int) × Bool × Bool × (List (Int × Int × Int × Bool × Unit)) × Int × Int × Int × Unit) (r2 : List Int) (x10 : (Int × Unit) × (Unit)) : Option (((Int × Unit) × (Unit)) ⊕ (((Unit) × (Unit)) ⊕ ((Bool × Unit) × (Unit)))) :=
  bif (decide (x10.1.1 < ((p.1.length : Nat) : Int))) then (Option.bind (at? p.1 x10.1.1) fun d11 =>
  bif ((decide (d11 < (0 : Int))) || (decide (d11 > (w64 ((2 : Int) * ((r.2.2.2.1.length : Nat) : Int)))))) then (Option.map Sum.inr (Option.map Sum.inr (bif (decide (x10.1.1 ≥ (0 : Int))) then some ((true, ()), ())
  else Option.bind (α := ((Unit) × (Unit)) ⊕ ((Bool × Unit) × (Unit))) (iterW (placeSound_L5 r2 p) (((0 : Int), ()), ())) (Sum.elim (fun x13 =>
  some ((((((p.2.2.1 != (0 : Int)) && (p.2.2.1 != (1 : Int))) || (decide (p.2.2.2.1 < (0 : Int)))) || (decide (p.2.2.2.1 > (200 : Int)))), ()), ())) some))))
  else some (Sum.inl (((w64 (x10.1.1 + (1 : Int))), ()), ())))
  else some (Sum.inr (Sum.inl ((), ())))
noncomputable def placeSound_L6 (r2 : List Int) (p : (List Int) × ((List Int) × (List Int) × Unit) × Int × Int × Unit) (x15 : (Int × Unit) × (Unit)) : Option (((Int × Unit) × (Unit)) ⊕ (((Unit) × (Unit)) ⊕ ((Bool × Unit) × (Unit)))) :=
  bif (decide (x15.1.1 < ((r2.length : Nat) : Int))) then (req (inb x15.1.1 r2.length) (bif ((decide ((getD' r2 ((x15.1.1).toNat) (0 : Int)) < (0 : Int))) || (decide ((getD' r2 ((x15.1.1).toNat) (0 : Int)) > (1000 : Int)))) then some (Sum.inr (Sum.inr ((((((decide (x15.1.1 ≥ (0 : Int))) || ((p.2.2.1 != (0 : Int)) && (p.2.2.1 != (1 : Int)))) || (decide (p.2.2.2.1 < (0 : Int)))) || (decide (p.2.2.2.1 > (200 : Int)))), ()), ())))
  else some (Sum.inl (((w64 (x15.1.1 + (1 : Int))), ()), ()))))
  else some (Sum.inr (Sum.inl ((), ())))
noncomputable def placeSound (r : ByteArray × Int × Int × (List (Int × Int × Int × (List (Int × Int × Int × Int × Unit)) × Unit)) × (List Int) × Bool × Bool × (List (Int × Int × Int × Bool × Unit)) × Int × Int × Int × Unit) (p : (List Int) × ((List Int) × (List Int) × Unit) × Int × Int × Unit) : Option (Int) :=
  bif (((((p.1.length : Nat) : Int) != (w64 (r.2.1 * r.2.2.1))) || (((p.2.1.1.length : Nat) : Int) != ((r.2.2.2.1.length : Nat) : Int))) || (((p.2.1.2.1.length : Nat) : Int) != ((r.2.2.2.1.length : Nat) : Int))) then some (3 : Int)
  else Option.bind (slicesConcat_int ([p.2.1.1, p.2.1.2.1])) fun r2 =>
  Option.bind (agree (Option.bind (α := ((Unit) × (Unit)) ⊕ ((Bool × Unit) × (Unit))) (iterW (placeSound_L1 p r r2) (((0 : Int), ()), ())) (Sum.elim (fun x7 =>
  Option.bind (α := ((Unit) × (Unit)) ⊕ ((Bool × Unit) × (Unit))) (iterW (placeSound_L3 r2 p) (((0 : Int), ()), ())) (Sum.elim (fun x9 =>
  some ((((((p.2.2.1 != (0 : Int)) && (p.2.2.1 != (1 : Int))) || (decide (p.2.2.2.1 < (0 : Int)))) || (decide (p.2.2.2.1 > (200 : Int)))), ()), ())) some)) some)) (Option.bind (α := ((Unit) × (Unit)) ⊕ ((Bool × Unit) × (Unit))) (iterW (placeSound_L4 p r r2) (((0 : Int), ()), ())) (Sum.elim (fun x14 =>
  Option.bind (α := ((Unit) × (Unit)) ⊕ ((Bool × Unit) × (Unit))) (iterW (placeSound_L6 r2 p) (((0 : Int), ()), ())) (Sum.elim (fun x16 =>
  some ((((((p.2.2.1 != (0 : Int)) && (p.2.2.1 != (1 : Int))) || (decide (p.2.2.2.1 < (0 : Int)))) || (decide (p.2.2.2.1 > (200 : Int)))), ()), ())) some)) some))) fun x17 =>
  bif x17.1.1 then some (4 : Int)
  else some (0 : Int)
noncomputable def placeCheck (r : ByteArray × Int × Int × (List (Int × Int × Int × (List (Int × Int × Int × Int × Unit)) × Unit)) × (List Int) × Bool × Bool × (List (Int × Int × Int × Bool × Unit)) × Int × Int × Int × Unit) (p : (List Int) × ((List Int) × (List Int) × Unit) × Int × Int × Unit) : Option (Int) :=
  Option.bind (rulesCheck r) fun r3 =>
  bif (r3 != (0 : Int)) then some r3
  else Option.bind (placeSound r p) fun r4 =>
  some r4
noncomputable def patternCheck_i (r : ByteArray × Int × Int × (List (Int × Int × Int × (List (Int × Int × Int × Int × Unit)) × Unit)) × (List Int) × Bool × Bool × (List (Int × Int × Int × Bool × Unit)) × Int × Int × Int × Unit) (x : Int × Int × (List Int) × Int × Unit) (p : (List Int) × ((List Int) × (List Int) × Unit) × Int × Int × Unit) : Option (Int) :=
  Option.bind (patternCheck r x) fun r3 =>
  bif (r3 != (0 : Int)) then some r3
  else Option.bind (placeCheck r p) fun r4 =>
  some r4
noncomputable def patternFits (want : Int) (c : Int) : Option (Bool) :=
  bif (want == (-1 : Int)) then some true
  else bif (want == (-2 : Int)) then some ((c.tmod (2 : Int)) == (1 : Int))
  else bif (want == (-3 : Int)) then req (imp (decide (c > (0 : Int))) true) (some ((decide (c > (0 : Int))) && ((c.tmod (2 : Int)) == (0 : Int))))
  else some (want == c)
noncomputable def patternAt_L1 (x : Int × Int × (List Int) × Int × Unit) (p : (List Int) × ((List Int) × (List Int) × Unit) × Int × Int × Unit) (square : Int) (r : ByteArray × Int × Int × (List (Int × Int × Int × (List (Int × Int × Int × Int × Unit)) × Unit)) × (List Int) × Bool × Bool × (List (Int × Int × Int × Bool × Unit)) × Int × Int × Int × Unit) (x1 : (Int × Unit) × (Unit)) : Option (((Int × Unit) × (Unit)) ⊕ (((Unit) × (Unit)) ⊕ Bool)) :=
  bif (decide (x1.1.1 < ((x.2.2.1.length : Nat) : Int))) then (Option.bind (at? x.2.2.1 x1.1.1) fun d2 =>
  req (x.1 != 0) (req (x.1 != 0) (Option.bind (at? p.1 (w64 ((w64 (square + (w64 ((w64 (x1.1.1.tdiv x.1)) * r.2.1)))) + (x1.1.1.tmod x.1)))) fun d3 =>
  Option.bind (patternFits d2 d3) fun r4 =>
  bif (!r4) then some (Sum.inr (Sum.inr false))
  else some (Sum.inl (((w64 (x1.1.1 + (1 : Int))), ()), ())))))
  else some (Sum.inr (Sum.inl ((), ())))
noncomputable def patternAt (r : ByteArray × Int × Int × (List (Int × Int × Int × (List (Int × Int × Int × Int × Unit)) × Unit)) × (List Int) × Bool × Bool × (List (Int × Int × Int × Bool × Unit)) × Int × Int × Int × Unit) (x : Int × Int × (List Int) × Int × Unit) (p : (List Int) × ((List Int) × (List Int) × Unit) × Int × Int × Unit) (square : Int) : Option (Bool) :=
  req (r.2.1 != 0) (req (imp (!(decide ((w64 ((square.tmod r.2.1) + x.1)) > r.2.1))) (r.2.1 != 0)) (bif (((decide ((w64 ((square.tmod r.2.1) + x.1)) > r.2.1)) || (decide ((w64 ((w64 (square.tdiv r.2.1)) + x.2.1)) > r.2.2.1))) || ((decide (x.2.2.2.1 ≥ (0 : Int))) && (x.2.2.2.1 != p.2.2.1))) then some false
  else Option.bind (α := ((Unit) × (Unit)) ⊕ Bool) (iterW (patternAt_L1 x p square r) (((0 : Int), ()), ())) (Sum.elim (fun x5 =>
  some true) some)))
noncomputable def patternAt_i (r : ByteArray × Int × Int × (List (Int × Int × Int × (List (Int × Int × Int × Int × Unit)) × Unit)) × (List Int) × Bool × Bool × (List (Int × Int × Int × Bool × Unit)) × Int × Int × Int × Unit) (x : Int × Int × (List Int) × Int × Unit) (p : (List Int) × ((List Int) × (List Int) × Unit) × Int × Int × Unit) (square : Int) : Option (Bool × Int × Unit) :=
  Option.bind (patternCheck_i r x p) fun r3 =>
  bif (r3 != (0 : Int)) then some (false, (r3, ()))
  else bif ((decide (square < (0 : Int))) || (decide (square ≥ ((p.1.length : Nat) : Int)))) then some (false, ((1 : Int), ()))
  else Option.bind (patternAt r x p square) fun r4 =>
  some (r4, ((0 : Int), ()))
noncomputable def law3Patterns : Option (Bool) :=
  Option.bind (placeBegin ((law3Tic).1, (((law3Tic).2).1, ((((law3Tic).2).2).1, (((((law3Tic).2).2).2).1, ((((((law3Tic).2).2).2).2).1, (((((((law3Tic).2).2).2).2).2).1, ((((((((law3Tic).2).2).2).2).2).2).1, (((((((((law3Tic).2).2).2).2).2).2).2).1, ((((((((((law3Tic).2).2).2).2).2).2).2).2).1, (((((((((((law3Tic).2).2).2).2).2).2).2).2).2).1, ((((((((((((law3Tic).2).2).2).2).2).2).2).2).2).2).1, ())))))))))))) fun r2 =>
  Option.bind (agree (Option.bind (patternAt_i ((law3Tic).1, (((law3Tic).2).1, ((((law3Tic).2).2).1, (((((law3Tic).2).2).2).1, ((((((law3Tic).2).2).2).2).1, (((((((law3Tic).2).2).2).2).2).1, ((((((((law3Tic).2).2).2).2).2).2).1, (((((((((law3Tic).2).2).2).2).2).2).2).1, ((((((((((law3Tic).2).2).2).2).2).2).2).2).1, (((((((((((law3Tic).2).2).2).2).2).2).2).2).2).1, ((((((((((((law3Tic).2).2).2).2).2).2).2).2).2).2).1, ()))))))))))) ((1 : Int), ((1 : Int), ([(0 : Int)], ((-1 : Int), ())))) (r2.1.1, ((r2.1.2.1.1, (r2.1.2.1.2.1, ())), r2.1.2.2)) (4 : Int)) fun r3 =>
  some ((r3.1, r3.2.1, ()), ())) (agree (agree (Option.bind (patternAt_i ((law3Tic).1, (((law3Tic).2).1, ((((law3Tic).2).2).1, (((((law3Tic).2).2).2).1, ((((((law3Tic).2).2).2).2).1, (((((((law3Tic).2).2).2).2).2).1, ((((((((law3Tic).2).2).2).2).2).2).1, (((((((((law3Tic).2).2).2).2).2).2).2).1, ((((((((((law3Tic).2).2).2).2).2).2).2).2).1, (((((((((((law3Tic).2).2).2).2).2).2).2).2).2).1, ((((((((((((law3Tic).2).2).2).2).2).2).2).2).2).2).1, ()))))))))))) ((1 : Int), ((1 : Int), ([(0 : Int)], ((-1 : Int), ())))) (r2.1.1, ((r2.1.2.1.1, (r2.1.2.1.2.1, ())), r2.1.2.2)) (4 : Int)) fun r4 =>
  some ((r4.1, r4.2.1, ()), ())) (Option.bind (patternAt_i ((law3Tic).1, (((law3Tic).2).1, ((((law3Tic).2).2).1, (((((law3Tic).2).2).2).1, ((((((law3Tic).2).2).2).2).1, (((((((law3Tic).2).2).2).2).2).1, ((((((((law3Tic).2).2).2).2).2).2).1, (((((((((law3Tic).2).2).2).2).2).2).2).1, ((((((((((law3Tic).2).2).2).2).2).2).2).2).1, (((((((((((law3Tic).2).2).2).2).2).2).2).2).2).1, ((((((((((((law3Tic).2).2).2).2).2).2).2).2).2).2).1, ()))))))))))) ((1 : Int), ((1 : Int), ([(0 : Int)], ((-1 : Int), ())))) (r2.1.1, ((r2.1.2.1.1, (r2.1.2.1.2.1, ())), r2.1.2.2)) (4 : Int)) fun r5 =>
  some ((r5.1, r5.2.1, ()), ()))) (agree (Option.bind (patternAt_i ((law3Tic).1, (((law3Tic).2).1, ((((law3Tic).2).2).1, (((((law3Tic).2).2).2).1, ((((((law3Tic).2).2).2).2).1, (((((((law3Tic).2).2).2).2).2).1, ((((((((law3Tic).2).2).2).2).2).2).1, (((((((((law3Tic).2).2).2).2).2).2).2).1, ((((((((((law3Tic).2).2).2).2).2).2).2).2).1, (((((((((((law3Tic).2).2).2).2).2).2).2).2).2).1, ((((((((((((law3Tic).2).2).2).2).2).2).2).2).2).2).1, ()))))))))))) ((1 : Int), ((1 : Int), ([(0 : Int)], ((-1 : Int), ())))) (r2.1.1, ((r2.1.2.1.1, (r2.1.2.1.2.1, ())), r2.1.2.2)) (4 : Int)) fun r6 =>
  some ((r6.1, r6.2.1, ()), ())) (Option.bind (patternAt_i ((law3Tic).1, (((law3Tic).2).1, ((((law3Tic).2).2).1, (((((law3Tic).2).2).2).1, ((((((law3Tic).2).2).2).2).1, (((((((law3Tic).2).2).2).2).2).1, ((((((((law3Tic).2).2).2).2).2).2).1, (((((((((law3Tic).2).2).2).2).2).2).2).1, ((((((((((law3Tic).2).2).2).2).2).2).2).2).1, (((((((((((law3Tic).2).2).2).2).2).2).2).2).2).1, ((((((((((((law3Tic).2).2).2).2).2).2).2).2).2).2).1, ()))))))))))) ((1 : Int), ((1 : Int), ([(0 : Int)], ((-1 : Int), ())))) (r2.1.1, ((r2.1.2.1.1, (r2.1.2.1.2.1, ())), r2.1.2.2)) (4 : Int)) fun r7 =>
  some ((r7.1, r7.2.1, ()), ()))))) fun x8 =>
  some (((r2.2.1 == (0 : Int)) && (x8.1.2.1 == (0 : Int))) && x8.1.1)
noncomputable def law3Great_o (r : ByteArray × Int × Int × (List (Int × Int × Int × (List (Int × Int × Int × Int × Unit)) × Unit)) × (List Int) × Bool × Bool × (List (Int × Int × Int × Bool × Unit)) × Int × Int × Int × Unit) : Option (Bool) :=
  some (decide (((r.2.2.2.2.1.length : Nat) : Int) > (20 : Int)))
def law3Great (r : ByteArray × Int × Int × (List (Int × Int × Int × (List (Int × Int × Int × Int × Unit)) × Unit)) × (List Int) × Bool × Bool × (List (Int × Int × Int × Bool × Unit)) × Int × Int × Int × Unit) : Bool :=
  (decide (((r.2.2.2.2.1.length : Nat) : Int) > (20 : Int)))
theorem law3Great_eq (r : ByteArray × Int × Int × (List (Int × Int × Int × (List (Int × Int × Int × Int × Unit)) × Unit)) × (List Int) × Bool × Bool × (List (Int × Int × Int × Bool × Unit)) × Int × Int × Int × Unit) : law3Great_o r = some (law3Great r) := by
  unfold law3Great_o law3Great
  first | rfl | simp only [cond_some]
noncomputable def patternCut_L1 (height : Int) (square : Int) (r : ByteArray × Int × Int × (List (Int × Int × Int × (List (Int × Int × Int × Int × Unit)) × Unit)) × (List Int) × Bool × Bool × (List (Int × Int × Int × Bool × Unit)) × Int × Int × Int × Unit) (width : Int) (p : (List Int) × ((List Int) × (List Int) × Unit) × Int × Int × Unit) (x3 : (Int × Unit) × ((Int × Int × (List Int) × Int × Unit) × Unit)) : Option (((Int × Unit) × ((Int × Int × (List Int) × Int × Unit) × Unit)) ⊕ ((Unit) × ((Int × Int × (List Int) × Int × Unit) × Unit))) :=
  bif (decide (x3.1.1 < height)) then req (boundsI (w64 (square + (w64 (x3.1.1 * r.2.1)))) (w64 ((w64 (square + (w64 (x3.1.1 * r.2.1)))) + width)) p.1.length) (req (room (x3.2.1.2.2.1.length + ((p.1.take ((w64 ((w64 (square + (w64 (x3.1.1 * r.2.1)))) + width))).toNat).drop ((w64 (square + (w64 (x3.1.1 * r.2.1))))).toNat).length) 8) (some (Sum.inl (((w64 (x3.1.1 + (1 : Int))), ()), ((x3.2.1.1, (x3.2.1.2.1, ((x3.2.1.2.2.1 ++ ((p.1.take ((w64 ((w64 (square + (w64 (x3.1.1 * r.2.1)))) + width))).toNat).drop ((w64 (square + (w64 (x3.1.1 * r.2.1))))).toNat)), x3.2.1.2.2.2))), ())))))
  else some (Sum.inr ((), ((x3.2.1.1, (x3.2.1.2.1, (x3.2.1.2.2.1, x3.2.1.2.2.2))), ())))
noncomputable def patternCut (r : ByteArray × Int × Int × (List (Int × Int × Int × (List (Int × Int × Int × Int × Unit)) × Unit)) × (List Int) × Bool × Bool × (List (Int × Int × Int × Bool × Unit)) × Int × Int × Int × Unit) (p : (List Int) × ((List Int) × (List Int) × Unit) × Int × Int × Unit) (square : Int) (width : Int) (height : Int) : Option ((Int × Int × (List Int) × Int × Unit) × Int × Unit) :=
  Option.bind (placeCheck r p) fun r2 =>
  bif (r2 != (0 : Int)) then some (((0 : Int), ((0 : Int), ([], ((0 : Int), ())))), (r2, ()))
  else req (imp (!((((decide (square < (0 : Int))) || (decide (square ≥ ((p.1.length : Nat) : Int)))) || (decide (width < (1 : Int)))) || (decide (height < (1 : Int))))) (r.2.1 != 0)) (req (imp (!(((((decide (square < (0 : Int))) || (decide (square ≥ ((p.1.length : Nat) : Int)))) || (decide (width < (1 : Int)))) || (decide (height < (1 : Int)))) || (decide (width > (w64 (r.2.1 - (square.tmod r.2.1))))))) (r.2.1 != 0)) (bif ((((((decide (square < (0 : Int))) || (decide (square ≥ ((p.1.length : Nat) : Int)))) || (decide (width < (1 : Int)))) || (decide (height < (1 : Int)))) || (decide (width > (w64 (r.2.1 - (square.tmod r.2.1)))))) || (decide (height > (w64 (r.2.2.1 - (w64 (square.tdiv r.2.1))))))) then some (((0 : Int), ((0 : Int), ([], ((0 : Int), ())))), ((4 : Int), ()))
  else Option.bind (iterW (patternCut_L1 height square r width p) (((0 : Int), ()), ((width, (height, ([], (p.2.2.1, ())))), ()))) fun x4 =>
  some ((x4.2.1.1, (x4.2.1.2.1, (x4.2.1.2.2.1, x4.2.1.2.2.2))), ((0 : Int), ()))))
noncomputable def patternMirror_L2 (x5 : (Int × Unit) × ((List Int) × Unit)) (x : Int × Int × (List Int) × Int × Unit) (x6 : (Int × Int × Unit) × ((List Int) × Unit)) : Option (((Int × Int × Unit) × ((List Int) × Unit)) ⊕ ((Unit) × ((List Int) × Unit))) :=
  bif (decide (x6.1.1 < x6.1.2.1)) then req (inb x6.1.2.1 (((w64 ((w64 (x5.1.1 + (1 : Int))) * x.1))).toNat - ((w64 (x5.1.1 * x.1))).toNat)) (req (inb x6.1.1 (((w64 ((w64 (x5.1.1 + (1 : Int))) * x.1))).toNat - ((w64 (x5.1.1 * x.1))).toNat)) (req (inb x6.1.1 (((w64 ((w64 (x5.1.1 + (1 : Int))) * x.1))).toNat - ((w64 (x5.1.1 * x.1))).toNat)) (req (inb x6.1.2.1 (((w64 ((w64 (x5.1.1 + (1 : Int))) * x.1))).toNat - ((w64 (x5.1.1 * x.1))).toNat)) (some (Sum.inl (((w64 (x6.1.1 + (1 : Int))), (w64 (x6.1.2.1 - (1 : Int))), ()), (((x6.2.1.set (((w64 (x5.1.1 * x.1))).toNat + (x6.1.1).toNat) (getD' x6.2.1 (((w64 (x5.1.1 * x.1))).toNat + (x6.1.2.1).toNat) (0 : Int))).set (((w64 (x5.1.1 * x.1))).toNat + (x6.1.2.1).toNat) (getD' x6.2.1 (((w64 (x5.1.1 * x.1))).toNat + (x6.1.1).toNat) (0 : Int))), ())))))))
  else some (Sum.inr ((), (x6.2.1, ())))
noncomputable def patternMirror_L1 (x : Int × Int × (List Int) × Int × Unit) (x5 : (Int × Unit) × ((List Int) × Unit)) : Option (((Int × Unit) × ((List Int) × Unit)) ⊕ ((Unit) × ((List Int) × Unit))) :=
  bif (decide (x5.1.1 < x.2.1)) then (req (boundsI (w64 (x5.1.1 * x.1)) (w64 ((w64 (x5.1.1 + (1 : Int))) * x.1)) x5.2.1.length) (Option.bind (iterW (patternMirror_L2 x5 x) (((0 : Int), (w64 ((((((w64 ((w64 (x5.1.1 + (1 : Int))) * x.1))).toNat - ((w64 (x5.1.1 * x.1))).toNat) : Nat) : Int) - (1 : Int))), ()), (x5.2.1, ()))) fun x7 =>
  some (Sum.inl (((w64 (x5.1.1 + (1 : Int))), ()), (x7.2.1, ())))))
  else some (Sum.inr ((), (x5.2.1, ())))
noncomputable def patternMirror (r : ByteArray × Int × Int × (List (Int × Int × Int × (List (Int × Int × Int × Int × Unit)) × Unit)) × (List Int) × Bool × Bool × (List (Int × Int × Int × Bool × Unit)) × Int × Int × Int × Unit) (x : Int × Int × (List Int) × Int × Unit) : Option ((Int × Int × (List Int) × Int × Unit) × Int × Unit) :=
  Option.bind (patternCheck r x) fun r3 =>
  bif (r3 != (0 : Int)) then some (((0 : Int), ((0 : Int), ([], ((0 : Int), ())))), (r3, ()))
  else Option.bind (slicesClone_int x.2.2.1) fun r4 =>
  Option.bind (iterW (patternMirror_L1 x) (((0 : Int), ()), (r4, ()))) fun x8 =>
  some ((x.1, (x.2.1, (x8.2.1, x.2.2.2))), ((0 : Int), ()))
noncomputable def law3PatternFault_L1 (x : Int × Int × (List Int) × Int × Unit) (r : ByteArray × Int × Int × (List (Int × Int × Int × (List (Int × Int × Int × Int × Unit)) × Unit)) × (List Int) × Bool × Bool × (List (Int × Int × Int × Bool × Unit)) × Int × Int × Int × Unit) (x3 : (Int × Unit) × (Unit)) : Option (((Int × Unit) × (Unit)) ⊕ (((Unit) × (Unit)) ⊕ Int)) :=
  bif (decide (x3.1.1 < ((x.2.2.1.length : Nat) : Int))) then (Option.bind (at? x.2.2.1 x3.1.1) fun d4 =>
  bif ((decide (d4 < (-3 : Int))) || (decide (d4 > (w64 ((2 : Int) * ((r.2.2.2.1.length : Nat) : Int)))))) then some (Sum.inr (Sum.inr (4 : Int)))
  else some (Sum.inl (((w64 (x3.1.1 + (1 : Int))), ()), ())))
  else some (Sum.inr (Sum.inl ((), ())))
noncomputable def law3PatternFault (r : ByteArray × Int × Int × (List (Int × Int × Int × (List (Int × Int × Int × Int × Unit)) × Unit)) × (List Int) × Bool × Bool × (List (Int × Int × Int × Bool × Unit)) × Int × Int × Int × Unit) (x : Int × Int × (List Int) × Int × Unit) : Option (Int) :=
  Option.bind (rulesCheck r) fun r2 =>
  bif (r2 != (0 : Int)) then some r2
  else bif ((((decide (x.1 < (1 : Int))) || (decide (x.1 > r.2.1))) || (decide (x.2.1 < (1 : Int)))) || (decide (x.2.1 > r.2.2.1))) then some (4 : Int)
  else bif (((x.2.2.1.length : Nat) : Int) != (w64 (x.1 * x.2.1))) then some (3 : Int)
  else Option.bind (α := ((Unit) × (Unit)) ⊕ Int) (iterW (law3PatternFault_L1 x r) (((0 : Int), ()), ())) (Sum.elim (fun x5 =>
  bif ((decide (x.2.2.2.1 < (-1 : Int))) || (decide (x.2.2.2.1 > (1 : Int)))) then some (4 : Int)
  else some (0 : Int)) some)
noncomputable def law3PatternCuts_L1 (x : Int × Int × (List Int) × Int × Unit) (r8 : (Int × Int × (List Int) × Int × Unit) × Int × Unit) (x10 : (Int × Unit) × (Unit)) : Option (((Int × Unit) × (Unit)) ⊕ (((Unit) × (Unit)) ⊕ (((Unit) × (Unit)) ⊕ Bool))) :=
  bif (decide (x10.1.1 < ((x.2.2.1.length : Nat) : Int))) then (req (x.1 != 0) (req (x.1 != 0) (req (imp (!((r8.2.1 != (0 : Int)) || (((r8.1.2.2.1.length : Nat) : Int) != ((x.2.2.1.length : Nat) : Int)))) (inb (w64 ((w64 ((w64 ((w64 ((w64 (x10.1.1.tdiv x.1)) * x.1)) + x.1)) - (1 : Int))) - (x10.1.1.tmod x.1))) r8.1.2.2.1.length)) (Option.bind (gat (!((r8.2.1 != (0 : Int)) || (((r8.1.2.2.1.length : Nat) : Int) != ((x.2.2.1.length : Nat) : Int)))) (0 : Int) x.2.2.1 x10.1.1) fun d11 =>
  bif ((((((r8.2.1 != (0 : Int)) || (((r8.1.2.2.1.length : Nat) : Int) != ((x.2.2.1.length : Nat) : Int))) || ((getD' r8.1.2.2.1 (((w64 ((w64 ((w64 ((w64 ((w64 (x10.1.1.tdiv x.1)) * x.1)) + x.1)) - (1 : Int))) - (x10.1.1.tmod x.1)))).toNat) (0 : Int)) != d11)) || (r8.1.2.2.2.1 != x.2.2.2.1)) || (r8.1.1 != x.1)) || (r8.1.2.1 != x.2.1)) then some (Sum.inr (Sum.inr (Sum.inr false)))
  else some (Sum.inl (((w64 (x10.1.1 + (1 : Int))), ()), ()))))))
  else some (Sum.inr (Sum.inl ((), ())))
noncomputable def law3PatternCuts_L3 (height : Int) (width : Int) (x15 : (Int × Unit) × (Unit)) (r7 : (Int × Int × (List Int) × Int × Unit) × Int × Unit) (p : (List Int) × ((List Int) × (List Int) × Unit) × Int × Int × Unit) (square : Int) (r : ByteArray × Int × Int × (List (Int × Int × Int × (List (Int × Int × Int × Int × Unit)) × Unit)) × (List Int) × Bool × Bool × (List (Int × Int × Int × Bool × Unit)) × Int × Int × Int × Unit) (x16 : (Int × Unit) × (Unit)) : Option (((Int × Unit) × (Unit)) ⊕ (((Unit) × (Unit)) ⊕ (((Unit) × (Unit)) ⊕ (((Int × Unit) × (Unit)) ⊕ (((Unit) × (Unit)) ⊕ Bool))))) :=
  bif (decide (x16.1.1 < height)) then (req (inb (w64 ((w64 (x16.1.1 * width)) + x15.1.1)) r7.1.2.2.1.length) (Option.bind (at? p.1 (w64 ((w64 (square + (w64 (x16.1.1 * r.2.1)))) + x15.1.1))) fun d17 =>
  bif ((getD' r7.1.2.2.1 (((w64 ((w64 (x16.1.1 * width)) + x15.1.1))).toNat) (0 : Int)) != d17) then some (Sum.inr (Sum.inr (Sum.inr (Sum.inr (Sum.inr false)))))
  else some (Sum.inl (((w64 (x16.1.1 + (1 : Int))), ()), ()))))
  else some (Sum.inr (Sum.inl ((), ())))
noncomputable def law3PatternCuts_L2 (width : Int) (height : Int) (r7 : (Int × Int × (List Int) × Int × Unit) × Int × Unit) (p : (List Int) × ((List Int) × (List Int) × Unit) × Int × Int × Unit) (square : Int) (r : ByteArray × Int × Int × (List (Int × Int × Int × (List (Int × Int × Int × Int × Unit)) × Unit)) × (List Int) × Bool × Bool × (List (Int × Int × Int × Bool × Unit)) × Int × Int × Int × Unit) (x15 : (Int × Unit) × (Unit)) : Option (((Int × Unit) × (Unit)) ⊕ (((Unit) × (Unit)) ⊕ Bool)) :=
  bif (decide (x15.1.1 < width)) then (Option.bind (α := ((Unit) × (Unit)) ⊕ (((Int × Unit) × (Unit)) ⊕ (((Unit) × (Unit)) ⊕ Bool))) (Option.bind (α := ((Unit) × (Unit)) ⊕ (((Unit) × (Unit)) ⊕ (((Int × Unit) × (Unit)) ⊕ (((Unit) × (Unit)) ⊕ Bool)))) (iterW (law3PatternCuts_L3 height width x15 r7 p square r) (((0 : Int), ()), ())) (Sum.elim (fun x18 =>
  some (Sum.inl ((), ()))) some)) (Sum.elim (fun x19 =>
  some (Sum.inl (((w64 (x15.1.1 + (1 : Int))), ()), ()))) some))
  else some (Sum.inr (Sum.inl ((), ())))
noncomputable def law3PatternCuts (r : ByteArray × Int × Int × (List (Int × Int × Int × (List (Int × Int × Int × Int × Unit)) × Unit)) × (List Int) × Bool × Bool × (List (Int × Int × Int × Bool × Unit)) × Int × Int × Int × Unit) (p : (List Int) × ((List Int) × (List Int) × Unit) × Int × Int × Unit) (x : Int × Int × (List Int) × Int × Unit) (square : Int) (width : Int) (height : Int) : Option (Bool) :=
  Option.bind (law3Patterns) fun r6 =>
  bif (!r6) then some false
  else bif (law3Great r) then some true
  else Option.bind (patternCut r p square width height) fun r7 =>
  Option.bind (patternMirror r x) fun r8 =>
  Option.bind (law3PatternFault r x) fun r9 =>
  Option.bind (α := ((Unit) × (Unit)) ⊕ Bool) (bif (r9 != (0 : Int)) then (bif ((r8.2.1 != r9) || (decide (((r8.1.2.2.1.length : Nat) : Int) > (0 : Int)))) then some (Sum.inr false)
  else some (Sum.inl ((), ())))
  else Option.bind (α := ((Unit) × (Unit)) ⊕ (((Unit) × (Unit)) ⊕ Bool)) (iterW (law3PatternCuts_L1 x r8) (((0 : Int), ()), ())) (Sum.elim (fun x12 =>
  some (Sum.inl ((), ()))) some)) (Sum.elim (fun x13 =>
  Option.bind (placeCheck r p) fun r14 =>
  bif (r14 != (0 : Int)) then some ((r7.2.1 == r14) && (((r7.1.2.2.1.length : Nat) : Int) == (0 : Int)))
  else req (imp (!((((decide (square < (0 : Int))) || (decide (square ≥ ((p.1.length : Nat) : Int)))) || (decide (width < (1 : Int)))) || (decide (height < (1 : Int))))) (r.2.1 != 0)) (req (imp (!(((((decide (square < (0 : Int))) || (decide (square ≥ ((p.1.length : Nat) : Int)))) || (decide (width < (1 : Int)))) || (decide (height < (1 : Int)))) || (decide (width > (w64 (r.2.1 - (square.tmod r.2.1))))))) (r.2.1 != 0)) (bif ((((((decide (square < (0 : Int))) || (decide (square ≥ ((p.1.length : Nat) : Int)))) || (decide (width < (1 : Int)))) || (decide (height < (1 : Int)))) || (decide (width > (w64 (r.2.1 - (square.tmod r.2.1)))))) || (decide (height > (w64 (r.2.2.1 - (w64 (square.tdiv r.2.1))))))) then some ((r7.2.1 == (4 : Int)) && (((r7.1.2.2.1.length : Nat) : Int) == (0 : Int)))
  else bif (((((r7.2.1 != (0 : Int)) || (r7.1.1 != width)) || (r7.1.2.1 != height)) || (r7.1.2.2.2.1 != p.2.2.1)) || (((r7.1.2.2.1.length : Nat) : Int) != (w64 (width * height)))) then some false
  else Option.bind (α := ((Unit) × (Unit)) ⊕ Bool) (iterW (law3PatternCuts_L2 width height r7 p square r) (((0 : Int), ()), ())) (Sum.elim (fun x20 =>
  some true) some)))) some)
end Go.Proofs.Ytcdpkebphgeipaa
