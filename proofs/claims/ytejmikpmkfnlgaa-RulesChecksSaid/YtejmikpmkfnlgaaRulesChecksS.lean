/- What functions compute, in plain Lean: RulesChecks. No condition of its own. -/
import Derived.Test.YtejmikpmkfnlgaaDen0
namespace Go.Proofs.Ytejmikpmkfnlgaa
open Go.Den
set_option linter.unusedVariables false
set_option maxRecDepth 100000
noncomputable def rulesName_L1 (s : ByteArray) (x1 : (Int × Unit) × (Unit)) : Option (((Int × Unit) × (Unit)) ⊕ (((Unit) × (Unit)) ⊕ Bool)) :=
  bif (decide (x1.1.1 < ((s.size : Nat) : Int))) then (Option.bind (strAt s x1.1.1) fun c2 =>
  Option.bind (gopt (decide (((c2.toNat : Nat) : Int) ≥ (65 : Int))) 0 (strAt s x1.1.1)) fun c3 =>
  Option.bind (gopt ((!(x1.1.1 == (0 : Int))) && (!((decide (((c2.toNat : Nat) : Int) ≥ (65 : Int))) && (decide (((c3.toNat : Nat) : Int) ≤ (90 : Int)))))) 0 (strAt s x1.1.1)) fun c4 =>
  Option.bind (gopt ((!((x1.1.1 == (0 : Int)) || (decide (((c4.toNat : Nat) : Int) < (48 : Int))))) && (!((decide (((c2.toNat : Nat) : Int) ≥ (65 : Int))) && (decide (((c3.toNat : Nat) : Int) ≤ (90 : Int)))))) 0 (strAt s x1.1.1)) fun c5 =>
  bif ((!((decide (((c2.toNat : Nat) : Int) ≥ (65 : Int))) && (decide (((c3.toNat : Nat) : Int) ≤ (90 : Int))))) && (((x1.1.1 == (0 : Int)) || (decide (((c4.toNat : Nat) : Int) < (48 : Int)))) || (decide (((c5.toNat : Nat) : Int) > (57 : Int))))) then some (Sum.inr (Sum.inr false))
  else some (Sum.inl (((w64 (x1.1.1 + (1 : Int))), ()), ())))
  else some (Sum.inr (Sum.inl ((), ())))
noncomputable def rulesName (s : ByteArray) : Option (Bool) :=
  Option.bind (α := ((Unit) × (Unit)) ⊕ Bool) (iterW (rulesName_L1 s) (((0 : Int), ()), ())) (Sum.elim (fun x6 =>
  some ((!(s.toList == (ByteArray.mk #[]).toList)) && (decide (((s.size : Nat) : Int) ≤ (8 : Int))))) some)
noncomputable def rulesWithin_o (n : Int) (low : Int) (high : Int) : Option (Bool) :=
  some ((decide (n ≥ low)) && (decide (n ≤ high)))
def rulesWithin (n : Int) (low : Int) (high : Int) : Bool :=
  ((decide (n ≥ low)) && (decide (n ≤ high)))
theorem rulesWithin_eq (n : Int) (low : Int) (high : Int) : rulesWithin_o n low high = some (rulesWithin n low high) := by
  unfold rulesWithin_o rulesWithin
  first | rfl | simp only [cond_some]
noncomputable def rulesPieces_L3 (d2 : Int × Int × Int × (List (Int × Int × Int × Int × Unit)) × Unit) (x5 : (Int × Unit) × (Unit)) : Option (((Int × Unit) × (Unit)) ⊕ (((Unit) × (Unit)) ⊕ (((Unit) × (Unit)) ⊕ (((Int × Unit) × (Unit)) ⊕ (((Unit) × (Unit)) ⊕ Int))))) :=
  bif (decide (x5.1.1 < ((d2.2.2.2.1.length : Nat) : Int))) then (Option.bind (at? d2.2.2.2.1 x5.1.1) fun d6 =>
  bif (((((!(rulesWithin d6.1 (-7 : Int) (7 : Int))) || (!(rulesWithin d6.2.1 (-7 : Int) (7 : Int)))) || ((d6.1 == (0 : Int)) && (d6.2.1 == (0 : Int)))) || (!(rulesWithin d6.2.2.1 (1 : Int) (7 : Int)))) || (!(rulesWithin d6.2.2.2.1 (0 : Int) (2 : Int)))) then some (Sum.inr (Sum.inr (Sum.inr (Sum.inr (Sum.inr (4 : Int))))))
  else some (Sum.inl (((w64 (x5.1.1 + (1 : Int))), ()), ())))
  else some (Sum.inr (Sum.inl ((), ())))
noncomputable def rulesPieces_L2 (r : ByteArray × Int × Int × (List (Int × Int × Int × (List (Int × Int × Int × Int × Unit)) × Unit)) × (List Int) × Bool × Bool × (List (Int × Int × Int × Bool × Unit)) × Int × Int × Int × Unit) (x1 : (Int × Unit) × (Unit)) (d2 : Int × Int × Int × (List (Int × Int × Int × Int × Unit)) × Unit) (x3 : (Int × Unit) × (Unit)) : Option (((Int × Unit) × (Unit)) ⊕ (((Unit) × (Unit)) ⊕ (((Unit) × (Unit)) ⊕ (((Int × Unit) × (Unit)) ⊕ (((Unit) × (Unit)) ⊕ Int))))) :=
  bif (decide (x3.1.1 < ((((r.2.2.2.1.take (x1.1.1).toNat).drop 0).length : Nat) : Int))) then (Option.bind (at? ((r.2.2.2.1.take (x1.1.1).toNat).drop 0) x3.1.1) fun d4 =>
  bif (d4.1 == d2.1) then (Option.map Sum.inr (Option.map Sum.inr (bif (decide (x3.1.1 ≥ (0 : Int))) then some (Sum.inr (Sum.inr (Sum.inr (7 : Int))))
  else bif ((!(rulesWithin d2.2.1 (0 : Int) (64 : Int))) || (!(rulesWithin d2.2.2.1 (0 : Int) ((r.2.2.2.1.length : Nat) : Int)))) then some (Sum.inr (Sum.inr (Sum.inr (4 : Int))))
  else bif (decide (((d2.2.2.2.1.length : Nat) : Int) > (16 : Int))) then some (Sum.inr (Sum.inr (Sum.inr (2 : Int))))
  else Option.bind (α := ((Unit) × (Unit)) ⊕ (((Unit) × (Unit)) ⊕ (((Int × Unit) × (Unit)) ⊕ (((Unit) × (Unit)) ⊕ Int)))) (iterW (rulesPieces_L3 d2) (((0 : Int), ()), ())) (Sum.elim (fun x7 =>
  some (Sum.inl ((), ()))) some))))
  else some (Sum.inl (((w64 (x3.1.1 + (1 : Int))), ()), ())))
  else some (Sum.inr (Sum.inl ((), ())))
noncomputable def rulesPieces_L4 (d2 : Int × Int × Int × (List (Int × Int × Int × Int × Unit)) × Unit) (x9 : (Int × Unit) × (Unit)) : Option (((Int × Unit) × (Unit)) ⊕ (((Unit) × (Unit)) ⊕ (((Unit) × (Unit)) ⊕ (((Int × Unit) × (Unit)) ⊕ (((Unit) × (Unit)) ⊕ Int))))) :=
  bif (decide (x9.1.1 < ((d2.2.2.2.1.length : Nat) : Int))) then (Option.bind (at? d2.2.2.2.1 x9.1.1) fun d10 =>
  bif (((((!(rulesWithin d10.1 (-7 : Int) (7 : Int))) || (!(rulesWithin d10.2.1 (-7 : Int) (7 : Int)))) || ((d10.1 == (0 : Int)) && (d10.2.1 == (0 : Int)))) || (!(rulesWithin d10.2.2.1 (1 : Int) (7 : Int)))) || (!(rulesWithin d10.2.2.2.1 (0 : Int) (2 : Int)))) then some (Sum.inr (Sum.inr (Sum.inr (Sum.inr (Sum.inr (4 : Int))))))
  else some (Sum.inl (((w64 (x9.1.1 + (1 : Int))), ()), ())))
  else some (Sum.inr (Sum.inl ((), ())))
noncomputable def rulesPieces_L1 (r : ByteArray × Int × Int × (List (Int × Int × Int × (List (Int × Int × Int × Int × Unit)) × Unit)) × (List Int) × Bool × Bool × (List (Int × Int × Int × Bool × Unit)) × Int × Int × Int × Unit) (x1 : (Int × Unit) × (Unit)) : Option (((Int × Unit) × (Unit)) ⊕ (((Unit) × (Unit)) ⊕ Int)) :=
  bif (decide (x1.1.1 < ((r.2.2.2.1.length : Nat) : Int))) then (Option.bind (α := ((Unit) × (Unit)) ⊕ (((Int × Unit) × (Unit)) ⊕ (((Unit) × (Unit)) ⊕ Int))) (Option.bind (at? r.2.2.2.1 x1.1.1) fun d2 =>
  bif ((decide (d2.1 < (65 : Int))) || (decide (d2.1 > (90 : Int)))) then some (Sum.inr (Sum.inr (Sum.inr (6 : Int))))
  else req (boundsI (0 : Int) x1.1.1 r.2.2.2.1.length) (Option.bind (α := ((Unit) × (Unit)) ⊕ (((Unit) × (Unit)) ⊕ (((Int × Unit) × (Unit)) ⊕ (((Unit) × (Unit)) ⊕ Int)))) (iterW (rulesPieces_L2 r x1 d2) (((0 : Int), ()), ())) (Sum.elim (fun x8 =>
  bif ((!(rulesWithin d2.2.1 (0 : Int) (64 : Int))) || (!(rulesWithin d2.2.2.1 (0 : Int) ((r.2.2.2.1.length : Nat) : Int)))) then some (Sum.inr (Sum.inr (Sum.inr (4 : Int))))
  else bif (decide (((d2.2.2.2.1.length : Nat) : Int) > (16 : Int))) then some (Sum.inr (Sum.inr (Sum.inr (2 : Int))))
  else Option.bind (α := ((Unit) × (Unit)) ⊕ (((Unit) × (Unit)) ⊕ (((Int × Unit) × (Unit)) ⊕ (((Unit) × (Unit)) ⊕ Int)))) (iterW (rulesPieces_L4 d2) (((0 : Int), ()), ())) (Sum.elim (fun x11 =>
  some (Sum.inl ((), ()))) some)) some))) (Sum.elim (fun x12 =>
  some (Sum.inl (((w64 (x1.1.1 + (1 : Int))), ()), ()))) some))
  else some (Sum.inr (Sum.inl ((), ())))
noncomputable def rulesPieces (r : ByteArray × Int × Int × (List (Int × Int × Int × (List (Int × Int × Int × Int × Unit)) × Unit)) × (List Int) × Bool × Bool × (List (Int × Int × Int × Bool × Unit)) × Int × Int × Int × Unit) : Option (Int) :=
  bif (((r.2.2.2.1.length : Nat) : Int) == (0 : Int)) then some (8 : Int)
  else bif (decide (((r.2.2.2.1.length : Nat) : Int) > (6 : Int))) then some (2 : Int)
  else Option.bind (α := ((Unit) × (Unit)) ⊕ Int) (iterW (rulesPieces_L1 r) (((0 : Int), ()), ())) (Sum.elim (fun x13 =>
  some (0 : Int)) some)
noncomputable def rulesConditions_L1 (r : ByteArray × Int × Int × (List (Int × Int × Int × (List (Int × Int × Int × Int × Unit)) × Unit)) × (List Int) × Bool × Bool × (List (Int × Int × Int × Bool × Unit)) × Int × Int × Int × Unit) (x1 : (Int × Unit) × (Unit)) : Option (((Int × Unit) × (Unit)) ⊕ (((Unit) × (Unit)) ⊕ Int)) :=
  bif (decide (x1.1.1 < ((r.2.2.2.2.2.2.2.1.length : Nat) : Int))) then (Option.bind (at? r.2.2.2.2.2.2.2.1 x1.1.1) fun d2 =>
  Option.bind (α := ((Bool × Bool × Unit) × (Unit)) ⊕ (((Int × Unit) × (Unit)) ⊕ (((Unit) × (Unit)) ⊕ Int))) (bif (d2.1 == (0 : Int)) then some (Sum.inl (((rulesWithin d2.2.2.1 (1 : Int) (64 : Int)), (d2.2.1 == (0 : Int)), ()), ()))
  else Option.bind (α := ((Bool × Unit) × (Unit)) ⊕ (((Bool × Bool × Unit) × (Unit)) ⊕ (((Int × Unit) × (Unit)) ⊕ (((Unit) × (Unit)) ⊕ Int)))) (bif (d2.1 == (1 : Int)) then some (Sum.inl (((d2.2.2.1 == (0 : Int)), ()), ()))
  else bif (d2.1 == (2 : Int)) then some (Sum.inl (((rulesWithin d2.2.2.1 (1 : Int) (64 : Int)), ()), ()))
  else some (Sum.inr (Sum.inr (Sum.inr (Sum.inr (1 : Int)))))) (Sum.elim (fun x3 =>
  some (Sum.inl ((x3.1.1, (rulesWithin d2.2.1 (0 : Int) (w64 (((r.2.2.2.1.length : Nat) : Int) - (1 : Int)))), ()), ()))) some)) (Sum.elim (fun x4 =>
  bif ((!x4.1.1) || (!x4.1.2.1)) then some (Sum.inr (Sum.inr (4 : Int)))
  else some (Sum.inl (((w64 (x1.1.1 + (1 : Int))), ()), ()))) some))
  else some (Sum.inr (Sum.inl ((), ())))
noncomputable def rulesConditions (r : ByteArray × Int × Int × (List (Int × Int × Int × (List (Int × Int × Int × Int × Unit)) × Unit)) × (List Int) × Bool × Bool × (List (Int × Int × Int × Bool × Unit)) × Int × Int × Int × Unit) : Option (Int) :=
  bif (decide (((r.2.2.2.2.2.2.2.1.length : Nat) : Int) > (6 : Int))) then some (2 : Int)
  else Option.bind (α := ((Unit) × (Unit)) ⊕ Int) (iterW (rulesConditions_L1 r) (((0 : Int), ()), ())) (Sum.elim (fun x5 =>
  some (0 : Int)) some)
noncomputable def rulesCheck_L1 (r : ByteArray × Int × Int × (List (Int × Int × Int × (List (Int × Int × Int × Int × Unit)) × Unit)) × (List Int) × Bool × Bool × (List (Int × Int × Int × Bool × Unit)) × Int × Int × Int × Unit) (x6 : (Int × Unit) × (Unit)) : Option (((Int × Unit) × (Unit)) ⊕ (((Unit) × (Unit)) ⊕ Int)) :=
  bif (decide (x6.1.1 < ((r.2.2.2.2.1.length : Nat) : Int))) then (Option.bind (at? r.2.2.2.2.1 x6.1.1) fun d7 =>
  bif (!(rulesWithin d7 (0 : Int) (w64 ((2 : Int) * ((r.2.2.2.1.length : Nat) : Int))))) then (Option.map Sum.inr (Option.map Sum.inr (bif (decide (x6.1.1 ≥ (0 : Int))) then some (4 : Int)
  else Option.bind (rulesConditions r) fun r8 =>
  bif (r8 != (0 : Int)) then some r8
  else bif (((!(rulesWithin r.2.2.2.2.2.2.2.2.1 (0 : Int) (2 : Int))) || (!(rulesWithin r.2.2.2.2.2.2.2.2.2.1 (0 : Int) (200 : Int)))) || ((r.2.2.2.2.2.2.2.2.2.2.1 != (0 : Int)) && (!(rulesWithin r.2.2.2.2.2.2.2.2.2.2.1 (2 : Int) (5 : Int))))) then some (4 : Int)
  else some (0 : Int))))
  else some (Sum.inl (((w64 (x6.1.1 + (1 : Int))), ()), ())))
  else some (Sum.inr (Sum.inl ((), ())))
noncomputable def rulesCheck (r : ByteArray × Int × Int × (List (Int × Int × Int × (List (Int × Int × Int × Int × Unit)) × Unit)) × (List Int) × Bool × Bool × (List (Int × Int × Int × Bool × Unit)) × Int × Int × Int × Unit) : Option (Int) :=
  Option.bind (rulesName r.1) fun r4 =>
  bif (!r4) then some (6 : Int)
  else bif ((!(rulesWithin r.2.1 (1 : Int) (8 : Int))) || (!(rulesWithin r.2.2.1 (1 : Int) (8 : Int)))) then some (4 : Int)
  else Option.bind (rulesPieces r) fun r5 =>
  bif (r5 != (0 : Int)) then some r5
  else bif (((r.2.2.2.2.1.length : Nat) : Int) != (w64 (r.2.1 * r.2.2.1))) then some (3 : Int)
  else Option.bind (α := ((Unit) × (Unit)) ⊕ Int) (iterW (rulesCheck_L1 r) (((0 : Int), ()), ())) (Sum.elim (fun x9 =>
  Option.bind (rulesConditions r) fun r10 =>
  bif (r10 != (0 : Int)) then some r10
  else bif (((!(rulesWithin r.2.2.2.2.2.2.2.2.1 (0 : Int) (2 : Int))) || (!(rulesWithin r.2.2.2.2.2.2.2.2.2.1 (0 : Int) (200 : Int)))) || ((r.2.2.2.2.2.2.2.2.2.2.1 != (0 : Int)) && (!(rulesWithin r.2.2.2.2.2.2.2.2.2.2.1 (2 : Int) (5 : Int))))) then some (4 : Int)
  else some (0 : Int)) some)
noncomputable def law1Three_o : Option (ByteArray × Int × Int × (List (Int × Int × Int × (List (Int × Int × Int × Int × Unit)) × Unit)) × (List Int) × Bool × Bool × (List (Int × Int × Int × Bool × Unit)) × Int × Int × Int × Unit) :=
  some ((ByteArray.mk #[84, 73, 67]), ((3 : Int), ((3 : Int), ([((65 : Int), ((5 : Int), ((0 : Int), ([], ()))))], ((List.replicate 9 (0 : Int)), (false, (false, ([((0 : Int), ((0 : Int), ((3 : Int), (false, ()))))], ((2 : Int), ((0 : Int), ((0 : Int), ())))))))))))
def law1Three : ByteArray × Int × Int × (List (Int × Int × Int × (List (Int × Int × Int × Int × Unit)) × Unit)) × (List Int) × Bool × Bool × (List (Int × Int × Int × Bool × Unit)) × Int × Int × Int × Unit :=
  ((ByteArray.mk #[84, 73, 67]), ((3 : Int), ((3 : Int), ([((65 : Int), ((5 : Int), ((0 : Int), ([], ()))))], ((List.replicate 9 (0 : Int)), (false, (false, ([((0 : Int), ((0 : Int), ((3 : Int), (false, ()))))], ((2 : Int), ((0 : Int), ((0 : Int), ())))))))))))
theorem law1Three_eq : law1Three_o = some (law1Three) := by
  unfold law1Three_o law1Three
  first | rfl | simp only [cond_some]
noncomputable def rulesIsLast (r : ByteArray × Int × Int × (List (Int × Int × Int × (List (Int × Int × Int × Int × Unit)) × Unit)) × (List Int) × Bool × Bool × (List (Int × Int × Int × Bool × Unit)) × Int × Int × Int × Unit) (player : Int) (square : Int) : Option (Bool) :=
  bif (player == (0 : Int)) then req (r.2.1 != 0) (some ((w64 (square.tdiv r.2.1)) == (w64 (r.2.2.1 - (1 : Int)))))
  else req (r.2.1 != 0) (some ((w64 (square.tdiv r.2.1)) == (0 : Int)))
noncomputable def rulesLast (r : ByteArray × Int × Int × (List (Int × Int × Int × (List (Int × Int × Int × Int × Unit)) × Unit)) × (List Int) × Bool × Bool × (List (Int × Int × Int × Bool × Unit)) × Int × Int × Int × Unit) (player : Int) (square : Int) : Option (Bool × Int × Unit) :=
  Option.bind (rulesCheck r) fun r3 =>
  bif (r3 != (0 : Int)) then some (false, (r3, ()))
  else bif ((player != (0 : Int)) && (player != (1 : Int))) then some (false, ((1 : Int), ()))
  else bif (!(rulesWithin square (0 : Int) (w64 ((w64 (r.2.1 * r.2.2.1)) - (1 : Int))))) then some (false, ((4 : Int), ()))
  else Option.bind (rulesIsLast r player square) fun r4 =>
  some (r4, ((0 : Int), ()))
noncomputable def ref1In_o (n : Int) (low : Int) (high : Int) : Option (Bool) :=
  some ((decide (n ≥ low)) && (decide (n ≤ high)))
def ref1In (n : Int) (low : Int) (high : Int) : Bool :=
  ((decide (n ≥ low)) && (decide (n ≤ high)))
theorem ref1In_eq (n : Int) (low : Int) (high : Int) : ref1In_o n low high = some (ref1In n low high) := by
  unfold ref1In_o ref1In
  first | rfl | simp only [cond_some]
noncomputable def ref1Named_L1 (s : ByteArray) (x1 : (Int × Unit) × (Unit)) : Option (((Int × Unit) × (Unit)) ⊕ (((Unit) × (Unit)) ⊕ Bool)) :=
  bif (decide (x1.1.1 < ((s.size : Nat) : Int))) then (Option.bind (strAt s x1.1.1) fun c2 =>
  Option.bind (gopt (!(ref1In (w64 ((c2.toNat : Nat) : Int)) (48 : Int) (57 : Int))) 0 (strAt s x1.1.1)) fun c3 =>
  bif (((!(ref1In (w64 ((c2.toNat : Nat) : Int)) (48 : Int) (57 : Int))) && (!(ref1In (w64 ((c3.toNat : Nat) : Int)) (65 : Int) (90 : Int)))) || ((ref1In (w64 ((c2.toNat : Nat) : Int)) (48 : Int) (57 : Int)) && (x1.1.1 == (0 : Int)))) then some (Sum.inr (Sum.inr false))
  else some (Sum.inl (((w64 (x1.1.1 + (1 : Int))), ()), ())))
  else some (Sum.inr (Sum.inl ((), ())))
noncomputable def ref1Named (s : ByteArray) : Option (Bool) :=
  Option.bind (α := ((Unit) × (Unit)) ⊕ Bool) (iterW (ref1Named_L1 s) (((0 : Int), ()), ())) (Sum.elim (fun x4 =>
  some (ref1In ((s.size : Nat) : Int) (1 : Int) (8 : Int))) some)
noncomputable def ref1PieceError_L1 (i : Int) (l : List (Int × Int × Int × (List (Int × Int × Int × Int × Unit)) × Unit)) (d2 : Int × Int × Int × (List (Int × Int × Int × Int × Unit)) × Unit) (x3 : (Int × Unit) × (Unit)) : Option (((Int × Unit) × (Unit)) ⊕ (((Unit) × (Unit)) ⊕ Int)) :=
  bif (decide (x3.1.1 < i)) then (Option.bind (at? l x3.1.1) fun d4 =>
  bif (d4.1 == d2.1) then some (Sum.inr (Sum.inr (7 : Int)))
  else some (Sum.inl (((w64 (x3.1.1 + (1 : Int))), ()), ())))
  else some (Sum.inr (Sum.inl ((), ())))
noncomputable def ref1PieceError_L2 (d2 : Int × Int × Int × (List (Int × Int × Int × Int × Unit)) × Unit) (x6 : (Int × Unit) × (Unit)) : Option (((Int × Unit) × (Unit)) ⊕ (((Unit) × (Unit)) ⊕ Int)) :=
  bif (decide (x6.1.1 < ((d2.2.2.2.1.length : Nat) : Int))) then (Option.bind (at? d2.2.2.2.1 x6.1.1) fun d7 =>
  bif (((((!(ref1In d7.1 (-7 : Int) (7 : Int))) || (!(ref1In d7.2.1 (-7 : Int) (7 : Int)))) || ((d7.1 == (0 : Int)) && (d7.2.1 == (0 : Int)))) || (!(ref1In d7.2.2.1 (1 : Int) (7 : Int)))) || (!(ref1In d7.2.2.2.1 (0 : Int) (2 : Int)))) then some (Sum.inr (Sum.inr (4 : Int)))
  else some (Sum.inl (((w64 (x6.1.1 + (1 : Int))), ()), ())))
  else some (Sum.inr (Sum.inl ((), ())))
noncomputable def ref1PieceError (l : List (Int × Int × Int × (List (Int × Int × Int × Int × Unit)) × Unit)) (i : Int) : Option (Int) :=
  Option.bind (at? l i) fun d2 =>
  bif (!(ref1In (w64 d2.1) (65 : Int) (90 : Int))) then some (6 : Int)
  else Option.bind (α := ((Unit) × (Unit)) ⊕ Int) (iterW (ref1PieceError_L1 i l d2) (((0 : Int), ()), ())) (Sum.elim (fun x5 =>
  bif ((!(ref1In d2.2.1 (0 : Int) (64 : Int))) || (!(ref1In d2.2.2.1 (0 : Int) ((l.length : Nat) : Int)))) then some (4 : Int)
  else bif (decide (((d2.2.2.2.1.length : Nat) : Int) > (16 : Int))) then some (2 : Int)
  else Option.bind (α := ((Unit) × (Unit)) ⊕ Int) (iterW (ref1PieceError_L2 d2) (((0 : Int), ()), ())) (Sum.elim (fun x8 =>
  some (0 : Int)) some)) some)
noncomputable def ref1RulesError_L1 (r : ByteArray × Int × Int × (List (Int × Int × Int × (List (Int × Int × Int × Int × Unit)) × Unit)) × (List Int) × Bool × Bool × (List (Int × Int × Int × Bool × Unit)) × Int × Int × Int × Unit) (x3 : (Int × Unit) × (Unit)) : Option (((Int × Unit) × (Unit)) ⊕ (((Unit) × (Unit)) ⊕ Int)) :=
  bif (decide (x3.1.1 < ((r.2.2.2.1.length : Nat) : Int))) then (Option.bind (ref1PieceError r.2.2.2.1 x3.1.1) fun r4 =>
  bif (r4 != (0 : Int)) then some (Sum.inr (Sum.inr r4))
  else some (Sum.inl (((w64 (x3.1.1 + (1 : Int))), ()), ())))
  else some (Sum.inr (Sum.inl ((), ())))
noncomputable def ref1RulesError_L2 (r : ByteArray × Int × Int × (List (Int × Int × Int × (List (Int × Int × Int × Int × Unit)) × Unit)) × (List Int) × Bool × Bool × (List (Int × Int × Int × Bool × Unit)) × Int × Int × Int × Unit) (x6 : (Int × Unit) × (Unit)) : Option (((Int × Unit) × (Unit)) ⊕ (((Unit) × (Unit)) ⊕ Int)) :=
  bif (decide (x6.1.1 < ((r.2.2.2.2.1.length : Nat) : Int))) then (Option.bind (at? r.2.2.2.2.1 x6.1.1) fun d7 =>
  bif (!(ref1In d7 (0 : Int) (w64 ((2 : Int) * ((r.2.2.2.1.length : Nat) : Int))))) then some (Sum.inr (Sum.inr (4 : Int)))
  else some (Sum.inl (((w64 (x6.1.1 + (1 : Int))), ()), ())))
  else some (Sum.inr (Sum.inl ((), ())))
noncomputable def ref1RulesError_L3 (r : ByteArray × Int × Int × (List (Int × Int × Int × (List (Int × Int × Int × Int × Unit)) × Unit)) × (List Int) × Bool × Bool × (List (Int × Int × Int × Bool × Unit)) × Int × Int × Int × Unit) (x9 : (Int × Unit) × (Unit)) : Option (((Int × Unit) × (Unit)) ⊕ (((Unit) × (Unit)) ⊕ Int)) :=
  bif (decide (x9.1.1 < ((r.2.2.2.2.2.2.2.1.length : Nat) : Int))) then (Option.bind (at? r.2.2.2.2.2.2.2.1 x9.1.1) fun d10 =>
  bif (!(ref1In d10.1 (0 : Int) (2 : Int))) then some (Sum.inr (Sum.inr (1 : Int)))
  else Option.bind (bif (d10.1 == (1 : Int)) then some (((d10.2.2.1 == (0 : Int)), ()), ())
  else some (((ref1In d10.2.2.1 (1 : Int) (64 : Int)), ()), ())) fun x11 =>
  Option.bind (bif (d10.1 == (0 : Int)) then some (((d10.2.1 == (0 : Int)), ()), ())
  else some (((ref1In d10.2.1 (0 : Int) (w64 (((r.2.2.2.1.length : Nat) : Int) - (1 : Int)))), ()), ())) fun x12 =>
  bif ((!x11.1.1) || (!x12.1.1)) then some (Sum.inr (Sum.inr (4 : Int)))
  else some (Sum.inl (((w64 (x9.1.1 + (1 : Int))), ()), ())))
  else some (Sum.inr (Sum.inl ((), ())))
noncomputable def ref1RulesError (r : ByteArray × Int × Int × (List (Int × Int × Int × (List (Int × Int × Int × Int × Unit)) × Unit)) × (List Int) × Bool × Bool × (List (Int × Int × Int × Bool × Unit)) × Int × Int × Int × Unit) : Option (Int) :=
  Option.bind (ref1Named r.1) fun r2 =>
  bif (!r2) then some (6 : Int)
  else bif ((!(ref1In r.2.1 (1 : Int) (8 : Int))) || (!(ref1In r.2.2.1 (1 : Int) (8 : Int)))) then some (4 : Int)
  else bif (((r.2.2.2.1.length : Nat) : Int) == (0 : Int)) then some (8 : Int)
  else bif (decide (((r.2.2.2.1.length : Nat) : Int) > (6 : Int))) then some (2 : Int)
  else Option.bind (α := ((Unit) × (Unit)) ⊕ Int) (iterW (ref1RulesError_L1 r) (((0 : Int), ()), ())) (Sum.elim (fun x5 =>
  bif (((r.2.2.2.2.1.length : Nat) : Int) != (w64 (r.2.1 * r.2.2.1))) then some (3 : Int)
  else Option.bind (α := ((Unit) × (Unit)) ⊕ Int) (iterW (ref1RulesError_L2 r) (((0 : Int), ()), ())) (Sum.elim (fun x8 =>
  bif (decide (((r.2.2.2.2.2.2.2.1.length : Nat) : Int) > (6 : Int))) then some (2 : Int)
  else Option.bind (α := ((Unit) × (Unit)) ⊕ Int) (iterW (ref1RulesError_L3 r) (((0 : Int), ()), ())) (Sum.elim (fun x13 =>
  bif (((!(ref1In r.2.2.2.2.2.2.2.2.1 (0 : Int) (2 : Int))) || (!(ref1In r.2.2.2.2.2.2.2.2.2.1 (0 : Int) (200 : Int)))) || ((r.2.2.2.2.2.2.2.2.2.2.1 != (0 : Int)) && (!(ref1In r.2.2.2.2.2.2.2.2.2.2.1 (2 : Int) (5 : Int))))) then some (4 : Int)
  else some (0 : Int)) some)) some)) some)
noncomputable def law1RulesChecks (r : ByteArray × Int × Int × (List (Int × Int × Int × (List (Int × Int × Int × Int × Unit)) × Unit)) × (List Int) × Bool × Bool × (List (Int × Int × Int × Bool × Unit)) × Int × Int × Int × Unit) (s : ByteArray) (player : Int) (square : Int) : Option (Bool) :=
  Option.bind (Option.bind (rulesCheck ((ByteArray.mk #[]), ((0 : Int), ((0 : Int), ([], ([], (false, (false, ([], ((0 : Int), ((0 : Int), ((0 : Int), ())))))))))))) fun r8 =>
  bif (r8 != (6 : Int)) then some ((true, ()), ())
  else Option.bind (rulesCheck ((law1Three).1, (((law1Three).2).1, ((((law1Three).2).2).1, (((((law1Three).2).2).2).1, ((((((law1Three).2).2).2).2).1, (((((((law1Three).2).2).2).2).2).1, ((((((((law1Three).2).2).2).2).2).2).1, (((((((((law1Three).2).2).2).2).2).2).2).1, ((((((((((law1Three).2).2).2).2).2).2).2).2).1, (((((((((((law1Three).2).2).2).2).2).2).2).2).2).1, ((((((((((((law1Three).2).2).2).2).2).2).2).2).2).2).1, ())))))))))))) fun r9 =>
  some (((r9 != (0 : Int)), ()), ())) fun x10 =>
  bif x10.1.1 then some false
  else Option.bind (rulesLast ((law1Three).1, (((law1Three).2).1, ((((law1Three).2).2).1, (((((law1Three).2).2).2).1, ((((((law1Three).2).2).2).2).1, (((((((law1Three).2).2).2).2).2).1, ((((((((law1Three).2).2).2).2).2).2).1, (((((((((law1Three).2).2).2).2).2).2).2).1, ((((((((((law1Three).2).2).2).2).2).2).2).2).1, (((((((((((law1Three).2).2).2).2).2).2).2).2).2).1, ((((((((((((law1Three).2).2).2).2).2).2).2).2).2).2).1, ()))))))))))) (0 : Int) (7 : Int)) fun r11 =>
  Option.bind (gopt (!((r11.2.1 != (0 : Int)) || (!r11.1))) false (rulesName (ByteArray.mk #[65, 49]))) fun r12 =>
  bif (((r11.2.1 != (0 : Int)) || (!r11.1)) || (!r12)) then some false
  else Option.bind (ref1RulesError r) fun r13 =>
  Option.bind (rulesCheck r) fun r14 =>
  Option.bind (gopt (!(r14 != r13)) false (rulesName s)) fun r15 =>
  Option.bind (gopt (!(r14 != r13)) false (ref1Named s)) fun r16 =>
  bif ((r14 != r13) || (!(r15 == r16))) then some false
  else Option.bind (rulesLast r player square) fun r17 =>
  Option.bind (bif ((r13 == (0 : Int)) && (!(ref1In player (0 : Int) (1 : Int)))) then some (((1 : Int), ()), ())
  else some ((r13, ()), ())) fun x18 =>
  Option.bind (bif ((x18.1.1 == (0 : Int)) && (!(ref1In square (0 : Int) (w64 (((r.2.2.2.2.1.length : Nat) : Int) - (1 : Int)))))) then some (((4 : Int), ()), ())
  else some ((x18.1.1, ()), ())) fun x19 =>
  bif (x19.1.1 != (0 : Int)) then some ((r17.2.1 == x19.1.1) && (!r17.1))
  else req (r.2.1 != 0) (some ((r17.2.1 == (0 : Int)) && (r17.1 == (((player == (0 : Int)) && ((w64 (square.tdiv r.2.1)) == (w64 (r.2.2.1 - (1 : Int))))) || ((player == (1 : Int)) && ((w64 (square.tdiv r.2.1)) == (0 : Int)))))))
end Go.Proofs.Ytejmikpmkfnlgaa
