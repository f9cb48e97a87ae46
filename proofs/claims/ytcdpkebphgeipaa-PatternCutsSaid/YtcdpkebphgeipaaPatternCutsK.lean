/- Functions that can be evaluated: PatternCuts. No condition of its own. -/
import Derived.Test.YtcdpkebphgeipaaDenP
import Derived.Test.YtcdpkebphgeipaaPatternCutsS
namespace Go.Proofs.Ytcdpkebphgeipaa
open Go.Den
set_option linter.unusedVariables false
set_option maxRecDepth 100000
set_option synthInstance.maxSize 4096
set_option synthInstance.maxHeartbeats 400000
def rulesName_L1_c (fu : Nat) (s : ByteArray) (x1 : (Int × Unit) × (Unit)) : Option (((Int × Unit) × (Unit)) ⊕ (((Unit) × (Unit)) ⊕ Bool)) :=
  bif (decide (x1.1.1 < ((s.size : Nat) : Int))) then (Option.bind (strAt s x1.1.1) fun c2 =>
  Option.bind (gopt (decide (((c2.toNat : Nat) : Int) ≥ (65 : Int))) 0 (strAt s x1.1.1)) fun c3 =>
  Option.bind (gopt ((!(x1.1.1 == (0 : Int))) && (!((decide (((c2.toNat : Nat) : Int) ≥ (65 : Int))) && (decide (((c3.toNat : Nat) : Int) ≤ (90 : Int)))))) 0 (strAt s x1.1.1)) fun c4 =>
  Option.bind (gopt ((!((x1.1.1 == (0 : Int)) || (decide (((c4.toNat : Nat) : Int) < (48 : Int))))) && (!((decide (((c2.toNat : Nat) : Int) ≥ (65 : Int))) && (decide (((c3.toNat : Nat) : Int) ≤ (90 : Int)))))) 0 (strAt s x1.1.1)) fun c5 =>
  bif ((!((decide (((c2.toNat : Nat) : Int) ≥ (65 : Int))) && (decide (((c3.toNat : Nat) : Int) ≤ (90 : Int))))) && (((x1.1.1 == (0 : Int)) || (decide (((c4.toNat : Nat) : Int) < (48 : Int)))) || (decide (((c5.toNat : Nat) : Int) > (57 : Int))))) then some (Sum.inr (Sum.inr false))
  else some (Sum.inl (((w64 (x1.1.1 + (1 : Int))), ()), ())))
  else some (Sum.inr (Sum.inl ((), ())))
theorem rulesName_L1_m (fu : Nat) (s : ByteArray) (x1 : (Int × Unit) × (Unit)) : Le (rulesName_L1_c fu s x1) (rulesName_L1 s x1) := by
  unfold rulesName_L1_c rulesName_L1
  repeat (first | exact Le.refl _ | assumption | apply Le.cond | apply Le.req | apply Le.gopt | apply Le.map | apply Le.agree | refine Le.iter (fun _ => ?_) _ _ | refine Le.bind ?_ (Le.elim (fun _ => ?_) (fun _ => ?_)) | refine Le.bind ?_ (fun _ => ?_) | apply hself)
def rulesName_c (fu : Nat) (s : ByteArray) : Option (Bool) :=
  Option.bind (α := ((Unit) × (Unit)) ⊕ Bool) (iterN (rulesName_L1_c fu s) fu (((0 : Int), ()), ())) (Sum.elim (fun x6 =>
  some ((!(s.toList == (ByteArray.mk #[]).toList)) && (decide (((s.size : Nat) : Int) ≤ (8 : Int))))) some)
theorem rulesName_m (fu : Nat) (s : ByteArray) : Le (rulesName_c fu s) (rulesName s) := by
  unfold rulesName_c rulesName
  repeat (first | exact Le.refl _ | assumption | apply rulesName_L1_m | apply Le.cond | apply Le.req | apply Le.gopt | apply Le.map | apply Le.agree | refine Le.iter (fun _ => ?_) _ _ | refine Le.bind ?_ (Le.elim (fun _ => ?_) (fun _ => ?_)) | refine Le.bind ?_ (fun _ => ?_) | apply hself)
def rulesPieces_L3_c (fu : Nat) (d2 : Int × Int × Int × (List (Int × Int × Int × Int × Unit)) × Unit) (x5 : (Int × Unit) × (Unit)) : Option (((Int × Unit) × (Unit)) ⊕ (((Unit) × (Unit)) ⊕ (((Unit) × (Unit)) ⊕ (((Int × Unit) × (Unit)) ⊕ (((Unit) × (Unit)) ⊕ Int))))) :=
  bif (decide (x5.1.1 < ((d2.2.2.2.1.length : Nat) : Int))) then (Option.bind (at? d2.2.2.2.1 x5.1.1) fun d6 =>
  bif (((((!(rulesWithin d6.1 (-7 : Int) (7 : Int))) || (!(rulesWithin d6.2.1 (-7 : Int) (7 : Int)))) || ((d6.1 == (0 : Int)) && (d6.2.1 == (0 : Int)))) || (!(rulesWithin d6.2.2.1 (1 : Int) (7 : Int)))) || (!(rulesWithin d6.2.2.2.1 (0 : Int) (2 : Int)))) then some (Sum.inr (Sum.inr (Sum.inr (Sum.inr (Sum.inr (4 : Int))))))
  else some (Sum.inl (((w64 (x5.1.1 + (1 : Int))), ()), ())))
  else some (Sum.inr (Sum.inl ((), ())))
theorem rulesPieces_L3_m (fu : Nat) (d2 : Int × Int × Int × (List (Int × Int × Int × Int × Unit)) × Unit) (x5 : (Int × Unit) × (Unit)) : Le (rulesPieces_L3_c fu d2 x5) (rulesPieces_L3 d2 x5) := by
  unfold rulesPieces_L3_c rulesPieces_L3
  repeat (first | exact Le.refl _ | assumption | apply Le.cond | apply Le.req | apply Le.gopt | apply Le.map | apply Le.agree | refine Le.iter (fun _ => ?_) _ _ | refine Le.bind ?_ (Le.elim (fun _ => ?_) (fun _ => ?_)) | refine Le.bind ?_ (fun _ => ?_) | apply hself)
def rulesPieces_L2_c (fu : Nat) (r : ByteArray × Int × Int × (List (Int × Int × Int × (List (Int × Int × Int × Int × Unit)) × Unit)) × (List Int) × Bool × Bool × (List (Int × Int × Int × Bool × Unit)) × Int × Int × Int × Unit) (x1 : (Int × Unit) × (Unit)) (d2 : Int × Int × Int × (List (Int × Int × Int × Int × Unit)) × Unit) (x3 : (Int × Unit) × (Unit)) : Option (((Int × Unit) × (Unit)) ⊕ (((Unit) × (Unit)) ⊕ (((Unit) × (Unit)) ⊕ (((Int × Unit) × (Unit)) ⊕ (((Unit) × (Unit)) ⊕ Int))))) :=
  bif (decide (x3.1.1 < ((((r.2.2.2.1.take (x1.1.1).toNat).drop 0).length : Nat) : Int))) then (Option.bind (at? ((r.2.2.2.1.take (x1.1.1).toNat).drop 0) x3.1.1) fun d4 =>
  bif (d4.1 == d2.1) then (Option.map Sum.inr (Option.map Sum.inr (bif (decide (x3.1.1 ≥ (0 : Int))) then some (Sum.inr (Sum.inr (Sum.inr (7 : Int))))
  else bif ((!(rulesWithin d2.2.1 (0 : Int) (64 : Int))) || (!(rulesWithin d2.2.2.1 (0 : Int) ((r.2.2.2.1.length : Nat) : Int)))) then some (Sum.inr (Sum.inr (Sum.inr (4 : Int))))
  else bif (decide (((d2.2.2.2.1.length : Nat) : Int) > (16 : Int))) then some (Sum.inr (Sum.inr (Sum.inr (2 : Int))))
  else Option.bind (α := ((Unit) × (Unit)) ⊕ (((Unit) × (Unit)) ⊕ (((Int × Unit) × (Unit)) ⊕ (((Unit) × (Unit)) ⊕ Int)))) (iterN (rulesPieces_L3_c fu d2) fu (((0 : Int), ()), ())) (Sum.elim (fun x7 =>
  some (Sum.inl ((), ()))) some))))
  else some (Sum.inl (((w64 (x3.1.1 + (1 : Int))), ()), ())))
  else some (Sum.inr (Sum.inl ((), ())))
theorem rulesPieces_L2_m (fu : Nat) (r : ByteArray × Int × Int × (List (Int × Int × Int × (List (Int × Int × Int × Int × Unit)) × Unit)) × (List Int) × Bool × Bool × (List (Int × Int × Int × Bool × Unit)) × Int × Int × Int × Unit) (x1 : (Int × Unit) × (Unit)) (d2 : Int × Int × Int × (List (Int × Int × Int × Int × Unit)) × Unit) (x3 : (Int × Unit) × (Unit)) : Le (rulesPieces_L2_c fu r x1 d2 x3) (rulesPieces_L2 r x1 d2 x3) := by
  unfold rulesPieces_L2_c rulesPieces_L2
  repeat (first | exact Le.refl _ | assumption | apply rulesPieces_L3_m | apply Le.cond | apply Le.req | apply Le.gopt | apply Le.map | apply Le.agree | refine Le.iter (fun _ => ?_) _ _ | refine Le.bind ?_ (Le.elim (fun _ => ?_) (fun _ => ?_)) | refine Le.bind ?_ (fun _ => ?_) | apply hself)
def rulesPieces_L4_c (fu : Nat) (d2 : Int × Int × Int × (List (Int × Int × Int × Int × Unit)) × Unit) (x9 : (Int × Unit) × (Unit)) : Option (((Int × Unit) × (Unit)) ⊕ (((Unit) × (Unit)) ⊕ (((Unit) × (Unit)) ⊕ (((Int × Unit) × (Unit)) ⊕ (((Unit) × (Unit)) ⊕ Int))))) :=
  bif (decide (x9.1.1 < ((d2.2.2.2.1.length : Nat) : Int))) then (Option.bind (at? d2.2.2.2.1 x9.1.1) fun d10 =>
  bif (((((!(rulesWithin d10.1 (-7 : Int) (7 : Int))) || (!(rulesWithin d10.2.1 (-7 : Int) (7 : Int)))) || ((d10.1 == (0 : Int)) && (d10.2.1 == (0 : Int)))) || (!(rulesWithin d10.2.2.1 (1 : Int) (7 : Int)))) || (!(rulesWithin d10.2.2.2.1 (0 : Int) (2 : Int)))) then some (Sum.inr (Sum.inr (Sum.inr (Sum.inr (Sum.inr (4 : Int))))))
  else some (Sum.inl (((w64 (x9.1.1 + (1 : Int))), ()), ())))
  else some (Sum.inr (Sum.inl ((), ())))
theorem rulesPieces_L4_m (fu : Nat) (d2 : Int × Int × Int × (List (Int × Int × Int × Int × Unit)) × Unit) (x9 : (Int × Unit) × (Unit)) : Le (rulesPieces_L4_c fu d2 x9) (rulesPieces_L4 d2 x9) := by
  unfold rulesPieces_L4_c rulesPieces_L4
  repeat (first | exact Le.refl _ | assumption | apply Le.cond | apply Le.req | apply Le.gopt | apply Le.map | apply Le.agree | refine Le.iter (fun _ => ?_) _ _ | refine Le.bind ?_ (Le.elim (fun _ => ?_) (fun _ => ?_)) | refine Le.bind ?_ (fun _ => ?_) | apply hself)
def rulesPieces_L1_c (fu : Nat) (r : ByteArray × Int × Int × (List (Int × Int × Int × (List (Int × Int × Int × Int × Unit)) × Unit)) × (List Int) × Bool × Bool × (List (Int × Int × Int × Bool × Unit)) × Int × Int × Int × Unit) (x1 : (Int × Unit) × (Unit)) : Option (((Int × Unit) × (Unit)) ⊕ (((Unit) × (Unit)) ⊕ Int)) :=
  bif (decide (x1.1.1 < ((r.2.2.2.1.length : Nat) : Int))) then (Option.bind (α := ((Unit) × (Unit)) ⊕ (((Int × Unit) × (Unit)) ⊕ (((Unit) × (Unit)) ⊕ Int))) (Option.bind (at? r.2.2.2.1 x1.1.1) fun d2 =>
  bif ((decide (d2.1 < (65 : Int))) || (decide (d2.1 > (90 : Int)))) then some (Sum.inr (Sum.inr (Sum.inr (6 : Int))))
  else req (boundsI (0 : Int) x1.1.1 r.2.2.2.1.length) (Option.bind (α := ((Unit) × (Unit)) ⊕ (((Unit) × (Unit)) ⊕ (((Int × Unit) × (Unit)) ⊕ (((Unit) × (Unit)) ⊕ Int)))) (iterN (rulesPieces_L2_c fu r x1 d2) fu (((0 : Int), ()), ())) (Sum.elim (fun x8 =>
  bif ((!(rulesWithin d2.2.1 (0 : Int) (64 : Int))) || (!(rulesWithin d2.2.2.1 (0 : Int) ((r.2.2.2.1.length : Nat) : Int)))) then some (Sum.inr (Sum.inr (Sum.inr (4 : Int))))
  else bif (decide (((d2.2.2.2.1.length : Nat) : Int) > (16 : Int))) then some (Sum.inr (Sum.inr (Sum.inr (2 : Int))))
  else Option.bind (α := ((Unit) × (Unit)) ⊕ (((Unit) × (Unit)) ⊕ (((Int × Unit) × (Unit)) ⊕ (((Unit) × (Unit)) ⊕ Int)))) (iterN (rulesPieces_L4_c fu d2) fu (((0 : Int), ()), ())) (Sum.elim (fun x11 =>
  some (Sum.inl ((), ()))) some)) some))) (Sum.elim (fun x12 =>
  some (Sum.inl (((w64 (x1.1.1 + (1 : Int))), ()), ()))) some))
  else some (Sum.inr (Sum.inl ((), ())))
theorem rulesPieces_L1_m (fu : Nat) (r : ByteArray × Int × Int × (List (Int × Int × Int × (List (Int × Int × Int × Int × Unit)) × Unit)) × (List Int) × Bool × Bool × (List (Int × Int × Int × Bool × Unit)) × Int × Int × Int × Unit) (x1 : (Int × Unit) × (Unit)) : Le (rulesPieces_L1_c fu r x1) (rulesPieces_L1 r x1) := by
  unfold rulesPieces_L1_c rulesPieces_L1
  repeat (first | exact Le.refl _ | assumption | apply rulesPieces_L2_m | apply rulesPieces_L4_m | apply Le.cond | apply Le.req | apply Le.gopt | apply Le.map | apply Le.agree | refine Le.iter (fun _ => ?_) _ _ | refine Le.bind ?_ (Le.elim (fun _ => ?_) (fun _ => ?_)) | refine Le.bind ?_ (fun _ => ?_) | apply hself)
def rulesPieces_c (fu : Nat) (r : ByteArray × Int × Int × (List (Int × Int × Int × (List (Int × Int × Int × Int × Unit)) × Unit)) × (List Int) × Bool × Bool × (List (Int × Int × Int × Bool × Unit)) × Int × Int × Int × Unit) : Option (Int) :=
  bif (((r.2.2.2.1.length : Nat) : Int) == (0 : Int)) then some (8 : Int)
  else bif (decide (((r.2.2.2.1.length : Nat) : Int) > (6 : Int))) then some (2 : Int)
  else Option.bind (α := ((Unit) × (Unit)) ⊕ Int) (iterN (rulesPieces_L1_c fu r) fu (((0 : Int), ()), ())) (Sum.elim (fun x13 =>
  some (0 : Int)) some)
theorem rulesPieces_m (fu : Nat) (r : ByteArray × Int × Int × (List (Int × Int × Int × (List (Int × Int × Int × Int × Unit)) × Unit)) × (List Int) × Bool × Bool × (List (Int × Int × Int × Bool × Unit)) × Int × Int × Int × Unit) : Le (rulesPieces_c fu r) (rulesPieces r) := by
  unfold rulesPieces_c rulesPieces
  repeat (first | exact Le.refl _ | assumption | apply rulesPieces_L1_m | apply Le.cond | apply Le.req | apply Le.gopt | apply Le.map | apply Le.agree | refine Le.iter (fun _ => ?_) _ _ | refine Le.bind ?_ (Le.elim (fun _ => ?_) (fun _ => ?_)) | refine Le.bind ?_ (fun _ => ?_) | apply hself)
def rulesConditions_L1_c (fu : Nat) (r : ByteArray × Int × Int × (List (Int × Int × Int × (List (Int × Int × Int × Int × Unit)) × Unit)) × (List Int) × Bool × Bool × (List (Int × Int × Int × Bool × Unit)) × Int × Int × Int × Unit) (x1 : (Int × Unit) × (Unit)) : Option (((Int × Unit) × (Unit)) ⊕ (((Unit) × (Unit)) ⊕ Int)) :=
  bif (decide (x1.1.1 < ((r.2.2.2.2.2.2.2.1.length : Nat) : Int))) then (Option.bind (at? r.2.2.2.2.2.2.2.1 x1.1.1) fun d2 =>
  Option.bind (α := ((Bool × Bool × Unit) × (Unit)) ⊕ (((Int × Unit) × (Unit)) ⊕ (((Unit) × (Unit)) ⊕ Int))) (bif (d2.1 == (0 : Int)) then some (Sum.inl (((rulesWithin d2.2.2.1 (1 : Int) (64 : Int)), (d2.2.1 == (0 : Int)), ()), ()))
  else Option.bind (α := ((Bool × Unit) × (Unit)) ⊕ (((Bool × Bool × Unit) × (Unit)) ⊕ (((Int × Unit) × (Unit)) ⊕ (((Unit) × (Unit)) ⊕ Int)))) (bif (d2.1 == (1 : Int)) then some (Sum.inl (((d2.2.2.1 == (0 : Int)), ()), ()))
  else bif (d2.1 == (2 : Int)) then some (Sum.inl (((rulesWithin d2.2.2.1 (1 : Int) (64 : Int)), ()), ()))
  else some (Sum.inr (Sum.inr (Sum.inr (Sum.inr (1 : Int)))))) (Sum.elim (fun x3 =>
  some (Sum.inl ((x3.1.1, (rulesWithin d2.2.1 (0 : Int) (w64 (((r.2.2.2.1.length : Nat) : Int) - (1 : Int)))), ()), ()))) some)) (Sum.elim (fun x4 =>
  bif ((!x4.1.1) || (!x4.1.2.1)) then some (Sum.inr (Sum.inr (4 : Int)))
  else some (Sum.inl (((w64 (x1.1.1 + (1 : Int))), ()), ()))) some))
  else some (Sum.inr (Sum.inl ((), ())))
theorem rulesConditions_L1_m (fu : Nat) (r : ByteArray × Int × Int × (List (Int × Int × Int × (List (Int × Int × Int × Int × Unit)) × Unit)) × (List Int) × Bool × Bool × (List (Int × Int × Int × Bool × Unit)) × Int × Int × Int × Unit) (x1 : (Int × Unit) × (Unit)) : Le (rulesConditions_L1_c fu r x1) (rulesConditions_L1 r x1) := by
  unfold rulesConditions_L1_c rulesConditions_L1
  repeat (first | exact Le.refl _ | assumption | apply Le.cond | apply Le.req | apply Le.gopt | apply Le.map | apply Le.agree | refine Le.iter (fun _ => ?_) _ _ | refine Le.bind ?_ (Le.elim (fun _ => ?_) (fun _ => ?_)) | refine Le.bind ?_ (fun _ => ?_) | apply hself)
def rulesConditions_c (fu : Nat) (r : ByteArray × Int × Int × (List (Int × Int × Int × (List (Int × Int × Int × Int × Unit)) × Unit)) × (List Int) × Bool × Bool × (List (Int × Int × Int × Bool × Unit)) × Int × Int × Int × Unit) : Option (Int) :=
  bif (decide (((r.2.2.2.2.2.2.2.1.length : Nat) : Int) > (6 : Int))) then some (2 : Int)
  else Option.bind (α := ((Unit) × (Unit)) ⊕ Int) (iterN (rulesConditions_L1_c fu r) fu (((0 : Int), ()), ())) (Sum.elim (fun x5 =>
  some (0 : Int)) some)
theorem rulesConditions_m (fu : Nat) (r : ByteArray × Int × Int × (List (Int × Int × Int × (List (Int × Int × Int × Int × Unit)) × Unit)) × (List Int) × Bool × Bool × (List (Int × Int × Int × Bool × Unit)) × Int × Int × Int × Unit) : Le (rulesConditions_c fu r) (rulesConditions r) := by
  unfold rulesConditions_c rulesConditions
  repeat (first | exact Le.refl _ | assumption | apply rulesConditions_L1_m | apply Le.cond | apply Le.req | apply Le.gopt | apply Le.map | apply Le.agree | refine Le.iter (fun _ => ?_) _ _ | refine Le.bind ?_ (Le.elim (fun _ => ?_) (fun _ => ?_)) | refine Le.bind ?_ (fun _ => ?_) | apply hself)
def rulesCheck_L1_c (fu : Nat) (r : ByteArray × Int × Int × (List (Int × Int × Int × (List (Int × Int × Int × Int × Unit)) × Unit)) × (List Int) × Bool × Bool × (List (Int × Int × Int × Bool × Unit)) × Int × Int × Int × Unit) (x6 : (Int × Unit) × (Unit)) : Option (((Int × Unit) × (Unit)) ⊕ (((Unit) × (Unit)) ⊕ Int)) :=
  bif (decide (x6.1.1 < ((r.2.2.2.2.1.length : Nat) : Int))) then (Option.bind (at? r.2.2.2.2.1 x6.1.1) fun d7 =>
  bif (!(rulesWithin d7 (0 : Int) (w64 ((2 : Int) * ((r.2.2.2.1.length : Nat) : Int))))) then (Option.map Sum.inr (Option.map Sum.inr (bif (decide (x6.1.1 ≥ (0 : Int))) then some (4 : Int)
  else Option.bind (rulesConditions_c fu r) fun r8 =>
  bif (r8 != (0 : Int)) then some r8
  else bif (((!(rulesWithin r.2.2.2.2.2.2.2.2.1 (0 : Int) (2 : Int))) || (!(rulesWithin r.2.2.2.2.2.2.2.2.2.1 (0 : Int) (200 : Int)))) || ((r.2.2.2.2.2.2.2.2.2.2.1 != (0 : Int)) && (!(rulesWithin r.2.2.2.2.2.2.2.2.2.2.1 (2 : Int) (5 : Int))))) then some (4 : Int)
  else some (0 : Int))))
  else some (Sum.inl (((w64 (x6.1.1 + (1 : Int))), ()), ())))
  else some (Sum.inr (Sum.inl ((), ())))
theorem rulesCheck_L1_m (fu : Nat) (r : ByteArray × Int × Int × (List (Int × Int × Int × (List (Int × Int × Int × Int × Unit)) × Unit)) × (List Int) × Bool × Bool × (List (Int × Int × Int × Bool × Unit)) × Int × Int × Int × Unit) (x6 : (Int × Unit) × (Unit)) : Le (rulesCheck_L1_c fu r x6) (rulesCheck_L1 r x6) := by
  unfold rulesCheck_L1_c rulesCheck_L1
  repeat (first | exact Le.refl _ | assumption | apply rulesConditions_m | apply Le.cond | apply Le.req | apply Le.gopt | apply Le.map | apply Le.agree | refine Le.iter (fun _ => ?_) _ _ | refine Le.bind ?_ (Le.elim (fun _ => ?_) (fun _ => ?_)) | refine Le.bind ?_ (fun _ => ?_) | apply hself)
def rulesCheck_c (fu : Nat) (r : ByteArray × Int × Int × (List (Int × Int × Int × (List (Int × Int × Int × Int × Unit)) × Unit)) × (List Int) × Bool × Bool × (List (Int × Int × Int × Bool × Unit)) × Int × Int × Int × Unit) : Option (Int) :=
  Option.bind (rulesName_c fu r.1) fun r4 =>
  bif (!r4) then some (6 : Int)
  else bif ((!(rulesWithin r.2.1 (1 : Int) (8 : Int))) || (!(rulesWithin r.2.2.1 (1 : Int) (8 : Int)))) then some (4 : Int)
  else Option.bind (rulesPieces_c fu r) fun r5 =>
  bif (r5 != (0 : Int)) then some r5
  else bif (((r.2.2.2.2.1.length : Nat) : Int) != (w64 (r.2.1 * r.2.2.1))) then some (3 : Int)
  else Option.bind (α := ((Unit) × (Unit)) ⊕ Int) (iterN (rulesCheck_L1_c fu r) fu (((0 : Int), ()), ())) (Sum.elim (fun x9 =>
  Option.bind (rulesConditions_c fu r) fun r10 =>
  bif (r10 != (0 : Int)) then some r10
  else bif (((!(rulesWithin r.2.2.2.2.2.2.2.2.1 (0 : Int) (2 : Int))) || (!(rulesWithin r.2.2.2.2.2.2.2.2.2.1 (0 : Int) (200 : Int)))) || ((r.2.2.2.2.2.2.2.2.2.2.1 != (0 : Int)) && (!(rulesWithin r.2.2.2.2.2.2.2.2.2.2.1 (2 : Int) (5 : Int))))) then some (4 : Int)
  else some (0 : Int)) some)
theorem rulesCheck_m (fu : Nat) (r : ByteArray × Int × Int × (List (Int × Int × Int × (List (Int × Int × Int × Int × Unit)) × Unit)) × (List Int) × Bool × Bool × (List (Int × Int × Int × Bool × Unit)) × Int × Int × Int × Unit) : Le (rulesCheck_c fu r) (rulesCheck r) := by
  unfold rulesCheck_c rulesCheck
  repeat (first | exact Le.refl _ | assumption | apply rulesName_m | apply rulesPieces_m | apply rulesCheck_L1_m | apply rulesConditions_m | apply Le.cond | apply Le.req | apply Le.gopt | apply Le.map | apply Le.agree | refine Le.iter (fun _ => ?_) _ _ | refine Le.bind ?_ (Le.elim (fun _ => ?_) (fun _ => ?_)) | refine Le.bind ?_ (fun _ => ?_) | apply hself)
def slicesClone_int_c (fu : Nat) (s : List Int) : Option (List Int) :=
  bif (s.isEmpty) then (agreeC (some ([])) (req (room (([] : List Int).length + s.length) 8) (some (([] : List Int) ++ s))))
  else req (room (([] : List Int).length + s.length) 8) (some (([] : List Int) ++ s))
theorem slicesClone_int_m (fu : Nat) (s : List Int) : Le (slicesClone_int_c fu s) (slicesClone_int s) := by
  unfold slicesClone_int_c slicesClone_int
  repeat (first | exact Le.refl _ | assumption | apply Le.cond | apply Le.req | apply Le.gopt | apply Le.map | apply Le.agree | refine Le.iter (fun _ => ?_) _ _ | refine Le.bind ?_ (Le.elim (fun _ => ?_) (fun _ => ?_)) | refine Le.bind ?_ (fun _ => ?_) | apply hself)
def placeBegin_L1_c (fu : Nat) (r : ByteArray × Int × Int × (List (Int × Int × Int × (List (Int × Int × Int × Int × Unit)) × Unit)) × (List Int) × Bool × Bool × (List (Int × Int × Int × Bool × Unit)) × Int × Int × Int × Unit) (x5 : (Int × Unit) × (((List Int) × (List Int) × (List Int) × Int × Int × Unit) × Unit)) : Option (((Int × Unit) × (((List Int) × (List Int) × (List Int) × Int × Int × Unit) × Unit)) ⊕ ((Unit) × (((List Int) × (List Int) × (List Int) × Int × Int × Unit) × Unit))) :=
  bif (decide (x5.1.1 < ((r.2.2.2.1.length : Nat) : Int))) then (Option.bind (at? r.2.2.2.1 x5.1.1) fun d6 =>
  Option.bind (agreeC (agreeC (req (room (x5.2.1.2.1.length + ([d6.2.1]).length) 8) (req (room (x5.2.1.2.2.1.length + ([d6.2.1]).length) 8) (some ((), ((x5.2.1.1, ((x5.2.1.2.1 ++ [d6.2.1]), ((x5.2.1.2.2.1 ++ [d6.2.1]), x5.2.1.2.2.2))), ()))))) (agreeC (agreeC (req (room (x5.2.1.2.1.length + ([d6.2.1]).length) 8) (req (room (x5.2.1.2.2.1.length + ([d6.2.1]).length) 8) (some ((), ((x5.2.1.1, ((x5.2.1.2.1 ++ [d6.2.1]), ((x5.2.1.2.2.1 ++ [d6.2.1]), x5.2.1.2.2.2))), ()))))) (agreeC (req (room (x5.2.1.2.1.length + ([d6.2.1]).length) 8) (req (room (x5.2.1.2.2.1.length + ([d6.2.1]).length) 8) (some ((), ((x5.2.1.1, ((x5.2.1.2.1 ++ [d6.2.1]), ((x5.2.1.2.2.1 ++ [d6.2.1]), x5.2.1.2.2.2))), ()))))) (req (room (x5.2.1.2.1.length + ([d6.2.1]).length) 8) (req (room (x5.2.1.2.2.1.length + ([d6.2.1]).length) 8) (some ((), ((x5.2.1.1, ((x5.2.1.2.1 ++ [d6.2.1]), ((x5.2.1.2.2.1 ++ [d6.2.1]), x5.2.1.2.2.2))), ()))))))) (agreeC (req (room (x5.2.1.2.1.length + ([d6.2.1]).length) 8) (req (room (x5.2.1.2.2.1.length + ([d6.2.1]).length) 8) (some ((), ((x5.2.1.1, ((x5.2.1.2.1 ++ [d6.2.1]), ((x5.2.1.2.2.1 ++ [d6.2.1]), x5.2.1.2.2.2))), ()))))) (agreeC (agreeC (req (room (x5.2.1.2.1.length + ([d6.2.1]).length) 8) (req (room (x5.2.1.2.2.1.length + ([d6.2.1]).length) 8) (some ((), ((x5.2.1.1, ((x5.2.1.2.1 ++ [d6.2.1]), ((x5.2.1.2.2.1 ++ [d6.2.1]), x5.2.1.2.2.2))), ()))))) (req (room (x5.2.1.2.1.length + ([d6.2.1]).length) 8) (req (room (x5.2.1.2.2.1.length + ([d6.2.1]).length) 8) (some ((), ((x5.2.1.1, ((x5.2.1.2.1 ++ [d6.2.1]), ((x5.2.1.2.2.1 ++ [d6.2.1]), x5.2.1.2.2.2))), ())))))) (agreeC (req (room (x5.2.1.2.1.length + ([d6.2.1]).length) 8) (req (room (x5.2.1.2.2.1.length + ([d6.2.1]).length) 8) (some ((), ((x5.2.1.1, ((x5.2.1.2.1 ++ [d6.2.1]), ((x5.2.1.2.2.1 ++ [d6.2.1]), x5.2.1.2.2.2))), ()))))) (req (room (x5.2.1.2.1.length + ([d6.2.1]).length) 8) (req (room (x5.2.1.2.2.1.length + ([d6.2.1]).length) 8) (some ((), ((x5.2.1.1, ((x5.2.1.2.1 ++ [d6.2.1]), ((x5.2.1.2.2.1 ++ [d6.2.1]), x5.2.1.2.2.2))), ())))))))))) (agreeC (agreeC (agreeC (req (room (x5.2.1.2.1.length + ([d6.2.1]).length) 8) (req (room (x5.2.1.2.2.1.length + ([d6.2.1]).length) 8) (some ((), ((x5.2.1.1, ((x5.2.1.2.1 ++ [d6.2.1]), ((x5.2.1.2.2.1 ++ [d6.2.1]), x5.2.1.2.2.2))), ()))))) (agreeC (req (room (x5.2.1.2.1.length + ([d6.2.1]).length) 8) (req (room (x5.2.1.2.2.1.length + ([d6.2.1]).length) 8) (some ((), ((x5.2.1.1, ((x5.2.1.2.1 ++ [d6.2.1]), ((x5.2.1.2.2.1 ++ [d6.2.1]), x5.2.1.2.2.2))), ()))))) (req (room (x5.2.1.2.1.length + ([d6.2.1]).length) 8) (req (room (x5.2.1.2.2.1.length + ([d6.2.1]).length) 8) (some ((), ((x5.2.1.1, ((x5.2.1.2.1 ++ [d6.2.1]), ((x5.2.1.2.2.1 ++ [d6.2.1]), x5.2.1.2.2.2))), ()))))))) (agreeC (agreeC (req (room (x5.2.1.2.1.length + ([d6.2.1]).length) 8) (req (room (x5.2.1.2.2.1.length + ([d6.2.1]).length) 8) (some ((), ((x5.2.1.1, ((x5.2.1.2.1 ++ [d6.2.1]), ((x5.2.1.2.2.1 ++ [d6.2.1]), x5.2.1.2.2.2))), ()))))) (req (room (x5.2.1.2.1.length + ([d6.2.1]).length) 8) (req (room (x5.2.1.2.2.1.length + ([d6.2.1]).length) 8) (some ((), ((x5.2.1.1, ((x5.2.1.2.1 ++ [d6.2.1]), ((x5.2.1.2.2.1 ++ [d6.2.1]), x5.2.1.2.2.2))), ())))))) (req (room (x5.2.1.2.1.length + ([d6.2.1]).length) 8) (req (room (x5.2.1.2.2.1.length + ([d6.2.1]).length) 8) (some ((), ((x5.2.1.1, ((x5.2.1.2.1 ++ [d6.2.1]), ((x5.2.1.2.2.1 ++ [d6.2.1]), x5.2.1.2.2.2))), ()))))))) (agreeC (agreeC (req (room (x5.2.1.2.1.length + ([d6.2.1]).length) 8) (req (room (x5.2.1.2.2.1.length + ([d6.2.1]).length) 8) (some ((), ((x5.2.1.1, ((x5.2.1.2.1 ++ [d6.2.1]), ((x5.2.1.2.2.1 ++ [d6.2.1]), x5.2.1.2.2.2))), ()))))) (agreeC (agreeC (req (room (x5.2.1.2.1.length + ([d6.2.1]).length) 8) (req (room (x5.2.1.2.2.1.length + ([d6.2.1]).length) 8) (some ((), ((x5.2.1.1, ((x5.2.1.2.1 ++ [d6.2.1]), ((x5.2.1.2.2.1 ++ [d6.2.1]), x5.2.1.2.2.2))), ()))))) (req (room (x5.2.1.2.1.length + ([d6.2.1]).length) 8) (req (room (x5.2.1.2.2.1.length + ([d6.2.1]).length) 8) (some ((), ((x5.2.1.1, ((x5.2.1.2.1 ++ [d6.2.1]), ((x5.2.1.2.2.1 ++ [d6.2.1]), x5.2.1.2.2.2))), ())))))) (agreeC (req (room (x5.2.1.2.1.length + ([d6.2.1]).length) 8) (req (room (x5.2.1.2.2.1.length + ([d6.2.1]).length) 8) (some ((), ((x5.2.1.1, ((x5.2.1.2.1 ++ [d6.2.1]), ((x5.2.1.2.2.1 ++ [d6.2.1]), x5.2.1.2.2.2))), ()))))) (req (room (x5.2.1.2.1.length + ([d6.2.1]).length) 8) (req (room (x5.2.1.2.2.1.length + ([d6.2.1]).length) 8) (some ((), ((x5.2.1.1, ((x5.2.1.2.1 ++ [d6.2.1]), ((x5.2.1.2.2.1 ++ [d6.2.1]), x5.2.1.2.2.2))), ())))))))) (agreeC (agreeC (agreeC (req (room (x5.2.1.2.1.length + ([d6.2.1]).length) 8) (req (room (x5.2.1.2.2.1.length + ([d6.2.1]).length) 8) (some ((), ((x5.2.1.1, ((x5.2.1.2.1 ++ [d6.2.1]), ((x5.2.1.2.2.1 ++ [d6.2.1]), x5.2.1.2.2.2))), ()))))) (req (room (x5.2.1.2.1.length + ([d6.2.1]).length) 8) (req (room (x5.2.1.2.2.1.length + ([d6.2.1]).length) 8) (some ((), ((x5.2.1.1, ((x5.2.1.2.1 ++ [d6.2.1]), ((x5.2.1.2.2.1 ++ [d6.2.1]), x5.2.1.2.2.2))), ())))))) (req (room (x5.2.1.2.1.length + ([d6.2.1]).length) 8) (req (room (x5.2.1.2.2.1.length + ([d6.2.1]).length) 8) (some ((), ((x5.2.1.1, ((x5.2.1.2.1 ++ [d6.2.1]), ((x5.2.1.2.2.1 ++ [d6.2.1]), x5.2.1.2.2.2))), ())))))) (agreeC (agreeC (req (room (x5.2.1.2.1.length + ([d6.2.1]).length) 8) (req (room (x5.2.1.2.2.1.length + ([d6.2.1]).length) 8) (some ((), ((x5.2.1.1, ((x5.2.1.2.1 ++ [d6.2.1]), ((x5.2.1.2.2.1 ++ [d6.2.1]), x5.2.1.2.2.2))), ()))))) (req (room (x5.2.1.2.1.length + ([d6.2.1]).length) 8) (req (room (x5.2.1.2.2.1.length + ([d6.2.1]).length) 8) (some ((), ((x5.2.1.1, ((x5.2.1.2.1 ++ [d6.2.1]), ((x5.2.1.2.2.1 ++ [d6.2.1]), x5.2.1.2.2.2))), ())))))) (req (room (x5.2.1.2.1.length + ([d6.2.1]).length) 8) (req (room (x5.2.1.2.2.1.length + ([d6.2.1]).length) 8) (some ((), ((x5.2.1.1, ((x5.2.1.2.1 ++ [d6.2.1]), ((x5.2.1.2.2.1 ++ [d6.2.1]), x5.2.1.2.2.2))), ())))))))))) fun x7 =>
  some (Sum.inl (((w64 (x5.1.1 + (1 : Int))), ()), ((x7.2.1.1, (x7.2.1.2.1, (x7.2.1.2.2.1, x7.2.1.2.2.2))), ()))))
  else some (Sum.inr ((), ((x5.2.1.1, (x5.2.1.2.1, (x5.2.1.2.2.1, x5.2.1.2.2.2))), ())))
theorem placeBegin_L1_m (fu : Nat) (r : ByteArray × Int × Int × (List (Int × Int × Int × (List (Int × Int × Int × Int × Unit)) × Unit)) × (List Int) × Bool × Bool × (List (Int × Int × Int × Bool × Unit)) × Int × Int × Int × Unit) (x5 : (Int × Unit) × (((List Int) × (List Int) × (List Int) × Int × Int × Unit) × Unit)) : Le (placeBegin_L1_c fu r x5) (placeBegin_L1 r x5) := by
  unfold placeBegin_L1_c placeBegin_L1
  repeat (first | exact Le.refl _ | assumption | apply Le.cond | apply Le.req | apply Le.gopt | apply Le.map | apply Le.agree | refine Le.iter (fun _ => ?_) _ _ | refine Le.bind ?_ (Le.elim (fun _ => ?_) (fun _ => ?_)) | refine Le.bind ?_ (fun _ => ?_) | apply hself)
def placeBegin_c (fu : Nat) (r : ByteArray × Int × Int × (List (Int × Int × Int × (List (Int × Int × Int × Int × Unit)) × Unit)) × (List Int) × Bool × Bool × (List (Int × Int × Int × Bool × Unit)) × Int × Int × Int × Unit) : Option (((List Int) × ((List Int) × (List Int) × Unit) × Int × Int × Unit) × Int × Unit) :=
  Option.bind (rulesCheck_c fu r) fun r3 =>
  bif (r3 != (0 : Int)) then some (([], (([], ([], ())), ((0 : Int), ((0 : Int), ())))), (r3, ()))
  else Option.bind (slicesClone_int_c fu r.2.2.2.2.1) fun r4 =>
  Option.bind (iterN (placeBegin_L1_c fu r) fu (((0 : Int), ()), ((r4, ([], ([], ((0 : Int), ((0 : Int), ()))))), ()))) fun x8 =>
  some ((x8.2.1.1, ((x8.2.1.2.1, (x8.2.1.2.2.1, ())), x8.2.1.2.2.2)), ((0 : Int), ()))
theorem placeBegin_m (fu : Nat) (r : ByteArray × Int × Int × (List (Int × Int × Int × (List (Int × Int × Int × Int × Unit)) × Unit)) × (List Int) × Bool × Bool × (List (Int × Int × Int × Bool × Unit)) × Int × Int × Int × Unit) : Le (placeBegin_c fu r) (placeBegin r) := by
  unfold placeBegin_c placeBegin
  repeat (first | exact Le.refl _ | assumption | apply rulesCheck_m | apply slicesClone_int_m | apply placeBegin_L1_m | apply Le.cond | apply Le.req | apply Le.gopt | apply Le.map | apply Le.agree | refine Le.iter (fun _ => ?_) _ _ | refine Le.bind ?_ (Le.elim (fun _ => ?_) (fun _ => ?_)) | refine Le.bind ?_ (fun _ => ?_) | apply hself)
def patternCheck_L1_c (fu : Nat) (x : Int × Int × (List Int) × Int × Unit) (r : ByteArray × Int × Int × (List (Int × Int × Int × (List (Int × Int × Int × Int × Unit)) × Unit)) × (List Int) × Bool × Bool × (List (Int × Int × Int × Bool × Unit)) × Int × Int × Int × Unit) (x3 : (Int × Unit) × (Unit)) : Option (((Int × Unit) × (Unit)) ⊕ (((Unit) × (Unit)) ⊕ Int)) :=
  bif (decide (x3.1.1 < ((x.2.2.1.length : Nat) : Int))) then (Option.bind (at? x.2.2.1 x3.1.1) fun d4 =>
  bif ((decide (d4 < (-3 : Int))) || (decide (d4 > (w64 ((2 : Int) * ((r.2.2.2.1.length : Nat) : Int)))))) then (Option.map Sum.inr (Option.map Sum.inr (bif (decide (x3.1.1 ≥ (0 : Int))) then some (4 : Int)
  else bif ((decide (x.2.2.2.1 < (-1 : Int))) || (decide (x.2.2.2.1 > (1 : Int)))) then some (4 : Int)
  else some (0 : Int))))
  else some (Sum.inl (((w64 (x3.1.1 + (1 : Int))), ()), ())))
  else some (Sum.inr (Sum.inl ((), ())))
theorem patternCheck_L1_m (fu : Nat) (x : Int × Int × (List Int) × Int × Unit) (r : ByteArray × Int × Int × (List (Int × Int × Int × (List (Int × Int × Int × Int × Unit)) × Unit)) × (List Int) × Bool × Bool × (List (Int × Int × Int × Bool × Unit)) × Int × Int × Int × Unit) (x3 : (Int × Unit) × (Unit)) : Le (patternCheck_L1_c fu x r x3) (patternCheck_L1 x r x3) := by
  unfold patternCheck_L1_c patternCheck_L1
  repeat (first | exact Le.refl _ | assumption | apply Le.cond | apply Le.req | apply Le.gopt | apply Le.map | apply Le.agree | refine Le.iter (fun _ => ?_) _ _ | refine Le.bind ?_ (Le.elim (fun _ => ?_) (fun _ => ?_)) | refine Le.bind ?_ (fun _ => ?_) | apply hself)
def patternCheck_c (fu : Nat) (r : ByteArray × Int × Int × (List (Int × Int × Int × (List (Int × Int × Int × Int × Unit)) × Unit)) × (List Int) × Bool × Bool × (List (Int × Int × Int × Bool × Unit)) × Int × Int × Int × Unit) (x : Int × Int × (List Int) × Int × Unit) : Option (Int) :=
  Option.bind (rulesCheck_c fu r) fun r2 =>
  bif (r2 != (0 : Int)) then some r2
  else bif ((((decide (x.1 < (1 : Int))) || (decide (x.1 > r.2.1))) || (decide (x.2.1 < (1 : Int)))) || (decide (x.2.1 > r.2.2.1))) then some (4 : Int)
  else bif (((x.2.2.1.length : Nat) : Int) != (w64 (x.1 * x.2.1))) then some (3 : Int)
  else Option.bind (α := ((Unit) × (Unit)) ⊕ Int) (iterN (patternCheck_L1_c fu x r) fu (((0 : Int), ()), ())) (Sum.elim (fun x5 =>
  bif ((decide (x.2.2.2.1 < (-1 : Int))) || (decide (x.2.2.2.1 > (1 : Int)))) then some (4 : Int)
  else some (0 : Int)) some)
theorem patternCheck_m (fu : Nat) (r : ByteArray × Int × Int × (List (Int × Int × Int × (List (Int × Int × Int × Int × Unit)) × Unit)) × (List Int) × Bool × Bool × (List (Int × Int × Int × Bool × Unit)) × Int × Int × Int × Unit) (x : Int × Int × (List Int) × Int × Unit) : Le (patternCheck_c fu r x) (patternCheck r x) := by
  unfold patternCheck_c patternCheck
  repeat (first | exact Le.refl _ | assumption | apply rulesCheck_m | apply patternCheck_L1_m | apply Le.cond | apply Le.req | apply Le.gopt | apply Le.map | apply Le.agree | refine Le.iter (fun _ => ?_) _ _ | refine Le.bind ?_ (Le.elim (fun _ => ?_) (fun _ => ?_)) | refine Le.bind ?_ (fun _ => ?_) | apply hself)
def slicesConcat_int_L1_c (fu : Nat) (slices : List (List Int)) (x1 : (Int × Int × Unit) × (Unit)) : Option (((Int × Int × Unit) × (Unit)) ⊕ ((Int × Unit) × (Unit))) :=
  bif (decide (x1.1.2.1 < ((slices.length : Nat) : Int))) then (Option.bind (at? slices x1.1.2.1) fun d2 =>
  bif (decide ((w64 (x1.1.1 + ((d2.length : Nat) : Int))) < (0 : Int))) then none
  else some (Sum.inl (((w64 (x1.1.1 + ((d2.length : Nat) : Int))), (w64 (x1.1.2.1 + (1 : Int))), ()), ())))
  else some (Sum.inr ((x1.1.1, ()), ()))
theorem slicesConcat_int_L1_m (fu : Nat) (slices : List (List Int)) (x1 : (Int × Int × Unit) × (Unit)) : Le (slicesConcat_int_L1_c fu slices x1) (slicesConcat_int_L1 slices x1) := by
  unfold slicesConcat_int_L1_c slicesConcat_int_L1
  repeat (first | exact Le.refl _ | assumption | apply Le.cond | apply Le.req | apply Le.gopt | apply Le.map | apply Le.agree | refine Le.iter (fun _ => ?_) _ _ | refine Le.bind ?_ (Le.elim (fun _ => ?_) (fun _ => ?_)) | refine Le.bind ?_ (fun _ => ?_) | apply hself)
def slicesConcat_int_L2_c (fu : Nat) (slices : List (List Int)) (x5 : ((List Int) × Int × Unit) × (Unit)) : Option ((((List Int) × Int × Unit) × (Unit)) ⊕ (((List Int) × Unit) × (Unit))) :=
  bif (decide (x5.1.2.1 < ((slices.length : Nat) : Int))) then (Option.bind (at? slices x5.1.2.1) fun d6 =>
  req (room (x5.1.1.length + d6.length) 8) (some (Sum.inl (((x5.1.1 ++ d6), (w64 (x5.1.2.1 + (1 : Int))), ()), ()))))
  else some (Sum.inr ((x5.1.1, ()), ()))
theorem slicesConcat_int_L2_m (fu : Nat) (slices : List (List Int)) (x5 : ((List Int) × Int × Unit) × (Unit)) : Le (slicesConcat_int_L2_c fu slices x5) (slicesConcat_int_L2 slices x5) := by
  unfold slicesConcat_int_L2_c slicesConcat_int_L2
  repeat (first | exact Le.refl _ | assumption | apply Le.cond | apply Le.req | apply Le.gopt | apply Le.map | apply Le.agree | refine Le.iter (fun _ => ?_) _ _ | refine Le.bind ?_ (Le.elim (fun _ => ?_) (fun _ => ?_)) | refine Le.bind ?_ (fun _ => ?_) | apply hself)
def slicesConcat_int_c (fu : Nat) (slices : List (List Int)) : Option (List Int) :=
  Option.bind (iterN (slicesConcat_int_L1_c fu slices) fu (((0 : Int), (0 : Int), ()), ())) fun x3 =>
  bif (decide (x3.1.1 < (0 : Int))) then none
  else Option.bind (bif (decide ((w64 (x3.1.1 - (0 : Int))) > (0 : Int))) then req (decide (0 < (w64 (x3.1.1 - (0 : Int)))) && room ((w64 (x3.1.1 - (0 : Int)))).toNat 8) (req (boundsI 0 (0 : Int) (List.replicate ((w64 (x3.1.1 - (0 : Int)))).toNat (0 : Int)).length) (some ((((List.replicate ((w64 (x3.1.1 - (0 : Int)))).toNat (0 : Int)).take 0), ()), ())))
  else some (([], ()), ())) fun x4 =>
  Option.bind (iterN (slicesConcat_int_L2_c fu slices) fu ((x4.1.1, (0 : Int), ()), ())) fun x7 =>
  some x7.1.1
theorem slicesConcat_int_m (fu : Nat) (slices : List (List Int)) : Le (slicesConcat_int_c fu slices) (slicesConcat_int slices) := by
  unfold slicesConcat_int_c slicesConcat_int
  repeat (first | exact Le.refl _ | assumption | apply slicesConcat_int_L1_m | apply slicesConcat_int_L2_m | apply Le.cond | apply Le.req | apply Le.gopt | apply Le.map | apply Le.agree | refine Le.iter (fun _ => ?_) _ _ | refine Le.bind ?_ (Le.elim (fun _ => ?_) (fun _ => ?_)) | refine Le.bind ?_ (fun _ => ?_) | apply hself)
def placeSound_L2_c (fu : Nat) (r2 : List Int) (p : (List Int) × ((List Int) × (List Int) × Unit) × Int × Int × Unit) (x5 : (Int × Unit) × (Unit)) : Option (((Int × Unit) × (Unit)) ⊕ (((Unit) × (Unit)) ⊕ ((Bool × Unit) × (Unit)))) :=
  bif (decide (x5.1.1 < ((r2.length : Nat) : Int))) then (req (inb x5.1.1 r2.length) (bif ((decide ((getD' r2 ((x5.1.1).toNat) (0 : Int)) < (0 : Int))) || (decide ((getD' r2 ((x5.1.1).toNat) (0 : Int)) > (1000 : Int)))) then some (Sum.inr (Sum.inr ((((((decide (x5.1.1 ≥ (0 : Int))) || ((p.2.2.1 != (0 : Int)) && (p.2.2.1 != (1 : Int)))) || (decide (p.2.2.2.1 < (0 : Int)))) || (decide (p.2.2.2.1 > (200 : Int)))), ()), ())))
  else some (Sum.inl (((w64 (x5.1.1 + (1 : Int))), ()), ()))))
  else some (Sum.inr (Sum.inl ((), ())))
theorem placeSound_L2_m (fu : Nat) (r2 : List Int) (p : (List Int) × ((List Int) × (List Int) × Unit) × Int × Int × Unit) (x5 : (Int × Unit) × (Unit)) : Le (placeSound_L2_c fu r2 p x5) (placeSound_L2 r2 p x5) := by
  unfold placeSound_L2_c placeSound_L2
  repeat (first | exact Le.refl _ | assumption | apply Le.cond | apply Le.req | apply Le.gopt | apply Le.map | apply Le.agree | refine Le.iter (fun _ => ?_) _ _ | refine Le.bind ?_ (Le.elim (fun _ => ?_) (fun _ => ?_)) | refine Le.bind ?_ (fun _ => ?_) | apply hself)
def placeSound_L1_c (fu : Nat) (p : (List Int) × ((List Int) × (List Int) × Unit) × Int × Int × Unit) (r : ByteArray × Int × Int × (List (Int × Int × Int × (List (Int × Int × Int × Int × Unit)) × Unit)) × (List Int) × Bool × Bool × (List (Int × Int × Int × Bool × Unit)) × Int × Int × Int × Unit) (r2 : List Int) (x3 : (Int × Unit) × (Unit)) : Option (((Int × Unit) × (Unit)) ⊕ (((Unit) × (Unit)) ⊕ ((Bool × Unit) × (Unit)))) :=
  bif (decide (x3.1.1 < ((p.1.length : Nat) : Int))) then (Option.bind (at? p.1 x3.1.1) fun d4 =>
  bif ((decide (d4 < (0 : Int))) || (decide (d4 > (w64 ((2 : Int) * ((r.2.2.2.1.length : Nat) : Int)))))) then (Option.map Sum.inr (Option.map Sum.inr (bif (decide (x3.1.1 ≥ (0 : Int))) then some ((true, ()), ())
  else Option.bind (α := ((Unit) × (Unit)) ⊕ ((Bool × Unit) × (Unit))) (iterN (placeSound_L2_c fu r2 p) fu (((0 : Int), ()), ())) (Sum.elim (fun x6 =>
  some ((((((p.2.2.1 != (0 : Int)) && (p.2.2.1 != (1 : Int))) || (decide (p.2.2.2.1 < (0 : Int)))) || (decide (p.2.2.2.1 > (200 : Int)))), ()), ())) some))))
  else some (Sum.inl (((w64 (x3.1.1 + (1 : Int))), ()), ())))
  else some (Sum.inr (Sum.inl ((), ())))
theorem placeSound_L1_m (fu : Nat) (p : (List Int) × ((List Int) × (List Int) × Unit) × Int × Int × Unit) (r : ByteArray × Int × Int × (List (Int × Int × Int × (List (Int × Int × Int × Int × Unit)) × Unit)) × (List Int) × Bool × Bool × (List (Int × Int × Int × Bool × Unit)) × Int × Int × Int × Unit) (r2 : List Int) (x3 : (Int × Unit) × (Unit)) : Le (placeSound_L1_c fu p r r2 x3) (placeSound_L1 p r r2 x3) := by
  unfold placeSound_L1_c placeSound_L1
  repeat (first | exact Le.refl _ | assumption | apply placeSound_L2_m | apply Le.cond | apply Le.req | apply Le.gopt | apply Le.map | apply Le.agree | refine Le.iter (fun _ => ?_) _ _ | refine Le.bind ?_ (Le.elim (fun _ => ?_) (fun _ => ?_)) | refine Le.bind ?_ (fun _ => ?_) | apply hself)
def placeSound_L3_c (fu : Nat) (r2 : List Int) (p : (List Int) × ((List Int) × (List Int) × Unit) × Int × Int × Unit) (x8 : (Int × Unit) × (Unit)) : Option (((Int × Unit) × (Unit)) ⊕ (((Unit) × (Unit)) ⊕ ((Bool × Unit) × (Unit)))) :=
  bif (decide (x8.1.1 < ((r2.length : Nat) : Int))) then (req (inb x8.1.1 r2.length) (bif ((decide ((getD' r2 ((x8.1.1).toNat) (0 : Int)) < (0 : Int))) || (decide ((getD' r2 ((x8.1.1).toNat) (0 : Int)) > (1000 : Int)))) then some (Sum.inr (Sum.inr ((((((decide (x8.1.1 ≥ (0 : Int))) || ((p.2.2.1 != (0 : Int)) && (p.2.2.1 != (1 : Int)))) || (decide (p.2.2.2.1 < (0 : Int)))) || (decide (p.2.2.2.1 > (200 : Int)))), ()), ())))
  else some (Sum.inl (((w64 (x8.1.1 + (1 : Int))), ()), ()))))
  else some (Sum.inr (Sum.inl ((), ())))
theorem placeSound_L3_m (fu : Nat) (r2 : List Int) (p : (List Int) × ((List Int) × (List Int) × Unit) × Int × Int × Unit) (x8 : (Int × Unit) × (Unit)) : Le (placeSound_L3_c fu r2 p x8) (placeSound_L3 r2 p x8) := by
  unfold placeSound_L3_c placeSound_L3
  repeat (first | exact Le.refl _ | assumption | apply Le.cond | apply Le.req | apply Le.gopt | apply Le.map | apply Le.agree | refine Le.iter (fun _ => ?_) _ _ | refine Le.bind ?_ (Le.elim (fun _ => ?_) (fun _ => ?_)) | refine Le.bind ?_ (fun _ => ?_) | apply hself)
def placeSound_L5_c (fu : Nat) (r2 : List Int) (p : (List Int) × ((List Int) × (List Int) × Unit) × Int × Int × Unit) (x12 : (Int × Unit) × (Unit)) : Option (((Int × Unit) × (Unit)) ⊕ (((Unit) × (Unit)) ⊕ ((Bool × Unit) × (Unit)))) :=
  bif (decide (x12.1.1 < ((r2.length : Nat) : Int))) then (req (inb x12.1.1 r2.length) (bif ((decide ((getD' r2 ((x12.1.1).toNat) (0 : Int)) < (0 : Int))) || (decide ((getD' r2 ((x12.1.1).toNat) (0 : Int)) > (1000 : Int)))) then some (Sum.inr (Sum.inr ((((((decide (x12.1.1 ≥ (0 : Int))) || ((p.2.2.1 != (0 : Int)) && (p.2.2.1 != (1 : Int)))) || (decide (p.2.2.2.1 < (0 : Int)))) || (decide (p.2.2.2.1 > (200 : Int)))), ()), ())))
  else some (Sum.inl (((w64 (x12.1.1 + (1 : Int))), ()), ()))))
  else some (Sum.inr (Sum.inl ((), ())))
theorem placeSound_L5_m (fu : Nat) (r2 : List Int) (p : (List Int) × ((List Int) × (List Int) × Unit) × Int × Int × Unit) (x12 : (Int × Unit) × (Unit)) : Le (placeSound_L5_c fu r2 p x12) (placeSound_L5 r2 p x12) := by
  unfold placeSound_L5_c placeSound_L5
  repeat (first | exact Le.refl _ | assumption | apply Le.cond | apply Le.req | apply Le.gopt | apply Le.map | apply Le.agree | refine Le.iter (fun _ => ?_) _ _ | refine Le.bind ?_ (Le.elim (fun _ => ?_) (fun _ => ?_)) | refine Le.bind ?_ (fun _ => ?_) | apply hself)
def placeSound_L4_c (fu : Nat) (p : (List Int) × ((List Int) × (List Int) × Unit) × Int × Int × Unit) (r : ByteArray × Int × Int × (List (Int × Int × Int × (List (Int × Int × Int × Int × Unit)) × Unit)) × (List Int) × Bool × Bool × (List (Int × Int × Int × Bool × Unit)) × Int × Int × Int × Unit) (r2 : List Int) (x10 : (Int × Unit) × (Unit)) : Option (((Int × Unit) × (Unit)) ⊕ (((Unit) × (Unit)) ⊕ ((Bool × Unit) × (Unit)))) :=
  bif (decide (x10.1.1 < ((p.1.length : Nat) : Int))) then (Option.bind (at? p.1 x10.1.1) fun d11 =>
  bif ((decide (d11 < (0 : Int))) || (decide (d11 > (w64 ((2 : Int) * ((r.2.2.2.1.length : Nat) : Int)))))) then (Option.map Sum.inr (Option.map Sum.inr (bif (decide (x10.1.1 ≥ (0 : Int))) then some ((true, ()), ())
  else Option.bind (α := ((Unit) × (Unit)) ⊕ ((Bool × Unit) × (Unit))) (iterN (placeSound_L5_c fu r2 p) fu (((0 : Int), ()), ())) (Sum.elim (fun x13 =>
  some ((((((p.2.2.1 != (0 : Int)) && (p.2.2.1 != (1 : Int))) || (decide (p.2.2.2.1 < (0 : Int)))) || (decide (p.2.2.2.1 > (200 : Int)))), ()), ())) some))))
  else some (Sum.inl (((w64 (x10.1.1 + (1 : Int))), ()), ())))
  else some (Sum.inr (Sum.inl ((), ())))
theorem placeSound_L4_m (fu : Nat) (p : (List Int) × ((List Int) × (List Int) × Unit) × Int × Int × Unit) (r : ByteArray × Int × Int × (List (Int × Int × Int × (List (Int × Int × Int × Int × Unit)) × Unit)) × (List Int) × Bool × Bool × (List (Int × Int × Int × Bool × Unit)) × Int × Int × Int × Unit) (r2 : List Int) (x10 : (Int × Unit) × (Unit)) : Le (placeSound_L4_c fu p r r2 x10) (placeSound_L4 p r r2 x10) := by
  unfold placeSound_L4_c placeSound_L4
  repeat (first | exact Le.refl _ | assumption | apply placeSound_L5_m | apply Le.cond | apply Le.req | apply Le.gopt | apply Le.map | apply Le.agree | refine Le.iter (fun _ => ?_) _ _ | refine Le.bind ?_ (Le.elim (fun _ => ?_) (fun _ => ?_)) | refine Le.bind ?_ (fun _ => ?_) | apply hself)
def placeSound_L6_c (fu : Nat) (r2 : List Int) (p : (List Int) × ((List Int) × (List Int) × Unit) × Int × Int × Unit) (x15 : (Int × Unit) × (Unit)) : Option (((Int × Unit) × (Unit)) ⊕ (((Unit) × (Unit)) ⊕ ((Bool × Unit) × (Unit)))) :=
  bif (decide (x15.1.1 < ((r2.length : Nat) : Int))) then (req (inb x15.1.1 r2.length) (bif ((decide ((getD' r2 ((x15.1.1).toNat) (0 : Int)) < (0 : Int))) || (decide ((getD' r2 ((x15.1.1).toNat) (0 : Int)) > (1000 : Int)))) then some (Sum.inr (Sum.inr ((((((decide (x15.1.1 ≥ (0 : Int))) || ((p.2.2.1 != (0 : Int)) && (p.2.2.1 != (1 : Int)))) || (decide (p.2.2.2.1 < (0 : Int)))) || (decide (p.2.2.2.1 > (200 : Int)))), ()), ())))
  else some (Sum.inl (((w64 (x15.1.1 + (1 : Int))), ()), ()))))
  else some (Sum.inr (Sum.inl ((), ())))
theorem placeSound_L6_m (fu : Nat) (r2 : List Int) (p : (List Int) × ((List Int) × (List Int) × Unit) × Int × Int × Unit) (x15 : (Int × Unit) × (Unit)) : Le (placeSound_L6_c fu r2 p x15) (placeSound_L6 r2 p x15) := by
  unfold placeSound_L6_c placeSound_L6
  repeat (first | exact Le.refl _ | assumption | apply Le.cond | apply Le.req | apply Le.gopt | apply Le.map | apply Le.agree | refine Le.iter (fun _ => ?_) _ _ | refine Le.bind ?_ (Le.elim (fun _ => ?_) (fun _ => ?_)) | refine Le.bind ?_ (fun _ => ?_) | apply hself)
def placeSound_c (fu : Nat) (r : ByteArray × Int × Int × (List (Int × Int × Int × (List (Int × Int × Int × Int × Unit)) × Unit)) × (List Int) × Bool × Bool × (List (Int × Int × Int × Bool × Unit)) × Int × Int × Int × Unit) (p : (List Int) × ((List Int) × (List Int) × Unit) × Int × Int × Unit) : Option (Int) :=
  bif (((((p.1.length : Nat) : Int) != (w64 (r.2.1 * r.2.2.1))) || (((p.2.1.1.length : Nat) : Int) != ((r.2.2.2.1.length : Nat) : Int))) || (((p.2.1.2.1.length : Nat) : Int) != ((r.2.2.2.1.length : Nat) : Int))) then some (3 : Int)
  else Option.bind (slicesConcat_int_c fu ([p.2.1.1, p.2.1.2.1])) fun r2 =>
  Option.bind (agreeC (Option.bind (α := ((Unit) × (Unit)) ⊕ ((Bool × Unit) × (Unit))) (iterN (placeSound_L1_c fu p r r2) fu (((0 : Int), ()), ())) (Sum.elim (fun x7 =>
  Option.bind (α := ((Unit) × (Unit)) ⊕ ((Bool × Unit) × (Unit))) (iterN (placeSound_L3_c fu r2 p) fu (((0 : Int), ()), ())) (Sum.elim (fun x9 =>
  some ((((((p.2.2.1 != (0 : Int)) && (p.2.2.1 != (1 : Int))) || (decide (p.2.2.2.1 < (0 : Int)))) || (decide (p.2.2.2.1 > (200 : Int)))), ()), ())) some)) some)) (Option.bind (α := ((Unit) × (Unit)) ⊕ ((Bool × Unit) × (Unit))) (iterN (placeSound_L4_c fu p r r2) fu (((0 : Int), ()), ())) (Sum.elim (fun x14 =>
  Option.bind (α := ((Unit) × (Unit)) ⊕ ((Bool × Unit) × (Unit))) (iterN (placeSound_L6_c fu r2 p) fu (((0 : Int), ()), ())) (Sum.elim (fun x16 =>
  some ((((((p.2.2.1 != (0 : Int)) && (p.2.2.1 != (1 : Int))) || (decide (p.2.2.2.1 < (0 : Int)))) || (decide (p.2.2.2.1 > (200 : Int)))), ()), ())) some)) some))) fun x17 =>
  bif x17.1.1 then some (4 : Int)
  else some (0 : Int)
theorem placeSound_m (fu : Nat) (r : ByteArray × Int × Int × (List (Int × Int × Int × (List (Int × Int × Int × Int × Unit)) × Unit)) × (List Int) × Bool × Bool × (List (Int × Int × Int × Bool × Unit)) × Int × Int × Int × Unit) (p : (List Int) × ((List Int) × (List Int) × Unit) × Int × Int × Unit) : Le (placeSound_c fu r p) (placeSound r p) := by
  unfold placeSound_c placeSound
  repeat (first | exact Le.refl _ | assumption | apply slicesConcat_int_m | apply placeSound_L1_m | apply placeSound_L3_m | apply placeSound_L4_m | apply placeSound_L6_m | apply Le.cond | apply Le.req | apply Le.gopt | apply Le.map | apply Le.agree | refine Le.iter (fun _ => ?_) _ _ | refine Le.bind ?_ (Le.elim (fun _ => ?_) (fun _ => ?_)) | refine Le.bind ?_ (fun _ => ?_) | apply hself)
def placeCheck_c (fu : Nat) (r : ByteArray × Int × Int × (List (Int × Int × Int × (List (Int × Int × Int × Int × Unit)) × Unit)) × (List Int) × Bool × Bool × (List (Int × Int × Int × Bool × Unit)) × Int × Int × Int × Unit) (p : (List Int) × ((List Int) × (List Int) × Unit) × Int × Int × Unit) : Option (Int) :=
  Option.bind (rulesCheck_c fu r) fun r3 =>
  bif (r3 != (0 : Int)) then some r3
  else Option.bind (placeSound_c fu r p) fun r4 =>
  some r4
theorem placeCheck_m (fu : Nat) (r : ByteArray × Int × Int × (List (Int × Int × Int × (List (Int × Int × Int × Int × Unit)) × Unit)) × (List Int) × Bool × Bool × (List (Int × Int × Int × Bool × Unit)) × Int × Int × Int × Unit) (p : (List Int) × ((List Int) × (List Int) × Unit) × Int × Int × Unit) : Le (placeCheck_c fu r p) (placeCheck r p) := by
  unfold placeCheck_c placeCheck
  repeat (first | exact Le.refl _ | assumption | apply rulesCheck_m | apply placeSound_m | apply Le.cond | apply Le.req | apply Le.gopt | apply Le.map | apply Le.agree | refine Le.iter (fun _ => ?_) _ _ | refine Le.bind ?_ (Le.elim (fun _ => ?_) (fun _ => ?_)) | refine Le.bind ?_ (fun _ => ?_) | apply hself)
def patternCheck_i_c (fu : Nat) (r : ByteArray × Int × Int × (List (Int × Int × Int × (List (Int × Int × Int × Int × Unit)) × Unit)) × (List Int) × Bool × Bool × (List (Int × Int × Int × Bool × Unit)) × Int × Int × Int × Unit) (x : Int × Int × (List Int) × Int × Unit) (p : (List Int) × ((List Int) × (List Int) × Unit) × Int × Int × Unit) : Option (Int) :=
  Option.bind (patternCheck_c fu r x) fun r3 =>
  bif (r3 != (0 : Int)) then some r3
  else Option.bind (placeCheck_c fu r p) fun r4 =>
  some r4
theorem patternCheck_i_m (fu : Nat) (r : ByteArray × Int × Int × (List (Int × Int × Int × (List (Int × Int × Int × Int × Unit)) × Unit)) × (List Int) × Bool × Bool × (List (Int × Int × Int × Bool × Unit)) × Int × Int × Int × Unit) (x : Int × Int × (List Int) × Int × Unit) (p : (List Int) × ((List Int) × (List Int) × Unit) × Int × Int × Unit) : Le (patternCheck_i_c fu r x p) (patternCheck_i r x p) := by
  unfold patternCheck_i_c patternCheck_i
  repeat (first | exact Le.refl _ | assumption | apply patternCheck_m | apply placeCheck_m | apply Le.cond | apply Le.req | apply Le.gopt | apply Le.map | apply Le.agree | refine Le.iter (fun _ => ?_) _ _ | refine Le.bind ?_ (Le.elim (fun _ => ?_) (fun _ => ?_)) | refine Le.bind ?_ (fun _ => ?_) | apply hself)
def patternFits_c (fu : Nat) (want : Int) (c : Int) : Option (Bool) :=
  bif (want == (-1 : Int)) then some true
  else bif (want == (-2 : Int)) then some ((c.tmod (2 : Int)) == (1 : Int))
  else bif (want == (-3 : Int)) then req (imp (decide (c > (0 : Int))) true) (some ((decide (c > (0 : Int))) && ((c.tmod (2 : Int)) == (0 : Int))))
  else some (want == c)
theorem patternFits_m (fu : Nat) (want : Int) (c : Int) : Le (patternFits_c fu want c) (patternFits want c) := by
  unfold patternFits_c patternFits
  repeat (first | exact Le.refl _ | assumption | apply Le.cond | apply Le.req | apply Le.gopt | apply Le.map | apply Le.agree | refine Le.iter (fun _ => ?_) _ _ | refine Le.bind ?_ (Le.elim (fun _ => ?_) (fun _ => ?_)) | refine Le.bind ?_ (fun _ => ?_) | apply hself)
def patternAt_L1_c (fu : Nat) (x : Int × Int × (List Int) × Int × Unit) (p : (List Int) × ((List Int) × (List Int) × Unit) × Int × Int × Unit) (square : Int) (r : ByteArray × Int × Int × (List (Int × Int × Int × (List (Int × Int × Int × Int × Unit)) × Unit)) × (List Int) × Bool × Bool × (List (Int × Int × Int × Bool × Unit)) × Int × Int × Int × Unit) (x1 : (Int × Unit) × (Unit)) : Option (((Int × Unit) × (Unit)) ⊕ (((Unit) × (Unit)) ⊕ Bool)) :=
  bif (decide (x1.1.1 < ((x.2.2.1.length : Nat) : Int))) then (Option.bind (at? x.2.2.1 x1.1.1) fun d2 =>
  req (x.1 != 0) (req (x.1 != 0) (Option.bind (at? p.1 (w64 ((w64 (square + (w64 ((w64 (x1.1.1.tdiv x.1)) * r.2.1)))) + (x1.1.1.tmod x.1)))) fun d3 =>
  Option.bind (patternFits_c fu d2 d3) fun r4 =>
  bif (!r4) then some (Sum.inr (Sum.inr false))
  else some (Sum.inl (((w64 (x1.1.1 + (1 : Int))), ()), ())))))
  else some (Sum.inr (Sum.inl ((), ())))
theorem patternAt_L1_m (fu : Nat) (x : Int × Int × (List Int) × Int × Unit) (p : (List Int) × ((List Int) × (List Int) × Unit) × Int × Int × Unit) (square : Int) (r : ByteArray × Int × Int × (List (Int × Int × Int × (List (Int × Int × Int × Int × Unit)) × Unit)) × (List Int) × Bool × Bool × (List (Int × Int × Int × Bool × Unit)) × Int × Int × Int × Unit) (x1 : (Int × Unit) × (Unit)) : Le (patternAt_L1_c fu x p square r x1) (patternAt_L1 x p square r x1) := by
  unfold patternAt_L1_c patternAt_L1
  repeat (first | exact Le.refl _ | assumption | apply patternFits_m | apply Le.cond | apply Le.req | apply Le.gopt | apply Le.map | apply Le.agree | refine Le.iter (fun _ => ?_) _ _ | refine Le.bind ?_ (Le.elim (fun _ => ?_) (fun _ => ?_)) | refine Le.bind ?_ (fun _ => ?_) | apply hself)
def patternAt_c (fu : Nat) (r : ByteArray × Int × Int × (List (Int × Int × Int × (List (Int × Int × Int × Int × Unit)) × Unit)) × (List Int) × Bool × Bool × (List (Int × Int × Int × Bool × Unit)) × Int × Int × Int × Unit) (x : Int × Int × (List Int) × Int × Unit) (p : (List Int) × ((List Int) × (List Int) × Unit) × Int × Int × Unit) (square : Int) : Option (Bool) :=
  req (r.2.1 != 0) (req (imp (!(decide ((w64 ((square.tmod r.2.1) + x.1)) > r.2.1))) (r.2.1 != 0)) (bif (((decide ((w64 ((square.tmod r.2.1) + x.1)) > r.2.1)) || (decide ((w64 ((w64 (square.tdiv r.2.1)) + x.2.1)) > r.2.2.1))) || ((decide (x.2.2.2.1 ≥ (0 : Int))) && (x.2.2.2.1 != p.2.2.1))) then some false
  else Option.bind (α := ((Unit) × (Unit)) ⊕ Bool) (iterN (patternAt_L1_c fu x p square r) fu (((0 : Int), ()), ())) (Sum.elim (fun x5 =>
  some true) some)))
theorem patternAt_m (fu : Nat) (r : ByteArray × Int × Int × (List (Int × Int × Int × (List (Int × Int × Int × Int × Unit)) × Unit)) × (List Int) × Bool × Bool × (List (Int × Int × Int × Bool × Unit)) × Int × Int × Int × Unit) (x : Int × Int × (List Int) × Int × Unit) (p : (List Int) × ((List Int) × (List Int) × Unit) × Int × Int × Unit) (square : Int) : Le (patternAt_c fu r x p square) (patternAt r x p square) := by
  unfold patternAt_c patternAt
  repeat (first | exact Le.refl _ | assumption | apply patternAt_L1_m | apply Le.cond | apply Le.req | apply Le.gopt | apply Le.map | apply Le.agree | refine Le.iter (fun _ => ?_) _ _ | refine Le.bind ?_ (Le.elim (fun _ => ?_) (fun _ => ?_)) | refine Le.bind ?_ (fun _ => ?_) | apply hself)
def patternAt_i_c (fu : Nat) (r : ByteArray × Int × Int × (List (Int × Int × Int × (List (Int × Int × Int × Int × Unit)) × Unit)) × (List Int) × Bool × Bool × (List (Int × Int × Int × Bool × Unit)) × Int × Int × Int × Unit) (x : Int × Int × (List Int) × Int × Unit) (p : (List Int) × ((List Int) × (List Int) × Unit) × Int × Int × Unit) (square : Int) : Option (Bool × Int × Unit) :=
  Option.bind (patternCheck_i_c fu r x p) fun r3 =>
  bif (r3 != (0 : Int)) then some (false, (r3, ()))
  else bif ((decide (square < (0 : Int))) || (decide (square ≥ ((p.1.length : Nat) : Int)))) then some (false, ((1 : Int), ()))
  else Option.bind (patternAt_c fu r x p square) fun r4 =>
  some (r4, ((0 : Int), ()))
theorem patternAt_i_m (fu : Nat) (r : ByteArray × Int × Int × (List (Int × Int × Int × (List (Int × Int × Int × Int × Unit)) × Unit)) × (List Int) × Bool × Bool × (List (Int × Int × Int × Bool × Unit)) × Int × Int × Int × Unit) (x : Int × Int × (List Int) × Int × Unit) (p : (List Int) × ((List Int) × (List Int) × Unit) × Int × Int × Unit) (square : Int) : Le (patternAt_i_c fu r x p square) (patternAt_i r x p square) := by
  unfold patternAt_i_c patternAt_i
  repeat (first | exact Le.refl _ | assumption | apply patternCheck_i_m | apply patternAt_m | apply Le.cond | apply Le.req | apply Le.gopt | apply Le.map | apply Le.agree | refine Le.iter (fun _ => ?_) _ _ | refine Le.bind ?_ (Le.elim (fun _ => ?_) (fun _ => ?_)) | refine Le.bind ?_ (fun _ => ?_) | apply hself)
def law3Patterns_c (fu : Nat) : Option (Bool) :=
  Option.bind (placeBegin_c fu ((law3Tic).1, (((law3Tic).2).1, ((((law3Tic).2).2).1, (((((law3Tic).2).2).2).1, ((((((law3Tic).2).2).2).2).1, (((((((law3Tic).2).2).2).2).2).1, ((((((((law3Tic).2).2).2).2).2).2).1, (((((((((law3Tic).2).2).2).2).2).2).2).1, ((((((((((law3Tic).2).2).2).2).2).2).2).2).1, (((((((((((law3Tic).2).2).2).2).2).2).2).2).2).1, ((((((((((((law3Tic).2).2).2).2).2).2).2).2).2).2).1, ())))))))))))) fun r2 =>
  Option.bind (agreeC (Option.bind (patternAt_i_c fu ((law3Tic).1, (((law3Tic).2).1, ((((law3Tic).2).2).1, (((((law3Tic).2).2).2).1, ((((((law3Tic).2).2).2).2).1, (((((((law3Tic).2).2).2).2).2).1, ((((((((law3Tic).2).2).2).2).2).2).1, (((((((((law3Tic).2).2).2).2).2).2).2).1, ((((((((((law3Tic).2).2).2).2).2).2).2).2).1, (((((((((((law3Tic).2).2).2).2).2).2).2).2).2).1, ((((((((((((law3Tic).2).2).2).2).2).2).2).2).2).2).1, ()))))))))))) ((1 : Int), ((1 : Int), ([(0 : Int)], ((-1 : Int), ())))) (r2.1.1, ((r2.1.2.1.1, (r2.1.2.1.2.1, ())), r2.1.2.2)) (4 : Int)) fun r3 =>
  some ((r3.1, r3.2.1, ()), ())) (agreeC (agreeC (Option.bind (patternAt_i_c fu ((law3Tic).1, (((law3Tic).2).1, ((((law3Tic).2).2).1, (((((law3Tic).2).2).2).1, ((((((law3Tic).2).2).2).2).1, (((((((law3Tic).2).2).2).2).2).1, ((((((((law3Tic).2).2).2).2).2).2).1, (((((((((law3Tic).2).2).2).2).2).2).2).1, ((((((((((law3Tic).2).2).2).2).2).2).2).2).1, (((((((((((law3Tic).2).2).2).2).2).2).2).2).2).1, ((((((((((((law3Tic).2).2).2).2).2).2).2).2).2).2).1, ()))))))))))) ((1 : Int), ((1 : Int), ([(0 : Int)], ((-1 : Int), ())))) (r2.1.1, ((r2.1.2.1.1, (r2.1.2.1.2.1, ())), r2.1.2.2)) (4 : Int)) fun r4 =>
  some ((r4.1, r4.2.1, ()), ())) (Option.bind (patternAt_i_c fu ((law3Tic).1, (((law3Tic).2).1, ((((law3Tic).2).2).1, (((((law3Tic).2).2).2).1, ((((((law3Tic).2).2).2).2).1, (((((((law3Tic).2).2).2).2).2).1, ((((((((law3Tic).2).2).2).2).2).2).1, (((((((((law3Tic).2).2).2).2).2).2).2).1, ((((((((((law3Tic).2).2).2).2).2).2).2).2).1, (((((((((((law3Tic).2).2).2).2).2).2).2).2).2).1, ((((((((((((law3Tic).2).2).2).2).2).2).2).2).2).2).1, ()))))))))))) ((1 : Int), ((1 : Int), ([(0 : Int)], ((-1 : Int), ())))) (r2.1.1, ((r2.1.2.1.1, (r2.1.2.1.2.1, ())), r2.1.2.2)) (4 : Int)) fun r5 =>
  some ((r5.1, r5.2.1, ()), ()))) (agreeC (Option.bind (patternAt_i_c fu ((law3Tic).1, (((law3Tic).2).1, ((((law3Tic).2).2).1, (((((law3Tic).2).2).2).1, ((((((law3Tic).2).2).2).2).1, (((((((law3Tic).2).2).2).2).2).1, ((((((((law3Tic).2).2).2).2).2).2).1, (((((((((law3Tic).2).2).2).2).2).2).2).1, ((((((((((law3Tic).2).2).2).2).2).2).2).2).1, (((((((((((law3Tic).2).2).2).2).2).2).2).2).2).1, ((((((((((((law3Tic).2).2).2).2).2).2).2).2).2).2).1, ()))))))))))) ((1 : Int), ((1 : Int), ([(0 : Int)], ((-1 : Int), ())))) (r2.1.1, ((r2.1.2.1.1, (r2.1.2.1.2.1, ())), r2.1.2.2)) (4 : Int)) fun r6 =>
  some ((r6.1, r6.2.1, ()), ())) (Option.bind (patternAt_i_c fu ((law3Tic).1, (((law3Tic).2).1, ((((law3Tic).2).2).1, (((((law3Tic).2).2).2).1, ((((((law3Tic).2).2).2).2).1, (((((((law3Tic).2).2).2).2).2).1, ((((((((law3Tic).2).2).2).2).2).2).1, (((((((((law3Tic).2).2).2).2).2).2).2).1, ((((((((((law3Tic).2).2).2).2).2).2).2).2).1, (((((((((((law3Tic).2).2).2).2).2).2).2).2).2).1, ((((((((((((law3Tic).2).2).2).2).2).2).2).2).2).2).1, ()))))))))))) ((1 : Int), ((1 : Int), ([(0 : Int)], ((-1 : Int), ())))) (r2.1.1, ((r2.1.2.1.1, (r2.1.2.1.2.1, ())), r2.1.2.2)) (4 : Int)) fun r7 =>
  some ((r7.1, r7.2.1, ()), ()))))) fun x8 =>
  some (((r2.2.1 == (0 : Int)) && (x8.1.2.1 == (0 : Int))) && x8.1.1)
theorem law3Patterns_m (fu : Nat) : Le (law3Patterns_c fu) (law3Patterns) := by
  unfold law3Patterns_c law3Patterns
  repeat (first | exact Le.refl _ | assumption | apply placeBegin_m | apply patternAt_i_m | apply Le.cond | apply Le.req | apply Le.gopt | apply Le.map | apply Le.agree | refine Le.iter (fun _ => ?_) _ _ | refine Le.bind ?_ (Le.elim (fun _ => ?_) (fun _ => ?_)) | refine Le.bind ?_ (fun _ => ?_) | apply hself)
end Go.Proofs.Ytcdpkebphgeipaa
