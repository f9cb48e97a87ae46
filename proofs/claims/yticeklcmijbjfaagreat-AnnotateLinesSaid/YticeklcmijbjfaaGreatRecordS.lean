/- What functions compute, in plain Lean: Record. No condition of its own. -/
import Derived.Test.YticeklcmijbjfaaGreatDen0
import Derived.Test.YticeklcmijbjfaaGreatGameS
namespace Go.Proofs.YticeklcmijbjfaaGreat
open Go.Den
set_option linter.unusedVariables false
set_option maxRecDepth 100000
noncomputable def recordPrintable_L1 (s : ByteArray) (not : ByteArray) (x1 : (Int × Unit) × (Unit)) : Option (((Int × Unit) × (Unit)) ⊕ (((Unit) × (Unit)) ⊕ Bool)) :=
  bif (decide (x1.1.1 < ((s.size : Nat) : Int))) then (Option.bind (strAt s x1.1.1) fun c2 =>
  Option.bind (gopt (!(decide (((c2.toNat : Nat) : Int) < (32 : Int)))) 0 (strAt s x1.1.1)) fun c3 =>
  Option.bind (gopt (!((decide (((c2.toNat : Nat) : Int) < (32 : Int))) || (decide (((c3.toNat : Nat) : Int) > (126 : Int))))) 0 (strAt s x1.1.1)) fun c4 =>
  bif (((decide (((c2.toNat : Nat) : Int) < (32 : Int))) || (decide (((c3.toNat : Nat) : Int) > (126 : Int)))) || (decide ((indexByteS not ((c4.toNat : Nat) : Int)) ≥ (0 : Int)))) then some (Sum.inr (Sum.inr false))
  else some (Sum.inl (((w64 (x1.1.1 + (1 : Int))), ()), ())))
  else some (Sum.inr (Sum.inl ((), ())))
noncomputable def recordPrintable (s : ByteArray) (not : ByteArray) : Option (Bool) :=
  Option.bind (α := ((Unit) × (Unit)) ⊕ Bool) (iterW (recordPrintable_L1 s not) (((0 : Int), ()), ())) (Sum.elim (fun x5 =>
  some true) some)
noncomputable def recordTags_L2 (x : (List (ByteArray × ByteArray × Unit)) × ByteArray × (List (Int × (Int × Int × Int × Unit) × ByteArray × Unit)) × Int × Unit) (x1 : (Int × Unit) × (Unit)) (d2 : ByteArray × ByteArray × Unit) (x5 : (Int × Unit) × (Unit)) : Option (((Int × Unit) × (Unit)) ⊕ (((Unit) × (Unit)) ⊕ (((Int × Unit) × (Unit)) ⊕ (((Unit) × (Unit)) ⊕ Int)))) :=
  bif (decide (x5.1.1 < ((((x.1.take (x1.1.1).toNat).drop 0).length : Nat) : Int))) then (Option.bind (at? ((x.1.take (x1.1.1).toNat).drop 0) x5.1.1) fun d6 =>
  bif (d6.1.toList == d2.1.toList) then (Option.map Sum.inr (Option.map Sum.inr (bif (decide (x5.1.1 ≥ (0 : Int))) then some (Sum.inr (Sum.inr (7 : Int)))
  else some (Sum.inl (((w64 (x1.1.1 + (1 : Int))), ()), ())))))
  else some (Sum.inl (((w64 (x5.1.1 + (1 : Int))), ()), ())))
  else some (Sum.inr (Sum.inl ((), ())))
noncomputable def recordTags_L1 (x : (List (ByteArray × ByteArray × Unit)) × ByteArray × (List (Int × (Int × Int × Int × Unit) × ByteArray × Unit)) × Int × Unit) (x1 : (Int × Unit) × (Unit)) : Option (((Int × Unit) × (Unit)) ⊕ (((Unit) × (Unit)) ⊕ Int)) :=
  bif (decide (x1.1.1 < ((x.1.length : Nat) : Int))) then (Option.bind (at? x.1 x1.1.1) fun d2 =>
  Option.bind (rulesName d2.1) fun r3 =>
  bif (!r3) then some (Sum.inr (Sum.inr (6 : Int)))
  else bif (decide (((d2.2.1.size : Nat) : Int) > (40 : Int))) then some (Sum.inr (Sum.inr (2 : Int)))
  else Option.bind (recordPrintable d2.2.1 (ByteArray.mk #[34])) fun r4 =>
  bif (!r4) then some (Sum.inr (Sum.inr (3 : Int)))
  else req (boundsI (0 : Int) x1.1.1 x.1.length) (Option.bind (α := ((Unit) × (Unit)) ⊕ (((Int × Unit) × (Unit)) ⊕ (((Unit) × (Unit)) ⊕ Int))) (iterW (recordTags_L2 x x1 d2) (((0 : Int), ()), ())) (Sum.elim (fun x7 =>
  some (Sum.inl (((w64 (x1.1.1 + (1 : Int))), ()), ()))) some)))
  else some (Sum.inr (Sum.inl ((), ())))
noncomputable def recordTags (x : (List (ByteArray × ByteArray × Unit)) × ByteArray × (List (Int × (Int × Int × Int × Unit) × ByteArray × Unit)) × Int × Unit) : Option (Int) :=
  Option.bind (α := ((Unit) × (Unit)) ⊕ Int) (iterW (recordTags_L1 x) (((0 : Int), ()), ())) (Sum.elim (fun x8 =>
  some (0 : Int)) some)
noncomputable def recordComment (s : ByteArray) : Option (Int) :=
  bif (decide (((s.size : Nat) : Int) > (60 : Int))) then some (2 : Int)
  else Option.bind (recordPrintable s (ByteArray.mk #[123, 125])) fun r2 =>
  bif (!r2) then some (3 : Int)
  else some (0 : Int)
noncomputable def recordOn_L1 (node : Int) (x : (List (ByteArray × ByteArray × Unit)) × ByteArray × (List (Int × (Int × Int × Int × Unit) × ByteArray × Unit)) × Int × Unit) (x1 : (Int × Unit) × (Unit)) : Option (((Int × Unit) × (Unit)) ⊕ (((Unit) × (Unit)) ⊕ Bool)) :=
  bif (decide (x1.1.1 ≥ (0 : Int))) then (bif (x1.1.1 == node) then some (Sum.inr (Sum.inr true))
  else Option.bind (at? x.2.2.1 x1.1.1) fun d2 =>
  some (Sum.inl ((d2.1, ()), ())))
  else some (Sum.inr (Sum.inl ((), ())))
noncomputable def recordOn (x : (List (ByteArray × ByteArray × Unit)) × ByteArray × (List (Int × (Int × Int × Int × Unit) × ByteArray × Unit)) × Int × Unit) (node : Int) (last : Int) : Option (Bool) :=
  Option.bind (α := ((Unit) × (Unit)) ⊕ Bool) (iterW (recordOn_L1 node x) ((last, ()), ())) (Sum.elim (fun x3 =>
  some (node == (-1 : Int))) some)
noncomputable def recordWay_L1 (x : (List (ByteArray × ByteArray × Unit)) × ByteArray × (List (Int × (Int × Int × Int × Unit) × ByteArray × Unit)) × Int × Unit) (x1 : ((List (Int × Int × Int × Unit)) × Int × Unit) × (Unit)) : Option ((((List (Int × Int × Int × Unit)) × Int × Unit) × (Unit)) ⊕ (((List (Int × Int × Int × Unit)) × Unit) × (Unit))) :=
  bif (decide (x1.1.2.1 ≥ (0 : Int))) then (Option.bind (at? x.2.2.1 x1.1.2.1) fun d2 =>
  req (room (x1.1.1.length + ([d2.2.1]).length) 24) (Option.bind (at? x.2.2.1 x1.1.2.1) fun d3 =>
  some (Sum.inl (((x1.1.1 ++ [d2.2.1]), d3.1, ()), ()))))
  else some (Sum.inr ((x1.1.1, ()), ()))
noncomputable def recordWay_L2 (x5 : (Int × Int × Unit) × ((List (Int × Int × Int × Unit)) × Unit)) : Option (((Int × Int × Unit) × ((List (Int × Int × Int × Unit)) × Unit)) ⊕ ((Unit) × ((List (Int × Int × Int × Unit)) × Unit))) :=
  bif (decide (x5.1.1 < x5.1.2.1)) then req (inb x5.1.2.1 x5.2.1.length) (req (inb x5.1.1 x5.2.1.length) (req (inb x5.1.1 x5.2.1.length) (req (inb x5.1.2.1 (x5.2.1.set ((x5.1.1).toNat) (getD' x5.2.1 ((x5.1.2.1).toNat) ((0 : Int), ((0 : Int), ((0 : Int), ()))))).length) (some (Sum.inl (((w64 (x5.1.1 + (1 : Int))), (w64 (x5.1.2.1 - (1 : Int))), ()), (((x5.2.1.set ((x5.1.1).toNat) (getD' x5.2.1 ((x5.1.2.1).toNat) ((0 : Int), ((0 : Int), ((0 : Int), ()))))).set ((x5.1.2.1).toNat) (getD' x5.2.1 ((x5.1.1).toNat) ((0 : Int), ((0 : Int), ((0 : Int), ()))))), ())))))))
  else some (Sum.inr ((), (x5.2.1, ())))
noncomputable def recordWay (x : (List (ByteArray × ByteArray × Unit)) × ByteArray × (List (Int × (Int × Int × Int × Unit) × ByteArray × Unit)) × Int × Unit) (node : Int) : Option (List (Int × Int × Int × Unit)) :=
  Option.bind (iterW (recordWay_L1 x) ((([] : List (Int × Int × Int × Unit)), node, ()), ())) fun x4 =>
  Option.bind (iterW (recordWay_L2) (((0 : Int), (w64 (((x4.1.1.length : Nat) : Int) - (1 : Int))), ()), (x4.1.1, ()))) fun x6 =>
  some x6.2.1
noncomputable def recordNode_L1 (x : (List (ByteArray × ByteArray × Unit)) × ByteArray × (List (Int × (Int × Int × Int × Unit) × ByteArray × Unit)) × Int × Unit) (i : Int) (d4 : Int × (Int × Int × Int × Unit) × ByteArray × Unit) (x7 : (Unit) × ((List Int) × Unit)) (x8 : (Int × Unit) × (Unit)) : Option (((Int × Unit) × (Unit)) ⊕ (((Unit) × (Unit)) ⊕ ((List Int) × Int))) :=
  bif (decide (x8.1.1 < ((((x.2.2.1.take (i).toNat).drop 0).length : Nat) : Int))) then (Option.bind (α := ((Unit) × (Unit)) ⊕ (((Int × Unit) × (Unit)) ⊕ (((Unit) × (Unit)) ⊕ ((List Int) × Int)))) (Option.bind (at? ((x.2.2.1.take (i).toNat).drop 0) x8.1.1) fun d9 =>
  bif (d9.1 != d4.1) then some (Sum.inl ((), ()))
  else bif ((d9.2.1.1 == d4.2.1.1) && ((d9.2.1.2.1 == d4.2.1.2.1) && ((d9.2.1.2.2.1 == d4.2.1.2.2.1) && true))) then some (Sum.inr (Sum.inr (Sum.inr (x7.2.1, (7 : Int)))))
  else some (Sum.inl ((), ()))) (Sum.elim (fun x10 =>
  some (Sum.inl (((w64 (x8.1.1 + (1 : Int))), ()), ()))) some))
  else some (Sum.inr (Sum.inl ((), ())))
noncomputable def recordNode_L2 (x : (List (ByteArray × ByteArray × Unit)) × ByteArray × (List (Int × (Int × Int × Int × Unit) × ByteArray × Unit)) × Int × Unit) (i : Int) (d4 : Int × (Int × Int × Int × Unit) × ByteArray × Unit) (x7 : (Unit) × ((List Int) × Unit)) (r : ByteArray × Int × Int × (List (Int × Int × Int × (List (Int × Int × Int × Int × Unit)) × Unit)) × (List Int) × Bool × Bool × (List (Int × Int × Int × Bool × Unit)) × Int × Int × Int × Unit) (x12 : (Int × Unit) × (Unit)) : Option (((Int × Unit) × (Unit)) ⊕ (((Unit) × (Unit)) ⊕ ((List Int) × Int))) :=
  bif (decide (x12.1.1 < ((((x.2.2.1.take (i).toNat).drop 0).length : Nat) : Int))) then (Option.bind (at? ((x.2.2.1.take (i).toNat).drop 0) x12.1.1) fun d13 =>
  bif (d13.1 == d4.1) then (Option.map Sum.inr (Option.map Sum.inr (Option.bind (bif (decide (x12.1.1 ≥ (0 : Int))) then req (inb i x7.2.1.length) (req (inb i x7.2.1.length) (some ((), ((x7.2.1.set ((i).toNat) (w64 ((getD' x7.2.1 ((i).toNat) (0 : Int)) + (1 : Int)))), ()))))
  else some ((), (x7.2.1, ()))) fun x14 =>
  Option.bind (agree (agree (Option.bind (recordWay x i) fun r15 =>
  agree (Option.bind (plainRun r r15) fun r16 =>
  some ((r16.2.2.1, ()), ())) (Option.bind (plainRun r r15) fun r17 =>
  some ((r17.2.2.1, ()), ()))) (Option.bind (recordWay x i) fun r18 =>
  Option.bind (plainRun r r18) fun r19 =>
  some ((r19.2.2.1, ()), ()))) (agree (Option.bind (recordWay x i) fun r20 =>
  agree (Option.bind (plainRun r r20) fun r21 =>
  some ((r21.2.2.1, ()), ())) (Option.bind (plainRun r r20) fun r22 =>
  some ((r22.2.2.1, ()), ()))) (agree (Option.bind (recordWay x i) fun r23 =>
  Option.bind (plainRun r r23) fun r24 =>
  some ((r24.2.2.1, ()), ())) (Option.bind (recordWay x i) fun r25 =>
  Option.bind (plainRun r r25) fun r26 =>
  some ((r26.2.2.1, ()), ()))))) fun x27 =>
  bif (x27.1.1 != (0 : Int)) then some (x14.2.1, x27.1.1)
  else req (inb i x14.2.1.length) (bif (decide ((getD' x14.2.1 ((i).toNat) (0 : Int)) > (20 : Int))) then some (x14.2.1, (2 : Int))
  else some (x14.2.1, (0 : Int))))))
  else some (Sum.inl (((w64 (x12.1.1 + (1 : Int))), ()), ())))
  else some (Sum.inr (Sum.inl ((), ())))
noncomputable def recordNode (deep : List Int) (r : ByteArray × Int × Int × (List (Int × Int × Int × (List (Int × Int × Int × Int × Unit)) × Unit)) × (List Int) × Bool × Bool × (List (Int × Int × Int × Bool × Unit)) × Int × Int × Int × Unit) (x : (List (ByteArray × ByteArray × Unit)) × ByteArray × (List (Int × (Int × Int × Int × Unit) × ByteArray × Unit)) × Int × Unit) (i : Int) : Option ((List Int) × Int) :=
  Option.bind (at? x.2.2.1 i) fun d4 =>
  Option.bind (recordComment d4.2.2.1) fun r5 =>
  bif (r5 != (0 : Int)) then some (deep, r5)
  else Option.bind (gopt (!(decide (d4.1 ≥ i))) false (recordOn x d4.1 (w64 (i - (1 : Int))))) fun r6 =>
  bif ((decide (d4.1 ≥ i)) || (!r6)) then some (deep, (3 : Int))
  else Option.bind (bif (decide (d4.1 ≥ (0 : Int))) then req (inb d4.1 deep.length) (req (inb i deep.length) (some ((), ((deep.set ((i).toNat) (getD' deep ((d4.1).toNat) (0 : Int))), ()))))
  else some ((), (deep, ()))) fun x7 =>
  req (boundsI (0 : Int) i x.2.2.1.length) (Option.bind (α := ((Unit) × (Unit)) ⊕ ((List Int) × Int)) (iterW (recordNode_L1 x i d4 x7) (((0 : Int), ()), ())) (Sum.elim (fun x11 =>
  req (boundsI (0 : Int) i x.2.2.1.length) (Option.bind (α := ((Unit) × (Unit)) ⊕ ((List Int) × Int)) (iterW (recordNode_L2 x i d4 x7 r) (((0 : Int), ()), ())) (Sum.elim (fun x28 =>
  Option.bind (agree (agree (Option.bind (recordWay x i) fun r29 =>
  agree (Option.bind (plainRun r r29) fun r30 =>
  some ((r30.2.2.1, ()), ())) (Option.bind (plainRun r r29) fun r31 =>
  some ((r31.2.2.1, ()), ()))) (Option.bind (recordWay x i) fun r32 =>
  Option.bind (plainRun r r32) fun r33 =>
  some ((r33.2.2.1, ()), ()))) (agree (Option.bind (recordWay x i) fun r34 =>
  agree (Option.bind (plainRun r r34) fun r35 =>
  some ((r35.2.2.1, ()), ())) (Option.bind (plainRun r r34) fun r36 =>
  some ((r36.2.2.1, ()), ()))) (agree (Option.bind (recordWay x i) fun r37 =>
  Option.bind (plainRun r r37) fun r38 =>
  some ((r38.2.2.1, ()), ())) (Option.bind (recordWay x i) fun r39 =>
  Option.bind (plainRun r r39) fun r40 =>
  some ((r40.2.2.1, ()), ()))))) fun x41 =>
  bif (x41.1.1 != (0 : Int)) then some (x7.2.1, x41.1.1)
  else req (inb i x7.2.1.length) (bif (decide ((getD' x7.2.1 ((i).toNat) (0 : Int)) > (20 : Int))) then some (x7.2.1, (2 : Int))
  else some (x7.2.1, (0 : Int)))) some))) some))
noncomputable def recordCheck_L1 (x : (List (ByteArray × ByteArray × Unit)) × ByteArray × (List (Int × (Int × Int × Int × Unit) × ByteArray × Unit)) × Int × Unit) (r : ByteArray × Int × Int × (List (Int × Int × Int × (List (Int × Int × Int × Int × Unit)) × Unit)) × (List Int) × Bool × Bool × (List (Int × Int × Int × Bool × Unit)) × Int × Int × Int × Unit) (x7 : (Int × Unit) × ((List Int) × Unit)) : Option (((Int × Unit) × ((List Int) × Unit)) ⊕ (((Unit) × ((List Int) × Unit)) ⊕ Int)) :=
  bif (decide (x7.1.1 < ((x.2.2.1.length : Nat) : Int))) then (Option.bind (recordNode x7.2.1 r x x7.1.1) fun r8 =>
  bif (r8.2 != (0 : Int)) then some (Sum.inr (Sum.inr r8.2))
  else some (Sum.inl (((w64 (x7.1.1 + (1 : Int))), ()), (r8.1, ()))))
  else some (Sum.inr (Sum.inl ((), (x7.2.1, ()))))
noncomputable def recordCheck (r : ByteArray × Int × Int × (List (Int × Int × Int × (List (Int × Int × Int × Int × Unit)) × Unit)) × (List Int) × Bool × Bool × (List (Int × Int × Int × Bool × Unit)) × Int × Int × Int × Unit) (x : (List (ByteArray × ByteArray × Unit)) × ByteArray × (List (Int × (Int × Int × Int × Unit) × ByteArray × Unit)) × Int × Unit) : Option (Int) :=
  Option.bind (rulesCheck r) fun r4 =>
  bif (r4 != (0 : Int)) then some r4
  else bif ((decide (((x.1.length : Nat) : Int) > (10 : Int))) || (decide (((x.2.2.1.length : Nat) : Int) > (200 : Int)))) then some (2 : Int)
  else Option.bind (recordTags x) fun r5 =>
  bif (r5 != (0 : Int)) then some r5
  else bif ((decide (x.2.2.2.1 < (0 : Int))) || (decide (x.2.2.2.1 > (3 : Int)))) then some (4 : Int)
  else Option.bind (recordComment x.2.1) fun r6 =>
  bif (r6 != (0 : Int)) then some r6
  else req (decide (0 ≤ ((x.2.2.1.length : Nat) : Int)) && (((x.2.2.1.length : Nat) : Int) == ((x.2.2.1.length : Nat) : Int) && room (((x.2.2.1.length : Nat) : Int)).toNat 8)) (Option.bind (α := ((Unit) × ((List Int) × Unit)) ⊕ Int) (iterW (recordCheck_L1 x r) (((0 : Int), ()), ((List.replicate (((x.2.2.1.length : Nat) : Int)).toNat (0 : Int)), ()))) (Sum.elim (fun x9 =>
  some (0 : Int)) some))
noncomputable def recordKids_L1 (x : (List (ByteArray × ByteArray × Unit)) × ByteArray × (List (Int × (Int × Int × Int × Unit) × ByteArray × Unit)) × Int × Unit) (parent : Int) (x1 : ((List Int) × Int × Unit) × (Unit)) : Option ((((List Int) × Int × Unit) × (Unit)) ⊕ (((List Int) × Unit) × (Unit))) :=
  bif (decide (x1.1.2.1 < ((x.2.2.1.length : Nat) : Int))) then (Option.bind (at? x.2.2.1 x1.1.2.1) fun d2 =>
  Option.bind (bif (d2.1 == parent) then req (room (x1.1.1.length + ([x1.1.2.1]).length) 8) (some (((x1.1.1 ++ [x1.1.2.1]), ()), ()))
  else some ((x1.1.1, ()), ())) fun x3 =>
  some (Sum.inl ((x3.1.1, (w64 (x1.1.2.1 + (1 : Int))), ()), ())))
  else some (Sum.inr ((x1.1.1, ()), ()))
noncomputable def recordKids (x : (List (ByteArray × ByteArray × Unit)) × ByteArray × (List (Int × (Int × Int × Int × Unit) × ByteArray × Unit)) × Int × Unit) (parent : Int) : Option (List Int) :=
  Option.bind (iterW (recordKids_L1 x parent) ((([] : List Int), (0 : Int), ()), ())) fun x4 =>
  some x4.1.1
noncomputable def ref3Name_L1 (s : ByteArray) (x5 : (Int × Unit) × (Unit)) : Option (((Int × Unit) × (Unit)) ⊕ (((Unit) × (Unit)) ⊕ Bool)) :=
  bif (decide (x5.1.1 < (((bytesOf s).length : Nat) : Int))) then (req (inb x5.1.1 (bytesOf s).length) (bif (((decide ((getD' (bytesOf s) ((x5.1.1).toNat) (0 : Int)) < (65 : Int))) || (decide ((getD' (bytesOf s) ((x5.1.1).toNat) (0 : Int)) > (90 : Int)))) && ((decide ((getD' (bytesOf s) ((x5.1.1).toNat) (0 : Int)) < (48 : Int))) || (decide ((getD' (bytesOf s) ((x5.1.1).toNat) (0 : Int)) > (57 : Int))))) then some (Sum.inr (Sum.inr false))
  else some (Sum.inl (((w64 (x5.1.1 + (1 : Int))), ()), ()))))
  else some (Sum.inr (Sum.inl ((), ())))
noncomputable def ref3Name (s : ByteArray) : Option (Bool) :=
  Option.bind (gopt (!((s.toList == (ByteArray.mk #[]).toList) || (decide (((s.size : Nat) : Int) > (8 : Int))))) 0 (strAt s (0 : Int))) fun c3 =>
  Option.bind (gopt (!(((s.toList == (ByteArray.mk #[]).toList) || (decide (((s.size : Nat) : Int) > (8 : Int)))) || (decide (((c3.toNat : Nat) : Int) < (65 : Int))))) 0 (strAt s (0 : Int))) fun c4 =>
  bif ((((s.toList == (ByteArray.mk #[]).toList) || (decide (((s.size : Nat) : Int) > (8 : Int)))) || (decide (((c3.toNat : Nat) : Int) < (65 : Int)))) || (decide (((c4.toNat : Nat) : Int) > (90 : Int)))) then some false
  else req (Nat.ble s.size 140737488355328) (Option.bind (α := ((Unit) × (Unit)) ⊕ Bool) (iterW (ref3Name_L1 s) (((0 : Int), ()), ())) (Sum.elim (fun x6 =>
  some true) some))
noncomputable def ref3Fine_L2 (without : ByteArray) (s : ByteArray) (x1 : (Int × Unit) × (Unit)) (x2 : (Int × Unit) × (Unit)) : Option (((Int × Unit) × (Unit)) ⊕ (((Unit) × (Unit)) ⊕ (((Unit) × (Unit)) ⊕ (((Int × Unit) × (Unit)) ⊕ (((Unit) × (Unit)) ⊕ Bool))))) :=
  bif (decide (x2.1.1 < (((bytesOf without).length : Nat) : Int))) then (req (inb x2.1.1 (bytesOf without).length) (bif ((getD' (bytesOf s) ((x1.1.1).toNat) (0 : Int)) == (getD' (bytesOf without) ((x2.1.1).toNat) (0 : Int))) then some (Sum.inr (Sum.inr (Sum.inr (Sum.inr (Sum.inr false)))))
  else some (Sum.inl (((w64 (x2.1.1 + (1 : Int))), ()), ()))))
  else some (Sum.inr (Sum.inl ((), ())))
noncomputable def ref3Fine_L1 (s : ByteArray) (without : ByteArray) (x1 : (Int × Unit) × (Unit)) : Option (((Int × Unit) × (Unit)) ⊕ (((Unit) × (Unit)) ⊕ Bool)) :=
  bif (decide (x1.1.1 < (((bytesOf s).length : Nat) : Int))) then (Option.bind (α := ((Unit) × (Unit)) ⊕ (((Int × Unit) × (Unit)) ⊕ (((Unit) × (Unit)) ⊕ Bool))) (req (inb x1.1.1 (bytesOf s).length) (req (Nat.ble without.size 140737488355328) (Option.bind (α := ((Unit) × (Unit)) ⊕ (((Unit) × (Unit)) ⊕ (((Int × Unit) × (Unit)) ⊕ (((Unit) × (Unit)) ⊕ Bool)))) (iterW (ref3Fine_L2 without s x1) (((0 : Int), ()), ())) (Sum.elim (fun x3 =>
  bif ((decide ((getD' (bytesOf s) ((x1.1.1).toNat) (0 : Int)) < (32 : Int))) || (decide ((getD' (bytesOf s) ((x1.1.1).toNat) (0 : Int)) > (126 : Int)))) then some (Sum.inr (Sum.inr (Sum.inr false)))
  else some (Sum.inl ((), ()))) some)))) (Sum.elim (fun x4 =>
  some (Sum.inl (((w64 (x1.1.1 + (1 : Int))), ()), ()))) some))
  else some (Sum.inr (Sum.inl ((), ())))
noncomputable def ref3Fine (s : ByteArray) (without : ByteArray) : Option (Bool) :=
  req (Nat.ble s.size 140737488355328) (Option.bind (α := ((Unit) × (Unit)) ⊕ Bool) (iterW (ref3Fine_L1 s without) (((0 : Int), ()), ())) (Sum.elim (fun x5 =>
  some true) some))
noncomputable def ref3Above_L1 (a : Int) (l : List (Int × (Int × Int × Int × Unit) × ByteArray × Unit)) (x1 : (Int × Unit) × (Unit)) : Option (((Int × Unit) × (Unit)) ⊕ ((Int × Unit) × (Unit))) :=
  bif ((decide (x1.1.1 > a)) && (decide (x1.1.1 ≥ (0 : Int)))) then (Option.bind (at? l x1.1.1) fun d2 =>
  some (Sum.inl ((d2.1, ()), ())))
  else some (Sum.inr ((x1.1.1, ()), ()))
noncomputable def ref3Above (l : List (Int × (Int × Int × Int × Unit) × ByteArray × Unit)) (a : Int) (i : Int) : Option (Bool) :=
  Option.bind (iterW (ref3Above_L1 a l) ((i, ()), ())) fun x3 =>
  some (x3.1.1 == a)
noncomputable def ref3Way_F (self : ((List (Int × (Int × Int × Int × Unit) × ByteArray × Unit)) × Int × Unit) → Option ((List (Int × Int × Int × Unit)) × Bool × Unit)) (l : List (Int × (Int × Int × Int × Unit) × ByteArray × Unit)) (i : Int) : Option ((List (Int × Int × Int × Unit)) × Bool × Unit) :=
  bif (i == (-1 : Int)) then some (([] : List (Int × Int × Int × Unit)), (true, ()))
  else Option.bind (gat (!((decide (i < (0 : Int))) || (decide (i ≥ ((l.length : Nat) : Int))))) ((0 : Int), (((0 : Int), ((0 : Int), ((0 : Int), ()))), (ByteArray.empty, ()))) l i) fun d5 =>
  bif (((decide (i < (0 : Int))) || (decide (i ≥ ((l.length : Nat) : Int)))) || (decide (d5.1 ≥ i))) then some (([] : List (Int × Int × Int × Unit)), (false, ()))
  else Option.bind (at? l i) fun d6 =>
  Option.bind (self (l, d6.1, ())) fun r7 =>
  Option.bind (at? l i) fun d8 =>
  req (room (r7.1.length + ([d8.2.1]).length) 24) (some ((r7.1 ++ [d8.2.1]), r7.2))
noncomputable def ref3Way_G (self : ((List (Int × (Int × Int × Int × Unit) × ByteArray × Unit)) × Int × Unit) → Option ((List (Int × Int × Int × Unit)) × Bool × Unit)) (x : (List (Int × (Int × Int × Int × Unit) × ByteArray × Unit)) × Int × Unit) : Option ((List (Int × Int × Int × Unit)) × Bool × Unit) := ref3Way_F self x.1 x.2.1
noncomputable def ref3Way (l : List (Int × (Int × Int × Int × Unit) × ByteArray × Unit)) (i : Int) : Option ((List (Int × Int × Int × Unit)) × Bool × Unit) := fixW ref3Way_G (l, i, ())
noncomputable def ref3Within_L2 (x1 : (Int × Int × Unit) × (Unit)) (l : List (Int × (Int × Int × Int × Unit) × ByteArray × Unit)) (x2 : (Int × Int × Unit) × (Unit)) : Option (((Int × Int × Unit) × (Unit)) ⊕ ((Int × Unit) × (Unit))) :=
  bif (decide (x2.1.2.1 < x1.1.1)) then (Option.bind (at? l x2.1.2.1) fun d3 =>
  Option.bind (at? l x1.1.1) fun d4 =>
  bif (d3.1 == d4.1) then some (Sum.inr (((w64 (x2.1.1 + (1 : Int))), ()), ()))
  else some (Sum.inl ((x2.1.1, (w64 (x2.1.2.1 + (1 : Int))), ()), ())))
  else some (Sum.inr ((x2.1.1, ()), ()))
noncomputable def ref3Within_L1 (l : List (Int × (Int × Int × Int × Unit) × ByteArray × Unit)) (x1 : (Int × Int × Unit) × (Unit)) : Option (((Int × Int × Unit) × (Unit)) ⊕ ((Int × Unit) × (Unit))) :=
  bif (decide (x1.1.1 ≥ (0 : Int))) then (Option.bind (Option.bind (iterW (ref3Within_L2 x1 l) ((x1.1.2.1, (0 : Int), ()), ())) fun x5 =>
  some ((x5.1.1, ()), ())) fun x6 =>
  Option.bind (at? l x1.1.1) fun d7 =>
  some (Sum.inl ((d7.1, x6.1.1, ()), ())))
  else some (Sum.inr ((x1.1.2.1, ()), ()))
noncomputable def ref3Within (l : List (Int × (Int × Int × Int × Unit) × ByteArray × Unit)) (i : Int) : Option (Int) :=
  Option.bind (iterW (ref3Within_L1 l) ((i, (0 : Int), ()), ())) fun x8 =>
  some x8.1.1
noncomputable def ref3RecordFault_L2 (x4 : (Int × Unit) × (Unit)) (x : (List (ByteArray × ByteArray × Unit)) × ByteArray × (List (Int × (Int × Int × Int × Unit) × ByteArray × Unit)) × Int × Unit) (d5 : ByteArray × ByteArray × Unit) (x8 : (Int × Unit) × (Unit)) : Option (((Int × Unit) × (Unit)) ⊕ (((Unit) × (Unit)) ⊕ (((Unit) × (Unit)) ⊕ (((Int × Unit) × (Unit)) ⊕ (((Unit) × (Unit)) ⊕ Int))))) :=
  bif (decide (x8.1.1 < x4.1.1)) then (Option.bind (at? x.1 x8.1.1) fun d9 =>
  bif (d9.1.toList == d5.1.toList) then some (Sum.inr (Sum.inr (Sum.inr (Sum.inr (Sum.inr (7 : Int))))))
  else some (Sum.inl (((w64 (x8.1.1 + (1 : Int))), ()), ())))
  else some (Sum.inr (Sum.inl ((), ())))
noncomputable def ref3RecordFault_L1 (x : (List (ByteArray × ByteArray × Unit)) × ByteArray × (List (Int × (Int × Int × Int × Unit) × ByteArray × Unit)) × Int × Unit) (x4 : (Int × Unit) × (Unit)) : Option (((Int × Unit) × (Unit)) ⊕ (((Unit) × (Unit)) ⊕ Int)) :=
  bif (decide (x4.1.1 < ((x.1.length : Nat) : Int))) then (Option.bind (α := ((Unit) × (Unit)) ⊕ (((Int × Unit) × (Unit)) ⊕ (((Unit) × (Unit)) ⊕ Int))) (Option.bind (at? x.1 x4.1.1) fun d5 =>
  Option.bind (ref3Name d5.1) fun r6 =>
  bif (!r6) then some (Sum.inr (Sum.inr (Sum.inr (6 : Int))))
  else bif (decide (((d5.2.1.size : Nat) : Int) > (40 : Int))) then some (Sum.inr (Sum.inr (Sum.inr (2 : Int))))
  else Option.bind (ref3Fine d5.2.1 (ByteArray.mk #[34])) fun r7 =>
  bif (!r7) then some (Sum.inr (Sum.inr (Sum.inr (3 : Int))))
  else Option.bind (α := ((Unit) × (Unit)) ⊕ (((Unit) × (Unit)) ⊕ (((Int × Unit) × (Unit)) ⊕ (((Unit) × (Unit)) ⊕ Int)))) (iterW (ref3RecordFault_L2 x4 x d5) (((0 : Int), ()), ())) (Sum.elim (fun x10 =>
  some (Sum.inl ((), ()))) some)) (Sum.elim (fun x11 =>
  some (Sum.inl (((w64 (x4.1.1 + (1 : Int))), ()), ()))) some))
  else some (Sum.inr (Sum.inl ((), ())))
noncomputable def ref3RecordFault_L4 (x14 : (Int × Unit) × (Unit)) (x : (List (ByteArray × ByteArray × Unit)) × ByteArray × (List (Int × (Int × Int × Int × Unit) × ByteArray × Unit)) × Int × Unit) (d15 : Int × (Int × Int × Int × Unit) × ByteArray × Unit) (x18 : (Int × Unit) × (Unit)) : Option (((Int × Unit) × (Unit)) ⊕ (((Unit) × (Unit)) ⊕ (((Unit) × (Unit)) ⊕ (((Int × Unit) × (Unit)) ⊕ (((Unit) × (Unit)) ⊕ Int))))) :=
  bif (decide (x18.1.1 < x14.1.1)) then (Option.bind (at? x.2.2.1 x18.1.1) fun d19 =>
  Option.bind (gat (d19.1 == d15.1) ((0 : Int), (((0 : Int), ((0 : Int), ((0 : Int), ()))), (ByteArray.empty, ()))) x.2.2.1 x18.1.1) fun d20 =>
  bif ((d19.1 == d15.1) && ((d20.2.1.1 == d15.2.1.1) && ((d20.2.1.2.1 == d15.2.1.2.1) && ((d20.2.1.2.2.1 == d15.2.1.2.2.1) && true)))) then some (Sum.inr (Sum.inr (Sum.inr (Sum.inr (Sum.inr (7 : Int))))))
  else some (Sum.inl (((w64 (x18.1.1 + (1 : Int))), ()), ())))
  else some (Sum.inr (Sum.inl ((), ())))
noncomputable def ref3RecordFault_L3 (x : (List (ByteArray × ByteArray × Unit)) × ByteArray × (List (Int × (Int × Int × Int × Unit) × ByteArray × Unit)) × Int × Unit) (r : ByteArray × Int × Int × (List (Int × Int × Int × (List (Int × Int × Int × Int × Unit)) × Unit)) × (List Int) × Bool × Bool × (List (Int × Int × Int × Bool × Unit)) × Int × Int × Int × Unit) (x14 : (Int × Unit) × (Unit)) : Option (((Int × Unit) × (Unit)) ⊕ (((Unit) × (Unit)) ⊕ Int)) :=
  bif (decide (x14.1.1 < ((x.2.2.1.length : Nat) : Int))) then (Option.bind (α := ((Unit) × (Unit)) ⊕ (((Int × Unit) × (Unit)) ⊕ (((Unit) × (Unit)) ⊕ Int))) (Option.bind (at? x.2.2.1 x14.1.1) fun d15 =>
  bif (decide (((d15.2.2.1.size : Nat) : Int) > (60 : Int))) then some (Sum.inr (Sum.inr (Sum.inr (2 : Int))))
  else Option.bind (ref3Fine d15.2.2.1 (ByteArray.mk #[123, 125])) fun r16 =>
  bif (!r16) then some (Sum.inr (Sum.inr (Sum.inr (3 : Int))))
  else Option.bind (gopt (((decide (x14.1.1 > (0 : Int))) && (decide (d15.1 ≥ (0 : Int)))) && (!((decide (d15.1 < (-1 : Int))) || (decide (d15.1 ≥ x14.1.1))))) false (ref3Above x.2.2.1 d15.1 (w64 (x14.1.1 - (1 : Int))))) fun r17 =>
  bif ((((decide (d15.1 < (-1 : Int))) || (decide (d15.1 ≥ x14.1.1))) || (((decide (x14.1.1 > (0 : Int))) && (decide (d15.1 ≥ (0 : Int)))) && (!r17))) || ((x14.1.1 == (0 : Int)) && (d15.1 != (-1 : Int)))) then some (Sum.inr (Sum.inr (Sum.inr (3 : Int))))
  else Option.bind (α := ((Unit) × (Unit)) ⊕ (((Unit) × (Unit)) ⊕ (((Int × Unit) × (Unit)) ⊕ (((Unit) × (Unit)) ⊕ Int)))) (iterW (ref3RecordFault_L4 x14 x d15) (((0 : Int), ()), ())) (Sum.elim (fun x21 =>
  Option.bind (ref3Way x.2.2.1 x14.1.1) fun r22 =>
  Option.bind (ref3Places r r22.1) fun r23 =>
  bif (r23.2.1 != (0 : Int)) then some (Sum.inr (Sum.inr (Sum.inr r23.2.1)))
  else some (Sum.inl ((), ()))) some)) (Sum.elim (fun x24 =>
  some (Sum.inl (((w64 (x14.1.1 + (1 : Int))), ()), ()))) some))
  else some (Sum.inr (Sum.inl ((), ())))
noncomputable def ref3RecordFault_L5 (x : (List (ByteArray × ByteArray × Unit)) × ByteArray × (List (Int × (Int × Int × Int × Unit) × ByteArray × Unit)) × Int × Unit) (x26 : (Int × Unit) × (Unit)) : Option (((Int × Unit) × (Unit)) ⊕ (((Unit) × (Unit)) ⊕ Int)) :=
  bif (decide (x26.1.1 < ((x.2.2.1.length : Nat) : Int))) then (Option.bind (ref3Within x.2.2.1 x26.1.1) fun r27 =>
  bif (decide (r27 > (20 : Int))) then some (Sum.inr (Sum.inr (2 : Int)))
  else some (Sum.inl (((w64 (x26.1.1 + (1 : Int))), ()), ())))
  else some (Sum.inr (Sum.inl ((), ())))
noncomputable def ref3RecordFault (r : ByteArray × Int × Int × (List (Int × Int × Int × (List (Int × Int × Int × Int × Unit)) × Unit)) × (List Int) × Bool × Bool × (List (Int × Int × Int × Bool × Unit)) × Int × Int × Int × Unit) (x : (List (ByteArray × ByteArray × Unit)) × ByteArray × (List (Int × (Int × Int × Int × Unit) × ByteArray × Unit)) × Int × Unit) : Option (Int) :=
  Option.bind (ref3Places r ([] : List (Int × Int × Int × Unit))) fun r3 =>
  bif (r3.2.1 != (0 : Int)) then some r3.2.1
  else bif ((decide (((x.1.length : Nat) : Int) > (10 : Int))) || (decide (((x.2.2.1.length : Nat) : Int) > (200 : Int)))) then some (2 : Int)
  else Option.bind (α := ((Unit) × (Unit)) ⊕ Int) (iterW (ref3RecordFault_L1 x) (((0 : Int), ()), ())) (Sum.elim (fun x12 =>
  bif ((decide (x.2.2.2.1 < (0 : Int))) || (decide (x.2.2.2.1 > (3 : Int)))) then some (4 : Int)
  else bif (decide (((x.2.1.size : Nat) : Int) > (60 : Int))) then some (2 : Int)
  else Option.bind (ref3Fine x.2.1 (ByteArray.mk #[123, 125])) fun r13 =>
  bif (!r13) then some (3 : Int)
  else Option.bind (α := ((Unit) × (Unit)) ⊕ Int) (iterW (ref3RecordFault_L3 x r) (((0 : Int), ()), ())) (Sum.elim (fun x25 =>
  Option.bind (α := ((Unit) × (Unit)) ⊕ Int) (iterW (ref3RecordFault_L5 x) (((0 : Int), ()), ())) (Sum.elim (fun x28 =>
  some (0 : Int)) some)) some)) some)
noncomputable def law3Short (x : (List (ByteArray × ByteArray × Unit)) × ByteArray × (List (Int × (Int × Int × Int × Unit) × ByteArray × Unit)) × Int × Unit) : Option ((List (ByteArray × ByteArray × Unit)) × ByteArray × (List (Int × (Int × Int × Int × Unit) × ByteArray × Unit)) × Int × Unit) :=
  req (boundsI (0 : Int) (if (30 : Int) < ((x.2.2.1.length : Nat) : Int) then (30 : Int) else ((x.2.2.1.length : Nat) : Int)) x.2.2.1.length) (some (x.1, (x.2.1, (((x.2.2.1.take ((if (30 : Int) < ((x.2.2.1.length : Nat) : Int) then (30 : Int) else ((x.2.2.1.length : Nat) : Int))).toNat).drop 0), x.2.2.2))))
end Go.Proofs.YticeklcmijbjfaaGreat
