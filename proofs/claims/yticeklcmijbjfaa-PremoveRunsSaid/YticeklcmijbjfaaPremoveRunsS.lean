/- What functions compute, in plain Lean: PremoveRuns. No condition of its own. -/
import Derived.Test.YticeklcmijbjfaaDen0
import Derived.Test.YticeklcmijbjfaaGameS
namespace Go.Proofs.Yticeklcmijbjfaa
open Go.Den
set_option linter.unusedVariables false
set_option maxRecDepth 100000
noncomputable def premoveOf_L1 (l : List (Int × (Int × Int × Int × Unit) × Unit)) (player : Int) (x1 : ((List (Int × Int × Int × Unit)) × Int × Unit) × (Unit)) : Option ((((List (Int × Int × Int × Unit)) × Int × Unit) × (Unit)) ⊕ (((List (Int × Int × Int × Unit)) × Unit) × (Unit))) :=
  bif (decide (x1.1.2.1 < ((l.length : Nat) : Int))) then (Option.bind (at? l x1.1.2.1) fun d2 =>
  Option.bind (bif (d2.1 == player) then req (room (x1.1.1.length + ([d2.2.1]).length) 24) (some (((x1.1.1 ++ [d2.2.1]), ()), ()))
  else some ((x1.1.1, ()), ())) fun x3 =>
  some (Sum.inl ((x3.1.1, (w64 (x1.1.2.1 + (1 : Int))), ()), ())))
  else some (Sum.inr ((x1.1.1, ()), ()))
noncomputable def premoveOf (l : List (Int × (Int × Int × Int × Unit) × Unit)) (player : Int) : Option (List (Int × Int × Int × Unit)) :=
  Option.bind (iterW (premoveOf_L1 l player) ((([] : List (Int × Int × Int × Unit)), (0 : Int), ()), ())) fun x4 =>
  some x4.1.1
noncomputable def premoveCheck_L1 (l : List (Int × (Int × Int × Int × Unit) × Unit)) (x4 : (Int × Unit) × (Unit)) : Option (((Int × Unit) × (Unit)) ⊕ (((Unit) × (Unit)) ⊕ Int)) :=
  bif (decide (x4.1.1 < ((l.length : Nat) : Int))) then (Option.bind (at? l x4.1.1) fun d5 =>
  bif ((d5.1 != (0 : Int)) && (d5.1 != (1 : Int))) then (Option.map Sum.inr (Option.map Sum.inr (bif (decide (x4.1.1 ≥ (0 : Int))) then some (4 : Int)
  else some (0 : Int))))
  else some (Sum.inl (((w64 (x4.1.1 + (1 : Int))), ()), ())))
  else some (Sum.inr (Sum.inl ((), ())))
noncomputable def premoveCheck (l : List (Int × (Int × Int × Int × Unit) × Unit)) : Option (Int) :=
  Option.bind (Option.bind (premoveOf l (0 : Int)) fun r1 =>
  bif (decide (((r1.length : Nat) : Int) > (4 : Int))) then some ((true, ()), ())
  else Option.bind (premoveOf l (1 : Int)) fun r2 =>
  some (((decide (((r2.length : Nat) : Int) > (4 : Int))), ()), ())) fun x3 =>
  bif x3.1.1 then some (2 : Int)
  else Option.bind (α := ((Unit) × (Unit)) ⊕ Int) (iterW (premoveCheck_L1 l) (((0 : Int), ()), ())) (Sum.elim (fun x6 =>
  some (0 : Int)) some)
noncomputable def premoveCheck_i (r : ByteArray × Int × Int × (List (Int × Int × Int × (List (Int × Int × Int × Int × Unit)) × Unit)) × (List Int) × Bool × Bool × (List (Int × Int × Int × Bool × Unit)) × Int × Int × Int × Unit) (p : (List Int) × ((List Int) × (List Int) × Unit) × Int × Int × Unit) (l : List (Int × (Int × Int × Int × Unit) × Unit)) : Option (Int) :=
  Option.bind (placeCheck r p) fun r3 =>
  bif (r3 != (0 : Int)) then some r3
  else Option.bind (premoveCheck l) fun r4 =>
  some r4
noncomputable def slicesClone_PremoveMove (s : List (Int × (Int × Int × Int × Unit) × Unit)) : Option (List (Int × (Int × Int × Int × Unit) × Unit)) :=
  bif (s.isEmpty) then (agree (some ([] : List (Int × (Int × Int × Int × Unit) × Unit))) (req (room (([] : List (Int × (Int × Int × Int × Unit) × Unit)).length + s.length) 32) (some (([] : List (Int × (Int × Int × Int × Unit) × Unit)) ++ s))))
  else req (room (([] : List (Int × (Int × Int × Int × Unit) × Unit)).length + s.length) 32) (some (([] : List (Int × (Int × Int × Int × Unit) × Unit)) ++ s))
noncomputable def premoveWithout_L2 (player : Int) (x4 : (Int × Int × Unit) × ((List (Int × (Int × Int × Int × Unit) × Unit)) × Unit)) : Option (((Int × Int × Unit) × ((List (Int × (Int × Int × Int × Unit) × Unit)) × Unit)) ⊕ ((Int × Unit) × ((List (Int × (Int × Int × Int × Unit) × Unit)) × Unit))) :=
  bif (decide (x4.1.2.1 < ((x4.2.1.length : Nat) : Int))) then (req (inb x4.1.2.1 x4.2.1.length) (Option.bind (bif (!((getD' x4.2.1 ((x4.1.2.1).toNat) ((0 : Int), (((0 : Int), ((0 : Int), ((0 : Int), ()))), ()))).1 == player)) then req (inb x4.1.1 x4.2.1.length) (some (((w64 (x4.1.1 + (1 : Int))), ()), ((x4.2.1.set ((x4.1.1).toNat) (getD' x4.2.1 ((x4.1.2.1).toNat) ((0 : Int), (((0 : Int), ((0 : Int), ((0 : Int), ()))), ())))), ())))
  else some ((x4.1.1, ()), (x4.2.1, ()))) fun x5 =>
  some (Sum.inl ((x5.1.1, (w64 (x4.1.2.1 + (1 : Int))), ()), (x5.2.1, ())))))
  else some (Sum.inr ((x4.1.1, ()), (x4.2.1, ())))
noncomputable def premoveWithout_L1 (r2 : List (Int × (Int × Int × Int × Unit) × Unit)) (player : Int) (x3 : (Int × Unit) × (Unit)) : Option (((Int × Unit) × (Unit)) ⊕ (((Unit) × (Unit)) ⊕ (List (Int × (Int × Int × Int × Unit) × Unit)))) :=
  bif (decide (x3.1.1 < ((r2.length : Nat) : Int))) then (req (inb x3.1.1 r2.length) (bif ((getD' r2 ((x3.1.1).toNat) ((0 : Int), (((0 : Int), ((0 : Int), ((0 : Int), ()))), ()))).1 == player) then (Option.map Sum.inr (Option.map Sum.inr (bif (x3.1.1 == (-1 : Int)) then some r2
  else Option.bind (iterW (premoveWithout_L2 player) ((x3.1.1, (w64 (x3.1.1 + (1 : Int))), ()), (r2, ()))) fun x6 =>
  req (boundsI x6.1.1 ((x6.2.1.length : Nat) : Int) x6.2.1.length) (req (boundsI 0 x6.1.1 (x6.2.1.take (x6.1.1).toNat ++ (List.replicate ((((x6.2.1.length : Nat) : Int)).toNat - (x6.1.1).toNat) ((0 : Int), (((0 : Int), ((0 : Int), ((0 : Int), ()))), ())) ++ x6.2.1.drop ((x6.1.1).toNat + ((((x6.2.1.length : Nat) : Int)).toNat - (x6.1.1).toNat)))).length) (some ((x6.2.1.take (x6.1.1).toNat ++ (List.replicate ((((x6.2.1.length : Nat) : Int)).toNat - (x6.1.1).toNat) ((0 : Int), (((0 : Int), ((0 : Int), ((0 : Int), ()))), ())) ++ x6.2.1.drop ((x6.1.1).toNat + ((((x6.2.1.length : Nat) : Int)).toNat - (x6.1.1).toNat)))).take (x6.1.1).toNat))))))
  else some (Sum.inl (((w64 (x3.1.1 + (1 : Int))), ()), ()))))
  else some (Sum.inr (Sum.inl ((), ())))
noncomputable def premoveWithout (l : List (Int × (Int × Int × Int × Unit) × Unit)) (player : Int) : Option (List (Int × (Int × Int × Int × Unit) × Unit)) :=
  Option.bind (slicesClone_PremoveMove l) fun r2 =>
  Option.bind (α := ((Unit) × (Unit)) ⊕ (List (Int × (Int × Int × Int × Unit) × Unit))) (iterW (premoveWithout_L1 r2 player) (((0 : Int), ()), ())) (Sum.elim (fun x7 =>
  some r2) some)
noncomputable def slicesConcat_PremoveMove_L1 (slices : List (List (Int × (Int × Int × Int × Unit) × Unit))) (x1 : (Int × Int × Unit) × (Unit)) : Option (((Int × Int × Unit) × (Unit)) ⊕ ((Int × Unit) × (Unit))) :=
  bif (decide (x1.1.2.1 < ((slices.length : Nat) : Int))) then (Option.bind (at? slices x1.1.2.1) fun d2 =>
  bif (decide ((w64 (x1.1.1 + ((d2.length : Nat) : Int))) < (0 : Int))) then none
  else some (Sum.inl (((w64 (x1.1.1 + ((d2.length : Nat) : Int))), (w64 (x1.1.2.1 + (1 : Int))), ()), ())))
  else some (Sum.inr ((x1.1.1, ()), ()))
noncomputable def slicesConcat_PremoveMove_L2 (slices : List (List (Int × (Int × Int × Int × Unit) × Unit))) (x5 : ((List (Int × (Int × Int × Int × Unit) × Unit)) × Int × Unit) × (Unit)) : Option ((((List (Int × (Int × Int × Int × Unit) × Unit)) × Int × Unit) × (Unit)) ⊕ (((List (Int × (Int × Int × Int × Unit) × Unit)) × Unit) × (Unit))) :=
  bif (decide (x5.1.2.1 < ((slices.length : Nat) : Int))) then (Option.bind (at? slices x5.1.2.1) fun d6 =>
  req (room (x5.1.1.length + d6.length) 32) (some (Sum.inl (((x5.1.1 ++ d6), (w64 (x5.1.2.1 + (1 : Int))), ()), ()))))
  else some (Sum.inr ((x5.1.1, ()), ()))
noncomputable def slicesConcat_PremoveMove (slices : List (List (Int × (Int × Int × Int × Unit) × Unit))) : Option (List (Int × (Int × Int × Int × Unit) × Unit)) :=
  Option.bind (iterW (slicesConcat_PremoveMove_L1 slices) (((0 : Int), (0 : Int), ()), ())) fun x3 =>
  bif (decide (x3.1.1 < (0 : Int))) then none
  else Option.bind (bif (decide ((w64 (x3.1.1 - (0 : Int))) > (0 : Int))) then req (decide (0 < (w64 (x3.1.1 - (0 : Int)))) && room ((w64 (x3.1.1 - (0 : Int)))).toNat 32) (req (boundsI 0 (0 : Int) (List.replicate ((w64 (x3.1.1 - (0 : Int)))).toNat ((0 : Int), (((0 : Int), ((0 : Int), ((0 : Int), ()))), ()))).length) (some ((((List.replicate ((w64 (x3.1.1 - (0 : Int)))).toNat ((0 : Int), (((0 : Int), ((0 : Int), ((0 : Int), ()))), ()))).take 0), ()), ())))
  else some ((([] : List (Int × (Int × Int × Int × Unit) × Unit)), ()), ())) fun x4 =>
  Option.bind (iterW (slicesConcat_PremoveMove_L2 slices) ((x4.1.1, (0 : Int), ()), ())) fun x7 =>
  some x7.1.1
noncomputable def premoveNext_L1 (l : List (Int × (Int × Int × Int × Unit) × Unit)) (p : (List Int) × ((List Int) × (List Int) × Unit) × Int × Int × Unit) (r : ByteArray × Int × Int × (List (Int × Int × Int × (List (Int × Int × Int × Int × Unit)) × Unit)) × (List Int) × Bool × Bool × (List (Int × Int × Int × Bool × Unit)) × Int × Int × Int × Unit) (x2 : (Int × Unit) × (Unit)) : Option (((Int × Unit) × (Unit)) ⊕ (((Unit) × (Unit)) ⊕ ((Int × Int × Int × Unit) × Bool × (List (Int × (Int × Int × Int × Unit) × Unit)) × Unit))) :=
  bif (decide (x2.1.1 < ((l.length : Nat) : Int))) then (Option.bind (at? l x2.1.1) fun d3 =>
  bif (d3.1 == p.2.2.1) then (Option.map Sum.inr (Option.map Sum.inr (Option.bind (Option.bind (gat (!(decide (x2.1.1 < (0 : Int)))) ((0 : Int), (((0 : Int), ((0 : Int), ((0 : Int), ()))), ())) l x2.1.1) fun d4 =>
  bif (decide (x2.1.1 < (0 : Int))) then agree (some ((true, ()), ())) (some ((true, ()), ()))
  else agree (Option.bind (endsMoves r p) fun r5 =>
  Option.bind (slicesContains_Move r5 d4.2.1) fun r6 =>
  some (((!r6), ()), ())) (Option.bind (endsMoves r p) fun r7 =>
  Option.bind (slicesContains_Move r7 d4.2.1) fun r8 =>
  some (((!r8), ()), ()))) fun x9 =>
  bif x9.1.1 then (Option.bind (premoveWithout l p.2.2.1) fun r10 =>
  some (((0 : Int), ((0 : Int), ((0 : Int), ()))), (false, (r10, ()))))
  else Option.bind (Option.bind (at? l x2.1.1) fun d11 =>
  req (boundsI (0 : Int) x2.1.1 l.length) (req (boundsI (w64 (x2.1.1 + (1 : Int))) ((l.length : Nat) : Int) l.length) (agree (Option.bind (slicesConcat_PremoveMove ([((l.take (x2.1.1).toNat).drop 0), ((l.take (((l.length : Nat) : Int)).toNat).drop ((w64 (x2.1.1 + (1 : Int)))).toNat)])) fun r12 =>
  some ((true, r12, ()), (d11.2.1, ()))) (agree (Option.bind (slicesConcat_PremoveMove ([((l.take (x2.1.1).toNat).drop 0), ((l.take (((l.length : Nat) : Int)).toNat).drop ((w64 (x2.1.1 + (1 : Int)))).toNat)])) fun r13 =>
  some ((true, r13, ()), (d11.2.1, ()))) (Option.bind (slicesConcat_PremoveMove ([((l.take (x2.1.1).toNat).drop 0), ((l.take (((l.length : Nat) : Int)).toNat).drop ((w64 (x2.1.1 + (1 : Int)))).toNat)])) fun r14 =>
  some ((true, r14, ()), (d11.2.1, ()))))))) fun x15 =>
  some (x15.2.1, (x15.1.1, (x15.1.2.1, ()))))))
  else some (Sum.inl (((w64 (x2.1.1 + (1 : Int))), ()), ())))
  else some (Sum.inr (Sum.inl ((), ())))
noncomputable def premoveNext (r : ByteArray × Int × Int × (List (Int × Int × Int × (List (Int × Int × Int × Int × Unit)) × Unit)) × (List Int) × Bool × Bool × (List (Int × Int × Int × Bool × Unit)) × Int × Int × Int × Unit) (p : (List Int) × ((List Int) × (List Int) × Unit) × Int × Int × Unit) (l : List (Int × (Int × Int × Int × Unit) × Unit)) : Option ((Int × Int × Int × Unit) × Bool × (List (Int × (Int × Int × Int × Unit) × Unit)) × Unit) :=
  Option.bind (α := ((Unit) × (Unit)) ⊕ ((Int × Int × Int × Unit) × Bool × (List (Int × (Int × Int × Int × Unit) × Unit)) × Unit)) (iterW (premoveNext_L1 l p r) (((0 : Int), ()), ())) (Sum.elim (fun x16 =>
  Option.bind (Option.bind (gat false ((0 : Int), (((0 : Int), ((0 : Int), ((0 : Int), ()))), ())) l (-1 : Int)) fun d17 =>
  agree (some ((true, ()), ())) (some ((true, ()), ()))) fun x18 =>
  bif x18.1.1 then (Option.bind (premoveWithout l p.2.2.1) fun r19 =>
  some (((0 : Int), ((0 : Int), ((0 : Int), ()))), (false, (r19, ()))))
  else Option.bind (Option.bind (at? l (-1 : Int)) fun d20 =>
  req (boundsI (0 : Int) (-1 : Int) l.length) (req (boundsI (0 : Int) ((l.length : Nat) : Int) l.length) (agree (Option.bind (slicesConcat_PremoveMove ([((l.take ((-1 : Int)).toNat).drop 0), ((l.take (((l.length : Nat) : Int)).toNat).drop 0)])) fun r21 =>
  some ((true, r21, ()), (d20.2.1, ()))) (agree (Option.bind (slicesConcat_PremoveMove ([((l.take ((-1 : Int)).toNat).drop 0), ((l.take (((l.length : Nat) : Int)).toNat).drop 0)])) fun r22 =>
  some ((true, r22, ()), (d20.2.1, ()))) (Option.bind (slicesConcat_PremoveMove ([((l.take ((-1 : Int)).toNat).drop 0), ((l.take (((l.length : Nat) : Int)).toNat).drop 0)])) fun r23 =>
  some ((true, r23, ()), (d20.2.1, ()))))))) fun x24 =>
  some (x24.2.1, (x24.1.1, (x24.1.2.1, ())))) some)
noncomputable def premoveNext_i (r : ByteArray × Int × Int × (List (Int × Int × Int × (List (Int × Int × Int × Int × Unit)) × Unit)) × (List Int) × Bool × Bool × (List (Int × Int × Int × Bool × Unit)) × Int × Int × Int × Unit) (p : (List Int) × ((List Int) × (List Int) × Unit) × Int × Int × Unit) (l : List (Int × (Int × Int × Int × Unit) × Unit)) : Option ((Int × Int × Int × Unit) × Bool × (List (Int × (Int × Int × Int × Unit) × Unit)) × Int × Unit) :=
  Option.bind (premoveCheck_i r p l) fun r3 =>
  bif (r3 != (0 : Int)) then some (((0 : Int), ((0 : Int), ((0 : Int), ()))), (false, (([] : List (Int × (Int × Int × Int × Unit) × Unit)), (r3, ()))))
  else Option.bind (premoveNext r p l) fun r4 =>
  some (r4.1, (r4.2.1, (r4.2.2.1, ((0 : Int), ()))))
noncomputable def law3Announces : Option (Bool) :=
  Option.bind (placeBegin ((law3Tic).1, (((law3Tic).2).1, ((((law3Tic).2).2).1, (((((law3Tic).2).2).2).1, ((((((law3Tic).2).2).2).2).1, (((((((law3Tic).2).2).2).2).2).1, ((((((((law3Tic).2).2).2).2).2).2).1, (((((((((law3Tic).2).2).2).2).2).2).2).1, ((((((((((law3Tic).2).2).2).2).2).2).2).2).1, (((((((((((law3Tic).2).2).2).2).2).2).2).2).2).1, ((((((((((((law3Tic).2).2).2).2).2).2).2).2).2).2).1, ())))))))))))) fun r2 =>
  Option.bind (agree (agree (agree (Option.bind (premoveNext_i ((law3Tic).1, (((law3Tic).2).1, ((((law3Tic).2).2).1, (((((law3Tic).2).2).2).1, ((((((law3Tic).2).2).2).2).1, (((((((law3Tic).2).2).2).2).2).1, ((((((((law3Tic).2).2).2).2).2).2).1, (((((((((law3Tic).2).2).2).2).2).2).2).1, ((((((((((law3Tic).2).2).2).2).2).2).2).2).1, (((((((((((law3Tic).2).2).2).2).2).2).2).2).2).1, ((((((((((((law3Tic).2).2).2).2).2).2).2).2).2).2).1, ()))))))))))) (r2.1.1, ((r2.1.2.1.1, (r2.1.2.1.2.1, ())), r2.1.2.2)) ([((0 : Int), ((law3Drop (3 : Int)), ()))])) fun r3 =>
  some ((r3.1, r3.2.1, r3.2.2.1, r3.2.2.2.1, ()), ())) (Option.bind (premoveNext_i ((law3Tic).1, (((law3Tic).2).1, ((((law3Tic).2).2).1, (((((law3Tic).2).2).2).1, ((((((law3Tic).2).2).2).2).1, (((((((law3Tic).2).2).2).2).2).1, ((((((((law3Tic).2).2).2).2).2).2).1, (((((((((law3Tic).2).2).2).2).2).2).2).1, ((((((((((law3Tic).2).2).2).2).2).2).2).2).1, (((((((((((law3Tic).2).2).2).2).2).2).2).2).2).1, ((((((((((((law3Tic).2).2).2).2).2).2).2).2).2).2).1, ()))))))))))) (r2.1.1, ((r2.1.2.1.1, (r2.1.2.1.2.1, ())), r2.1.2.2)) ([((0 : Int), ((law3Drop (3 : Int)), ()))])) fun r4 =>
  some ((r4.1, r4.2.1, r4.2.2.1, r4.2.2.2.1, ()), ()))) (Option.bind (premoveNext_i ((law3Tic).1, (((law3Tic).2).1, ((((law3Tic).2).2).1, (((((law3Tic).2).2).2).1, ((((((law3Tic).2).2).2).2).1, (((((((law3Tic).2).2).2).2).2).1, ((((((((law3Tic).2).2).2).2).2).2).1, (((((((((law3Tic).2).2).2).2).2).2).2).1, ((((((((((law3Tic).2).2).2).2).2).2).2).2).1, (((((((((((law3Tic).2).2).2).2).2).2).2).2).2).1, ((((((((((((law3Tic).2).2).2).2).2).2).2).2).2).2).1, ()))))))))))) (r2.1.1, ((r2.1.2.1.1, (r2.1.2.1.2.1, ())), r2.1.2.2)) ([((0 : Int), ((law3Drop (3 : Int)), ()))])) fun r5 =>
  some ((r5.1, r5.2.1, r5.2.2.1, r5.2.2.2.1, ()), ()))) (agree (agree (agree (agree (Option.bind (premoveNext_i ((law3Tic).1, (((law3Tic).2).1, ((((law3Tic).2).2).1, (((((law3Tic).2).2).2).1, ((((((law3Tic).2).2).2).2).1, (((((((law3Tic).2).2).2).2).2).1, ((((((((law3Tic).2).2).2).2).2).2).1, (((((((((law3Tic).2).2).2).2).2).2).2).1, ((((((((((law3Tic).2).2).2).2).2).2).2).2).1, (((((((((((law3Tic).2).2).2).2).2).2).2).2).2).1, ((((((((((((law3Tic).2).2).2).2).2).2).2).2).2).2).1, ()))))))))))) (r2.1.1, ((r2.1.2.1.1, (r2.1.2.1.2.1, ())), r2.1.2.2)) ([((0 : Int), ((law3Drop (3 : Int)), ()))])) fun r6 =>
  some ((r6.1, r6.2.1, r6.2.2.1, r6.2.2.2.1, ()), ())) (Option.bind (premoveNext_i ((law3Tic).1, (((law3Tic).2).1, ((((law3Tic).2).2).1, (((((law3Tic).2).2).2).1, ((((((law3Tic).2).2).2).2).1, (((((((law3Tic).2).2).2).2).2).1, ((((((((law3Tic).2).2).2).2).2).2).1, (((((((((law3Tic).2).2).2).2).2).2).2).1, ((((((((((law3Tic).2).2).2).2).2).2).2).2).1, (((((((((((law3Tic).2).2).2).2).2).2).2).2).2).1, ((((((((((((law3Tic).2).2).2).2).2).2).2).2).2).2).1, ()))))))))))) (r2.1.1, ((r2.1.2.1.1, (r2.1.2.1.2.1, ())), r2.1.2.2)) ([((0 : Int), ((law3Drop (3 : Int)), ()))])) fun r7 =>
  some ((r7.1, r7.2.1, r7.2.2.1, r7.2.2.2.1, ()), ()))) (Option.bind (premoveNext_i ((law3Tic).1, (((law3Tic).2).1, ((((law3Tic).2).2).1, (((((law3Tic).2).2).2).1, ((((((law3Tic).2).2).2).2).1, (((((((law3Tic).2).2).2).2).2).1, ((((((((law3Tic).2).2).2).2).2).2).1, (((((((((law3Tic).2).2).2).2).2).2).2).1, ((((((((((law3Tic).2).2).2).2).2).2).2).2).1, (((((((((((law3Tic).2).2).2).2).2).2).2).2).2).1, ((((((((((((law3Tic).2).2).2).2).2).2).2).2).2).2).1, ()))))))))))) (r2.1.1, ((r2.1.2.1.1, (r2.1.2.1.2.1, ())), r2.1.2.2)) ([((0 : Int), ((law3Drop (3 : Int)), ()))])) fun r8 =>
  some ((r8.1, r8.2.1, r8.2.2.1, r8.2.2.2.1, ()), ()))) (Option.bind (premoveNext_i ((law3Tic).1, (((law3Tic).2).1, ((((law3Tic).2).2).1, (((((law3Tic).2).2).2).1, ((((((law3Tic).2).2).2).2).1, (((((((law3Tic).2).2).2).2).2).1, ((((((((law3Tic).2).2).2).2).2).2).1, (((((((((law3Tic).2).2).2).2).2).2).2).1, ((((((((((law3Tic).2).2).2).2).2).2).2).2).1, (((((((((((law3Tic).2).2).2).2).2).2).2).2).2).1, ((((((((((((law3Tic).2).2).2).2).2).2).2).2).2).2).1, ()))))))))))) (r2.1.1, ((r2.1.2.1.1, (r2.1.2.1.2.1, ())), r2.1.2.2)) ([((0 : Int), ((law3Drop (3 : Int)), ()))])) fun r9 =>
  some ((r9.1, r9.2.1, r9.2.2.1, r9.2.2.2.1, ()), ()))) (agree (Option.bind (premoveNext_i ((law3Tic).1, (((law3Tic).2).1, ((((law3Tic).2).2).1, (((((law3Tic).2).2).2).1, ((((((law3Tic).2).2).2).2).1, (((((((law3Tic).2).2).2).2).2).1, ((((((((law3Tic).2).2).2).2).2).2).1, (((((((((law3Tic).2).2).2).2).2).2).2).1, ((((((((((law3Tic).2).2).2).2).2).2).2).2).1, (((((((((((law3Tic).2).2).2).2).2).2).2).2).2).1, ((((((((((((law3Tic).2).2).2).2).2).2).2).2).2).2).1, ()))))))))))) (r2.1.1, ((r2.1.2.1.1, (r2.1.2.1.2.1, ())), r2.1.2.2)) ([((0 : Int), ((law3Drop (3 : Int)), ()))])) fun r10 =>
  some ((r10.1, r10.2.1, r10.2.2.1, r10.2.2.2.1, ()), ())) (Option.bind (premoveNext_i ((law3Tic).1, (((law3Tic).2).1, ((((law3Tic).2).2).1, (((((law3Tic).2).2).2).1, ((((((law3Tic).2).2).2).2).1, (((((((law3Tic).2).2).2).2).2).1, ((((((((law3Tic).2).2).2).2).2).2).1, (((((((((law3Tic).2).2).2).2).2).2).2).1, ((((((((((law3Tic).2).2).2).2).2).2).2).2).1, (((((((((((law3Tic).2).2).2).2).2).2).2).2).2).1, ((((((((((((law3Tic).2).2).2).2).2).2).2).2).2).2).1, ()))))))))))) (r2.1.1, ((r2.1.2.1.1, (r2.1.2.1.2.1, ())), r2.1.2.2)) ([((0 : Int), ((law3Drop (3 : Int)), ()))])) fun r11 =>
  some ((r11.1, r11.2.1, r11.2.2.1, r11.2.2.2.1, ()), ()))))) fun x12 =>
  some (((((r2.2.1 == (0 : Int)) && (x12.1.2.2.2.1 == (0 : Int))) && x12.1.2.1) && ((x12.1.1.1 == (law3Drop (3 : Int)).1) && ((x12.1.1.2.1 == ((law3Drop (3 : Int)).2).1) && ((x12.1.1.2.2.1 == (((law3Drop (3 : Int)).2).2).1) && true)))) && (((x12.1.2.2.1.length : Nat) : Int) == (0 : Int)))
noncomputable def law3Announced_L1 (l : List (Int × (Int × Int × Int × Unit) × Unit)) (x1 : (Int × Unit) × ((Int × Int × Unit) × Unit)) : Option (((Int × Unit) × ((Int × Int × Unit) × Unit)) ⊕ ((Unit) × ((Int × Int × Unit) × Unit))) :=
  bif (decide (x1.1.1 < ((l.length : Nat) : Int))) then (Option.bind (at? l x1.1.1) fun d2 =>
  Option.bind (bif ((d2.1 == (0 : Int)) || (d2.1 == (1 : Int))) then req (inb d2.1 2) (req (inb d2.1 2) (some ((), (((bif (d2.1 == (0 : Int)) then (w64 ((getD' [x1.2.1.1, x1.2.1.2.1] (d2.1).toNat 0) + (1 : Int))) else x1.2.1.1), ((bif (d2.1 == (1 : Int)) then (w64 ((getD' [x1.2.1.1, x1.2.1.2.1] (d2.1).toNat 0) + (1 : Int))) else x1.2.1.2.1), ())), ()))))
  else some ((), (x1.2.1, ()))) fun x3 =>
  some (Sum.inl (((w64 (x1.1.1 + (1 : Int))), ()), (x3.2.1, ()))))
  else some (Sum.inr ((), (x1.2.1, ())))
noncomputable def law3Announced_L2 (l : List (Int × (Int × Int × Int × Unit) × Unit)) (x5 : (Int × Unit) × (Unit)) : Option (((Int × Unit) × (Unit)) ⊕ (((Unit) × (Unit)) ⊕ Int)) :=
  bif (decide (x5.1.1 < ((l.length : Nat) : Int))) then (Option.bind (at? l x5.1.1) fun d6 =>
  bif ((d6.1 != (0 : Int)) && (d6.1 != (1 : Int))) then some (Sum.inr (Sum.inr (4 : Int)))
  else some (Sum.inl (((w64 (x5.1.1 + (1 : Int))), ()), ())))
  else some (Sum.inr (Sum.inl ((), ())))
noncomputable def law3Announced (l : List (Int × (Int × Int × Int × Unit) × Unit)) : Option (Int) :=
  Option.bind (iterW (law3Announced_L1 l) (((0 : Int), ()), (((0 : Int), ((0 : Int), ())), ()))) fun x4 =>
  bif ((decide (x4.2.1.1 > (4 : Int))) || (decide (x4.2.1.2.1 > (4 : Int)))) then some (2 : Int)
  else Option.bind (α := ((Unit) × (Unit)) ⊕ Int) (iterW (law3Announced_L2 l) (((0 : Int), ()), ())) (Sum.elim (fun x7 =>
  some (0 : Int)) some)
noncomputable def premoveAdd (l : List (Int × (Int × Int × Int × Unit) × Unit)) (player : Int) (m : Int × Int × Int × Unit) : Option ((List (Int × (Int × Int × Int × Unit) × Unit)) × Int × Unit) :=
  Option.bind (premoveCheck l) fun r3 =>
  bif (r3 != (0 : Int)) then some (([] : List (Int × (Int × Int × Int × Unit) × Unit)), (r3, ()))
  else bif ((player != (0 : Int)) && (player != (1 : Int))) then some (([] : List (Int × (Int × Int × Int × Unit) × Unit)), ((1 : Int), ()))
  else Option.bind (premoveOf l player) fun r4 =>
  bif (((r4.length : Nat) : Int) == (4 : Int)) then some (([] : List (Int × (Int × Int × Int × Unit) × Unit)), ((9 : Int), ()))
  else Option.bind (agree (Option.bind (slicesClone_PremoveMove l) fun r5 =>
  req (room (r5.length + ([(player, (m, ()))]).length) 32) (some (((r5 ++ [(player, (m, ()))]), (0 : Int), ()), ()))) (agree (Option.bind (slicesClone_PremoveMove l) fun r6 =>
  req (room (r6.length + ([(player, (m, ()))]).length) 32) (some (((r6 ++ [(player, (m, ()))]), (0 : Int), ()), ()))) (Option.bind (slicesClone_PremoveMove l) fun r7 =>
  req (room (r7.length + ([(player, (m, ()))]).length) 32) (some (((r7 ++ [(player, (m, ()))]), (0 : Int), ()), ()))))) fun x8 =>
  some (x8.1.1, (x8.1.2.1, ()))
noncomputable def premoveClear (l : List (Int × (Int × Int × Int × Unit) × Unit)) (player : Int) : Option ((List (Int × (Int × Int × Int × Unit) × Unit)) × Int × Unit) :=
  Option.bind (premoveCheck l) fun r3 =>
  bif (r3 != (0 : Int)) then some (([] : List (Int × (Int × Int × Int × Unit) × Unit)), (r3, ()))
  else Option.bind (premoveWithout l player) fun r4 =>
  some (r4, ((0 : Int), ()))
noncomputable def premoveRun_L1 (r : ByteArray × Int × Int × (List (Int × Int × Int × (List (Int × Int × Int × Int × Unit)) × Unit)) × (List Int) × Bool × Bool × (List (Int × Int × Int × Bool × Unit)) × Int × Int × Int × Unit) (x7 : ((List (Int × (Int × Int × Int × Unit) × Unit)) × (List (Int × Int × Int × Unit)) × Unit) × (((List Int) × (List Int) × (List Int) × Int × Int × Unit) × ((List Int) × (List Int) × (List Int) × Int × Int × Unit) × Unit)) : Option ((((List (Int × (Int × Int × Int × Unit) × Unit)) × (List (Int × Int × Int × Unit)) × Unit) × (((List Int) × (List Int) × (List Int) × Int × Int × Unit) × ((List Int) × (List Int) × (List Int) × Int × Int × Unit) × Unit)) ⊕ ((List (Int × Int × Int × Unit)) × ((List Int) × ((List Int) × (List Int) × Unit) × Int × Int × Unit) × (List (Int × (Int × Int × Int × Unit) × Unit)) × Int × Unit)) :=
  Option.bind (premoveNext r (x7.2.1.1, ((x7.2.1.2.1, (x7.2.1.2.2.1, ())), x7.2.1.2.2.2)) x7.1.1) fun r8 =>
  bif (!r8.2.1) then some (Sum.inr (x7.1.2.1, ((x7.2.1.1, ((x7.2.1.2.1, (x7.2.1.2.2.1, ())), x7.2.1.2.2.2)), (r8.2.2.1, ((0 : Int), ())))))
  else req (room (x7.1.2.1.length + ([r8.1]).length) 24) (Option.bind (movesMake r (x7.2.1.1, ((x7.2.1.2.1, (x7.2.1.2.2.1, ())), x7.2.1.2.2.2)) r8.1) fun r9 =>
  some (Sum.inl ((r8.2.2.1, (x7.1.2.1 ++ [r8.1]), ()), ((r9.1, (r9.2.1.1, (r9.2.1.2.1, r9.2.2))), (x7.2.2.1.1, (x7.2.2.1.2.1, (x7.2.2.1.2.2.1, x7.2.2.1.2.2.2))), ()))))
noncomputable def premoveRun (r : ByteArray × Int × Int × (List (Int × Int × Int × (List (Int × Int × Int × Int × Unit)) × Unit)) × (List Int) × Bool × Bool × (List (Int × Int × Int × Bool × Unit)) × Int × Int × Int × Unit) (p : (List Int) × ((List Int) × (List Int) × Unit) × Int × Int × Unit) (l : List (Int × (Int × Int × Int × Unit) × Unit)) : Option ((List (Int × Int × Int × Unit)) × ((List Int) × ((List Int) × (List Int) × Unit) × Int × Int × Unit) × (List (Int × (Int × Int × Int × Unit) × Unit)) × Int × Unit) :=
  Option.bind (premoveCheck_i r p l) fun r5 =>
  bif (r5 != (0 : Int)) then some (([] : List (Int × Int × Int × Unit)), ((([] : List Int), ((([] : List Int), (([] : List Int), ())), ((0 : Int), ((0 : Int), ())))), (([] : List (Int × (Int × Int × Int × Unit) × Unit)), (r5, ()))))
  else Option.bind (placeCopy p) fun r6 =>
  iterW (premoveRun_L1 r) ((l, ([] : List (Int × Int × Int × Unit)), ()), ((r6.1, (r6.2.1.1, (r6.2.1.2.1, r6.2.2))), (([] : List Int), (([] : List Int), (([] : List Int), ((0 : Int), ((0 : Int), ()))))), ()))
noncomputable def law3RanAs_L2 (x1 : ((List (Int × (Int × Int × Int × Unit) × Unit)) × Int × Unit) × (((List Int) × (List Int) × (List Int) × Int × Int × Unit) × Unit)) (x2 : (Int × Unit) × (Unit)) : Option (((Int × Unit) × (Unit)) ⊕ ((Int × Unit) × (Unit))) :=
  req (imp (decide (x2.1.1 < ((x1.1.1.length : Nat) : Int))) (inb x2.1.1 x1.1.1.length)) (bif ((decide (x2.1.1 < ((x1.1.1.length : Nat) : Int))) && ((getD' x1.1.1 ((x2.1.1).toNat) ((0 : Int), (((0 : Int), ((0 : Int), ((0 : Int), ()))), ()))).1 != x1.2.1.2.2.2.1)) then some (Sum.inl (((w64 (x2.1.1 + (1 : Int))), ()), ()))
  else some (Sum.inr ((x2.1.1, ()), ())))
noncomputable def law3RanAs_L3 (x1 : ((List (Int × (Int × Int × Int × Unit) × Unit)) × Int × Unit) × (((List Int) × (List Int) × (List Int) × Int × Int × Unit) × Unit)) (x8 : ((List (Int × (Int × Int × Int × Unit) × Unit)) × Int × Unit) × (Unit)) : Option ((((List (Int × (Int × Int × Int × Unit) × Unit)) × Int × Unit) × (Unit)) ⊕ (((List (Int × (Int × Int × Int × Unit) × Unit)) × Unit) × (Unit))) :=
  bif (decide (x8.1.2.1 < ((x1.1.1.length : Nat) : Int))) then (req (inb x8.1.2.1 x1.1.1.length) (Option.bind (bif ((getD' x1.1.1 ((x8.1.2.1).toNat) ((0 : Int), (((0 : Int), ((0 : Int), ((0 : Int), ()))), ()))).1 != x1.2.1.2.2.2.1) then req (room (x8.1.1.length + ([(getD' x1.1.1 ((x8.1.2.1).toNat) ((0 : Int), (((0 : Int), ((0 : Int), ((0 : Int), ()))), ())))]).length) 32) (some (((x8.1.1 ++ [(getD' x1.1.1 ((x8.1.2.1).toNat) ((0 : Int), (((0 : Int), ((0 : Int), ((0 : Int), ()))), ())))]), ()), ()))
  else some ((x8.1.1, ()), ())) fun x9 =>
  some (Sum.inl ((x9.1.1, (w64 (x8.1.2.1 + (1 : Int))), ()), ()))))
  else some (Sum.inr ((x8.1.1, ()), ()))
noncomputable def law3RanAs_L4 (x10 : ((List (Int × (Int × Int × Int × Unit) × Unit)) × Unit) × (Unit)) (rest : List (Int × (Int × Int × Int × Unit) × Unit)) (x12 : (Int × Unit) × (Unit)) : Option (((Int × Unit) × (Unit)) ⊕ (((Unit) × (Unit)) ⊕ ((((List (Int × (Int × Int × Int × Unit) × Unit)) × Unit) × (((List Int) × (List Int) × (List Int) × Int × Int × Unit) × Unit)) ⊕ ((((List (Int × (Int × Int × Int × Unit) × Unit)) × Int × Unit) × (((List Int) × (List Int) × (List Int) × Int × Int × Unit) × Unit)) ⊕ Bool)))) :=
  bif (decide (x12.1.1 < ((x10.1.1.length : Nat) : Int))) then (req (inb x12.1.1 x10.1.1.length) (Option.bind (at? rest x12.1.1) fun d13 =>
  bif (!(((getD' x10.1.1 ((x12.1.1).toNat) ((0 : Int), (((0 : Int), ((0 : Int), ((0 : Int), ()))), ()))).1 == d13.1) && ((((((getD' x10.1.1 ((x12.1.1).toNat) ((0 : Int), (((0 : Int), ((0 : Int), ((0 : Int), ()))), ()))).2).1).1 == d13.2.1.1) && ((((((getD' x10.1.1 ((x12.1.1).toNat) ((0 : Int), (((0 : Int), ((0 : Int), ((0 : Int), ()))), ()))).2).1).2).1 == d13.2.1.2.1) && (((((((getD' x10.1.1 ((x12.1.1).toNat) ((0 : Int), (((0 : Int), ((0 : Int), ((0 : Int), ()))), ()))).2).1).2).2).1 == d13.2.1.2.2.1) && true))) && true))) then some (Sum.inr (Sum.inr (Sum.inr (Sum.inr false))))
  else some (Sum.inl (((w64 (x12.1.1 + (1 : Int))), ()), ()))))
  else some (Sum.inr (Sum.inl ((), ())))
noncomputable def law3RanAs_L1 (r : ByteArray × Int × Int × (List (Int × Int × Int × (List (Int × Int × Int × Int × Unit)) × Unit)) × (List Int) × Bool × Bool × (List (Int × Int × Int × Bool × Unit)) × Int × Int × Int × Unit) (made : List (Int × Int × Int × Unit)) (q : (List Int) × ((List Int) × (List Int) × Unit) × Int × Int × Unit) (rest : List (Int × (Int × Int × Int × Unit) × Unit)) (x1 : ((List (Int × (Int × Int × Int × Unit) × Unit)) × Int × Unit) × (((List Int) × (List Int) × (List Int) × Int × Int × Unit) × Unit)) : Option ((((List (Int × (Int × Int × Int × Unit) × Unit)) × Int × Unit) × (((List Int) × (List Int) × (List Int) × Int × Int × Unit) × Unit)) ⊕ Bool) :=
  Option.bind (α := (((List (Int × (Int × Int × Int × Unit) × Unit)) × Unit) × (((List Int) × (List Int) × (List Int) × Int × Int × Unit) × Unit)) ⊕ ((((List (Int × (Int × Int × Int × Unit) × Unit)) × Int × Unit) × (((List Int) × (List Int) × (List Int) × Int × Int × Unit) × Unit)) ⊕ Bool)) (Option.bind (iterW (law3RanAs_L2 x1) (((0 : Int), ()), ())) fun x3 =>
  Option.bind (bif (decide (x3.1.1 < ((x1.1.1.length : Nat) : Int))) then (Option.bind (ref3Result r ([(x1.2.1.1, ((x1.2.1.2.1, (x1.2.1.2.2.1, ())), x1.2.1.2.2.2))])) fun r4 =>
  some (((r4 == (0 : Int)), ()), ()))
  else some ((false, ()), ())) fun x5 =>
  Option.bind (bif x5.1.1 then (req (inb x3.1.1 x1.1.1.length) (Option.bind (movesLegal r (x1.2.1.1, ((x1.2.1.2.1, (x1.2.1.2.2.1, ())), x1.2.1.2.2.2)) ((((getD' x1.1.1 ((x3.1.1).toNat) ((0 : Int), (((0 : Int), ((0 : Int), ((0 : Int), ()))), ()))).2).1).1, (((((getD' x1.1.1 ((x3.1.1).toNat) ((0 : Int), (((0 : Int), ((0 : Int), ((0 : Int), ()))), ()))).2).1).2).1, ((((((getD' x1.1.1 ((x3.1.1).toNat) ((0 : Int), (((0 : Int), ((0 : Int), ((0 : Int), ()))), ()))).2).1).2).2).1, ())))) fun r6 =>
  some ((r6.1, ()), ())))
  else some ((false, ()), ())) fun x7 =>
  bif (!x7.1.1) then (Option.bind (iterW (law3RanAs_L3 x1) ((([] : List (Int × (Int × Int × Int × Unit) × Unit)), (0 : Int), ()), ())) fun x10 =>
  Option.bind (gopt (!(x1.1.2.1 != ((made.length : Nat) : Int))) false (placeSame (x1.2.1.1, ((x1.2.1.2.1, (x1.2.1.2.2.1, ())), x1.2.1.2.2.2)) q)) fun r11 =>
  bif ((((x1.1.2.1 != ((made.length : Nat) : Int)) || (!r11)) || (x1.2.1.2.2.2.2.1 != q.2.2.2.1)) || (((x10.1.1.length : Nat) : Int) != ((rest.length : Nat) : Int))) then some (Sum.inr (Sum.inr false))
  else Option.bind (α := ((Unit) × (Unit)) ⊕ ((((List (Int × (Int × Int × Int × Unit) × Unit)) × Unit) × (((List Int) × (List Int) × (List Int) × Int × Int × Unit) × Unit)) ⊕ ((((List (Int × (Int × Int × Int × Unit) × Unit)) × Int × Unit) × (((List Int) × (List Int) × (List Int) × Int × Int × Unit) × Unit)) ⊕ Bool))) (iterW (law3RanAs_L4 x10 rest) (((0 : Int), ()), ())) (Sum.elim (fun x14 =>
  some (Sum.inr (Sum.inr true))) some))
  else Option.bind (gat (!(decide (x1.1.2.1 ≥ ((made.length : Nat) : Int)))) ((0 : Int), ((0 : Int), ((0 : Int), ()))) made x1.1.2.1) fun d15 =>
  req (imp (!(decide (x1.1.2.1 ≥ ((made.length : Nat) : Int)))) (inb x3.1.1 x1.1.1.length)) (bif ((decide (x1.1.2.1 ≥ ((made.length : Nat) : Int))) || (!((d15.1 == (((getD' x1.1.1 ((x3.1.1).toNat) ((0 : Int), (((0 : Int), ((0 : Int), ((0 : Int), ()))), ()))).2).1).1) && ((d15.2.1 == ((((getD' x1.1.1 ((x3.1.1).toNat) ((0 : Int), (((0 : Int), ((0 : Int), ((0 : Int), ()))), ()))).2).1).2).1) && ((d15.2.2.1 == (((((getD' x1.1.1 ((x3.1.1).toNat) ((0 : Int), (((0 : Int), ((0 : Int), ((0 : Int), ()))), ()))).2).1).2).2).1) && true))))) then some (Sum.inr (Sum.inr false))
  else req (inb x3.1.1 x1.1.1.length) (Option.bind (movesAfter r (x1.2.1.1, ((x1.2.1.2.1, (x1.2.1.2.2.1, ())), x1.2.1.2.2.2)) ((((getD' x1.1.1 ((x3.1.1).toNat) ((0 : Int), (((0 : Int), ((0 : Int), ((0 : Int), ()))), ()))).2).1).1, (((((getD' x1.1.1 ((x3.1.1).toNat) ((0 : Int), (((0 : Int), ((0 : Int), ((0 : Int), ()))), ()))).2).1).2).1, ((((((getD' x1.1.1 ((x3.1.1).toNat) ((0 : Int), (((0 : Int), ((0 : Int), ((0 : Int), ()))), ()))).2).1).2).2).1, ())))) fun r16 =>
  agree (req (boundsI (0 : Int) x3.1.1 x1.1.1.length) (req (boundsI (w64 (x3.1.1 + (1 : Int))) ((x1.1.1.length : Nat) : Int) x1.1.1.length) (req (room (((x3.1.1).toNat - 0) + ((((x1.1.1.length : Nat) : Int)).toNat - ((w64 (x3.1.1 + (1 : Int)))).toNat)) 32) (some (Sum.inl (((x1.1.1.take ((x3.1.1).toNat - 0) ++ (x1.1.1.drop ((w64 (x3.1.1 + (1 : Int)))).toNat).take ((((x1.1.1.length : Nat) : Int)).toNat - ((w64 (x3.1.1 + (1 : Int)))).toNat)), ()), ((r16.1.1, (r16.1.2.1.1, (r16.1.2.1.2.1, r16.1.2.2))), ()))))))) (req (boundsI (w64 (x3.1.1 + (1 : Int))) ((x1.1.1.length : Nat) : Int) x1.1.1.length) (req (boundsI (0 : Int) x3.1.1 x1.1.1.length) (req (room (((x3.1.1).toNat - 0) + ((((x1.1.1.length : Nat) : Int)).toNat - ((w64 (x3.1.1 + (1 : Int)))).toNat)) 32) (some (Sum.inl (((x1.1.1.take ((x3.1.1).toNat - 0) ++ (x1.1.1.drop ((w64 (x3.1.1 + (1 : Int)))).toNat).take ((((x1.1.1.length : Nat) : Int)).toNat - ((w64 (x3.1.1 + (1 : Int)))).toNat)), ()), ((r16.1.1, (r16.1.2.1.1, (r16.1.2.1.2.1, r16.1.2.2))), ())))))))))) (Sum.elim (fun x17 =>
  some (Sum.inl ((x17.1.1, (w64 (x1.1.2.1 + (1 : Int))), ()), ((x17.2.1.1, (x17.2.1.2.1, (x17.2.1.2.2.1, x17.2.1.2.2.2))), ())))) some)
noncomputable def law3RanAs (r : ByteArray × Int × Int × (List (Int × Int × Int × (List (Int × Int × Int × Int × Unit)) × Unit)) × (List Int) × Bool × Bool × (List (Int × Int × Int × Bool × Unit)) × Int × Int × Int × Unit) (p : (List Int) × ((List Int) × (List Int) × Unit) × Int × Int × Unit) (l : List (Int × (Int × Int × Int × Unit) × Unit)) (made : List (Int × Int × Int × Unit)) (q : (List Int) × ((List Int) × (List Int) × Unit) × Int × Int × Unit) (rest : List (Int × (Int × Int × Int × Unit) × Unit)) : Option (Bool) :=
  req (room (([] : List (Int × (Int × Int × Int × Unit) × Unit)).length + l.length) 32) (iterW (law3RanAs_L1 r made q rest) (((([] : List (Int × (Int × Int × Int × Unit) × Unit)) ++ l), (0 : Int), ()), ((p.1, (p.2.1.1, (p.2.1.2.1, p.2.2))), ())))
noncomputable def law3PremoveRuns_L1 (l : List (Int × (Int × Int × Int × Unit) × Unit)) (player : Int) (x12 : ((List (Int × Int × Int × Unit)) × Int × Unit) × (Unit)) : Option ((((List (Int × Int × Int × Unit)) × Int × Unit) × (Unit)) ⊕ (((List (Int × Int × Int × Unit)) × Unit) × (Unit))) :=
  bif (decide (x12.1.2.1 < ((((l.take ((if (12 : Int) < ((l.length : Nat) : Int) then (12 : Int) else ((l.length : Nat) : Int))).toNat).drop 0).length : Nat) : Int))) then (Option.bind (at? ((l.take ((if (12 : Int) < ((l.length : Nat) : Int) then (12 : Int) else ((l.length : Nat) : Int))).toNat).drop 0) x12.1.2.1) fun d13 =>
  Option.bind (bif (d13.1 == player) then req (room (x12.1.1.length + ([d13.2.1]).length) 24) (some (((x12.1.1 ++ [d13.2.1]), ()), ()))
  else some ((x12.1.1, ()), ())) fun x14 =>
  some (Sum.inl ((x14.1.1, (w64 (x12.1.2.1 + (1 : Int))), ()), ())))
  else some (Sum.inr ((x12.1.1, ()), ()))
noncomputable def law3PremoveRuns (r : ByteArray × Int × Int × (List (Int × Int × Int × (List (Int × Int × Int × Int × Unit)) × Unit)) × (List Int) × Bool × Bool × (List (Int × Int × Int × Bool × Unit)) × Int × Int × Int × Unit) (p : (List Int) × ((List Int) × (List Int) × Unit) × Int × Int × Unit) (l : List (Int × (Int × Int × Int × Unit) × Unit)) (player : Int) (m : Int × Int × Int × Unit) : Option (Bool) :=
  Option.bind (law3Announces) fun r8 =>
  bif (!r8) then some false
  else req (boundsI (0 : Int) (if (12 : Int) < ((l.length : Nat) : Int) then (12 : Int) else ((l.length : Nat) : Int)) l.length) (bif (law3Great r) then some true
  else Option.bind (law3Announced ((l.take ((if (12 : Int) < ((l.length : Nat) : Int) then (12 : Int) else ((l.length : Nat) : Int))).toNat).drop 0)) fun r9 =>
  Option.bind (premoveAdd ((l.take ((if (12 : Int) < ((l.length : Nat) : Int) then (12 : Int) else ((l.length : Nat) : Int))).toNat).drop 0) player m) fun r10 =>
  Option.bind (premoveClear ((l.take ((if (12 : Int) < ((l.length : Nat) : Int) then (12 : Int) else ((l.length : Nat) : Int))).toNat).drop 0) player) fun r11 =>
  Option.bind (iterW (law3PremoveRuns_L1 l player) ((([] : List (Int × Int × Int × Unit)), (0 : Int), ()), ())) fun x15 =>
  Option.bind (Option.bind (premoveCheck ((l.take ((if (12 : Int) < ((l.length : Nat) : Int) then (12 : Int) else ((l.length : Nat) : Int))).toNat).drop 0)) fun r16 =>
  bif ((r16 != r9) || (r11.2.1 != r9)) then some ((true, ()), ())
  else Option.bind (premoveOf ((l.take ((if (12 : Int) < ((l.length : Nat) : Int) then (12 : Int) else ((l.length : Nat) : Int))).toNat).drop 0) player) fun r17 =>
  Option.bind (ref3SameLine r17 x15.1.1) fun r18 =>
  some ((((!r18) || ((r9 == (0 : Int)) && (((r11.1.length : Nat) : Int) != (w64 (((((l.take ((if (12 : Int) < ((l.length : Nat) : Int) then (12 : Int) else ((l.length : Nat) : Int))).toNat).drop 0).length : Nat) : Int) - ((x15.1.1.length : Nat) : Int)))))), ()), ())) fun x19 =>
  bif x19.1.1 then some false
  else Option.bind (bif (r9 != (0 : Int)) then some ((r9, ()), ())
  else Option.bind (bif ((player != (0 : Int)) && (player != (1 : Int))) then some (((1 : Int), ()), ())
  else Option.bind (bif (((x15.1.1.length : Nat) : Int) == (4 : Int)) then some (((9 : Int), ()), ())
  else some ((r9, ()), ())) fun x20 =>
  some ((x20.1.1, ()), ())) fun x21 =>
  some ((x21.1.1, ()), ())) fun x22 =>
  req (imp ((!(((r10.1.length : Nat) : Int) != (w64 (((((l.take ((if (12 : Int) < ((l.length : Nat) : Int) then (12 : Int) else ((l.length : Nat) : Int))).toNat).drop 0).length : Nat) : Int) + (1 : Int))))) && ((r10.2.1 == (0 : Int)) && (!((r10.2.1 != x22.1.1) || ((r10.2.1 != (0 : Int)) && (decide (((r10.1.length : Nat) : Int) > (0 : Int)))))))) (inb ((((l.take ((if (12 : Int) < ((l.length : Nat) : Int) then (12 : Int) else ((l.length : Nat) : Int))).toNat).drop 0).length : Nat) : Int) r10.1.length)) (bif (((r10.2.1 != x22.1.1) || ((r10.2.1 != (0 : Int)) && (decide (((r10.1.length : Nat) : Int) > (0 : Int))))) || ((r10.2.1 == (0 : Int)) && ((((r10.1.length : Nat) : Int) != (w64 (((((l.take ((if (12 : Int) < ((l.length : Nat) : Int) then (12 : Int) else ((l.length : Nat) : Int))).toNat).drop 0).length : Nat) : Int) + (1 : Int)))) || (!(((getD' r10.1 ((((((l.take ((if (12 : Int) < ((l.length : Nat) : Int) then (12 : Int) else ((l.length : Nat) : Int))).toNat).drop 0).length : Nat) : Int)).toNat) ((0 : Int), (((0 : Int), ((0 : Int), ((0 : Int), ()))), ()))).1 == player) && ((((((getD' r10.1 ((((((l.take ((if (12 : Int) < ((l.length : Nat) : Int) then (12 : Int) else ((l.length : Nat) : Int))).toNat).drop 0).length : Nat) : Int)).toNat) ((0 : Int), (((0 : Int), ((0 : Int), ((0 : Int), ()))), ()))).2).1).1 == m.1) && ((((((getD' r10.1 ((((((l.take ((if (12 : Int) < ((l.length : Nat) : Int) then (12 : Int) else ((l.length : Nat) : Int))).toNat).drop 0).length : Nat) : Int)).toNat) ((0 : Int), (((0 : Int), ((0 : Int), ((0 : Int), ()))), ()))).2).1).2).1 == m.2.1) && (((((((getD' r10.1 ((((((l.take ((if (12 : Int) < ((l.length : Nat) : Int) then (12 : Int) else ((l.length : Nat) : Int))).toNat).drop 0).length : Nat) : Int)).toNat) ((0 : Int), (((0 : Int), ((0 : Int), ((0 : Int), ()))), ()))).2).1).2).2).1 == m.2.2.1) && true))) && true)))))) then some false
  else Option.bind (premoveRun r p ((l.take ((if (12 : Int) < ((l.length : Nat) : Int) then (12 : Int) else ((l.length : Nat) : Int))).toNat).drop 0)) fun r23 =>
  Option.bind (placeCheck r p) fun r24 =>
  Option.bind (bif (r24 == (0 : Int)) then some ((r9, ()), ())
  else some ((r24, ()), ())) fun x25 =>
  bif (x25.1.1 != (0 : Int)) then some ((r23.2.2.2.1 == x25.1.1) && ((w64 ((w64 (((r23.1.length : Nat) : Int) + ((r23.2.2.1.length : Nat) : Int))) + ((r23.2.1.1.length : Nat) : Int))) == (0 : Int)))
  else Option.bind (gopt (r23.2.2.2.1 == (0 : Int)) false (law3RanAs r p ((l.take ((if (12 : Int) < ((l.length : Nat) : Int) then (12 : Int) else ((l.length : Nat) : Int))).toNat).drop 0) r23.1 (r23.2.1.1, ((r23.2.1.2.1.1, (r23.2.1.2.1.2.1, ())), r23.2.1.2.2)) r23.2.2.1)) fun r26 =>
  some ((r23.2.2.2.1 == (0 : Int)) && r26)))
end Go.Proofs.Yticeklcmijbjfaa
