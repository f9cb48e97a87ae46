/- What functions compute, in plain Lean: AnnotateLines. No condition of its own. -/
import Derived.Test.YticeklcmijbjfaaGreatDen0
import Derived.Test.YticeklcmijbjfaaGreatRecordS
namespace Go.Proofs.YticeklcmijbjfaaGreat
open Go.Den
set_option linter.unusedVariables false
set_option maxRecDepth 100000
noncomputable def annotateChecked (r : ByteArray × Int × Int × (List (Int × Int × Int × (List (Int × Int × Int × Int × Unit)) × Unit)) × (List Int) × Bool × Bool × (List (Int × Int × Int × Bool × Unit)) × Int × Int × Int × Unit) (x : (List (ByteArray × ByteArray × Unit)) × ByteArray × (List (Int × (Int × Int × Int × Unit) × ByteArray × Unit)) × Int × Unit) (node : Int) : Option (Int) :=
  Option.bind (recordCheck r x) fun r2 =>
  bif (r2 != (0 : Int)) then some r2
  else bif ((decide (node < (0 : Int))) || (decide (node ≥ ((x.2.2.1.length : Nat) : Int)))) then some (1 : Int)
  else some (0 : Int)
noncomputable def annotatePath (r : ByteArray × Int × Int × (List (Int × Int × Int × (List (Int × Int × Int × Int × Unit)) × Unit)) × (List Int) × Bool × Bool × (List (Int × Int × Int × Bool × Unit)) × Int × Int × Int × Unit) (x : (List (ByteArray × ByteArray × Unit)) × ByteArray × (List (Int × (Int × Int × Int × Unit) × ByteArray × Unit)) × Int × Unit) (node : Int) : Option ((List (Int × Int × Int × Unit)) × Int × Unit) :=
  Option.bind (annotateChecked r x node) fun r3 =>
  bif (r3 != (0 : Int)) then some (([] : List (Int × Int × Int × Unit)), (r3, ()))
  else Option.bind (recordWay x node) fun r4 =>
  some (r4, ((0 : Int), ()))
noncomputable def law3Annotates : Option (Bool) :=
  Option.bind (annotatePath ((law3Tic).1, (((law3Tic).2).1, ((((law3Tic).2).2).1, (((((law3Tic).2).2).2).1, ((((((law3Tic).2).2).2).2).1, (((((((law3Tic).2).2).2).2).2).1, ((((((((law3Tic).2).2).2).2).2).2).1, (((((((((law3Tic).2).2).2).2).2).2).2).1, ((((((((((law3Tic).2).2).2).2).2).2).2).2).1, (((((((((((law3Tic).2).2).2).2).2).2).2).2).2).1, ((((((((((((law3Tic).2).2).2).2).2).2).2).2).2).2).1, ()))))))))))) (([] : List (ByteArray × ByteArray × Unit)), ((ByteArray.mk #[]), ([((-1 : Int), ((law3Drop (0 : Int)), ((ByteArray.mk #[]), ())))], ((0 : Int), ())))) (0 : Int)) fun r2 =>
  some ((r2.2.1 == (0 : Int)) && (((r2.1.length : Nat) : Int) == (1 : Int)))
noncomputable def annotateLines_L1 (x : (List (ByteArray × ByteArray × Unit)) × ByteArray × (List (Int × (Int × Int × Int × Unit) × ByteArray × Unit)) × Int × Unit) (x3 : ((List (List (Int × Int × Int × Unit))) × Int × Unit) × (Unit)) : Option ((((List (List (Int × Int × Int × Unit))) × Int × Unit) × (Unit)) ⊕ (((List (List (Int × Int × Int × Unit))) × Unit) × (Unit))) :=
  bif (decide (x3.1.2.1 < ((x.2.2.1.length : Nat) : Int))) then (Option.bind (recordKids x x3.1.2.1) fun r4 =>
  Option.bind (bif (((r4.length : Nat) : Int) == (0 : Int)) then (Option.bind (recordWay x x3.1.2.1) fun r5 =>
  req (room (x3.1.1.length + ([r5]).length) 24) (some (((x3.1.1 ++ [r5]), ()), ())))
  else some ((x3.1.1, ()), ())) fun x6 =>
  some (Sum.inl ((x6.1.1, (w64 (x3.1.2.1 + (1 : Int))), ()), ())))
  else some (Sum.inr ((x3.1.1, ()), ()))
noncomputable def annotateLines (r : ByteArray × Int × Int × (List (Int × Int × Int × (List (Int × Int × Int × Int × Unit)) × Unit)) × (List Int) × Bool × Bool × (List (Int × Int × Int × Bool × Unit)) × Int × Int × Int × Unit) (x : (List (ByteArray × ByteArray × Unit)) × ByteArray × (List (Int × (Int × Int × Int × Unit) × ByteArray × Unit)) × Int × Unit) : Option ((List (List (Int × Int × Int × Unit))) × Int × Unit) :=
  Option.bind (recordCheck r x) fun r2 =>
  bif (r2 != (0 : Int)) then some (([] : List (List (Int × Int × Int × Unit))), (r2, ()))
  else Option.bind (iterW (annotateLines_L1 x) ((([] : List (List (Int × Int × Int × Unit))), (0 : Int), ()), ())) fun x7 =>
  some (x7.1.1, ((0 : Int), ()))
noncomputable def annotateLine_L1 (x : (List (ByteArray × ByteArray × Unit)) × ByteArray × (List (Int × (Int × Int × Int × Unit) × ByteArray × Unit)) × Int × Unit) (x3 : ((List Int) × (List Int) × Unit) × (Unit)) : Option ((((List Int) × (List Int) × Unit) × (Unit)) ⊕ (((List Int) × Unit) × (Unit))) :=
  bif (decide (((x3.1.2.1.length : Nat) : Int) > (0 : Int))) then (req (inb (0 : Int) x3.1.2.1.length) (req (room (x3.1.1.length + ([(getD' x3.1.2.1 0 (0 : Int))]).length) 8) (req (inb (0 : Int) x3.1.2.1.length) (Option.bind (recordKids x (getD' x3.1.2.1 0 (0 : Int))) fun r4 =>
  some (Sum.inl (((x3.1.1 ++ [(getD' x3.1.2.1 0 (0 : Int))]), r4, ()), ()))))))
  else some (Sum.inr ((x3.1.1, ()), ()))
noncomputable def annotateLine (x : (List (ByteArray × ByteArray × Unit)) × ByteArray × (List (Int × (Int × Int × Int × Unit) × ByteArray × Unit)) × Int × Unit) : Option (List Int) :=
  Option.bind (recordKids x (-1 : Int)) fun r2 =>
  Option.bind (iterW (annotateLine_L1 x) ((([] : List Int), r2, ()), ())) fun x5 =>
  some x5.1.1
noncomputable def annotateMain_L1 (r4 : List Int) (x : (List (ByteArray × ByteArray × Unit)) × ByteArray × (List (Int × (Int × Int × Int × Unit) × ByteArray × Unit)) × Int × Unit) (x5 : ((List (Int × Int × Int × Unit)) × Int × Unit) × (Unit)) : Option ((((List (Int × Int × Int × Unit)) × Int × Unit) × (Unit)) ⊕ (((List (Int × Int × Int × Unit)) × Unit) × (Unit))) :=
  bif (decide (x5.1.2.1 < ((r4.length : Nat) : Int))) then (req (inb x5.1.2.1 r4.length) (Option.bind (at? x.2.2.1 (getD' r4 ((x5.1.2.1).toNat) (0 : Int))) fun d6 =>
  req (room (x5.1.1.length + ([d6.2.1]).length) 24) (some (Sum.inl (((x5.1.1 ++ [d6.2.1]), (w64 (x5.1.2.1 + (1 : Int))), ()), ())))))
  else some (Sum.inr ((x5.1.1, ()), ()))
noncomputable def annotateMain (r : ByteArray × Int × Int × (List (Int × Int × Int × (List (Int × Int × Int × Int × Unit)) × Unit)) × (List Int) × Bool × Bool × (List (Int × Int × Int × Bool × Unit)) × Int × Int × Int × Unit) (x : (List (ByteArray × ByteArray × Unit)) × ByteArray × (List (Int × (Int × Int × Int × Unit) × ByteArray × Unit)) × Int × Unit) : Option ((List (Int × Int × Int × Unit)) × Int × Unit) :=
  Option.bind (recordCheck r x) fun r3 =>
  bif (r3 != (0 : Int)) then some (([] : List (Int × Int × Int × Unit)), (r3, ()))
  else Option.bind (annotateLine x) fun r4 =>
  Option.bind (iterW (annotateMain_L1 r4 x) ((([] : List (Int × Int × Int × Unit)), (0 : Int), ()), ())) fun x7 =>
  some (x7.1.1, ((0 : Int), ()))
noncomputable def slicesEqual_Move_L1 (s1 : List (Int × Int × Int × Unit)) (s2 : List (Int × Int × Int × Unit)) (x1 : (Int × Unit) × (Unit)) : Option (((Int × Unit) × (Unit)) ⊕ (((Unit) × (Unit)) ⊕ Bool)) :=
  bif (decide (x1.1.1 < ((s1.length : Nat) : Int))) then (Option.bind (at? s1 x1.1.1) fun d2 =>
  Option.bind (at? s2 x1.1.1) fun d3 =>
  bif (!((d2.1 == d3.1) && ((d2.2.1 == d3.2.1) && ((d2.2.2.1 == d3.2.2.1) && true)))) then some (Sum.inr (Sum.inr false))
  else some (Sum.inl (((w64 (x1.1.1 + (1 : Int))), ()), ())))
  else some (Sum.inr (Sum.inl ((), ())))
noncomputable def slicesEqual_Move (s1 : List (Int × Int × Int × Unit)) (s2 : List (Int × Int × Int × Unit)) : Option (Bool) :=
  bif (((s1.length : Nat) : Int) != ((s2.length : Nat) : Int)) then some false
  else Option.bind (α := ((Unit) × (Unit)) ⊕ Bool) (iterW (slicesEqual_Move_L1 s1 s2) (((0 : Int), ()), ())) (Sum.elim (fun x4 =>
  some true) some)
noncomputable def annotateFind_L1 (x : (List (ByteArray × ByteArray × Unit)) × ByteArray × (List (Int × (Int × Int × Int × Unit) × ByteArray × Unit)) × Int × Unit) (l : List (Int × Int × Int × Unit)) (x3 : (Int × Unit) × (Unit)) : Option (((Int × Unit) × (Unit)) ⊕ (((Unit) × (Unit)) ⊕ (Int × Int × Unit))) :=
  bif (decide (x3.1.1 < ((x.2.2.1.length : Nat) : Int))) then (Option.bind (recordWay x x3.1.1) fun r4 =>
  Option.bind (slicesEqual_Move r4 l) fun r5 =>
  bif r5 then some (Sum.inr (Sum.inr (x3.1.1, ((0 : Int), ()))))
  else some (Sum.inl (((w64 (x3.1.1 + (1 : Int))), ()), ())))
  else some (Sum.inr (Sum.inl ((), ())))
noncomputable def annotateFind (r : ByteArray × Int × Int × (List (Int × Int × Int × (List (Int × Int × Int × Int × Unit)) × Unit)) × (List Int) × Bool × Bool × (List (Int × Int × Int × Bool × Unit)) × Int × Int × Int × Unit) (x : (List (ByteArray × ByteArray × Unit)) × ByteArray × (List (Int × (Int × Int × Int × Unit) × ByteArray × Unit)) × Int × Unit) (l : List (Int × Int × Int × Unit)) : Option (Int × Int × Unit) :=
  Option.bind (recordCheck r x) fun r2 =>
  bif (r2 != (0 : Int)) then some ((0 : Int), (r2, ()))
  else Option.bind (α := ((Unit) × (Unit)) ⊕ (Int × Int × Unit)) (iterW (annotateFind_L1 x l) (((0 : Int), ()), ())) (Sum.elim (fun x6 =>
  some ((0 : Int), ((8 : Int), ()))) some)
noncomputable def ref3Ways_L1 (l : List (Int × (Int × Int × Int × Unit) × ByteArray × Unit)) (x1 : ((List (List (Int × Int × Int × Unit))) × Int × Unit) × (Unit)) : Option ((((List (List (Int × Int × Int × Unit))) × Int × Unit) × (Unit)) ⊕ (((List (List (Int × Int × Int × Unit))) × Unit) × (Unit))) :=
  bif (decide (x1.1.2.1 < ((l.length : Nat) : Int))) then (Option.bind (ref3Way l x1.1.2.1) fun r2 =>
  req (room (x1.1.1.length + ([r2.1]).length) 24) (some (Sum.inl (((x1.1.1 ++ [r2.1]), (w64 (x1.1.2.1 + (1 : Int))), ()), ()))))
  else some (Sum.inr ((x1.1.1, ()), ()))
noncomputable def ref3Ways (l : List (Int × (Int × Int × Int × Unit) × ByteArray × Unit)) : Option (List (List (Int × Int × Int × Unit))) :=
  Option.bind (iterW (ref3Ways_L1 l) ((([] : List (List (Int × Int × Int × Unit))), (0 : Int), ()), ())) fun x3 =>
  some x3.1.1
noncomputable def law3AnnotateLines_L2 (r13 : (List (ByteArray × ByteArray × Unit)) × ByteArray × (List (Int × (Int × Int × Int × Unit) × ByteArray × Unit)) × Int × Unit) (x23 : (Int × Int × Int × Unit) × (Unit)) (x24 : (Bool × Int × Unit) × (Unit)) : Option (((Bool × Int × Unit) × (Unit)) ⊕ ((Bool × Unit) × (Unit))) :=
  bif (decide (x24.1.2.1 < ((r13.2.2.1.length : Nat) : Int))) then (Option.bind (at? r13.2.2.1 x24.1.2.1) fun d25 =>
  some (Sum.inl (((x24.1.1 && (d25.1 != x23.1.2.2.1)), (w64 (x24.1.2.1 + (1 : Int))), ()), ())))
  else some (Sum.inr ((x24.1.1, ()), ()))
noncomputable def law3AnnotateLines_L1 (r13 : (List (ByteArray × ByteArray × Unit)) × ByteArray × (List (Int × (Int × Int × Int × Unit) × ByteArray × Unit)) × Int × Unit) (r16 : (List (List (Int × Int × Int × Unit))) × Int × Unit) (x23 : (Int × Int × Int × Unit) × (Unit)) : Option (((Int × Int × Int × Unit) × (Unit)) ⊕ (((Int × Int × Unit) × (Unit)) ⊕ Bool)) :=
  bif (decide (x23.1.2.2.1 < ((r13.2.2.1.length : Nat) : Int))) then (Option.bind (α := ((Int × Int × Unit) × (Unit)) ⊕ (((Int × Int × Int × Unit) × (Unit)) ⊕ (((Int × Int × Unit) × (Unit)) ⊕ Bool))) (Option.bind (iterW (law3AnnotateLines_L2 r13 x23) ((true, (0 : Int), ()), ())) fun x26 =>
  Option.bind (ref3Way r13.2.2.1 x23.1.2.2.1) fun r27 =>
  Option.bind (bif (x26.1.1 && (decide (x23.1.2.1 < (0 : Int)))) then some ((x23.1.2.2.1, ()), ())
  else some ((x23.1.2.1, ()), ())) fun x28 =>
  req (imp ((!(decide (x23.1.1 ≥ ((r16.1.length : Nat) : Int)))) && x26.1.1) (inb x23.1.1 r16.1.length)) (Option.bind (gopt ((!(decide (x23.1.1 ≥ ((r16.1.length : Nat) : Int)))) && x26.1.1) false (ref3SameLine (getD' r16.1 ((x23.1.1).toNat) []) r27.1)) fun r29 =>
  bif (x26.1.1 && ((decide (x23.1.1 ≥ ((r16.1.length : Nat) : Int))) || (!r29))) then some (Sum.inr (Sum.inr (Sum.inr false)))
  else Option.bind (bif x26.1.1 then some (((w64 (x23.1.1 + (1 : Int))), ()), ())
  else some ((x23.1.1, ()), ())) fun x30 =>
  some (Sum.inl ((x30.1.1, x28.1.1, ()), ())))) (Sum.elim (fun x31 =>
  some (Sum.inl ((x31.1.1, x31.1.2.1, (w64 (x23.1.2.2.1 + (1 : Int))), ()), ()))) some))
  else some (Sum.inr (Sum.inl ((x23.1.1, x23.1.2.1, ()), ())))
noncomputable def law3AnnotateLines_L3 (r35 : List (List (Int × Int × Int × Unit))) (r14 : List (Int × Int × Int × Unit)) (r19 : Int × Int × Unit) (x36 : (Int × Unit) × (Unit)) : Option (((Int × Unit) × (Unit)) ⊕ (((Unit) × (Unit)) ⊕ Bool)) :=
  bif (decide (x36.1.1 < ((r35.length : Nat) : Int))) then (req (inb x36.1.1 r35.length) (Option.bind (ref3SameLine (getD' r35 ((x36.1.1).toNat) []) r14) fun r37 =>
  bif r37 then some (Sum.inr (Sum.inr ((r19.2.1 == (0 : Int)) && (r19.1 == x36.1.1))))
  else some (Sum.inl (((w64 (x36.1.1 + (1 : Int))), ()), ()))))
  else some (Sum.inr (Sum.inl ((), ())))
noncomputable def law3AnnotateLines (r : ByteArray × Int × Int × (List (Int × Int × Int × (List (Int × Int × Int × Int × Unit)) × Unit)) × (List Int) × Bool × Bool × (List (Int × Int × Int × Bool × Unit)) × Int × Int × Int × Unit) (x : (List (ByteArray × ByteArray × Unit)) × ByteArray × (List (Int × (Int × Int × Int × Unit) × ByteArray × Unit)) × Int × Unit) (node : Int) (l : List (Int × Int × Int × Unit)) : Option (Bool) :=
  Option.bind (law3Annotates) fun r12 =>
  bif (!r12) then some false
  else Option.bind (law3Short x) fun r13 =>
  Option.bind (law3Cut l) fun r14 =>
  bif (law3Great r) then some true
  else Option.bind (ref3RecordFault r r13) fun r15 =>
  Option.bind (annotateLines r r13) fun r16 =>
  Option.bind (annotateMain r r13) fun r17 =>
  Option.bind (annotatePath r r13 node) fun r18 =>
  Option.bind (annotateFind r r13 r14) fun r19 =>
  bif (r15 != (0 : Int)) then some (((((r16.2.1 == r15) && (r17.2.1 == r15)) && (r18.2.1 == r15)) && (r19.2.1 == r15)) && ((w64 ((w64 ((w64 (((r16.1.length : Nat) : Int) + ((r17.1.length : Nat) : Int))) + ((r18.1.length : Nat) : Int))) + r19.1)) == (0 : Int)))
  else Option.bind (α := ((Unit) × (Unit)) ⊕ Bool) (bif ((decide (node < (0 : Int))) || (decide (node ≥ ((r13.2.2.1.length : Nat) : Int)))) then (bif ((r18.2.1 != (1 : Int)) || (decide (((r18.1.length : Nat) : Int) > (0 : Int)))) then some (Sum.inr false)
  else some (Sum.inl ((), ())))
  else Option.bind (ref3Way r13.2.2.1 node) fun r20 =>
  Option.bind (gopt (!(r18.2.1 != (0 : Int))) false (ref3SameLine r18.1 r20.1)) fun r21 =>
  bif ((r18.2.1 != (0 : Int)) || (!r21)) then some (Sum.inr false)
  else some (Sum.inl ((), ()))) (Sum.elim (fun x22 =>
  Option.bind (α := ((Int × Int × Unit) × (Unit)) ⊕ Bool) (iterW (law3AnnotateLines_L1 r13 r16) (((0 : Int), (-1 : Int), (0 : Int), ()), ())) (Sum.elim (fun x32 =>
  Option.bind (ref3Way r13.2.2.1 x32.1.2.1) fun r33 =>
  Option.bind (gopt (!(((r16.2.1 != (0 : Int)) || (x32.1.1 != ((r16.1.length : Nat) : Int))) || (r17.2.1 != (0 : Int)))) false (ref3SameLine r17.1 r33.1)) fun r34 =>
  bif ((((r16.2.1 != (0 : Int)) || (x32.1.1 != ((r16.1.length : Nat) : Int))) || (r17.2.1 != (0 : Int))) || (!r34)) then some false
  else Option.bind (ref3Ways r13.2.2.1) fun r35 =>
  Option.bind (α := ((Unit) × (Unit)) ⊕ Bool) (iterW (law3AnnotateLines_L3 r35 r14 r19) (((0 : Int), ()), ())) (Sum.elim (fun x38 =>
  some ((r19.2.1 == (8 : Int)) && (r19.1 == (0 : Int)))) some)) some)) some)
end Go.Proofs.YticeklcmijbjfaaGreat
