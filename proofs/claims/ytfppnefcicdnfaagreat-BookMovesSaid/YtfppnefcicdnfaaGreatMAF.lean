/- Several texts in one: What functions compute, in plain Lean: Game. No condition of its own.; What functions compute, in plain Lean: Book. No condition of its own.; What functions compute, in plain Lean: BookMoves. No condition of its own.; Sorts by a comparing function, from the shelf, as what the interpreter asks. No condition of its own.; Plain facts: loops and recursions of the shallow functions; numbers. No condition of its own.; The copy of elements of k cells into a row. No condition of its own.; Plain facts: data in range, decided. No condition of its own.; Rules in plain Lean: what is wrong with rules, as the program and the reference compute it. No condition of its own.; Loops over an index with what is gathered on the way, in plain Lean. No condition of its own.; What is wrong with a position, as the program and the reference compute it; what a valid one is. No condition of its own.; Ways of pieces: where a piece can go, as the program and the reference compute it. No condition of its own.; Moves in order, each once: what sorting and compacting a list of moves gives. No condition of its own.; Moves: what the program lists and what the reference permits. No condition of its own. -/
import Derived.Test.YtfppnefcicdnfaaGreatMAA
import Derived.Test.YtfppnefcicdnfaaGreatMAE
import Derived.Shelf.SlSortCmp.NoneTotal
import Derived.Laws.CopyRow
import Derived.Laws.Strings
namespace Go.Proofs.YtfppnefcicdnfaaGreat
open Go.Den
set_option linter.unusedVariables false
set_option maxRecDepth 100000
noncomputable def plainGameCount_L1 (g : (ByteArray × Int × Int × (List (Int × Int × Int × (List (Int × Int × Int × Int × Unit)) × Unit)) × (List Int) × Bool × Bool × (List (Int × Int × Int × Bool × Unit)) × Int × Int × Int × Unit) × (List ((List Int) × ((List Int) × (List Int) × Unit) × Int × Int × Unit)) × (List (Int × Int × Int × Unit)) × Unit) (x1 : (Int × Int × Unit) × (Unit)) : Option (((Int × Int × Unit) × (Unit)) ⊕ ((Int × Unit) × (Unit))) :=
  bif (decide (x1.1.2.1 < ((g.2.1.length : Nat) : Int))) then (Option.bind (at? g.2.1 x1.1.2.1) fun d2 =>
  Option.bind (agree (Option.bind (at? g.2.1 (w64 (((g.2.1.length : Nat) : Int) - (1 : Int)))) fun d3 =>
  Option.bind (placeSame d2 d3) fun r4 =>
  some ((r4, ()), ())) (Option.bind (at? g.2.1 (w64 (((g.2.1.length : Nat) : Int) - (1 : Int)))) fun d5 =>
  Option.bind (placeSame d2 d5) fun r6 =>
  some ((r6, ()), ()))) fun x7 =>
  Option.bind (bif x7.1.1 then some (((w64 (x1.1.1 + (1 : Int))), ()), ())
  else some ((x1.1.1, ()), ())) fun x8 =>
  some (Sum.inl ((x8.1.1, (w64 (x1.1.2.1 + (1 : Int))), ()), ())))
  else some (Sum.inr ((x1.1.1, ()), ()))
noncomputable def plainGameCount (g : (ByteArray × Int × Int × (List (Int × Int × Int × (List (Int × Int × Int × Int × Unit)) × Unit)) × (List Int) × Bool × Bool × (List (Int × Int × Int × Bool × Unit)) × Int × Int × Int × Unit) × (List ((List Int) × ((List Int) × (List Int) × Unit) × Int × Int × Unit)) × (List (Int × Int × Int × Unit)) × Unit) : Option (Int) :=
  Option.bind (iterW (plainGameCount_L1 g) (((0 : Int), (0 : Int), ()), ())) fun x9 =>
  some x9.1.1
noncomputable def plainGameResult (g : (ByteArray × Int × Int × (List (Int × Int × Int × (List (Int × Int × Int × Int × Unit)) × Unit)) × (List Int) × Bool × Bool × (List (Int × Int × Int × Bool × Unit)) × Int × Int × Int × Unit) × (List ((List Int) × ((List Int) × (List Int) × Unit) × Int × Int × Unit)) × (List (Int × Int × Int × Unit)) × Unit) : Option (Int) :=
  Option.bind (agree (Option.bind (at? g.2.1 (w64 (((g.2.1.length : Nat) : Int) - (1 : Int)))) fun d2 =>
  Option.bind (endsResult g.1 d2) fun r3 =>
  some ((r3, ()), ())) (Option.bind (at? g.2.1 (w64 (((g.2.1.length : Nat) : Int) - (1 : Int)))) fun d4 =>
  Option.bind (endsResult g.1 d4) fun r5 =>
  some ((r5, ()), ()))) fun x6 =>
  Option.bind (gopt ((x6.1.1 == (0 : Int)) && (g.1.2.2.2.2.2.2.2.2.2.2.1 != (0 : Int))) (0 : Int) (plainGameCount g)) fun r7 =>
  bif (((x6.1.1 == (0 : Int)) && (g.1.2.2.2.2.2.2.2.2.2.2.1 != (0 : Int))) && (decide (r7 ≥ g.1.2.2.2.2.2.2.2.2.2.2.1))) then some (3 : Int)
  else some x6.1.1
noncomputable def plainGamePlay (g : (ByteArray × Int × Int × (List (Int × Int × Int × (List (Int × Int × Int × Int × Unit)) × Unit)) × (List Int) × Bool × Bool × (List (Int × Int × Int × Bool × Unit)) × Int × Int × Int × Unit) × (List ((List Int) × ((List Int) × (List Int) × Unit) × Int × Int × Unit)) × (List (Int × Int × Int × Unit)) × Unit) (m : Int × Int × Int × Unit) : Option (((ByteArray × Int × Int × (List (Int × Int × Int × (List (Int × Int × Int × Int × Unit)) × Unit)) × (List Int) × Bool × Bool × (List (Int × Int × Int × Bool × Unit)) × Int × Int × Int × Unit) × (List ((List Int) × ((List Int) × (List Int) × Unit) × Int × Int × Unit)) × (List (Int × Int × Int × Unit)) × Unit) × Int) :=
  Option.bind (plainGameResult (g.1, (g.2.1, (g.2.2.1, ())))) fun r2 =>
  bif (r2 != (0 : Int)) then some ((g.1, (g.2.1, (g.2.2.1, ()))), (14 : Int))
  else Option.bind (agree (agree (req (inb (w64 (((g.2.1.length : Nat) : Int) - (1 : Int))) g.2.1.length) (agree (Option.bind (movesList g.1 (getD' g.2.1 (((w64 (((g.2.1.length : Nat) : Int) - (1 : Int)))).toNat) ([], (([], ([], ())), ((0 : Int), ((0 : Int), ())))))) fun r3 =>
  Option.bind (slicesContains_Move r3 m) fun r4 =>
  some (((!r4), ()), ())) (Option.bind (movesList g.1 (getD' g.2.1 (((w64 (((g.2.1.length : Nat) : Int) - (1 : Int)))).toNat) ([], (([], ([], ())), ((0 : Int), ((0 : Int), ())))))) fun r5 =>
  Option.bind (slicesContains_Move r5 m) fun r6 =>
  some (((!r6), ()), ())))) (req (inb (w64 (((g.2.1.length : Nat) : Int) - (1 : Int))) g.2.1.length) (Option.bind (movesList g.1 (getD' g.2.1 (((w64 (((g.2.1.length : Nat) : Int) - (1 : Int)))).toNat) ([], (([], ([], ())), ((0 : Int), ((0 : Int), ())))))) fun r7 =>
  Option.bind (slicesContains_Move r7 m) fun r8 =>
  some (((!r8), ()), ())))) (agree (req (inb (w64 (((g.2.1.length : Nat) : Int) - (1 : Int))) g.2.1.length) (agree (Option.bind (movesList g.1 (getD' g.2.1 (((w64 (((g.2.1.length : Nat) : Int) - (1 : Int)))).toNat) ([], (([], ([], ())), ((0 : Int), ((0 : Int), ())))))) fun r9 =>
  Option.bind (slicesContains_Move r9 m) fun r10 =>
  some (((!r10), ()), ())) (Option.bind (movesList g.1 (getD' g.2.1 (((w64 (((g.2.1.length : Nat) : Int) - (1 : Int)))).toNat) ([], (([], ([], ())), ((0 : Int), ((0 : Int), ())))))) fun r11 =>
  Option.bind (slicesContains_Move r11 m) fun r12 =>
  some (((!r12), ()), ())))) (agree (req (inb (w64 (((g.2.1.length : Nat) : Int) - (1 : Int))) g.2.1.length) (Option.bind (movesList g.1 (getD' g.2.1 (((w64 (((g.2.1.length : Nat) : Int) - (1 : Int)))).toNat) ([], (([], ([], ())), ((0 : Int), ((0 : Int), ())))))) fun r13 =>
  Option.bind (slicesContains_Move r13 m) fun r14 =>
  some (((!r14), ()), ()))) (req (inb (w64 (((g.2.1.length : Nat) : Int) - (1 : Int))) g.2.1.length) (Option.bind (movesList g.1 (getD' g.2.1 (((w64 (((g.2.1.length : Nat) : Int) - (1 : Int)))).toNat) ([], (([], ([], ())), ((0 : Int), ((0 : Int), ())))))) fun r15 =>
  Option.bind (slicesContains_Move r15 m) fun r16 =>
  some (((!r16), ()), ())))))) fun x17 =>
  bif x17.1.1 then some ((g.1, (g.2.1, (g.2.2.1, ()))), (13 : Int))
  else bif (((g.2.2.1.length : Nat) : Int) == (400 : Int)) then some ((g.1, (g.2.1, (g.2.2.1, ()))), (9 : Int))
  else Option.bind (agree (agree (agree (req (inb (w64 (((g.2.1.length : Nat) : Int) - (1 : Int))) g.2.1.length) (Option.bind (movesMake g.1 (getD' g.2.1 (((w64 (((g.2.1.length : Nat) : Int) - (1 : Int)))).toNat) ([], (([], ([], ())), ((0 : Int), ((0 : Int), ()))))) m) fun r18 =>
  req (room (g.2.1.length + ([(r18.1, ((r18.2.1.1, (r18.2.1.2.1, ())), r18.2.2))]).length) 88) (some ((), ((g.1.1, (g.1.2.1, (g.1.2.2.1, (g.1.2.2.2.1, (g.1.2.2.2.2.1, (g.1.2.2.2.2.2.1, (g.1.2.2.2.2.2.2.1, (g.1.2.2.2.2.2.2.2.1, (g.1.2.2.2.2.2.2.2.2.1, (g.1.2.2.2.2.2.2.2.2.2.1, (g.1.2.2.2.2.2.2.2.2.2.2.1, ((g.2.1 ++ [(r18.1, ((r18.2.1.1, (r18.2.1.2.1, ())), r18.2.2))]), (g.2.2.1, ()))))))))))))), ()))))) (req (inb (w64 (((g.2.1.length : Nat) : Int) - (1 : Int))) g.2.1.length) (Option.bind (movesMake g.1 (getD' g.2.1 (((w64 (((g.2.1.length : Nat) : Int) - (1 : Int)))).toNat) ([], (([], ([], ())), ((0 : Int), ((0 : Int), ()))))) m) fun r19 =>
  req (room (g.2.1.length + ([(r19.1, ((r19.2.1.1, (r19.2.1.2.1, ())), r19.2.2))]).length) 88) (some ((), ((g.1.1, (g.1.2.1, (g.1.2.2.1, (g.1.2.2.2.1, (g.1.2.2.2.2.1, (g.1.2.2.2.2.2.1, (g.1.2.2.2.2.2.2.1, (g.1.2.2.2.2.2.2.2.1, (g.1.2.2.2.2.2.2.2.2.1, (g.1.2.2.2.2.2.2.2.2.2.1, (g.1.2.2.2.2.2.2.2.2.2.2.1, ((g.2.1 ++ [(r19.1, ((r19.2.1.1, (r19.2.1.2.1, ())), r19.2.2))]), (g.2.2.1, ()))))))))))))), ())))))) (agree (req (inb (w64 (((g.2.1.length : Nat) : Int) - (1 : Int))) g.2.1.length) (Option.bind (movesMake g.1 (getD' g.2.1 (((w64 (((g.2.1.length : Nat) : Int) - (1 : Int)))).toNat) ([], (([], ([], ())), ((0 : Int), ((0 : Int), ()))))) m) fun r20 =>
  req (room (g.2.1.length + ([(r20.1, ((r20.2.1.1, (r20.2.1.2.1, ())), r20.2.2))]).length) 88) (some ((), ((g.1.1, (g.1.2.1, (g.1.2.2.1, (g.1.2.2.2.1, (g.1.2.2.2.2.1, (g.1.2.2.2.2.2.1, (g.1.2.2.2.2.2.2.1, (g.1.2.2.2.2.2.2.2.1, (g.1.2.2.2.2.2.2.2.2.1, (g.1.2.2.2.2.2.2.2.2.2.1, (g.1.2.2.2.2.2.2.2.2.2.2.1, ((g.2.1 ++ [(r20.1, ((r20.2.1.1, (r20.2.1.2.1, ())), r20.2.2))]), (g.2.2.1, ()))))))))))))), ()))))) (agree (req (inb (w64 (((g.2.1.length : Nat) : Int) - (1 : Int))) g.2.1.length) (Option.bind (movesMake g.1 (getD' g.2.1 (((w64 (((g.2.1.length : Nat) : Int) - (1 : Int)))).toNat) ([], (([], ([], ())), ((0 : Int), ((0 : Int), ()))))) m) fun r21 =>
  req (room (g.2.1.length + ([(r21.1, ((r21.2.1.1, (r21.2.1.2.1, ())), r21.2.2))]).length) 88) (some ((), ((g.1.1, (g.1.2.1, (g.1.2.2.1, (g.1.2.2.2.1, (g.1.2.2.2.2.1, (g.1.2.2.2.2.2.1, (g.1.2.2.2.2.2.2.1, (g.1.2.2.2.2.2.2.2.1, (g.1.2.2.2.2.2.2.2.2.1, (g.1.2.2.2.2.2.2.2.2.2.1, (g.1.2.2.2.2.2.2.2.2.2.2.1, ((g.2.1 ++ [(r21.1, ((r21.2.1.1, (r21.2.1.2.1, ())), r21.2.2))]), (g.2.2.1, ()))))))))))))), ()))))) (req (inb (w64 (((g.2.1.length : Nat) : Int) - (1 : Int))) g.2.1.length) (Option.bind (movesMake g.1 (getD' g.2.1 (((w64 (((g.2.1.length : Nat) : Int) - (1 : Int)))).toNat) ([], (([], ([], ())), ((0 : Int), ((0 : Int), ()))))) m) fun r22 =>
  req (room (g.2.1.length + ([(r22.1, ((r22.2.1.1, (r22.2.1.2.1, ())), r22.2.2))]).length) 88) (some ((), ((g.1.1, (g.1.2.1, (g.1.2.2.1, (g.1.2.2.2.1, (g.1.2.2.2.2.1, (g.1.2.2.2.2.2.1, (g.1.2.2.2.2.2.2.1, (g.1.2.2.2.2.2.2.2.1, (g.1.2.2.2.2.2.2.2.2.1, (g.1.2.2.2.2.2.2.2.2.2.1, (g.1.2.2.2.2.2.2.2.2.2.2.1, ((g.2.1 ++ [(r22.1, ((r22.2.1.1, (r22.2.1.2.1, ())), r22.2.2))]), (g.2.2.1, ()))))))))))))), ())))))))) (agree (agree (agree (req (inb (w64 (((g.2.1.length : Nat) : Int) - (1 : Int))) g.2.1.length) (Option.bind (movesMake g.1 (getD' g.2.1 (((w64 (((g.2.1.length : Nat) : Int) - (1 : Int)))).toNat) ([], (([], ([], ())), ((0 : Int), ((0 : Int), ()))))) m) fun r23 =>
  req (room (g.2.1.length + ([(r23.1, ((r23.2.1.1, (r23.2.1.2.1, ())), r23.2.2))]).length) 88) (some ((), ((g.1.1, (g.1.2.1, (g.1.2.2.1, (g.1.2.2.2.1, (g.1.2.2.2.2.1, (g.1.2.2.2.2.2.1, (g.1.2.2.2.2.2.2.1, (g.1.2.2.2.2.2.2.2.1, (g.1.2.2.2.2.2.2.2.2.1, (g.1.2.2.2.2.2.2.2.2.2.1, (g.1.2.2.2.2.2.2.2.2.2.2.1, ((g.2.1 ++ [(r23.1, ((r23.2.1.1, (r23.2.1.2.1, ())), r23.2.2))]), (g.2.2.1, ()))))))))))))), ()))))) (req (inb (w64 (((g.2.1.length : Nat) : Int) - (1 : Int))) g.2.1.length) (Option.bind (movesMake g.1 (getD' g.2.1 (((w64 (((g.2.1.length : Nat) : Int) - (1 : Int)))).toNat) ([], (([], ([], ())), ((0 : Int), ((0 : Int), ()))))) m) fun r24 =>
  req (room (g.2.1.length + ([(r24.1, ((r24.2.1.1, (r24.2.1.2.1, ())), r24.2.2))]).length) 88) (some ((), ((g.1.1, (g.1.2.1, (g.1.2.2.1, (g.1.2.2.2.1, (g.1.2.2.2.2.1, (g.1.2.2.2.2.2.1, (g.1.2.2.2.2.2.2.1, (g.1.2.2.2.2.2.2.2.1, (g.1.2.2.2.2.2.2.2.2.1, (g.1.2.2.2.2.2.2.2.2.2.1, (g.1.2.2.2.2.2.2.2.2.2.2.1, ((g.2.1 ++ [(r24.1, ((r24.2.1.1, (r24.2.1.2.1, ())), r24.2.2))]), (g.2.2.1, ()))))))))))))), ())))))) (agree (req (inb (w64 (((g.2.1.length : Nat) : Int) - (1 : Int))) g.2.1.length) (agree (Option.bind (movesMake g.1 (getD' g.2.1 (((w64 (((g.2.1.length : Nat) : Int) - (1 : Int)))).toNat) ([], (([], ([], ())), ((0 : Int), ((0 : Int), ()))))) m) fun r25 =>
  req (room (g.2.1.length + ([(r25.1, ((r25.2.1.1, (r25.2.1.2.1, ())), r25.2.2))]).length) 88) (some ((), ((g.1.1, (g.1.2.1, (g.1.2.2.1, (g.1.2.2.2.1, (g.1.2.2.2.2.1, (g.1.2.2.2.2.2.1, (g.1.2.2.2.2.2.2.1, (g.1.2.2.2.2.2.2.2.1, (g.1.2.2.2.2.2.2.2.2.1, (g.1.2.2.2.2.2.2.2.2.2.1, (g.1.2.2.2.2.2.2.2.2.2.2.1, ((g.2.1 ++ [(r25.1, ((r25.2.1.1, (r25.2.1.2.1, ())), r25.2.2))]), (g.2.2.1, ()))))))))))))), ())))) (Option.bind (movesMake g.1 (getD' g.2.1 (((w64 (((g.2.1.length : Nat) : Int) - (1 : Int)))).toNat) ([], (([], ([], ())), ((0 : Int), ((0 : Int), ()))))) m) fun r26 =>
  req (room (g.2.1.length + ([(r26.1, ((r26.2.1.1, (r26.2.1.2.1, ())), r26.2.2))]).length) 88) (some ((), ((g.1.1, (g.1.2.1, (g.1.2.2.1, (g.1.2.2.2.1, (g.1.2.2.2.2.1, (g.1.2.2.2.2.2.1, (g.1.2.2.2.2.2.2.1, (g.1.2.2.2.2.2.2.2.1, (g.1.2.2.2.2.2.2.2.2.1, (g.1.2.2.2.2.2.2.2.2.2.1, (g.1.2.2.2.2.2.2.2.2.2.2.1, ((g.2.1 ++ [(r26.1, ((r26.2.1.1, (r26.2.1.2.1, ())), r26.2.2))]), (g.2.2.1, ()))))))))))))), ())))))) (agree (req (inb (w64 (((g.2.1.length : Nat) : Int) - (1 : Int))) g.2.1.length) (Option.bind (movesMake g.1 (getD' g.2.1 (((w64 (((g.2.1.length : Nat) : Int) - (1 : Int)))).toNat) ([], (([], ([], ())), ((0 : Int), ((0 : Int), ()))))) m) fun r27 =>
  req (room (g.2.1.length + ([(r27.1, ((r27.2.1.1, (r27.2.1.2.1, ())), r27.2.2))]).length) 88) (some ((), ((g.1.1, (g.1.2.1, (g.1.2.2.1, (g.1.2.2.2.1, (g.1.2.2.2.2.1, (g.1.2.2.2.2.2.1, (g.1.2.2.2.2.2.2.1, (g.1.2.2.2.2.2.2.2.1, (g.1.2.2.2.2.2.2.2.2.1, (g.1.2.2.2.2.2.2.2.2.2.1, (g.1.2.2.2.2.2.2.2.2.2.2.1, ((g.2.1 ++ [(r27.1, ((r27.2.1.1, (r27.2.1.2.1, ())), r27.2.2))]), (g.2.2.1, ()))))))))))))), ()))))) (req (inb (w64 (((g.2.1.length : Nat) : Int) - (1 : Int))) g.2.1.length) (agree (Option.bind (movesMake g.1 (getD' g.2.1 (((w64 (((g.2.1.length : Nat) : Int) - (1 : Int)))).toNat) ([], (([], ([], ())), ((0 : Int), ((0 : Int), ()))))) m) fun r28 =>
  req (room (g.2.1.length + ([(r28.1, ((r28.2.1.1, (r28.2.1.2.1, ())), r28.2.2))]).length) 88) (some ((), ((g.1.1, (g.1.2.1, (g.1.2.2.1, (g.1.2.2.2.1, (g.1.2.2.2.2.1, (g.1.2.2.2.2.2.1, (g.1.2.2.2.2.2.2.1, (g.1.2.2.2.2.2.2.2.1, (g.1.2.2.2.2.2.2.2.2.1, (g.1.2.2.2.2.2.2.2.2.2.1, (g.1.2.2.2.2.2.2.2.2.2.2.1, ((g.2.1 ++ [(r28.1, ((r28.2.1.1, (r28.2.1.2.1, ())), r28.2.2))]), (g.2.2.1, ()))))))))))))), ())))) (Option.bind (movesMake g.1 (getD' g.2.1 (((w64 (((g.2.1.length : Nat) : Int) - (1 : Int)))).toNat) ([], (([], ([], ())), ((0 : Int), ((0 : Int), ()))))) m) fun r29 =>
  req (room (g.2.1.length + ([(r29.1, ((r29.2.1.1, (r29.2.1.2.1, ())), r29.2.2))]).length) 88) (some ((), ((g.1.1, (g.1.2.1, (g.1.2.2.1, (g.1.2.2.2.1, (g.1.2.2.2.2.1, (g.1.2.2.2.2.2.1, (g.1.2.2.2.2.2.2.1, (g.1.2.2.2.2.2.2.2.1, (g.1.2.2.2.2.2.2.2.2.1, (g.1.2.2.2.2.2.2.2.2.2.1, (g.1.2.2.2.2.2.2.2.2.2.2.1, ((g.2.1 ++ [(r29.1, ((r29.2.1.1, (r29.2.1.2.1, ())), r29.2.2))]), (g.2.2.1, ()))))))))))))), ()))))))))) (agree (req (inb (w64 (((g.2.1.length : Nat) : Int) - (1 : Int))) g.2.1.length) (agree (Option.bind (movesMake g.1 (getD' g.2.1 (((w64 (((g.2.1.length : Nat) : Int) - (1 : Int)))).toNat) ([], (([], ([], ())), ((0 : Int), ((0 : Int), ()))))) m) fun r30 =>
  req (room (g.2.1.length + ([(r30.1, ((r30.2.1.1, (r30.2.1.2.1, ())), r30.2.2))]).length) 88) (some ((), ((g.1.1, (g.1.2.1, (g.1.2.2.1, (g.1.2.2.2.1, (g.1.2.2.2.2.1, (g.1.2.2.2.2.2.1, (g.1.2.2.2.2.2.2.1, (g.1.2.2.2.2.2.2.2.1, (g.1.2.2.2.2.2.2.2.2.1, (g.1.2.2.2.2.2.2.2.2.2.1, (g.1.2.2.2.2.2.2.2.2.2.2.1, ((g.2.1 ++ [(r30.1, ((r30.2.1.1, (r30.2.1.2.1, ())), r30.2.2))]), (g.2.2.1, ()))))))))))))), ())))) (Option.bind (movesMake g.1 (getD' g.2.1 (((w64 (((g.2.1.length : Nat) : Int) - (1 : Int)))).toNat) ([], (([], ([], ())), ((0 : Int), ((0 : Int), ()))))) m) fun r31 =>
  req (room (g.2.1.length + ([(r31.1, ((r31.2.1.1, (r31.2.1.2.1, ())), r31.2.2))]).length) 88) (some ((), ((g.1.1, (g.1.2.1, (g.1.2.2.1, (g.1.2.2.2.1, (g.1.2.2.2.2.1, (g.1.2.2.2.2.2.1, (g.1.2.2.2.2.2.2.1, (g.1.2.2.2.2.2.2.2.1, (g.1.2.2.2.2.2.2.2.2.1, (g.1.2.2.2.2.2.2.2.2.2.1, (g.1.2.2.2.2.2.2.2.2.2.2.1, ((g.2.1 ++ [(r31.1, ((r31.2.1.1, (r31.2.1.2.1, ())), r31.2.2))]), (g.2.2.1, ()))))))))))))), ())))))) (agree (agree (req (inb (w64 (((g.2.1.length : Nat) : Int) - (1 : Int))) g.2.1.length) (Option.bind (movesMake g.1 (getD' g.2.1 (((w64 (((g.2.1.length : Nat) : Int) - (1 : Int)))).toNat) ([], (([], ([], ())), ((0 : Int), ((0 : Int), ()))))) m) fun r32 =>
  req (room (g.2.1.length + ([(r32.1, ((r32.2.1.1, (r32.2.1.2.1, ())), r32.2.2))]).length) 88) (some ((), ((g.1.1, (g.1.2.1, (g.1.2.2.1, (g.1.2.2.2.1, (g.1.2.2.2.2.1, (g.1.2.2.2.2.2.1, (g.1.2.2.2.2.2.2.1, (g.1.2.2.2.2.2.2.2.1, (g.1.2.2.2.2.2.2.2.2.1, (g.1.2.2.2.2.2.2.2.2.2.1, (g.1.2.2.2.2.2.2.2.2.2.2.1, ((g.2.1 ++ [(r32.1, ((r32.2.1.1, (r32.2.1.2.1, ())), r32.2.2))]), (g.2.2.1, ()))))))))))))), ()))))) (req (inb (w64 (((g.2.1.length : Nat) : Int) - (1 : Int))) g.2.1.length) (Option.bind (movesMake g.1 (getD' g.2.1 (((w64 (((g.2.1.length : Nat) : Int) - (1 : Int)))).toNat) ([], (([], ([], ())), ((0 : Int), ((0 : Int), ()))))) m) fun r33 =>
  req (room (g.2.1.length + ([(r33.1, ((r33.2.1.1, (r33.2.1.2.1, ())), r33.2.2))]).length) 88) (some ((), ((g.1.1, (g.1.2.1, (g.1.2.2.1, (g.1.2.2.2.1, (g.1.2.2.2.2.1, (g.1.2.2.2.2.2.1, (g.1.2.2.2.2.2.2.1, (g.1.2.2.2.2.2.2.2.1, (g.1.2.2.2.2.2.2.2.2.1, (g.1.2.2.2.2.2.2.2.2.2.1, (g.1.2.2.2.2.2.2.2.2.2.2.1, ((g.2.1 ++ [(r33.1, ((r33.2.1.1, (r33.2.1.2.1, ())), r33.2.2))]), (g.2.2.1, ()))))))))))))), ())))))) (agree (agree (req (inb (w64 (((g.2.1.length : Nat) : Int) - (1 : Int))) g.2.1.length) (Option.bind (movesMake g.1 (getD' g.2.1 (((w64 (((g.2.1.length : Nat) : Int) - (1 : Int)))).toNat) ([], (([], ([], ())), ((0 : Int), ((0 : Int), ()))))) m) fun r34 =>
  req (room (g.2.1.length + ([(r34.1, ((r34.2.1.1, (r34.2.1.2.1, ())), r34.2.2))]).length) 88) (some ((), ((g.1.1, (g.1.2.1, (g.1.2.2.1, (g.1.2.2.2.1, (g.1.2.2.2.2.1, (g.1.2.2.2.2.2.1, (g.1.2.2.2.2.2.2.1, (g.1.2.2.2.2.2.2.2.1, (g.1.2.2.2.2.2.2.2.2.1, (g.1.2.2.2.2.2.2.2.2.2.1, (g.1.2.2.2.2.2.2.2.2.2.2.1, ((g.2.1 ++ [(r34.1, ((r34.2.1.1, (r34.2.1.2.1, ())), r34.2.2))]), (g.2.2.1, ()))))))))))))), ()))))) (req (inb (w64 (((g.2.1.length : Nat) : Int) - (1 : Int))) g.2.1.length) (agree (Option.bind (movesMake g.1 (getD' g.2.1 (((w64 (((g.2.1.length : Nat) : Int) - (1 : Int)))).toNat) ([], (([], ([], ())), ((0 : Int), ((0 : Int), ()))))) m) fun r35 =>
  req (room (g.2.1.length + ([(r35.1, ((r35.2.1.1, (r35.2.1.2.1, ())), r35.2.2))]).length) 88) (some ((), ((g.1.1, (g.1.2.1, (g.1.2.2.1, (g.1.2.2.2.1, (g.1.2.2.2.2.1, (g.1.2.2.2.2.2.1, (g.1.2.2.2.2.2.2.1, (g.1.2.2.2.2.2.2.2.1, (g.1.2.2.2.2.2.2.2.2.1, (g.1.2.2.2.2.2.2.2.2.2.1, (g.1.2.2.2.2.2.2.2.2.2.2.1, ((g.2.1 ++ [(r35.1, ((r35.2.1.1, (r35.2.1.2.1, ())), r35.2.2))]), (g.2.2.1, ()))))))))))))), ())))) (Option.bind (movesMake g.1 (getD' g.2.1 (((w64 (((g.2.1.length : Nat) : Int) - (1 : Int)))).toNat) ([], (([], ([], ())), ((0 : Int), ((0 : Int), ()))))) m) fun r36 =>
  req (room (g.2.1.length + ([(r36.1, ((r36.2.1.1, (r36.2.1.2.1, ())), r36.2.2))]).length) 88) (some ((), ((g.1.1, (g.1.2.1, (g.1.2.2.1, (g.1.2.2.2.1, (g.1.2.2.2.2.1, (g.1.2.2.2.2.2.1, (g.1.2.2.2.2.2.2.1, (g.1.2.2.2.2.2.2.2.1, (g.1.2.2.2.2.2.2.2.2.1, (g.1.2.2.2.2.2.2.2.2.2.1, (g.1.2.2.2.2.2.2.2.2.2.2.1, ((g.2.1 ++ [(r36.1, ((r36.2.1.1, (r36.2.1.2.1, ())), r36.2.2))]), (g.2.2.1, ()))))))))))))), ()))))))) (req (inb (w64 (((g.2.1.length : Nat) : Int) - (1 : Int))) g.2.1.length) (agree (Option.bind (movesMake g.1 (getD' g.2.1 (((w64 (((g.2.1.length : Nat) : Int) - (1 : Int)))).toNat) ([], (([], ([], ())), ((0 : Int), ((0 : Int), ()))))) m) fun r37 =>
  req (room (g.2.1.length + ([(r37.1, ((r37.2.1.1, (r37.2.1.2.1, ())), r37.2.2))]).length) 88) (some ((), ((g.1.1, (g.1.2.1, (g.1.2.2.1, (g.1.2.2.2.1, (g.1.2.2.2.2.1, (g.1.2.2.2.2.2.1, (g.1.2.2.2.2.2.2.1, (g.1.2.2.2.2.2.2.2.1, (g.1.2.2.2.2.2.2.2.2.1, (g.1.2.2.2.2.2.2.2.2.2.1, (g.1.2.2.2.2.2.2.2.2.2.2.1, ((g.2.1 ++ [(r37.1, ((r37.2.1.1, (r37.2.1.2.1, ())), r37.2.2))]), (g.2.2.1, ()))))))))))))), ())))) (Option.bind (movesMake g.1 (getD' g.2.1 (((w64 (((g.2.1.length : Nat) : Int) - (1 : Int)))).toNat) ([], (([], ([], ())), ((0 : Int), ((0 : Int), ()))))) m) fun r38 =>
  req (room (g.2.1.length + ([(r38.1, ((r38.2.1.1, (r38.2.1.2.1, ())), r38.2.2))]).length) 88) (some ((), ((g.1.1, (g.1.2.1, (g.1.2.2.1, (g.1.2.2.2.1, (g.1.2.2.2.2.1, (g.1.2.2.2.2.2.1, (g.1.2.2.2.2.2.2.1, (g.1.2.2.2.2.2.2.2.1, (g.1.2.2.2.2.2.2.2.2.1, (g.1.2.2.2.2.2.2.2.2.2.1, (g.1.2.2.2.2.2.2.2.2.2.2.1, ((g.2.1 ++ [(r38.1, ((r38.2.1.1, (r38.2.1.2.1, ())), r38.2.2))]), (g.2.2.1, ()))))))))))))), ()))))))))))) fun x39 =>
  req (room (x39.2.1.2.2.2.2.2.2.2.2.2.2.2.2.1.length + ([m]).length) 24) (some (((x39.2.1.1, (x39.2.1.2.1, (x39.2.1.2.2.1, (x39.2.1.2.2.2.1, (x39.2.1.2.2.2.2.1, (x39.2.1.2.2.2.2.2.1, (x39.2.1.2.2.2.2.2.2.1, (x39.2.1.2.2.2.2.2.2.2.1, (x39.2.1.2.2.2.2.2.2.2.2.1, (x39.2.1.2.2.2.2.2.2.2.2.2.1, (x39.2.1.2.2.2.2.2.2.2.2.2.2.1, ()))))))))))), (x39.2.1.2.2.2.2.2.2.2.2.2.2.2.1, ((x39.2.1.2.2.2.2.2.2.2.2.2.2.2.2.1 ++ [m]), ()))), (0 : Int)))
noncomputable def plainGamePosition (g : (ByteArray × Int × Int × (List (Int × Int × Int × (List (Int × Int × Int × Int × Unit)) × Unit)) × (List Int) × Bool × Bool × (List (Int × Int × Int × Bool × Unit)) × Int × Int × Int × Unit) × (List ((List Int) × ((List Int) × (List Int) × Unit) × Int × Int × Unit)) × (List (Int × Int × Int × Unit)) × Unit) : Option ((List Int) × ((List Int) × (List Int) × Unit) × Int × Int × Unit) :=
  Option.bind (at? g.2.1 (w64 (((g.2.1.length : Nat) : Int) - (1 : Int)))) fun d3 =>
  Option.bind (placeCopy d3) fun r4 =>
  some (r4.1, ((r4.2.1.1, (r4.2.1.2.1, ())), r4.2.2))
noncomputable def plainRun_L1 (l : List (Int × Int × Int × Unit)) (x5 : (Int × Unit) × (Unit)) : Option (((Int × Unit) × (Unit)) ⊕ (((Unit) × (Unit)) ⊕ (((List Int) × ((List Int) × (List Int) × Unit) × Int × Int × Unit) × Int × Int × Unit))) :=
  bif (decide (x5.1.1 < ((l.length : Nat) : Int))) then (Option.bind (at? l x5.1.1) fun d6 =>
  none)
  else some (Sum.inr (Sum.inl ((), ())))
noncomputable def plainRun_L2 (l : List (Int × Int × Int × Unit)) (x12 : (Int × Unit) × (((List Int) × (List Int) × (List Int) × Int × Int × Unit) × (ByteArray × Int × Int × (List (Int × Int × Int × (List (Int × Int × Int × Int × Unit)) × Unit)) × (List Int) × Bool × Bool × (List (Int × Int × Int × Bool × Unit)) × Int × Int × Int × (List ((List Int) × ((List Int) × (List Int) × Unit) × Int × Int × Unit)) × (List (Int × Int × Int × Unit)) × Unit) × Unit)) : Option (((Int × Unit) × (((List Int) × (List Int) × (List Int) × Int × Int × Unit) × (ByteArray × Int × Int × (List (Int × Int × Int × (List (Int × Int × Int × Int × Unit)) × Unit)) × (List Int) × Bool × Bool × (List (Int × Int × Int × Bool × Unit)) × Int × Int × Int × (List ((List Int) × ((List Int) × (List Int) × Unit) × Int × Int × Unit)) × (List (Int × Int × Int × Unit)) × Unit) × Unit)) ⊕ (((Unit) × (((List Int) × (List Int) × (List Int) × Int × Int × Unit) × (ByteArray × Int × Int × (List (Int × Int × Int × (List (Int × Int × Int × Int × Unit)) × Unit)) × (List Int) × Bool × Bool × (List (Int × Int × Int × Bool × Unit)) × Int × Int × Int × (List ((List Int) × ((List Int) × (List Int) × Unit) × Int × Int × Unit)) × (List (Int × Int × Int × Unit)) × Unit) × Unit)) ⊕ (((List Int) × ((List Int) × (List Int) × Unit) × Int × Int × Unit) × Int × Int × Unit))) :=
  bif (decide (x12.1.1 < ((l.length : Nat) : Int))) then (Option.bind (at? l x12.1.1) fun d13 =>
  Option.bind (plainGamePlay ((x12.2.2.1.1, (x12.2.2.1.2.1, (x12.2.2.1.2.2.1, (x12.2.2.1.2.2.2.1, (x12.2.2.1.2.2.2.2.1, (x12.2.2.1.2.2.2.2.2.1, (x12.2.2.1.2.2.2.2.2.2.1, (x12.2.2.1.2.2.2.2.2.2.2.1, (x12.2.2.1.2.2.2.2.2.2.2.2.1, (x12.2.2.1.2.2.2.2.2.2.2.2.2.1, (x12.2.2.1.2.2.2.2.2.2.2.2.2.2.1, ()))))))))))), (x12.2.2.1.2.2.2.2.2.2.2.2.2.2.2.1, (x12.2.2.1.2.2.2.2.2.2.2.2.2.2.2.2.1, ()))) d13) fun r14 =>
  bif (r14.2 != (0 : Int)) then some (Sum.inr (Sum.inr ((([] : List Int), ((([] : List Int), (([] : List Int), ())), ((0 : Int), ((0 : Int), ())))), ((0 : Int), (r14.2, ())))))
  else some (Sum.inl (((w64 (x12.1.1 + (1 : Int))), ()), ((x12.2.1.1, (x12.2.1.2.1, (x12.2.1.2.2.1, x12.2.1.2.2.2))), (r14.1.1.1, (r14.1.1.2.1, (r14.1.1.2.2.1, (r14.1.1.2.2.2.1, (r14.1.1.2.2.2.2.1, (r14.1.1.2.2.2.2.2.1, (r14.1.1.2.2.2.2.2.2.1, (r14.1.1.2.2.2.2.2.2.2.1, (r14.1.1.2.2.2.2.2.2.2.2.1, (r14.1.1.2.2.2.2.2.2.2.2.2.1, (r14.1.1.2.2.2.2.2.2.2.2.2.2.1, (r14.1.2.1, (r14.1.2.2.1, ()))))))))))))), ()))))
  else some (Sum.inr (Sum.inl ((), ((x12.2.1.1, (x12.2.1.2.1, (x12.2.1.2.2.1, x12.2.1.2.2.2))), (x12.2.2.1.1, (x12.2.2.1.2.1, (x12.2.2.1.2.2.1, (x12.2.2.1.2.2.2.1, (x12.2.2.1.2.2.2.2.1, (x12.2.2.1.2.2.2.2.2.1, (x12.2.2.1.2.2.2.2.2.2.1, (x12.2.2.1.2.2.2.2.2.2.2.1, (x12.2.2.1.2.2.2.2.2.2.2.2.1, (x12.2.2.1.2.2.2.2.2.2.2.2.2.1, (x12.2.2.1.2.2.2.2.2.2.2.2.2.2.1, (x12.2.2.1.2.2.2.2.2.2.2.2.2.2.2.1, (x12.2.2.1.2.2.2.2.2.2.2.2.2.2.2.2.1, ()))))))))))))), ()))))
noncomputable def plainRun (r : ByteArray × Int × Int × (List (Int × Int × Int × (List (Int × Int × Int × Int × Unit)) × Unit)) × (List Int) × Bool × Bool × (List (Int × Int × Int × Bool × Unit)) × Int × Int × Int × Unit) (l : List (Int × Int × Int × Unit)) : Option (((List Int) × ((List Int) × (List Int) × Unit) × Int × Int × Unit) × Int × Int × Unit) :=
  Option.bind (placeBegin r) fun r4 =>
  bif (r4.2.1 != (0 : Int)) then (bif (r4.2.1 != (0 : Int)) then some ((([] : List Int), ((([] : List Int), (([] : List Int), ())), ((0 : Int), ((0 : Int), ())))), ((0 : Int), r4.2))
  else Option.bind (α := ((Unit) × (Unit)) ⊕ (((List Int) × ((List Int) × (List Int) × Unit) × Int × Int × Unit) × Int × Int × Unit)) (iterW (plainRun_L1 l) (((0 : Int), ()), ())) (Sum.elim (fun x7 =>
  none) some))
  else Option.bind (agree (Option.bind (rulesCopy r) fun r8 =>
  some (((r8, ([(r4.1.1, ((r4.1.2.1.1, (r4.1.2.1.2.1, ())), r4.1.2.2))], (([] : List (Int × Int × Int × Unit)), ()))), (0 : Int), ()), ())) (agree (Option.bind (rulesCopy r) fun r9 =>
  some (((r9, ([(r4.1.1, ((r4.1.2.1.1, (r4.1.2.1.2.1, ())), r4.1.2.2))], (([] : List (Int × Int × Int × Unit)), ()))), (0 : Int), ()), ())) (Option.bind (rulesCopy r) fun r10 =>
  some (((r10, ([(r4.1.1, ((r4.1.2.1.1, (r4.1.2.1.2.1, ())), r4.1.2.2))], (([] : List (Int × Int × Int × Unit)), ()))), (0 : Int), ()), ())))) fun x11 =>
  bif (x11.1.2.1 != (0 : Int)) then some ((([] : List Int), ((([] : List Int), (([] : List Int), ())), ((0 : Int), ((0 : Int), ())))), ((0 : Int), (x11.1.2.1, ())))
  else Option.bind (α := ((Unit) × (((List Int) × (List Int) × (List Int) × Int × Int × Unit) × (ByteArray × Int × Int × (List (Int × Int × Int × (List (Int × Int × Int × Int × Unit)) × Unit)) × (List Int) × Bool × Bool × (List (Int × Int × Int × Bool × Unit)) × Int × Int × Int × (List ((List Int) × ((List Int) × (List Int) × Unit) × Int × Int × Unit)) × (List (Int × Int × Int × Unit)) × Unit) × Unit)) ⊕ (((List Int) × ((List Int) × (List Int) × Unit) × Int × Int × Unit) × Int × Int × Unit)) (iterW (plainRun_L2 l) (((0 : Int), ()), ((([] : List Int), (([] : List Int), (([] : List Int), ((0 : Int), ((0 : Int), ()))))), (x11.1.1.1.1, (x11.1.1.1.2.1, (x11.1.1.1.2.2.1, (x11.1.1.1.2.2.2.1, (x11.1.1.1.2.2.2.2.1, (x11.1.1.1.2.2.2.2.2.1, (x11.1.1.1.2.2.2.2.2.2.1, (x11.1.1.1.2.2.2.2.2.2.2.1, (x11.1.1.1.2.2.2.2.2.2.2.2.1, (x11.1.1.1.2.2.2.2.2.2.2.2.2.1, (x11.1.1.1.2.2.2.2.2.2.2.2.2.2.1, (x11.1.1.2.1, (x11.1.1.2.2.1, ()))))))))))))), ()))) (Sum.elim (fun x15 =>
  Option.bind (plainGamePosition ((x15.2.2.1.1, (x15.2.2.1.2.1, (x15.2.2.1.2.2.1, (x15.2.2.1.2.2.2.1, (x15.2.2.1.2.2.2.2.1, (x15.2.2.1.2.2.2.2.2.1, (x15.2.2.1.2.2.2.2.2.2.1, (x15.2.2.1.2.2.2.2.2.2.2.1, (x15.2.2.1.2.2.2.2.2.2.2.2.1, (x15.2.2.1.2.2.2.2.2.2.2.2.2.1, (x15.2.2.1.2.2.2.2.2.2.2.2.2.2.1, ()))))))))))), (x15.2.2.1.2.2.2.2.2.2.2.2.2.2.2.1, (x15.2.2.1.2.2.2.2.2.2.2.2.2.2.2.2.1, ())))) fun r16 =>
  Option.bind (plainGameResult ((x15.2.2.1.1, (x15.2.2.1.2.1, (x15.2.2.1.2.2.1, (x15.2.2.1.2.2.2.1, (x15.2.2.1.2.2.2.2.1, (x15.2.2.1.2.2.2.2.2.1, (x15.2.2.1.2.2.2.2.2.2.1, (x15.2.2.1.2.2.2.2.2.2.2.1, (x15.2.2.1.2.2.2.2.2.2.2.2.1, (x15.2.2.1.2.2.2.2.2.2.2.2.2.1, (x15.2.2.1.2.2.2.2.2.2.2.2.2.2.1, ()))))))))))), (x15.2.2.1.2.2.2.2.2.2.2.2.2.2.2.1, (x15.2.2.1.2.2.2.2.2.2.2.2.2.2.2.2.1, ())))) fun r17 =>
  some ((r16.1, ((r16.2.1.1, (r16.2.1.2.1, ())), r16.2.2)), (r17, ((0 : Int), ())))) some)
noncomputable def ref3Times_L1 (l : List ((List Int) × ((List Int) × (List Int) × Unit) × Int × Int × Unit)) (x1 : (Int × Int × Unit) × (Unit)) : Option (((Int × Int × Unit) × (Unit)) ⊕ ((Int × Unit) × (Unit))) :=
  bif (decide (x1.1.2.1 < ((l.length : Nat) : Int))) then (Option.bind (at? l x1.1.2.1) fun d2 =>
  Option.bind (at? l (w64 (((l.length : Nat) : Int) - (1 : Int)))) fun d3 =>
  Option.bind (placeSame d2 d3) fun r4 =>
  Option.bind (bif r4 then some (((w64 (x1.1.1 + (1 : Int))), ()), ())
  else some ((x1.1.1, ()), ())) fun x5 =>
  some (Sum.inl ((x5.1.1, (w64 (x1.1.2.1 + (1 : Int))), ()), ())))
  else some (Sum.inr ((x1.1.1, ()), ()))
noncomputable def ref3Times (l : List ((List Int) × ((List Int) × (List Int) × Unit) × Int × Int × Unit)) : Option (Int) :=
  Option.bind (iterW (ref3Times_L1 l) (((0 : Int), (0 : Int), ()), ())) fun x6 =>
  some x6.1.1
noncomputable def ref3Result (r : ByteArray × Int × Int × (List (Int × Int × Int × (List (Int × Int × Int × Int × Unit)) × Unit)) × (List Int) × Bool × Bool × (List (Int × Int × Int × Bool × Unit)) × Int × Int × Int × Unit) (l : List ((List Int) × ((List Int) × (List Int) × Unit) × Int × Int × Unit)) : Option (Int) :=
  Option.bind (at? l (w64 (((l.length : Nat) : Int) - (1 : Int)))) fun d4 =>
  Option.bind (endsOf r d4) fun r5 =>
  Option.bind (gopt (((r5.2.1 == (0 : Int)) && (r5.1 == (0 : Int))) && (decide (r.2.2.2.2.2.2.2.2.2.2.1 > (0 : Int)))) (0 : Int) (ref3Times l)) fun r6 =>
  bif ((((r5.2.1 == (0 : Int)) && (r5.1 == (0 : Int))) && (decide (r.2.2.2.2.2.2.2.2.2.2.1 > (0 : Int)))) && (decide (r6 ≥ r.2.2.2.2.2.2.2.2.2.2.1))) then some (3 : Int)
  else some r5.1
noncomputable def ref3Places_L1 (l : List (Int × Int × Int × Unit)) (r : ByteArray × Int × Int × (List (Int × Int × Int × (List (Int × Int × Int × Int × Unit)) × Unit)) × (List Int) × Bool × Bool × (List (Int × Int × Int × Bool × Unit)) × Int × Int × Int × Unit) (x3 : ((List ((List Int) × ((List Int) × (List Int) × Unit) × Int × Int × Unit)) × Int × Unit) × (Unit)) : Option ((((List ((List Int) × ((List Int) × (List Int) × Unit) × Int × Int × Unit)) × Int × Unit) × (Unit)) ⊕ ((((List ((List Int) × ((List Int) × (List Int) × Unit) × Int × Int × Unit)) × Unit) × (Unit)) ⊕ ((List ((List Int) × ((List Int) × (List Int) × Unit) × Int × Int × Unit)) × Int × Unit))) :=
  bif (decide (x3.1.2.1 < ((l.length : Nat) : Int))) then (Option.bind (at? l x3.1.2.1) fun d4 =>
  Option.bind (ref3Result r x3.1.1) fun r5 =>
  bif (r5 != (0 : Int)) then some (Sum.inr (Sum.inr (([] : List ((List Int) × ((List Int) × (List Int) × Unit) × Int × Int × Unit)), ((14 : Int), ()))))
  else Option.bind (req (inb (w64 (((x3.1.1.length : Nat) : Int) - (1 : Int))) x3.1.1.length) (agree (Option.bind (movesAfter r (getD' x3.1.1 (((w64 (((x3.1.1.length : Nat) : Int) - (1 : Int)))).toNat) ([], (([], ([], ())), ((0 : Int), ((0 : Int), ()))))) d4) fun r6 =>
  some (((r6.1.1, ((r6.1.2.1.1, (r6.1.2.1.2.1, ())), r6.1.2.2)), r6.2.1, ()), ())) (Option.bind (movesAfter r (getD' x3.1.1 (((w64 (((x3.1.1.length : Nat) : Int) - (1 : Int)))).toNat) ([], (([], ([], ())), ((0 : Int), ((0 : Int), ()))))) d4) fun r7 =>
  some (((r7.1.1, ((r7.1.2.1.1, (r7.1.2.1.2.1, ())), r7.1.2.2)), r7.2.1, ()), ())))) fun x8 =>
  bif (x8.1.2.1 != (0 : Int)) then some (Sum.inr (Sum.inr (([] : List ((List Int) × ((List Int) × (List Int) × Unit) × Int × Int × Unit)), ((13 : Int), ()))))
  else bif (decide (((x3.1.1.length : Nat) : Int) > (400 : Int))) then some (Sum.inr (Sum.inr (([] : List ((List Int) × ((List Int) × (List Int) × Unit) × Int × Int × Unit)), ((9 : Int), ()))))
  else req (room (x3.1.1.length + ([(x8.1.1.1, ((x8.1.1.2.1.1, (x8.1.1.2.1.2.1, ())), x8.1.1.2.2))]).length) 88) (some (Sum.inl (((x3.1.1 ++ [(x8.1.1.1, ((x8.1.1.2.1.1, (x8.1.1.2.1.2.1, ())), x8.1.1.2.2))]), (w64 (x3.1.2.1 + (1 : Int))), ()), ()))))
  else some (Sum.inr (Sum.inl ((x3.1.1, ()), ())))
noncomputable def ref3Places (r : ByteArray × Int × Int × (List (Int × Int × Int × (List (Int × Int × Int × Int × Unit)) × Unit)) × (List Int) × Bool × Bool × (List (Int × Int × Int × Bool × Unit)) × Int × Int × Int × Unit) (l : List (Int × Int × Int × Unit)) : Option ((List ((List Int) × ((List Int) × (List Int) × Unit) × Int × Int × Unit)) × Int × Unit) :=
  Option.bind (placeBegin r) fun r2 =>
  bif (r2.2.1 != (0 : Int)) then some (([] : List ((List Int) × ((List Int) × (List Int) × Unit) × Int × Int × Unit)), r2.2)
  else Option.bind (α := (((List ((List Int) × ((List Int) × (List Int) × Unit) × Int × Int × Unit)) × Unit) × (Unit)) ⊕ ((List ((List Int) × ((List Int) × (List Int) × Unit) × Int × Int × Unit)) × Int × Unit)) (iterW (ref3Places_L1 l r) (([(r2.1.1, ((r2.1.2.1.1, (r2.1.2.1.2.1, ())), r2.1.2.2))], (0 : Int), ()), ())) (Sum.elim (fun x9 =>
  some (x9.1.1, ((0 : Int), ()))) some)
noncomputable def ref3SameLine_L1 (a : List (Int × Int × Int × Unit)) (b : List (Int × Int × Int × Unit)) (x1 : (Int × Unit) × (Unit)) : Option (((Int × Unit) × (Unit)) ⊕ (((Unit) × (Unit)) ⊕ Bool)) :=
  bif (decide (x1.1.1 < ((a.length : Nat) : Int))) then (Option.bind (at? a x1.1.1) fun d2 =>
  Option.bind (at? b x1.1.1) fun d3 =>
  bif (!((d2.1 == d3.1) && ((d2.2.1 == d3.2.1) && ((d2.2.2.1 == d3.2.2.1) && true)))) then some (Sum.inr (Sum.inr false))
  else some (Sum.inl (((w64 (x1.1.1 + (1 : Int))), ()), ())))
  else some (Sum.inr (Sum.inl ((), ())))
noncomputable def ref3SameLine (a : List (Int × Int × Int × Unit)) (b : List (Int × Int × Int × Unit)) : Option (Bool) :=
  bif (((a.length : Nat) : Int) != ((b.length : Nat) : Int)) then some false
  else Option.bind (α := ((Unit) × (Unit)) ⊕ Bool) (iterW (ref3SameLine_L1 a b) (((0 : Int), ()), ())) (Sum.elim (fun x4 =>
  some true) some)
noncomputable def law3Tic_o : Option (ByteArray × Int × Int × (List (Int × Int × Int × (List (Int × Int × Int × Int × Unit)) × Unit)) × (List Int) × Bool × Bool × (List (Int × Int × Int × Bool × Unit)) × Int × Int × Int × Unit) :=
  some ((ByteArray.mk #[84, 73, 67]), ((3 : Int), ((3 : Int), ([((83 : Int), ((5 : Int), ((0 : Int), (([] : List (Int × Int × Int × Int × Unit)), ()))))], ((List.replicate 9 (0 : Int)), (false, (false, ([((0 : Int), ((0 : Int), ((3 : Int), (false, ()))))], ((2 : Int), ((0 : Int), ((0 : Int), ())))))))))))
def law3Tic : ByteArray × Int × Int × (List (Int × Int × Int × (List (Int × Int × Int × Int × Unit)) × Unit)) × (List Int) × Bool × Bool × (List (Int × Int × Int × Bool × Unit)) × Int × Int × Int × Unit :=
  ((ByteArray.mk #[84, 73, 67]), ((3 : Int), ((3 : Int), ([((83 : Int), ((5 : Int), ((0 : Int), (([] : List (Int × Int × Int × Int × Unit)), ()))))], ((List.replicate 9 (0 : Int)), (false, (false, ([((0 : Int), ((0 : Int), ((3 : Int), (false, ()))))], ((2 : Int), ((0 : Int), ((0 : Int), ())))))))))))
theorem law3Tic_eq : law3Tic_o = some (law3Tic) := by
  unfold law3Tic_o law3Tic
  first | rfl | simp only [cond_some]
noncomputable def law3Drop_o (to : Int) : Option (Int × Int × Int × Unit) :=
  some ((-1 : Int), (to, ((0 : Int), ())))
def law3Drop (to : Int) : Int × Int × Int × Unit :=
  ((-1 : Int), (to, ((0 : Int), ())))
theorem law3Drop_eq (to : Int) : law3Drop_o to = some (law3Drop to) := by
  unfold law3Drop_o law3Drop
  first | rfl | simp only [cond_some]
noncomputable def law3Great_o (r : ByteArray × Int × Int × (List (Int × Int × Int × (List (Int × Int × Int × Int × Unit)) × Unit)) × (List Int) × Bool × Bool × (List (Int × Int × Int × Bool × Unit)) × Int × Int × Int × Unit) : Option (Bool) :=
  some (decide (((r.2.2.2.2.1.length : Nat) : Int) > (20 : Int)))
def law3Great (r : ByteArray × Int × Int × (List (Int × Int × Int × (List (Int × Int × Int × Int × Unit)) × Unit)) × (List Int) × Bool × Bool × (List (Int × Int × Int × Bool × Unit)) × Int × Int × Int × Unit) : Bool :=
  (decide (((r.2.2.2.2.1.length : Nat) : Int) > (20 : Int)))
theorem law3Great_eq (r : ByteArray × Int × Int × (List (Int × Int × Int × (List (Int × Int × Int × Int × Unit)) × Unit)) × (List Int) × Bool × Bool × (List (Int × Int × Int × Bool × Unit)) × Int × Int × Int × Unit) : law3Great_o r = some (law3Great r) := by
  unfold law3Great_o law3Great
  first | rfl | simp only [cond_some]
noncomputable def law3Cut (l : List (Int × Int × Int × Unit)) : Option (List (Int × Int × Int × Unit)) :=
  req (boundsI (0 : Int) (if (40 : Int) < ((l.length : Nat) : Int) then (40 : Int) else ((l.length : Nat) : Int)) l.length) (some ((l.take ((if (40 : Int) < ((l.length : Nat) : Int) then (40 : Int) else ((l.length : Nat) : Int))).toNat).drop 0))
end Go.Proofs.YtfppnefcicdnfaaGreat
namespace Go.Proofs.YtfppnefcicdnfaaGreat
open Go.Den
set_option linter.unusedVariables false
set_option maxRecDepth 100000
noncomputable def cmpIsNaN_uint64_o (x : Int) : Option (Bool) :=
  some (x != x)
def cmpIsNaN_uint64 (x : Int) : Bool :=
  (x != x)
theorem cmpIsNaN_uint64_eq (x : Int) : cmpIsNaN_uint64_o x = some (cmpIsNaN_uint64 x) := by
  unfold cmpIsNaN_uint64_o cmpIsNaN_uint64
  first | rfl | simp only [cond_some]
noncomputable def cmpCompare_uint64_o (x : Int) (y : Int) : Option (Int) :=
  bif (cmpIsNaN_uint64 x) then (bif (cmpIsNaN_uint64 y) then some (0 : Int)
  else some (-1 : Int))
  else bif (cmpIsNaN_uint64 y) then some (1 : Int)
  else bif (decide (x < y)) then some (-1 : Int)
  else bif (decide (x > y)) then some (1 : Int)
  else some (0 : Int)
def cmpCompare_uint64 (x : Int) (y : Int) : Int :=
  bif (cmpIsNaN_uint64 x) then (bif (cmpIsNaN_uint64 y) then (0 : Int)
  else (-1 : Int))
  else bif (cmpIsNaN_uint64 y) then (1 : Int)
  else bif (decide (x < y)) then (-1 : Int)
  else bif (decide (x > y)) then (1 : Int)
  else (0 : Int)
theorem cmpCompare_uint64_eq (x : Int) (y : Int) : cmpCompare_uint64_o x y = some (cmpCompare_uint64 x y) := by
  unfold cmpCompare_uint64_o cmpCompare_uint64
  first | rfl | simp only [cond_some]
noncomputable def bookOrder (a : Int × (Int × Int × Int × Unit) × Int × Unit) (b : Int × (Int × Int × Int × Unit) × Int × Unit) : Option (Int) :=
  Option.bind (cmpOr_int ([(cmpCompare_uint64 a.1 b.1), (cmpCompare_int a.2.1.1 b.2.1.1), (cmpCompare_int a.2.1.2.1 b.2.1.2.1), (cmpCompare_int a.2.1.2.2.1 b.2.1.2.2.1)])) fun r2 =>
  some r2
noncomputable def bookCheck_L1 (b : List (Int × (Int × Int × Int × Unit) × Int × Unit)) (x1 : (Int × Unit) × (Unit)) : Option (((Int × Unit) × (Unit)) ⊕ (((Unit) × (Unit)) ⊕ Int)) :=
  bif (decide (x1.1.1 < ((b.length : Nat) : Int))) then (Option.bind (at? b x1.1.1) fun d2 =>
  bif ((decide (d2.2.2.1 < (1 : Int))) || (decide (d2.2.2.1 > (1000000 : Int)))) then some (Sum.inr (Sum.inr (4 : Int)))
  else Option.bind (gat (decide (x1.1.1 > (0 : Int))) ((0 : Int), (((0 : Int), ((0 : Int), ((0 : Int), ()))), ((0 : Int), ()))) b (w64 (x1.1.1 - (1 : Int)))) fun d3 =>
  Option.bind (gopt (decide (x1.1.1 > (0 : Int))) (0 : Int) (bookOrder d3 d2)) fun r4 =>
  bif ((decide (x1.1.1 > (0 : Int))) && (decide (r4 ≥ (0 : Int)))) then some (Sum.inr (Sum.inr (3 : Int)))
  else some (Sum.inl (((w64 (x1.1.1 + (1 : Int))), ()), ())))
  else some (Sum.inr (Sum.inl ((), ())))
noncomputable def bookCheck (b : List (Int × (Int × Int × Int × Unit) × Int × Unit)) : Option (Int) :=
  bif (decide (((b.length : Nat) : Int) > (1000 : Int))) then some (2 : Int)
  else Option.bind (α := ((Unit) × (Unit)) ⊕ Int) (iterW (bookCheck_L1 b) (((0 : Int), ()), ())) (Sum.elim (fun x5 =>
  some (0 : Int)) some)
noncomputable def slicesClone_BookEntry (s : List (Int × (Int × Int × Int × Unit) × Int × Unit)) : Option (List (Int × (Int × Int × Int × Unit) × Int × Unit)) :=
  bif (s.isEmpty) then (agree (some ([] : List (Int × (Int × Int × Int × Unit) × Int × Unit))) (req (room (([] : List (Int × (Int × Int × Int × Unit) × Int × Unit)).length + s.length) 40) (some (([] : List (Int × (Int × Int × Int × Unit) × Int × Unit)) ++ s))))
  else req (room (([] : List (Int × (Int × Int × Int × Unit) × Int × Unit)).length + s.length) 40) (some (([] : List (Int × (Int × Int × Int × Unit) × Int × Unit)) ++ s))
noncomputable def bookFull_o (b : List (Int × (Int × Int × Int × Unit) × Int × Unit)) : Option ((List (Int × (Int × Int × Int × Unit) × Int × Unit)) × Int × Unit) :=
  bif (decide (((b.length : Nat) : Int) > (1000 : Int))) then some (([] : List (Int × (Int × Int × Int × Unit) × Int × Unit)), ((9 : Int), ()))
  else some (b, ((0 : Int), ()))
def bookFull (b : List (Int × (Int × Int × Int × Unit) × Int × Unit)) : (List (Int × (Int × Int × Int × Unit) × Int × Unit)) × Int × Unit :=
  bif (decide (((b.length : Nat) : Int) > (1000 : Int))) then (([] : List (Int × (Int × Int × Int × Unit) × Int × Unit)), ((9 : Int), ()))
  else (b, ((0 : Int), ()))
theorem bookFull_eq (b : List (Int × (Int × Int × Int × Unit) × Int × Unit)) : bookFull_o b = some (bookFull b) := by
  unfold bookFull_o bookFull
  first | rfl | simp only [cond_some]
noncomputable def bookAdd_L2 (x10 : ((List (Int × (Int × Int × Int × Unit) × Int × Unit)) × Int × Unit) × (((List Int) × (List Int) × (List Int) × Int × Int × Unit) × Unit)) (r12 : Int) (d11 : Int × Int × Int × Unit) (weight : Int) (x13 : (Int × Int × Unit) × (Unit)) : Option (((Int × Int × Unit) × (Unit)) ⊕ ((Int × Unit) × (Unit))) :=
  bif (decide (x13.1.1 < x13.1.2.1)) then (req (inb (w64 (shK .shr .u64 (wu64 (w64 (x13.1.1 + x13.1.2.1))) (1 : Int))) x10.1.1.length) (Option.bind (bookOrder (getD' x10.1.1 (((w64 (shK .shr .u64 (wu64 (w64 (x13.1.1 + x13.1.2.1))) (1 : Int)))).toNat) ((0 : Int), (((0 : Int), ((0 : Int), ((0 : Int), ()))), ((0 : Int), ())))) (r12, (d11, (weight, ())))) fun r14 =>
  Option.bind (bif (decide (r14 < (0 : Int))) then some (((w64 ((w64 (shK .shr .u64 (wu64 (w64 (x13.1.1 + x13.1.2.1))) (1 : Int))) + (1 : Int))), x13.1.2.1, ()), ())
  else some ((x13.1.1, (w64 (shK .shr .u64 (wu64 (w64 (x13.1.1 + x13.1.2.1))) (1 : Int))), ()), ())) fun x15 =>
  some (Sum.inl ((x15.1.1, x15.1.2.1, ()), ()))))
  else some (Sum.inr ((x13.1.1, ()), ()))
noncomputable def bookAdd_L1 (game : List (Int × Int × Int × Unit)) (plies : Int) (weight : Int) (r : ByteArray × Int × Int × (List (Int × Int × Int × (List (Int × Int × Int × Int × Unit)) × Unit)) × (List Int) × Bool × Bool × (List (Int × Int × Int × Bool × Unit)) × Int × Int × Int × Unit) (x10 : ((List (Int × (Int × Int × Int × Unit) × Int × Unit)) × Int × Unit) × (((List Int) × (List Int) × (List Int) × Int × Int × Unit) × Unit)) : Option ((((List (Int × (Int × Int × Int × Unit) × Int × Unit)) × Int × Unit) × (((List Int) × (List Int) × (List Int) × Int × Int × Unit) × Unit)) ⊕ (((List (Int × (Int × Int × Int × Unit) × Int × Unit)) × Unit) × (((List Int) × (List Int) × (List Int) × Int × Int × Unit) × Unit))) :=
  bif (decide (x10.1.2.1 < ((((game.take ((if ((game.length : Nat) : Int) < plies then ((game.length : Nat) : Int) else plies)).toNat).drop 0).length : Nat) : Int))) then (Option.bind (at? ((game.take ((if ((game.length : Nat) : Int) < plies then ((game.length : Nat) : Int) else plies)).toNat).drop 0) x10.1.2.1) fun d11 =>
  Option.bind (Option.bind (zobOf (x10.2.1.1, ((x10.2.1.2.1, (x10.2.1.2.2.1, ())), x10.2.1.2.2.2))) fun r12 =>
  Option.bind (iterW (bookAdd_L2 x10 r12 d11 weight) (((0 : Int), ((x10.1.1.length : Nat) : Int), ()), ())) fun x16 =>
  Option.bind (req (imp (decide (x16.1.1 < ((x10.1.1.length : Nat) : Int))) (inb x16.1.1 x10.1.1.length)) (bif (decide (x16.1.1 < ((x10.1.1.length : Nat) : Int))) then (Option.bind (bookOrder (getD' x10.1.1 ((x16.1.1).toNat) ((0 : Int), (((0 : Int), ((0 : Int), ((0 : Int), ()))), ((0 : Int), ())))) (r12, (d11, (weight, ())))) fun r17 =>
  some ((x16.1.1, (r17 == (0 : Int)), ()), ()))
  else some ((x16.1.1, false, ()), ()))) fun x18 =>
  bif (!x18.1.2.1) then req (decide (0 ≤ x18.1.1) && (decide (x18.1.1 ≤ ((x10.1.1.length : Nat) : Int)) && (Nat.blt 0 ([(r12, (d11, (weight, ())))]).length && room (x10.1.1.length + ([(r12, (d11, (weight, ())))]).length) 40))) (some (((x10.1.1.take (x18.1.1).toNat ++ ([(r12, (d11, (weight, ())))] ++ x10.1.1.drop (x18.1.1).toNat)), ()), ()))
  else req (inb x18.1.1 x10.1.1.length) (req (inb x18.1.1 x10.1.1.length) (some (((x10.1.1.set ((x18.1.1).toNat) ((getD' x10.1.1 ((x18.1.1).toNat) ((0 : Int), (((0 : Int), ((0 : Int), ((0 : Int), ()))), ((0 : Int), ())))).1, (((((getD' x10.1.1 ((x18.1.1).toNat) ((0 : Int), (((0 : Int), ((0 : Int), ((0 : Int), ()))), ((0 : Int), ())))).2).1).1, (((((getD' x10.1.1 ((x18.1.1).toNat) ((0 : Int), (((0 : Int), ((0 : Int), ((0 : Int), ()))), ((0 : Int), ())))).2).1).2).1, ((((((getD' x10.1.1 ((x18.1.1).toNat) ((0 : Int), (((0 : Int), ((0 : Int), ((0 : Int), ()))), ((0 : Int), ())))).2).1).2).2).1, ()))), ((if (1000000 : Int) < (w64 ((((getD' x10.1.1 ((x18.1.1).toNat) ((0 : Int), (((0 : Int), ((0 : Int), ((0 : Int), ()))), ((0 : Int), ())))).2).2).1 + weight)) then (1000000 : Int) else (w64 ((((getD' x10.1.1 ((x18.1.1).toNat) ((0 : Int), (((0 : Int), ((0 : Int), ((0 : Int), ()))), ((0 : Int), ())))).2).2).1 + weight))), ())))), ()), ())))) fun x19 =>
  Option.bind (movesMake r (x10.2.1.1, ((x10.2.1.2.1, (x10.2.1.2.2.1, ())), x10.2.1.2.2.2)) d11) fun r20 =>
  some (Sum.inl ((x19.1.1, (w64 (x10.1.2.1 + (1 : Int))), ()), ((r20.1, (r20.2.1.1, (r20.2.1.2.1, r20.2.2))), ()))))
  else some (Sum.inr ((x10.1.1, ()), ((x10.2.1.1, (x10.2.1.2.1, (x10.2.1.2.2.1, x10.2.1.2.2.2))), ())))
noncomputable def bookAdd (r : ByteArray × Int × Int × (List (Int × Int × Int × (List (Int × Int × Int × Int × Unit)) × Unit)) × (List Int) × Bool × Bool × (List (Int × Int × Int × Bool × Unit)) × Int × Int × Int × Unit) (b : List (Int × (Int × Int × Int × Unit) × Int × Unit)) (game : List (Int × Int × Int × Unit)) (plies : Int) (weight : Int) : Option ((List (Int × (Int × Int × Int × Unit) × Int × Unit)) × Int × Unit) :=
  Option.bind (bookCheck b) fun r6 =>
  bif (r6 != (0 : Int)) then some (([] : List (Int × (Int × Int × Int × Unit) × Int × Unit)), (r6, ()))
  else Option.bind (plainRun r game) fun r7 =>
  bif (r7.2.2.1 != (0 : Int)) then some (([] : List (Int × (Int × Int × Int × Unit) × Int × Unit)), r7.2.2)
  else bif (((decide (plies < (0 : Int))) || (decide (weight < (1 : Int)))) || (decide (weight > (1000000 : Int)))) then some (([] : List (Int × (Int × Int × Int × Unit) × Int × Unit)), ((4 : Int), ()))
  else Option.bind (slicesClone_BookEntry b) fun r8 =>
  Option.bind (placeBegin r) fun r9 =>
  req (boundsI (0 : Int) (if ((game.length : Nat) : Int) < plies then ((game.length : Nat) : Int) else plies) game.length) (Option.bind (iterW (bookAdd_L1 game plies weight r) ((r8, (0 : Int), ()), ((r9.1.1, (r9.1.2.1.1, (r9.1.2.1.2.1, r9.1.2.2))), ()))) fun x21 =>
  Option.bind (bookFull_o x21.1.1) fun r22 =>
  some r22)
noncomputable def law3Books : Option (Bool) :=
  Option.bind (bookAdd ((law3Tic).1, (((law3Tic).2).1, ((((law3Tic).2).2).1, (((((law3Tic).2).2).2).1, ((((((law3Tic).2).2).2).2).1, (((((((law3Tic).2).2).2).2).2).1, ((((((((law3Tic).2).2).2).2).2).2).1, (((((((((law3Tic).2).2).2).2).2).2).2).1, ((((((((((law3Tic).2).2).2).2).2).2).2).2).1, (((((((((((law3Tic).2).2).2).2).2).2).2).2).2).1, ((((((((((((law3Tic).2).2).2).2).2).2).2).2).2).2).1, ()))))))))))) ([] : List (Int × (Int × Int × Int × Unit) × Int × Unit)) ([(law3Drop (4 : Int))]) (1 : Int) (7 : Int)) fun r3 =>
  Option.bind (gat ((r3.2.1 == (0 : Int)) && (((r3.1.length : Nat) : Int) == (1 : Int))) ((0 : Int), (((0 : Int), ((0 : Int), ((0 : Int), ()))), ((0 : Int), ()))) r3.1 (0 : Int)) fun d4 =>
  some (((r3.2.1 == (0 : Int)) && (((r3.1.length : Nat) : Int) == (1 : Int))) && (d4.2.2.1 == (7 : Int)))
end Go.Proofs.YtfppnefcicdnfaaGreat
namespace Go.Proofs.YtfppnefcicdnfaaGreat
open Go.Den
set_option linter.unusedVariables false
set_option maxRecDepth 100000
noncomputable def bookCover_L2 (b : List (Int × (Int × Int × Int × Unit) × Int × Unit)) (r9 : Int) (d8 : Int × Int × Int × Unit) (x10 : (Int × Int × Unit) × (Unit)) : Option (((Int × Int × Unit) × (Unit)) ⊕ ((Int × Unit) × (Unit))) :=
  bif (decide (x10.1.1 < x10.1.2.1)) then (Option.bind (at? b (w64 (shK .shr .u64 (wu64 (w64 (x10.1.1 + x10.1.2.1))) (1 : Int)))) fun d11 =>
  Option.bind (bookOrder d11 (r9, (d8, ((0 : Int), ())))) fun r12 =>
  Option.bind (bif (decide (r12 < (0 : Int))) then some (((w64 ((w64 (shK .shr .u64 (wu64 (w64 (x10.1.1 + x10.1.2.1))) (1 : Int))) + (1 : Int))), x10.1.2.1, ()), ())
  else some ((x10.1.1, (w64 (shK .shr .u64 (wu64 (w64 (x10.1.1 + x10.1.2.1))) (1 : Int))), ()), ())) fun x13 =>
  some (Sum.inl ((x13.1.1, x13.1.2.1, ()), ())))
  else some (Sum.inr ((x10.1.1, ()), ()))
noncomputable def bookCover_L1 (game : List (Int × Int × Int × Unit)) (b : List (Int × (Int × Int × Int × Unit) × Int × Unit)) (r : ByteArray × Int × Int × (List (Int × Int × Int × (List (Int × Int × Int × Int × Unit)) × Unit)) × (List Int) × Bool × Bool × (List (Int × Int × Int × Bool × Unit)) × Int × Int × Int × Unit) (x7 : (Int × Unit) × (((List Int) × (List Int) × (List Int) × Int × Int × Unit) × Unit)) : Option (((Int × Unit) × (((List Int) × (List Int) × (List Int) × Int × Int × Unit) × Unit)) ⊕ (((Unit) × (((List Int) × (List Int) × (List Int) × Int × Int × Unit) × Unit)) ⊕ (Int × Int × Unit))) :=
  bif (decide (x7.1.1 < ((game.length : Nat) : Int))) then (Option.bind (at? game x7.1.1) fun d8 =>
  Option.bind (agree (Option.bind (zobOf (x7.2.1.1, ((x7.2.1.2.1, (x7.2.1.2.2.1, ())), x7.2.1.2.2.2))) fun r9 =>
  Option.bind (iterW (bookCover_L2 b r9 d8) (((0 : Int), ((b.length : Nat) : Int), ()), ())) fun x14 =>
  Option.bind (Option.bind (gat (decide (x14.1.1 < ((b.length : Nat) : Int))) ((0 : Int), (((0 : Int), ((0 : Int), ((0 : Int), ()))), ((0 : Int), ()))) b x14.1.1) fun d15 =>
  bif (decide (x14.1.1 < ((b.length : Nat) : Int))) then (Option.bind (bookOrder d15 (r9, (d8, ((0 : Int), ())))) fun r16 =>
  some ((x14.1.1, (r16 == (0 : Int)), ()), ()))
  else some ((x14.1.1, false, ()), ())) fun x17 =>
  some ((x17.1.2.1, ()), ())) (Option.bind (zobOf (x7.2.1.1, ((x7.2.1.2.1, (x7.2.1.2.2.1, ())), x7.2.1.2.2.2))) fun r18 =>
  Option.bind (iterW (bookCover_L2 b r18 d8) (((0 : Int), ((b.length : Nat) : Int), ()), ())) fun x23 =>
  Option.bind (Option.bind (gat (decide (x23.1.1 < ((b.length : Nat) : Int))) ((0 : Int), (((0 : Int), ((0 : Int), ((0 : Int), ()))), ((0 : Int), ()))) b x23.1.1) fun d24 =>
  bif (decide (x23.1.1 < ((b.length : Nat) : Int))) then (Option.bind (bookOrder d24 (r18, (d8, ((0 : Int), ())))) fun r25 =>
  some ((x23.1.1, (r25 == (0 : Int)), ()), ()))
  else some ((x23.1.1, false, ()), ())) fun x26 =>
  some ((x26.1.2.1, ()), ()))) fun x27 =>
  bif (!x27.1.1) then some (Sum.inr (Sum.inr (x7.1.1, ((0 : Int), ()))))
  else Option.bind (movesMake r (x7.2.1.1, ((x7.2.1.2.1, (x7.2.1.2.2.1, ())), x7.2.1.2.2.2)) d8) fun r28 =>
  some (Sum.inl (((w64 (x7.1.1 + (1 : Int))), ()), ((r28.1, (r28.2.1.1, (r28.2.1.2.1, r28.2.2))), ()))))
  else some (Sum.inr (Sum.inl ((), ((x7.2.1.1, (x7.2.1.2.1, (x7.2.1.2.2.1, x7.2.1.2.2.2))), ()))))
noncomputable def bookCover (r : ByteArray × Int × Int × (List (Int × Int × Int × (List (Int × Int × Int × Int × Unit)) × Unit)) × (List Int) × Bool × Bool × (List (Int × Int × Int × Bool × Unit)) × Int × Int × Int × Unit) (b : List (Int × (Int × Int × Int × Unit) × Int × Unit)) (game : List (Int × Int × Int × Unit)) : Option (Int × Int × Unit) :=
  Option.bind (bookCheck b) fun r4 =>
  bif (r4 != (0 : Int)) then some ((0 : Int), (r4, ()))
  else Option.bind (plainRun r game) fun r5 =>
  bif (r5.2.2.1 != (0 : Int)) then some ((0 : Int), r5.2.2)
  else Option.bind (placeBegin r) fun r6 =>
  Option.bind (α := ((Unit) × (((List Int) × (List Int) × (List Int) × Int × Int × Unit) × Unit)) ⊕ (Int × Int × Unit)) (iterW (bookCover_L1 game b r) (((0 : Int), ()), ((r6.1.1, (r6.1.2.1.1, (r6.1.2.1.2.1, r6.1.2.2))), ()))) (Sum.elim (fun x29 =>
  some (((game.length : Nat) : Int), ((0 : Int), ()))) some)
noncomputable def law3Key (r : ByteArray × Int × Int × (List (Int × Int × Int × (List (Int × Int × Int × Int × Unit)) × Unit)) × (List Int) × Bool × Bool × (List (Int × Int × Int × Bool × Unit)) × Int × Int × Int × Unit) (p : (List Int) × ((List Int) × (List Int) × Unit) × Int × Int × Unit) : Option (Int) :=
  Option.bind (zobKey r p) fun r2 =>
  some r2.1
noncomputable def law3InBook_L1 (n : Int) (p : List ((List Int) × ((List Int) × (List Int) × Unit) × Int × Int × Unit)) (r : ByteArray × Int × Int × (List (Int × Int × Int × (List (Int × Int × Int × Int × Unit)) × Unit)) × (List Int) × Bool × Bool × (List (Int × Int × Int × Bool × Unit)) × Int × Int × Int × Unit) (q : (List Int) × ((List Int) × (List Int) × Unit) × Int × Int × Unit) (l : List (Int × Int × Int × Unit)) (m : Int × Int × Int × Unit) (x1 : (Int × Unit) × (Unit)) : Option (((Int × Unit) × (Unit)) ⊕ (((Unit) × (Unit)) ⊕ Bool)) :=
  bif (decide (x1.1.1 < n)) then (Option.bind (at? p x1.1.1) fun d2 =>
  Option.bind (law3Key r d2) fun r3 =>
  Option.bind (law3Key r q) fun r4 =>
  Option.bind (gat (r3 == r4) ((0 : Int), ((0 : Int), ((0 : Int), ()))) l x1.1.1) fun d5 =>
  bif ((r3 == r4) && ((d5.1 == m.1) && ((d5.2.1 == m.2.1) && ((d5.2.2.1 == m.2.2.1) && true)))) then some (Sum.inr (Sum.inr true))
  else some (Sum.inl (((w64 (x1.1.1 + (1 : Int))), ()), ())))
  else some (Sum.inr (Sum.inl ((), ())))
noncomputable def law3InBook (r : ByteArray × Int × Int × (List (Int × Int × Int × (List (Int × Int × Int × Int × Unit)) × Unit)) × (List Int) × Bool × Bool × (List (Int × Int × Int × Bool × Unit)) × Int × Int × Int × Unit) (p : List ((List Int) × ((List Int) × (List Int) × Unit) × Int × Int × Unit)) (l : List (Int × Int × Int × Unit)) (n : Int) (q : (List Int) × ((List Int) × (List Int) × Unit) × Int × Int × Unit) (m : Int × Int × Int × Unit) : Option (Bool) :=
  Option.bind (α := ((Unit) × (Unit)) ⊕ Bool) (iterW (law3InBook_L1 n p r q l m) (((0 : Int), ()), ())) (Sum.elim (fun x6 =>
  some false) some)
noncomputable def bookList_L1 (b : List (Int × (Int × Int × Int × Unit) × Int × Unit)) (r3 : Int) (r4 : List (Int × Int × Int × Unit)) (x5 : ((List (Int × (Int × Int × Int × Unit) × Int × Unit)) × Int × Unit) × (Unit)) : Option ((((List (Int × (Int × Int × Int × Unit) × Int × Unit)) × Int × Unit) × (Unit)) ⊕ (((List (Int × (Int × Int × Int × Unit) × Int × Unit)) × Unit) × (Unit))) :=
  bif (decide (x5.1.2.1 < ((b.length : Nat) : Int))) then (Option.bind (at? b x5.1.2.1) fun d6 =>
  Option.bind (gopt (d6.1 == r3) false (slicesContains_Move r4 d6.2.1)) fun r7 =>
  Option.bind (bif ((d6.1 == r3) && r7) then req (room (x5.1.1.length + ([d6]).length) 40) (some (((x5.1.1 ++ [d6]), ()), ()))
  else some ((x5.1.1, ()), ())) fun x8 =>
  some (Sum.inl ((x8.1.1, (w64 (x5.1.2.1 + (1 : Int))), ()), ())))
  else some (Sum.inr ((x5.1.1, ()), ()))
noncomputable def bookList (r : ByteArray × Int × Int × (List (Int × Int × Int × (List (Int × Int × Int × Int × Unit)) × Unit)) × (List Int) × Bool × Bool × (List (Int × Int × Int × Bool × Unit)) × Int × Int × Int × Unit) (b : List (Int × (Int × Int × Int × Unit) × Int × Unit)) (p : (List Int) × ((List Int) × (List Int) × Unit) × Int × Int × Unit) : Option (List (Int × (Int × Int × Int × Unit) × Int × Unit)) :=
  Option.bind (zobOf p) fun r3 =>
  Option.bind (movesList r p) fun r4 =>
  Option.bind (iterW (bookList_L1 b r3 r4) ((([] : List (Int × (Int × Int × Int × Unit) × Int × Unit)), (0 : Int), ()), ())) fun x9 =>
  some x9.1.1
noncomputable def bookMoves (r : ByteArray × Int × Int × (List (Int × Int × Int × (List (Int × Int × Int × Int × Unit)) × Unit)) × (List Int) × Bool × Bool × (List (Int × Int × Int × Bool × Unit)) × Int × Int × Int × Unit) (b : List (Int × (Int × Int × Int × Unit) × Int × Unit)) (p : (List Int) × ((List Int) × (List Int) × Unit) × Int × Int × Unit) : Option ((List (Int × (Int × Int × Int × Unit) × Int × Unit)) × Int × Unit) :=
  Option.bind (bookCheck b) fun r4 =>
  bif (r4 != (0 : Int)) then some (([] : List (Int × (Int × Int × Int × Unit) × Int × Unit)), (r4, ()))
  else Option.bind (zobKey r p) fun r5 =>
  bif (r5.2.1 != (0 : Int)) then some (([] : List (Int × (Int × Int × Int × Unit) × Int × Unit)), r5.2)
  else Option.bind (bookList r b p) fun r6 =>
  some (r6, ((0 : Int), ()))
noncomputable def bookChoose_L1 (r2 : (List (Int × (Int × Int × Int × Unit) × Int × Unit)) × Int × Unit) (x3 : (Int × Int × Unit) × (Unit)) : Option (((Int × Int × Unit) × (Unit)) ⊕ ((Int × Unit) × (Unit))) :=
  bif (decide (x3.1.2.1 < ((r2.1.length : Nat) : Int))) then req (inb x3.1.2.1 r2.1.length) (some (Sum.inl (((w64 (x3.1.1 + (((getD' r2.1 ((x3.1.2.1).toNat) ((0 : Int), (((0 : Int), ((0 : Int), ((0 : Int), ()))), ((0 : Int), ())))).2).2).1)), (w64 (x3.1.2.1 + (1 : Int))), ()), ())))
  else some (Sum.inr ((x3.1.1, ()), ()))
noncomputable def bookChoose_L2 (r2 : (List (Int × (Int × Int × Int × Unit) × Int × Unit)) × Int × Unit) (x5 : (Int × Int × Unit) × ((Int × Int × Int × Unit) × Unit)) : Option (((Int × Int × Unit) × ((Int × Int × Int × Unit) × Unit)) ⊕ (((Unit) × ((Int × Int × Int × Unit) × Unit)) ⊕ ((Int × Int × Int × Unit) × Int × Unit))) :=
  bif (decide (x5.1.2.1 < ((r2.1.length : Nat) : Int))) then (req (inb x5.1.2.1 r2.1.length) (bif (decide ((w64 (x5.1.1 - (((getD' r2.1 ((x5.1.2.1).toNat) ((0 : Int), (((0 : Int), ((0 : Int), ((0 : Int), ()))), ((0 : Int), ())))).2).2).1)) < (0 : Int))) then some (Sum.inr (Sum.inr (((((getD' r2.1 ((x5.1.2.1).toNat) ((0 : Int), (((0 : Int), ((0 : Int), ((0 : Int), ()))), ((0 : Int), ())))).2).1).1, (((((getD' r2.1 ((x5.1.2.1).toNat) ((0 : Int), (((0 : Int), ((0 : Int), ((0 : Int), ()))), ((0 : Int), ())))).2).1).2).1, ((((((getD' r2.1 ((x5.1.2.1).toNat) ((0 : Int), (((0 : Int), ((0 : Int), ((0 : Int), ()))), ((0 : Int), ())))).2).1).2).2).1, ()))), ((0 : Int), ()))))
  else some (Sum.inl (((w64 (x5.1.1 - (((getD' r2.1 ((x5.1.2.1).toNat) ((0 : Int), (((0 : Int), ((0 : Int), ((0 : Int), ()))), ((0 : Int), ())))).2).2).1)), (w64 (x5.1.2.1 + (1 : Int))), ()), (x5.2.1, ())))))
  else some (Sum.inr (Sum.inl ((), (x5.2.1, ()))))
noncomputable def bookChoose (r : ByteArray × Int × Int × (List (Int × Int × Int × (List (Int × Int × Int × Int × Unit)) × Unit)) × (List Int) × Bool × Bool × (List (Int × Int × Int × Bool × Unit)) × Int × Int × Int × Unit) (b : List (Int × (Int × Int × Int × Unit) × Int × Unit)) (p : (List Int) × ((List Int) × (List Int) × Unit) × Int × Int × Unit) (draw : Int) : Option ((Int × Int × Int × Unit) × Int × Unit) :=
  Option.bind (bookMoves r b p) fun r2 =>
  bif (r2.2.1 != (0 : Int)) then some (((0 : Int), ((0 : Int), ((0 : Int), ()))), r2.2)
  else bif (decide (draw < (0 : Int))) then some (((0 : Int), ((0 : Int), ((0 : Int), ()))), ((1 : Int), ()))
  else bif (((r2.1.length : Nat) : Int) == (0 : Int)) then some (((0 : Int), ((0 : Int), ((0 : Int), ()))), ((8 : Int), ()))
  else Option.bind (iterW (bookChoose_L1 r2) (((0 : Int), (0 : Int), ()), ())) fun x4 =>
  req (x4.1.1 != 0) (Option.bind (α := ((Unit) × ((Int × Int × Int × Unit) × Unit)) ⊕ ((Int × Int × Int × Unit) × Int × Unit)) (iterW (bookChoose_L2 r2) (((draw.tmod x4.1.1), (0 : Int), ()), (((0 : Int), ((0 : Int), ((0 : Int), ()))), ()))) (Sum.elim (fun x6 =>
  some (((0 : Int), ((0 : Int), ((0 : Int), ()))), ((8 : Int), ()))) some))
noncomputable def law3InPlace_L1 (r2 : (List (Int × Int × Int × Unit)) × Int × Unit) (r : ByteArray × Int × Int × (List (Int × Int × Int × (List (Int × Int × Int × Int × Unit)) × Unit)) × (List Int) × Bool × Bool × (List (Int × Int × Int × Bool × Unit)) × Int × Int × Int × Unit) (p : List ((List Int) × ((List Int) × (List Int) × Unit) × Int × Int × Unit)) (l : List (Int × Int × Int × Unit)) (n : Int) (q : (List Int) × ((List Int) × (List Int) × Unit) × Int × Int × Unit) (x3 : (Int × Int × Unit) × (Unit)) : Option (((Int × Int × Unit) × (Unit)) ⊕ ((Int × Unit) × (Unit))) :=
  bif (decide (x3.1.2.1 < ((r2.1.length : Nat) : Int))) then (req (inb x3.1.2.1 r2.1.length) (Option.bind (law3InBook r p l n q (getD' r2.1 ((x3.1.2.1).toNat) ((0 : Int), ((0 : Int), ((0 : Int), ()))))) fun r4 =>
  Option.bind (bif r4 then some (((w64 (x3.1.1 + (1 : Int))), ()), ())
  else some ((x3.1.1, ()), ())) fun x5 =>
  some (Sum.inl ((x5.1.1, (w64 (x3.1.2.1 + (1 : Int))), ()), ()))))
  else some (Sum.inr ((x3.1.1, ()), ()))
noncomputable def law3InPlace (r : ByteArray × Int × Int × (List (Int × Int × Int × (List (Int × Int × Int × Int × Unit)) × Unit)) × (List Int) × Bool × Bool × (List (Int × Int × Int × Bool × Unit)) × Int × Int × Int × Unit) (p : List ((List Int) × ((List Int) × (List Int) × Unit) × Int × Int × Unit)) (l : List (Int × Int × Int × Unit)) (n : Int) (q : (List Int) × ((List Int) × (List Int) × Unit) × Int × Int × Unit) : Option (Int) :=
  Option.bind (movesAll r q) fun r2 =>
  Option.bind (iterW (law3InPlace_L1 r2 r p l n q) (((0 : Int), (0 : Int), ()), ())) fun x6 =>
  some x6.1.1
noncomputable def law3BookMoves_L1 (r13 : List (Int × Int × Int × Unit)) (r17 : (List ((List Int) × ((List Int) × (List Int) × Unit) × Int × Int × Unit)) × Int × Unit) (r : ByteArray × Int × Int × (List (Int × Int × Int × (List (Int × Int × Int × Int × Unit)) × Unit)) × (List Int) × Bool × Bool × (List (Int × Int × Int × Bool × Unit)) × Int × Int × Int × Unit) (r15 : (List ((List Int) × ((List Int) × (List Int) × Unit) × Int × Int × Unit)) × Int × Unit) (r12 : List (Int × Int × Int × Unit)) (plies : Int) (x19 : (Int × Unit) × (Unit)) : Option (((Int × Unit) × (Unit)) ⊕ ((Int × Unit) × (Unit))) :=
  req (imp (decide (x19.1.1 < ((r13.length : Nat) : Int))) (inb x19.1.1 r17.1.length)) (Option.bind (gat (decide (x19.1.1 < ((r13.length : Nat) : Int))) ((0 : Int), ((0 : Int), ((0 : Int), ()))) r13 x19.1.1) fun d20 =>
  Option.bind (gopt (decide (x19.1.1 < ((r13.length : Nat) : Int))) false (law3InBook r r15.1 r12 (if ((r12.length : Nat) : Int) < plies then ((r12.length : Nat) : Int) else plies) (getD' r17.1 ((x19.1.1).toNat) ([], (([], ([], ())), ((0 : Int), ((0 : Int), ()))))) d20)) fun r21 =>
  bif ((decide (x19.1.1 < ((r13.length : Nat) : Int))) && r21) then some (Sum.inl (((w64 (x19.1.1 + (1 : Int))), ()), ()))
  else some (Sum.inr ((x19.1.1, ()), ())))
noncomputable def law3BookMoves_L2 (r24 : (List (Int × (Int × Int × Int × Unit) × Int × Unit)) × Int × Unit) (x22 : (Int × Unit) × (Unit)) (r17 : (List ((List Int) × ((List Int) × (List Int) × Unit) × Int × Int × Unit)) × Int × Unit) (r : ByteArray × Int × Int × (List (Int × Int × Int × (List (Int × Int × Int × Int × Unit)) × Unit)) × (List Int) × Bool × Bool × (List (Int × Int × Int × Bool × Unit)) × Int × Int × Int × Unit) (r15 : (List ((List Int) × ((List Int) × (List Int) × Unit) × Int × Int × Unit)) × Int × Unit) (r12 : List (Int × Int × Int × Unit)) (plies : Int) (x29 : (Int × Unit) × (Unit)) : Option (((Int × Unit) × (Unit)) ⊕ (((Unit) × (Unit)) ⊕ Bool)) :=
  bif (decide (x29.1.1 < ((r24.1.length : Nat) : Int))) then (req (inb x29.1.1 r24.1.length) (req (inb x22.1.1 r17.1.length) (Option.bind (law3InBook r r15.1 r12 (if ((r12.length : Nat) : Int) < plies then ((r12.length : Nat) : Int) else plies) (getD' r17.1 ((x22.1.1).toNat) ([], (([], ([], ())), ((0 : Int), ((0 : Int), ()))))) ((((getD' r24.1 ((x29.1.1).toNat) ((0 : Int), (((0 : Int), ((0 : Int), ((0 : Int), ()))), ((0 : Int), ())))).2).1).1, (((((getD' r24.1 ((x29.1.1).toNat) ((0 : Int), (((0 : Int), ((0 : Int), ((0 : Int), ()))), ((0 : Int), ())))).2).1).2).1, ((((((getD' r24.1 ((x29.1.1).toNat) ((0 : Int), (((0 : Int), ((0 : Int), ((0 : Int), ()))), ((0 : Int), ())))).2).1).2).2).1, ())))) fun r30 =>
  bif (!r30) then some (Sum.inr (Sum.inr false))
  else some (Sum.inl (((w64 (x29.1.1 + (1 : Int))), ()), ())))))
  else some (Sum.inr (Sum.inl ((), ())))
noncomputable def law3BookMoves_L3 (r24 : (List (Int × (Int × Int × Int × Unit) × Int × Unit)) × Int × Unit) (x32 : (Int × Int × Unit) × (Unit)) : Option (((Int × Int × Unit) × (Unit)) ⊕ ((Int × Unit) × (Unit))) :=
  bif (decide (x32.1.2.1 < ((r24.1.length : Nat) : Int))) then req (inb x32.1.2.1 r24.1.length) (some (Sum.inl (((w64 (x32.1.1 + (((getD' r24.1 ((x32.1.2.1).toNat) ((0 : Int), (((0 : Int), ((0 : Int), ((0 : Int), ()))), ((0 : Int), ())))).2).2).1)), (w64 (x32.1.2.1 + (1 : Int))), ()), ())))
  else some (Sum.inr ((x32.1.1, ()), ()))
noncomputable def law3BookMoves_L4 (r24 : (List (Int × (Int × Int × Int × Unit) × Int × Unit)) × Int × Unit) (x27 : ((Int × Int × Int × Unit) × Int × Unit) × (Unit)) (x34 : (Int × Int × Unit) × (Unit)) : Option (((Int × Int × Unit) × (Unit)) ⊕ (((Unit) × (Unit)) ⊕ Bool)) :=
  bif (decide (x34.1.2.1 < ((r24.1.length : Nat) : Int))) then (req (inb x34.1.2.1 r24.1.length) (bif (decide ((w64 (x34.1.1 - (((getD' r24.1 ((x34.1.2.1).toNat) ((0 : Int), (((0 : Int), ((0 : Int), ((0 : Int), ()))), ((0 : Int), ())))).2).2).1)) < (0 : Int))) then some (Sum.inr (Sum.inr ((x27.1.2.1 == (0 : Int)) && ((x27.1.1.1 == (((getD' r24.1 ((x34.1.2.1).toNat) ((0 : Int), (((0 : Int), ((0 : Int), ((0 : Int), ()))), ((0 : Int), ())))).2).1).1) && ((x27.1.1.2.1 == ((((getD' r24.1 ((x34.1.2.1).toNat) ((0 : Int), (((0 : Int), ((0 : Int), ((0 : Int), ()))), ((0 : Int), ())))).2).1).2).1) && ((x27.1.1.2.2.1 == (((((getD' r24.1 ((x34.1.2.1).toNat) ((0 : Int), (((0 : Int), ((0 : Int), ((0 : Int), ()))), ((0 : Int), ())))).2).1).2).2).1) && true))))))
  else some (Sum.inl (((w64 (x34.1.1 - (((getD' r24.1 ((x34.1.2.1).toNat) ((0 : Int), (((0 : Int), ((0 : Int), ((0 : Int), ()))), ((0 : Int), ())))).2).2).1)), (w64 (x34.1.2.1 + (1 : Int))), ()), ()))))
  else some (Sum.inr (Sum.inl ((), ())))
noncomputable def law3BookMoves (r : ByteArray × Int × Int × (List (Int × Int × Int × (List (Int × Int × Int × Int × Unit)) × Unit)) × (List Int) × Bool × Bool × (List (Int × Int × Int × Bool × Unit)) × Int × Int × Int × Unit) (l : List (Int × Int × Int × Unit)) (m : List (Int × Int × Int × Unit)) (plies : Int) (weight : Int) (draw : Int) : Option (Bool) :=
  Option.bind (law3Books) fun r11 =>
  bif (!r11) then some false
  else Option.bind (law3Cut l) fun r12 =>
  Option.bind (law3Cut m) fun r13 =>
  bif (law3Great r) then some true
  else Option.bind (bookAdd r ([] : List (Int × (Int × Int × Int × Unit) × Int × Unit)) r12 plies weight) fun r14 =>
  Option.bind (ref3Places r r12) fun r15 =>
  Option.bind (bif ((r15.2.1 == (0 : Int)) && (((decide (plies < (0 : Int))) || (decide (weight < (1 : Int)))) || (decide (weight > (1000000 : Int))))) then some (((4 : Int), ()), ())
  else some ((r15.2.1, ()), ())) fun x16 =>
  bif (x16.1.1 != (0 : Int)) then some ((r14.2.1 == x16.1.1) && (((r14.1.length : Nat) : Int) == (0 : Int)))
  else bif (r14.2.1 != (0 : Int)) then some false
  else Option.bind (ref3Places r r13) fun r17 =>
  bif (r17.2.1 != (0 : Int)) then (Option.bind (bookCover r r14.1 r13) fun r18 =>
  some (r18.2.1 == r17.2.1))
  else Option.bind (iterW (law3BookMoves_L1 r13 r17 r r15 r12 plies) (((0 : Int), ()), ())) fun x22 =>
  Option.bind (bookCover r r14.1 r13) fun r23 =>
  req (inb x22.1.1 r17.1.length) (Option.bind (bookMoves r r14.1 (getD' r17.1 ((x22.1.1).toNat) ([], (([], ([], ())), ((0 : Int), ((0 : Int), ())))))) fun r24 =>
  Option.bind (req (inb x22.1.1 r17.1.length) (agree (Option.bind (bookChoose r r14.1 (getD' r17.1 ((x22.1.1).toNat) ([], (([], ([], ())), ((0 : Int), ((0 : Int), ()))))) draw) fun r25 =>
  some ((r25.1, r25.2.1, ()), ())) (Option.bind (bookChoose r r14.1 (getD' r17.1 ((x22.1.1).toNat) ([], (([], ([], ())), ((0 : Int), ((0 : Int), ()))))) draw) fun r26 =>
  some ((r26.1, r26.2.1, ()), ())))) fun x27 =>
  bif (((r23.2.1 != (0 : Int)) || (r23.1 != x22.1.1)) || (r24.2.1 != (0 : Int))) then some false
  else req (inb x22.1.1 r17.1.length) (Option.bind (law3InPlace r r15.1 r12 (if ((r12.length : Nat) : Int) < plies then ((r12.length : Nat) : Int) else plies) (getD' r17.1 ((x22.1.1).toNat) ([], (([], ([], ())), ((0 : Int), ((0 : Int), ())))))) fun r28 =>
  bif (((r24.1.length : Nat) : Int) != r28) then some false
  else Option.bind (α := ((Unit) × (Unit)) ⊕ Bool) (iterW (law3BookMoves_L2 r24 x22 r17 r r15 r12 plies) (((0 : Int), ()), ())) (Sum.elim (fun x31 =>
  bif (decide (draw < (0 : Int))) then some ((x27.1.2.1 == (1 : Int)) && ((x27.1.1.1 == (0 : Int)) && ((x27.1.1.2.1 == (0 : Int)) && ((x27.1.1.2.2.1 == (0 : Int)) && true))))
  else bif (((r24.1.length : Nat) : Int) == (0 : Int)) then some ((x27.1.2.1 == (8 : Int)) && ((x27.1.1.1 == (0 : Int)) && ((x27.1.1.2.1 == (0 : Int)) && ((x27.1.1.2.2.1 == (0 : Int)) && true))))
  else Option.bind (iterW (law3BookMoves_L3 r24) (((0 : Int), (0 : Int), ()), ())) fun x33 =>
  req (x33.1.1 != 0) (Option.bind (α := ((Unit) × (Unit)) ⊕ Bool) (iterW (law3BookMoves_L4 r24 x27) (((draw.tmod x33.1.1), (0 : Int), ()), ())) (Sum.elim (fun x35 =>
  some false) some))) some)))
end Go.Proofs.YtfppnefcicdnfaaGreat
namespace Go.Den
open Go.Eng Go.Sort Go.Proofs Go.Shelf Go.Lib
set_option linter.unusedVariables false
set_option linter.unusedSectionVars false
set_option linter.unusedSimpArgs false
instance (τ : Ty) : Inhabited (D τ) := ⟨dflt τ⟩

theorem flat_get {α : Type} [Inhabited α] (enc : α → List Value) (k : Nat) (hk : ∀ x, (enc x).length = k) : ∀ (l : List α) (t : Nat), t < l.length * k → (l.map enc).flatten[t]? = some ((enc l[t / k]!)[t % k]!)
  | [], t, h => by simp at h
  | x :: l, t, h => by
    rw [List.map_cons, List.flatten_cons]
    have k0 : 0 < k := by
      rcases Nat.eq_zero_or_pos k with e | e
      · subst e; simp at h
      · exact e
    by_cases ht : t < k
    · rw [List.getElem?_append_left (by rw [hk]; exact ht), Nat.div_eq_of_lt ht, Nat.mod_eq_of_lt ht]
      simp [hk, ht]
    · rw [List.getElem?_append_right (by rw [hk]; omega), hk, flat_get enc k hk l (t - k) (by rw [List.length_cons, Nat.add_mul] at h; omega)]
      obtain ⟨u, rfl⟩ : ∃ u, t = u + k := ⟨t - k, by omega⟩
      rw [Nat.add_sub_cancel, Nat.add_div_right _ k0, Nat.add_mod_right]
      simp
theorem flen {α : Type} (enc : α → List Value) (k : Nat) (hk : ∀ x, (enc x).length = k) : ∀ l : List α, ((l.map enc).flatten).length = l.length * k
  | [] => by simp
  | x :: l => by rw [List.map_cons, List.flatten_cons, List.length_append, hk, flen enc k hk l, List.length_cons, Nat.add_mul]; omega
theorem flatK_list {α : Type} [Inhabited α] (enc : α → List Value) (k : Nat) (hk : ∀ x, (enc x).length = k) (l : List α) : flatK enc k l.toArray = ((l.map enc).flatten).toArray := by
  have hl := flen enc k hk l
  refine ext_get! (by simp [hl]) fun t ht => ?_
  have ht' : t < l.toArray.size * k := by simpa using ht
  rw [get_flatK _ _ _ _ ht']
  have := flat_get enc k hk l t (by simpa using ht')
  simp [this]

variable [CT : Ctx]
theorem flat_mk {w : World} {S : Nat → Prop} : ∀ (τ : Ty) (x : D τ), τ.flat = true → Rep w S τ x [] (cellsV τ x)
  | .int k, x, _ => ⟨rfl, rfl⟩
  | .bool, x, _ => ⟨rfl, rfl⟩
  | .str, x, _ => ⟨rfl, rfl⟩
  | .nil, x, _ => ⟨rfl, rfl⟩
  | .sl e, x, h => by cases h
  | .osl i e, x, h => by cases h
  | .obx _, x, h => by cases h
  | .err, x, h => by cases h
  | .bld _ _, x, h => by cases h
  | .st f r, x, h => by
    simp only [Ty.flat, Bool.and_eq_true] at h
    exact ⟨_, _, [], [], rfl, rfl, flat_mk f x.1 h.1, flat_mk r x.2 h.2⟩
theorem repL_flat {w : World} {S : Nat → Prop} {τ : Ty} (hf : τ.flat = true) : ∀ {xs : List (D τ)} {us : List Value}, RepL (fun x c => Rep w S τ x [] c) xs us → us = (xs.map (cellsV τ)).flatten
  | [], us, h => h
  | x :: xs, us, ⟨c, r, e, h1, h2⟩ => by
    rw [e, flat_rep τ hf h1, repL_flat hf h2]; rfl
theorem flat_repL {w : World} {S : Nat → Prop} {τ : Ty} (hf : τ.flat = true) : ∀ (xs : List (D τ)), RepL (fun x c => Rep w S τ x [] c) xs (xs.map (cellsV τ)).flatten
  | [] => rfl
  | x :: xs => ⟨_, _, rfl, flat_mk τ x hf, flat_repL hf xs⟩
theorem chg_grow {w w' : World} (h : Chg (CT := ⟨[], [], true, []⟩) [] w w') : ∃ q os', w' = grow (w.drewN q) os' := by
  refine ⟨w'.drawn - w.drawn, w'.heap.extract w.heap.size w'.heap.size, ?_⟩
  obtain ⟨heap, tape, drawn, os, output⟩ := w
  obtain ⟨heap', tape', drawn', os', output'⟩ := w'
  obtain ⟨h1, h2, h3, h4, h5, h6⟩ := h
  simp only at h1 h2 h3 h4 h5 h6
  subst h1 h2 h3
  have h6 := h6 trivial
  have : heap' = heap ++ heap'.extract heap.size heap'.size := by
    apply Array.ext_getElem?
    intro j
    rw [Array.getElem?_append]
    by_cases hj : j < heap.size
    · rw [if_pos hj]; exact h5 j hj (by simp)
    · rw [if_neg hj, Array.getElem?_extract]
      by_cases hj2 : j < heap'.size
      · rw [if_pos (by omega)]; congr 1; omega
      · rw [if_neg (by omega), Array.getElem?_eq_none (by omega)]
  show World.mk heap' tape' drawn' os' output' = World.mk (heap ++ heap'.extract heap.size heap'.size) tape' (drawn + (drawn' - drawn)) os' output'
  rw [← this]
  congr 1
  omega

section
variable {P : Program} {ρ : Ren}
/-- slices.SortFunc at structs without slices, by a function that tells all elements apart -/
theorem srt_structs (L : SlLaysF0.n6 P ρ) {f : FuncId} (hf6 : ρ.f 6 = f) {τ : Ty} {i : TypeId} (hi : ρ.t 24 = i) (hflat : τ.flat = true) (hagg : τ.isAgg = true) (aE : ∀ w, (isAgg i).run P w = .ok true w) (zE : ∀ w, (Go.sizeOf i).run P w = .ok τ.size w) {g : FuncId} {res : List Ty} {φ : DL [τ, τ] → Option Int} {tot : Option (DL [τ, τ] → Int)}
    (hc : ConOK (CT := ⟨[], [], true, []⟩) P g ⟨[τ, τ], true, res, .int .i64, φ, tot⟩) (cf : D τ → D τ → Int) (hcf : ∀ x y, φ (x, y, ()) = some (cf x y)) (hO : SWO (ltOf cf)) (hT : ∀ x y, (ltOf cf) x y = false → (ltOf cf) y x = false → x = y) (eg : ∀ args w, (callFunc g args).run P w = .ok (.enter g args) w) :
    SrtOK P f ⟨i, τ, some g, fun xs => xs.mergeSort fun x y => !(ltOf cf) y x⟩ := by
  subst hf6; subst hi
  refine ⟨hflat, fun xs => List.length_mergeSort xs, fun w S v M xs us hlen hown hrep => ?_⟩
  simp only at hown hrep ⊢
  have hsz : ∀ x : D τ, (cellsV τ x).length = τ.size := fun x => Rep.length τ (flat_mk (w := w) (S := S) τ x hflat)
  have hus := repL_flat hflat hrep
  rcases hown with ⟨rfl, ⟨ao, rfl⟩, h3, h4⟩ | ⟨b, cap, cur, rfl, rfl, hb, hcap, hcap2, hcs, htake⟩
  · have hxs : xs = [] := List.length_eq_zero_iff.1 h3
    subst hxs
    refine (AnyF.slices_SortFunc_none L ao 0 _ w).mono ?_
    rintro e w' ⟨rfl, rfl⟩
    exact ⟨rfl, Chg.refl _ _, us, .inl ⟨rfl, ⟨ao, rfl⟩, rfl, h4⟩, by subst h4; simp [RepL]⟩
  · have hrow := hb
    obtain ⟨fz, hb, hfz⟩ := hb
    have hcmp : CmpLays P g #[] (cellsV τ) τ.size cf b 0 xs.toArray.size w := fun m os dk hdk x y => by
      have := ConOK.calls (CT := ⟨[], [], true, []⟩) hc (sortWorldK (cellsV τ) τ.size w b 0 m dk os) (fun _ => False) (#[.agg (cellsV τ x).toArray, .agg (cellsV τ y).toArray] ++ #[]) (x, y, ()) (cf x y) (fun _ h => h.elim) (tabR_nil (CT := ⟨[], [], true, []⟩) rfl rfl)
        ⟨_, _, rfl, ⟨cellsV τ x, flat_mk (CT := ⟨[], [], true, []⟩) τ x hflat, by simp [oneV, hagg]⟩, _, _, rfl, ⟨cellsV τ y, flat_mk (CT := ⟨[], [], true, []⟩) τ y hflat, by simp [oneV, hagg]⟩, rfl⟩ (hcf x y)
      refine this.mono ?_
      rintro e w' ⟨v, rfl, hch, M', cs, _, _, hr, hv⟩
      refine ⟨?_, chg_grow hch⟩
      rw [hv, hr.2]
      rfl
    have hblk : b < w.heap.size := (Array.getElem?_eq_some_iff.1 hb).1
    have hul : us.length = xs.length * τ.size := by rw [hus]; exact flen _ _ hsz xs
    have hnc : xs.length * τ.size ≤ cur.size := by rw [hcs]; exact Nat.mul_le_mul_right _ hcap
    have hH : HoldsK (cellsV τ) τ.size w b 0 xs.toArray := by
      intro j hj
      rw [size_flatK] at hj
      rw [flatK_list _ _ hsz, ← hus]
      have hj' : j < us.length := by rw [hul]; simpa using hj
      refine ⟨?_, by rw [Nat.zero_add]; exact hrow.fro (by omega)⟩
      simp only [World.cell?, hb, Nat.zero_add]
      have : cur[j]? = us[j]? := by
        rw [← htake, List.getElem?_take, if_pos (by rw [← hul]; exact hj'), Array.getElem?_toList]
      simp [this, hj']
    have := AnyQ.slices_SortFunc_total L τ.size aE zE (cellsV τ) hsz (fun x v hv => Rep.one τ (flat_mk (w := w) (S := S) τ x hflat) v hv) cf hO g #[] b 0 cap xs.toArray w eg hcmp hH hblk (by simpa using hlen) hT
    simp only [List.size_toArray] at this
    refine this.mono ?_
    rintro e w' ⟨rfl, n, os, rfl⟩
    have hl := List.length_mergeSort (le := fun x y => !ltOf cf y x) xs
    generalize hys : xs.mergeSort (fun x y => !ltOf cf y x) = ys at hl ⊢
    simp only [hys]
    have hyl : ((ys.map (cellsV τ)).flatten).length = xs.length * τ.size := by rw [flen _ _ hsz ys, hl]
    have hheap : ∀ j, j < w.heap.size → (sortWorldK (cellsV τ) τ.size w b 0 n ys.toArray os).heap[j]? = if b = j then some (.cells (putCells id 0 (flatK (cellsV τ) τ.size ys.toArray) cur) (ρ.t 24) fz) else w.heap[j]? := fun j hj => by
      simp only [sortWorldK, putRowK, putRow, grow, mapBlock, Sort.ahead]
      rw [Array.getElem?_append_left (by simpa using hj), Array.getElem?_modify]
      by_cases e : b = j
      · subst e; simp [hb, onCells]
      · simp [e]
    refine ⟨trivial, ⟨rfl, rfl, rfl, ?_, fun j hj hn => ?_, ?_⟩, _, .inr ⟨b, cap, putCells id 0 (flatK (cellsV τ) τ.size ys.toArray) cur, rfl, rfl, ?_, hcap, hcap2, ?_, rfl⟩, ?_⟩
    · simp [sortWorldK, putRowK, putRow, grow, mapBlock, Sort.ahead]
    · rw [hheap j hj, if_neg (fun e => hn (by simp [e]))]
    · simp [sortWorldK, putRowK, putRow, grow, mapBlock, Sort.ahead]
    · exact ⟨fz, by rw [hheap b hblk, if_pos rfl], by simpa [putCells] using hfz⟩
    · simp [putCells, hcs]
    · have : (putCells id 0 (flatK (cellsV τ) τ.size ys.toArray) cur).toList.take (xs.length * τ.size) = (ys.map (cellsV τ)).flatten := by
        apply List.ext_getElem?
        intro j
        rw [List.getElem?_take]
        by_cases hj : j < xs.length * τ.size
        · rw [if_pos hj, Array.getElem?_toList, flatK_list _ _ hsz]
          have h1 : j < cur.size := by omega
          simp [putCells, Array.getElem?_mapIdx, h1, hyl, hj]
        · rw [if_neg hj, List.getElem?_eq_none (by rw [hyl]; omega)]
      rw [this]
      exact flat_repL hflat ys
end
end Go.Den
namespace Go.Den
set_option linter.unusedVariables false
set_option linter.unusedSimpArgs false

theorem iterN_mono {T α : Type} {f : T → Option (T ⊕ α)} : ∀ {n m : Nat} {x : T} {r : α}, iterN f n x = some r → n ≤ m → iterN f m x = some r
  | 0, _, _, _, h, _ => by simp [iterN] at h
  | n + 1, 0, _, _, _, h => by omega
  | n + 1, m + 1, x, r, h, hm => by
    simp only [iterN] at h ⊢
    match hf : f x with
    | none => simp [hf] at h
    | some (.inr q) => simp only [hf] at h ⊢; exact h
    | some (.inl y) => simp only [hf] at h ⊢; exact iterN_mono h (by omega)
theorem iterW_of {T α : Type} {f : T → Option (T ⊕ α)} {n : Nat} {x : T} {r : α} (h : iterN f n x = some r) : iterW f x = some r := by
  have hx : ∃ n, (iterN f n x).isSome = true := ⟨n, by rw [h]; rfl⟩
  unfold iterW
  rw [dif_pos hx]
  obtain ⟨q, hq⟩ := Option.isSome_iff_exists.1 (Classical.choose_spec hx)
  rw [hq]
  rcases Nat.le_total n (Classical.choose hx) with hl | hl
  · rw [← hq, iterN_mono h hl]
  · rw [← h, iterN_mono hq hl]
theorem iterW_inv {T α : Type} {f : T → Option (T ⊕ α)} {x : T} {r : α} (h : iterW f x = some r) : ∃ n, iterN f n x = some r := by
  unfold iterW at h
  split at h
  · exact ⟨_, h⟩
  · cases h
theorem iterW_inl {T α : Type} {f : T → Option (T ⊕ α)} {x y : T} (h : f x = some (.inl y)) : iterW f x = iterW f y := by
  cases hy : iterW f y with
  | some r =>
    obtain ⟨n, hn⟩ := iterW_inv hy
    exact iterW_of (n := n + 1) (by simp [iterN, h, hn])
  | none =>
    cases hx : iterW f x with
    | none => rfl
    | some r =>
      obtain ⟨n, hn⟩ := iterW_inv hx
      cases n with
      | zero => simp [iterN] at hn
      | succ n =>
        simp only [iterN, h] at hn
        rw [iterW_of hn] at hy
        cases hy
theorem iterW_inr {T α : Type} {f : T → Option (T ⊕ α)} {x : T} {r : α} (h : f x = some (.inr r)) : iterW f x = some r := iterW_of (n := 1) (by simp [iterN, h])
theorem iterW_eq {T α : Type} (f : T → Option (T ⊕ α)) (x : T) : iterW f x = match f x with
    | none => none
    | some (.inl y) => iterW f y
    | some (.inr r) => some r := by
  match h : f x with
  | some (.inl y) => exact iterW_inl h
  | some (.inr r) => exact iterW_inr h
  | none =>
    cases hx : iterW f x with
    | none => rfl
    | some r =>
      obtain ⟨n, hn⟩ := iterW_inv hx
      cases n <;> simp [iterN, h] at hn
/-- a loop with a measure and an invariant -/
theorem iterW_meas {T α : Type} {f : T → Option (T ⊕ α)} (I : T → Prop) (μ : T → Nat) (Q : α → Prop)
    (h : ∀ x, I x → (∃ y, f x = some (.inl y) ∧ I y ∧ μ y < μ x) ∨ (∃ r, f x = some (.inr r) ∧ Q r)) : ∀ x, I x → ∃ r, iterW f x = some r ∧ Q r := by
  have key : ∀ (n : Nat) x, μ x < n → I x → ∃ r, iterW f x = some r ∧ Q r := by
    intro n
    induction n with
    | zero => intro x hx; omega
    | succ n ih =>
      intro x hx hi
      rcases h x hi with ⟨y, h1, h2, h3⟩ | ⟨r, h1, h2⟩
      · rw [iterW_inl h1]; exact ih y (by omega) h2
      · exact ⟨r, iterW_inr h1, h2⟩
  exact fun x hi => key _ x (Nat.lt_succ_self _) hi
/-- a loop that computes g -/
theorem iterW_fun {T α : Type} {f : T → Option (T ⊕ α)} (I : T → Prop) (μ : T → Nat) (g : T → α)
    (h : ∀ x, I x → (∃ y, f x = some (.inl y) ∧ I y ∧ μ y < μ x ∧ g y = g x) ∨ f x = some (.inr (g x))) : ∀ x, I x → iterW f x = some (g x) := by
  have key : ∀ (n : Nat) x, μ x < n → I x → iterW f x = some (g x) := by
    intro n
    induction n with
    | zero => intro x hx; omega
    | succ n ih =>
      intro x hx hi
      rcases h x hi with ⟨y, h1, h2, h3, h4⟩ | h1
      · rw [iterW_inl h1, ih y (by omega) h2, h4]
      · exact iterW_inr h1
  exact fun x hi => key _ x (Nat.lt_succ_self _) hi
/-- a recursion that computes s -/
theorem fixW_fun {T α : Type} {G : (T → Option α) → T → Option α} (I : T → Prop) (μ : T → Nat) (s : T → α)
    (h1 : ∀ φ x, I x → (∀ y, I y → φ y = none ∨ φ y = some (s y)) → G φ x = none ∨ G φ x = some (s x))
    (h2 : ∀ φ x, I x → (∀ y, I y → μ y < μ x → φ y = some (s y)) → G φ x = some (s x)) : ∀ x, I x → fixW G x = some (s x) := by
  have a1 : ∀ n x, I x → fixN G n x = none ∨ fixN G n x = some (s x) := by
    intro n
    induction n with
    | zero => intro x _; exact .inl rfl
    | succ n ih => intro x hx; exact h1 _ x hx ih
  have a2 : ∀ n x, I x → μ x < n → fixN G n x = some (s x) := by
    intro n
    induction n with
    | zero => intro x _ hl; omega
    | succ n ih => intro x hx hl; exact h2 _ x hx fun y hy hm => ih y hy (by omega)
  intro x hx
  have hx' : ∃ n, (fixN G n x).isSome = true := ⟨μ x + 1, by rw [a2 _ x hx (Nat.lt_succ_self _)]; rfl⟩
  unfold fixW
  rw [dif_pos hx']
  have := Classical.choose_spec hx'
  rcases a1 (Classical.choose hx') x hx with h | h
  · rw [h] at this; cases this
  · exact h

/-- a loop whose states are known -/
theorem iterW_states {T α : Type} {f : T → Option (T ⊕ α)} (n : Nat) (st : Nat → T) (r : α) (hs : ∀ i, i < n → f (st i) = some (.inl (st (i + 1)))) (he : f (st n) = some (.inr r)) : iterW f (st 0) = some r := by
  have key : ∀ k, k ≤ n → iterW f (st (n - k)) = some r := by
    intro k
    induction k with
    | zero => intro _; exact iterW_inr he
    | succ k ih =>
      intro hk
      have := hs (n - (k + 1)) (by omega)
      rw [show n - (k + 1) + 1 = n - k by omega] at this
      rw [iterW_inl this]
      exact ih (by omega)
  have := key n (Nat.le_refl _)
  rwa [Nat.sub_self] at this
/-- two loops that agree where an invariant holds -/
theorem iterW_congr {T α : Type} {f g : T → Option (T ⊕ α)} (I : T → Prop) (h : ∀ x, I x → f x = g x) (hi : ∀ x y, I x → f x = some (.inl y) → I y) : ∀ x, I x → iterW f x = iterW g x := by
  have key : ∀ n x, I x → iterN f n x = iterN g n x := by
    intro n
    induction n with
    | zero => intro x _; rfl
    | succ n ih =>
      intro x hx
      simp only [iterN, ← h x hx]
      match hf : f x with
      | none => rfl
      | some (.inr q) => rfl
      | some (.inl y) => exact ih y (hi x y hx hf)
  intro x hx
  cases hf : iterW f x with
  | some r =>
    obtain ⟨n, hn⟩ := iterW_inv hf
    rw [key n x hx] at hn
    exact (iterW_of hn).symm
  | none =>
    cases hg : iterW g x with
    | none => rfl
    | some r =>
      obtain ⟨n, hn⟩ := iterW_inv hg
      rw [← key n x hx] at hn
      rw [iterW_of hn] at hf
      cases hf
/-- a search in a row -/
theorem iterW_any {α β : Type} (xs : List α) (p : α → Bool) (f : ((Int × Unit) × Unit) → Option (((Int × Unit) × Unit) ⊕ β)) (A B : β)
    (h1 : ∀ i (hi : i < xs.length), f (((i : Int), ()), ()) = bif p xs[i] then some (.inr A) else some (.inl ((((i + 1 : Nat) : Int), ()), ()))) (h2 : f (((xs.length : Int), ()), ()) = some (.inr B)) :
    iterW f ((0, ()), ()) = some (bif xs.any p then A else B) := by
  have key : ∀ k i, i + k = xs.length → iterW f (((i : Int), ()), ()) = some (bif (xs.drop i).any p then A else B) := by
    intro k
    induction k with
    | zero =>
      intro i hi
      have : i = xs.length := by omega
      subst this
      rw [iterW_inr h2]
      simp
    | succ k ih =>
      intro i hi
      have hl : i < xs.length := by omega
      have hs := h1 i hl
      rw [List.drop_eq_getElem_cons hl]
      cases hp : p xs[i] with
      | true =>
        rw [hp] at hs
        rw [iterW_inr hs]
        simp only [List.any_cons, hp, Bool.true_or, cond_true]
      | false =>
        rw [hp] at hs
        rw [iterW_inl hs, ih (i + 1) (by omega)]
        simp only [List.any_cons, hp, Bool.false_or]
  have := key xs.length 0 (by omega)
  simpa using this
/-- the first answer of a row of questions -/
def scan {β : Type} (e : Nat → Option β) (B : β) : Nat → Nat → β
  | _, 0 => B
  | i, k + 1 => match e i with
    | some b => b
    | none => scan e B (i + 1) k
theorem iterW_scan {β : Type} (n : Nat) (f : ((Int × Unit) × Unit) → Option (((Int × Unit) × Unit) ⊕ β)) (e : Nat → Option β) (B : β)
    (h1 : ∀ i, i < n → f (((i : Int), ()), ()) = match e i with
      | some b => some (.inr b)
      | none => some (.inl ((((i + 1 : Nat) : Int), ()), ()))) (h2 : f (((n : Int), ()), ()) = some (.inr B)) :
    iterW f ((0, ()), ()) = some (scan e B 0 n) := by
  have key : ∀ k i, i + k = n → iterW f (((i : Int), ()), ()) = some (scan e B i k) := by
    intro k
    induction k with
    | zero =>
      intro i hi
      have : i = n := by omega
      subst this
      exact iterW_inr h2
    | succ k ih =>
      intro i hi
      have hs := h1 i (by omega)
      unfold scan
      match he : e i with
      | some b => rw [he] at hs; exact iterW_inr hs
      | none => rw [he] at hs; rw [iterW_inl hs]; exact ih (i + 1) (by omega)
  exact key n 0 (by omega)
theorem scan_map {β γ : Type} (g : β → γ) (e : Nat → Option β) (B : β) : ∀ (k i : Nat), scan (fun i => (e i).map g) (g B) i k = g (scan e B i k)
  | 0, _ => rfl
  | k + 1, i => by
    unfold scan
    match he : e i with
    | some b => rfl
    | none => simp only [Option.map_none]; exact scan_map g e B k (i + 1)
theorem scan_congr {β : Type} {e e' : Nat → Option β} (B : β) : ∀ (k i : Nat), (∀ j, i ≤ j → j < i + k → e j = e' j) → scan e B i k = scan e' B i k
  | 0, _, _ => rfl
  | k + 1, i, h => by
    unfold scan
    rw [h i (Nat.le_refl _) (by omega), scan_congr B k (i + 1) fun j h1 h2 => h j (by omega) (by omega)]
/-! ### numbers -/
theorem w64_id {n : Int} (h1 : -9223372036854775808 ≤ n) (h2 : n ≤ 9223372036854775807) : w64 n = n := by
  simp [w64, IntKind.wrap, IntKind.signed, IntKind.bits]
  omega
theorem w64_rng (n : Int) : -9223372036854775808 ≤ w64 n ∧ w64 n ≤ 9223372036854775807 := by
  simp [w64, IntKind.wrap, IntKind.signed, IntKind.bits]
  omega
theorem room_ok {n b : Nat} (h : n * b ≤ 140737488355328) : room n b = true := Nat.ble_eq_true_of_le h
theorem beq_f {α : Type} [BEq α] [LawfulBEq α] {a b : α} (h : ¬ a = b) : (a == b) = false := by simpa using h
theorem bne_t {α : Type} [BEq α] [LawfulBEq α] {a b : α} (h : ¬ a = b) : (a != b) = true := by simpa using h
theorem beq_t {α : Type} [BEq α] [LawfulBEq α] {a b : α} (h : a = b) : (a == b) = true := by simpa using h
theorem bne_f {α : Type} [BEq α] [LawfulBEq α] {a b : α} (h : a = b) : (a != b) = false := by simpa using h
theorem req_true {α : Type} (x : Option α) : req true x = x := rfl
theorem req_false {α : Type} (x : Option α) : req false x = none := rfl
theorem at?_eq {α : Type} (xs : List α) (i : Int) (h0 : 0 ≤ i) (h1 : i < (xs.length : Int)) : at? xs i = some (xs[i.toNat]'(by omega)) := by
  simp [at?, h0, List.getElem?_eq_getElem (show i.toNat < xs.length by omega)]
theorem inb_iff {i : Int} {n : Nat} : inb i n = true ↔ 0 ≤ i ∧ i < (n : Int) := by simp [inb]
/-! ### functions that the kernel can evaluate: every loop gets a bound -/
/-- what the left side gives, the right side gives -/
def Le {α : Type} (a b : Option α) : Prop := ∀ r, a = some r → b = some r
theorem Le.refl {α : Type} (a : Option α) : Le a a := fun _ h => h
theorem Le.bind {α β : Type} {a b : Option α} {f g : α → Option β} (h : Le a b) (hf : ∀ x, Le (f x) (g x)) : Le (Option.bind a f) (Option.bind b g) := fun r hr => by
  obtain ⟨x, h1, h2⟩ := Option.bind_eq_some_iff.1 hr
  rw [h x h1]
  exact hf x r h2
theorem Le.elim {α β γ : Type} {f g : α → Option γ} {f' g' : β → Option γ} (h : ∀ x, Le (f x) (g x)) (h' : ∀ x, Le (f' x) (g' x)) : ∀ x, Le (Sum.elim f f' x) (Sum.elim g g' x)
  | .inl x => h x
  | .inr x => h' x
theorem Le.cond {α : Type} {c : Bool} {a b a' b' : Option α} (h : Le a a') (h' : Le b b') : Le (bif c then a else b) (bif c then a' else b') := by
  cases c
  · exact h'
  · exact h
theorem Le.req {α : Type} {c : Bool} {a b : Option α} (h : Le a b) : Le (req c a) (req c b) := by
  cases c
  · exact Le.refl _
  · exact h
theorem Le.gopt {α : Type} {c : Bool} {d : α} {a b : Option α} (h : Le a b) : Le (gopt c d a) (gopt c d b) := by
  cases c
  · exact Le.refl _
  · exact h
theorem Le.map {α β : Type} {f : α → β} {a b : Option α} (h : Le a b) : Le (Option.map f a) (Option.map f b) := fun r hr => by
  obtain ⟨x, h1, h2⟩ := Option.map_eq_some_iff.1 hr
  rw [h x h1, ← h2]
  rfl
def agreeC {α : Type} [DecidableEq α] (a b : Option α) : Option α := if a = b then a else none
theorem Le.agree {α : Type} [DecidableEq α] {a b a' b' : Option α} (h : Le a a') (h' : Le b b') : Le (agreeC a b) (agree a' b') := fun r hr => by
  unfold agreeC at hr
  split at hr
  · rename_i e
    have h1 := h r hr
    have h2 := h' r (e ▸ hr)
    unfold Go.Den.agree
    rw [h1, h2, if_pos rfl]
  · cases hr
theorem Le.iter {T α : Type} {f g : T → Option (T ⊕ α)} (h : ∀ x, Le (f x) (g x)) (n : Nat) (x : T) : Le (iterN f n x) (iterW g x) := by
  have key : ∀ n x, Le (iterN f n x) (iterN g n x) := by
    intro n
    induction n with
    | zero => intro x; exact Le.refl _
    | succ n ih =>
      intro x r hr
      simp only [iterN] at hr ⊢
      match hf : f x with
      | none => rw [hf] at hr; cases hr
      | some (.inl y) => rw [hf] at hr; rw [h x _ hf]; exact ih y r hr
      | some (.inr q) => rw [hf] at hr; rw [h x _ hf]; exact hr
  exact fun r hr => iterW_of (key n x r hr)
/-- a loop of bounded length in which a bound on the number of rounds does not matter -/
def Mono {T α : Type} (G : (T → Option α) → T → Option α) : Prop := ∀ φ ψ, (∀ x, Le (φ x) (ψ x)) → ∀ x, Le (G φ x) (G ψ x)
theorem Le.fix {T α : Type} {F G : (T → Option α) → T → Option α} (h : ∀ φ ψ, (∀ x, Le (φ x) (ψ x)) → ∀ x, Le (F φ x) (G ψ x)) (hG : Mono G) (n : Nat) (x : T) : Le (fixN F n x) (fixW G x) := by
  have key : ∀ n x, Le (fixN F n x) (fixN G n x) := by
    intro n
    induction n with
    | zero => intro x; exact Le.refl _
    | succ n ih => intro x; exact h _ _ ih x
  have up : ∀ n x, Le (fixN G n x) (fixN G (n + 1) x) := by
    intro n
    induction n with
    | zero => intro x r hr; cases hr
    | succ n ih => intro x; exact hG _ _ ih x
  have mono : ∀ k n x, Le (fixN G n x) (fixN G (n + k) x) := by
    intro k
    induction k with
    | zero => intro n x; exact Le.refl _
    | succ k ih => intro n x r hr; exact up _ x r (ih n x r hr)
  intro r hr
  have h1 := key n x r hr
  have hx : ∃ n, (fixN G n x).isSome = true := ⟨n, by rw [h1]; rfl⟩
  unfold fixW
  rw [dif_pos hx]
  obtain ⟨q, hq⟩ := Option.isSome_iff_exists.1 (Classical.choose_spec hx)
  rw [hq]
  rcases Nat.le_total n (Classical.choose hx) with hl | hl
  · have := mono (Classical.choose hx - n) n x r h1
    rw [show n + (Classical.choose hx - n) = Classical.choose hx by omega, hq] at this
    exact this
  · have := mono (n - Classical.choose hx) (Classical.choose hx) x q hq
    rw [show Classical.choose hx + (n - Classical.choose hx) = n by omega, h1] at this
    exact this.symm
end Go.Den
namespace Go
variable (P : Program)
theorem run_copy_rowK (w : World) (dT sT ty elem : TypeId) (g o dLen dCap : Nat) (a : Addr) (sLen sCap k : Nat) (cur : Array Value) (t : TypeId) (cs : List Value)
    (hu : P.underlying dT = some (.slice elem)) (hs : (P.info? elem).map (·.size) = some k)
    (hg : w.heap[g]? = some (.cells cur t (0, 0))) (hn : cs.length = Nat.min sLen dLen * k)
    (hsrc : ∀ j v, cs[j]? = some v → w.cell? (a.add j) = some v) (hfit : o + cs.length ≤ cur.size) (h1 : ∀ v ∈ cs, v.oneCell' = true) :
    (Builtin.copy_ #[dT, sT] ty #[.slice (some ⟨g, o, none⟩) dLen dCap, .slice (some a) sLen sCap]).run P w =
      .ok (goInt (Nat.min sLen dLen)) (w.setRow g (cur.toList.take o ++ cs ++ cur.toList.drop (o + cs.length)).toArray) := by
  have hl := run_loadCells_list (P := P) w a cs hsrc
  have hst := run_storeCells_at P g o t cs 0 cur w hg (by simpa using hfit) h1
  cases hq : P.info? elem with
  | none => simp [hq] at hs
  | some i =>
    have hi : i.size = k := by simpa [hq] using hs
    simp [Builtin.copy_, run_underlying hu, Builtin.lenOf, Builtin.firstCells, sizeOf, typeInfo, hq, hi, ← hn, hl, hst]
end Go
namespace Go.Den
set_option linter.unusedVariables false
def rngB : (τ : Ty) → D τ → Bool
  | .int k, (n : Int) => decide (k.min ≤ n) && decide (n ≤ k.max)
  | .bool, _ => true
  | .str, (s : ByteArray) => Nat.ble s.size maxLen
  | .sl e, (xs : List (D e)) => Nat.ble xs.length maxLen && xs.all (rngB e)
  | .osl _ e, (xs : List (D e)) => Nat.ble xs.length maxLen && xs.all (rngB e)
  | .obx e, x => rngB e x
  | .err, _ => true
  | .bld _ _, _ => true
  | .nil, _ => true
  | .st f r, x => rngB f x.1 && rngB r x.2
theorem rngB_ok : ∀ (τ : Ty) (x : D τ), rngB τ x = true → Rng τ x
  | .int k, n, h => by
    simp only [rngB, Bool.and_eq_true, decide_eq_true_eq] at h
    cases k <;> exact h
  | .bool, _, _ => trivial
  | .str, s, h => Nat.le_of_ble_eq_true h
  | .sl e, xs, h => by
    simp only [rngB, Bool.and_eq_true] at h
    exact ⟨Nat.le_of_ble_eq_true h.1, fun x hx => rngB_ok e x (List.all_eq_true.1 h.2 x hx)⟩
  | .osl _ e, xs, h => by
    simp only [rngB, Bool.and_eq_true] at h
    exact ⟨Nat.le_of_ble_eq_true h.1, fun x hx => rngB_ok e x (List.all_eq_true.1 h.2 x hx)⟩
  | .obx e, x, h => rngB_ok e x h
  | .err, _, _ => trivial
  | .bld _ _, _, _ => trivial
  | .nil, _, _ => trivial
  | .st f r, x, h => by
    simp only [rngB, Bool.and_eq_true] at h
    exact ⟨rngB_ok f x.1 h.1, rngB_ok r x.2 h.2⟩
end Go.Den
namespace Go.Proofs.YtfppnefcicdnfaaGreat
open Go.Den
set_option linter.unusedVariables false
set_option linter.unusedSimpArgs false
set_option maxRecDepth 100000

abbrev Way := Int × Int × Int × Int × Unit
abbrev Piece := Int × Int × Int × (List Way) × Unit
abbrev End := Int × Int × Int × Bool × Unit
abbrev Rules := ByteArray × Int × Int × (List Piece) × (List Int) × Bool × Bool × (List End) × Int × Int × Int × Unit
abbrev Rules.name (r : Rules) : ByteArray := r.1
abbrev Rules.width (r : Rules) : Int := r.2.1
abbrev Rules.height (r : Rules) : Int := r.2.2.1
abbrev Rules.pieces (r : Rules) : List Piece := r.2.2.2.1
abbrev Rules.start (r : Rules) : List Int := r.2.2.2.2.1
abbrev Rules.falls (r : Rules) : Bool := r.2.2.2.2.2.1
abbrev Rules.keeps (r : Rules) : Bool := r.2.2.2.2.2.2.1
abbrev Rules.ends (r : Rules) : List End := r.2.2.2.2.2.2.2.1
abbrev Rules.blocked (r : Rules) : Int := r.2.2.2.2.2.2.2.2.1
abbrev Rules.quiet (r : Rules) : Int := r.2.2.2.2.2.2.2.2.2.1
abbrev Rules.repeats (r : Rules) : Int := r.2.2.2.2.2.2.2.2.2.2.1
abbrev tyWay : Ty := .st (.int .i64) (.st (.int .i64) (.st (.int .i64) (.st (.int .i64) .nil)))
abbrev tyPiece : Ty := .st (.int .u8) (.st (.int .i64) (.st (.int .i64) (.st (.sl tyWay) .nil)))
abbrev tyEnd : Ty := .st (.int .i64) (.st (.int .i64) (.st (.int .i64) (.st .bool .nil)))
abbrev tyRules : Ty := .st .str (.st (.int .i64) (.st (.int .i64) (.st (.sl tyPiece) (.st (.sl (.int .i64)) (.st .bool (.st .bool (.st (.sl tyEnd) (.st (.int .i64) (.st (.int .i64) (.st (.int .i64) .nil))))))))))

/-! ### a loop that looks for the first error -/
def nz (x : Int) : Option Int := if x = 0 then none else some x
def firstNZ (f : Nat → Int) (n : Nat) : Int := scan (fun i => nz (f i)) 0 0 n
theorem firstNZ_zero {f : Nat → Int} {n : Nat} (h : firstNZ f n = 0) : ∀ i, i < n → f i = 0 := by
  have key : ∀ (k i : Nat), scan (fun i => nz (f i)) 0 i k = 0 → ∀ j, i ≤ j → j < i + k → f j = 0 := by
    intro k
    induction k with
    | zero => intro i _ j h1 h2; omega
    | succ k ih =>
      intro i hs j h1 h2
      unfold scan at hs
      by_cases c : f i = 0
      · simp only [nz, if_pos c] at hs
        rcases Nat.eq_or_lt_of_le h1 with e | e
        · rw [← e]; exact c
        · exact ih (i + 1) hs j e (by omega)
      · simp only [nz, if_neg c] at hs
        exact absurd hs c
  exact fun i hi => key n 0 h i (Nat.zero_le _) (by omega)
theorem firstNZ_congr {f g : Nat → Int} {n : Nat} (h : ∀ i, i < n → f i = g i) : firstNZ f n = firstNZ g n :=
  scan_congr 0 n 0 fun j _ hj => by rw [h j (by omega)]
theorem loopNZ {γ : Type} (n : Nat) (f : ((Int × Unit) × Unit) → Option (((Int × Unit) × Unit) ⊕ (γ ⊕ Int))) (err : Nat → Int) (u : γ) (z : Option Int)
    (h1 : ∀ i, i < n → f (((i : Int), ()), ()) = if err i = 0 then some (.inl ((((i + 1 : Nat) : Int), ()), ())) else some (.inr (.inr (err i)))) (h2 : f (((n : Int), ()), ()) = some (.inr (.inl u))) :
    Option.bind (iterW f ((0, ()), ())) (Sum.elim (fun _ => z) some) = if firstNZ err n = 0 then z else some (firstNZ err n) := by
  have key : ∀ k i, i + k = n → Option.bind (iterW f (((i : Int), ()), ())) (Sum.elim (fun _ => z) some) = if scan (fun i => nz (err i)) 0 i k = 0 then z else some (scan (fun i => nz (err i)) 0 i k) := by
    intro k
    induction k with
    | zero =>
      intro i hi
      have : i = n := by omega
      subst this
      rw [iterW_inr h2]
      rfl
    | succ k ih =>
      intro i hi
      have hs := h1 i (by omega)
      unfold scan
      by_cases c : err i = 0
      · rw [if_pos c] at hs
        rw [iterW_inl hs, ih (i + 1) (by omega)]
        have : nz (err i) = none := by simp only [nz, if_pos c]
        rw [this]
      · rw [if_neg c] at hs
        rw [iterW_inr hs]
        have : nz (err i) = some (err i) := by simp only [nz, if_neg c]
        simp only [this, if_neg c]
        rfl
  exact key n 0 (by omega)
/-! ### names -/
def ch (s : ByteArray) (i : Nat) : Nat := ((s[i]?).getD 0).toNat
theorem strAt_eq (s : ByteArray) (i : Nat) (h : i < s.size) : ∃ c : UInt8, strAt s (i : Int) = some c ∧ c.toNat = ch s i := by
  refine ⟨(s[i]?).getD 0, ?_, rfl⟩
  have h0 : decide ((0 : Int) ≤ (i : Int)) = true := by simp
  have : s[i]? = some s[i] := getElem?_pos s i h
  unfold strAt
  rw [h0, cond_true, Int.toNat_natCast, this]
  rfl
theorem ch_lt (s : ByteArray) (i : Nat) : ch s i < 256 := UInt8.toNat_lt _
def nameBad (s : ByteArray) (i : Nat) : Bool := !(decide (65 ≤ ch s i ∧ ch s i ≤ 90) || decide (i ≠ 0 ∧ 48 ≤ ch s i ∧ ch s i ≤ 57))
def nameOk (s : ByteArray) : Bool := !((List.range s.size).any (nameBad s)) && decide (1 ≤ s.size ∧ s.size ≤ 8)
theorem empty_iff (s : ByteArray) : (s.toList == (ByteArray.mk #[]).toList) = decide (s.size = 0) := by
  rw [ByteArray.toList_eq, ByteArray.toList_eq]
  obtain ⟨⟨l⟩⟩ := s
  rw [Bool.eq_iff_iff, beq_iff_eq, decide_eq_true_eq]
  exact List.length_eq_zero_iff.symm
theorem name_spec (s : ByteArray) (hs : s.size ≤ 9223372036854775807) : rulesName s = some (nameOk s) := by
  unfold rulesName nameOk
  have hL := iterW_any (List.range s.size) (nameBad s) (rulesName_L1 s) (.inr false) (.inl ((), ())) (fun i hi => by
    have hi' : i < s.size := by simpa using hi
    obtain ⟨c, h1, h2⟩ := strAt_eq s i hi'
    have hlt := ch_lt s i
    unfold rulesName_L1
    have h3 : (i : Int) < (s.size : Int) := by omega
    have hg : ∀ b, gopt b 0 (some c) = some (bif b then c else 0) := fun b => by cases b <;> rfl
    simp only [h3, decide_true, cond_true, h1, Option.bind_some, hg, List.getElem_range, w64_id (n := (i : Int) + 1) (by omega) (by omega)]
    have hb : nameBad s i = !(decide (65 ≤ c.toNat ∧ c.toNat ≤ 90) || decide (i ≠ 0 ∧ 48 ≤ c.toNat ∧ c.toNat ≤ 57)) := by unfold nameBad; rw [h2]
    rw [hb]
    generalize hn : c.toNat = n at *
    have e0 : ((i : Int) == 0) = decide (i = 0) := by rw [Bool.eq_iff_iff]; simp
    rw [e0]
    by_cases c1 : 65 ≤ n
    · have a1 : decide ((n : Int) ≥ 65) = true := by simp only [decide_eq_true_eq]; omega
      simp only [a1, cond_true, Bool.true_and, hn]
      by_cases c2 : n ≤ 90
      · have a2 : decide ((n : Int) ≤ 90) = true := by simp only [decide_eq_true_eq]; omega
        simp [a2, c1, c2]
      · have a2 : decide ((n : Int) ≤ 90) = false := by simp only [decide_eq_false_iff_not]; omega
        have a3 : decide ((n : Int) < 48) = false := by simp only [decide_eq_false_iff_not]; omega
        have a4 : decide ((n : Int) > 57) = true := by simp only [decide_eq_true_eq]; omega
        have a5 : ¬ n ≤ 57 := by omega
        by_cases c3 : i = 0
        · simp [a2, c1, c2, c3]
        · simp [a2, a3, a4, a5, c1, c2, c3, hn]
    · have a1 : decide ((n : Int) ≥ 65) = false := by simp only [decide_eq_false_iff_not]; omega
      by_cases c3 : i = 0
      · simp [a1, c1, c3]
      · by_cases c4 : 48 ≤ n
        · have a3 : decide ((n : Int) < 48) = false := by simp only [decide_eq_false_iff_not]; omega
          by_cases c5 : n ≤ 57
          · have a4 : decide ((n : Int) > 57) = false := by simp only [decide_eq_false_iff_not]; omega
            simp [a1, a3, a4, c1, c3, c4, c5, hn]
          · have a4 : decide ((n : Int) > 57) = true := by simp only [decide_eq_true_eq]; omega
            simp [a1, a3, a4, c1, c3, c4, c5, hn]
        · have a3 : decide ((n : Int) < 48) = true := by simp only [decide_eq_true_eq]; omega
          simp [a1, a3, c1, c3, c4, hn]) (by unfold rulesName_L1; simp)
  rw [hL, empty_iff]
  cases (List.range s.size).any (nameBad s) with
  | true => rfl
  | false =>
    simp only [cond_false, Option.bind_some, Sum.elim_inl, Bool.not_false, Bool.true_and, Option.some.injEq]
    rw [Bool.eq_iff_iff]
    simp only [Bool.and_eq_true, Bool.not_eq_true', decide_eq_false_iff_not, decide_eq_true_eq]
    omega
/-! ### pieces -/
def badWay (w : Way) : Bool := ((((!(rulesWithin w.1 (-7 : Int) (7 : Int))) || (!(rulesWithin w.2.1 (-7 : Int) (7 : Int)))) || ((w.1 == (0 : Int)) && (w.2.1 == (0 : Int)))) || (!(rulesWithin w.2.2.1 (1 : Int) (7 : Int)))) || (!(rulesWithin w.2.2.2.1 (0 : Int) (2 : Int)))
def pErr (l : List Piece) (i : Nat) : Int := match l[i]? with
  | none => 0
  | some p => bif decide (p.1 < 65) || decide (p.1 > 90) then 6 else bif (l.take i).any (fun q => q.1 == p.1) then 7
    else bif (!(rulesWithin p.2.1 0 64)) || (!(rulesWithin p.2.2.1 0 ((l.length : Nat) : Int))) then 4 else bif decide (((p.2.2.2.1.length : Nat) : Int) > 16) then 2 else bif p.2.2.2.1.any badWay then 4 else 0
theorem take_len {α : Type} (l : List α) {i : Nat} (h : i ≤ l.length) : ((l.take i).drop 0).length = i := by simp; omega
theorem pieces_spec (r : Rules) : rulesPieces r = some (if r.pieces.length = 0 then 8 else if 6 < r.pieces.length then 2 else firstNZ (pErr r.pieces) r.pieces.length) := by
  unfold rulesPieces
  by_cases c0 : r.pieces.length = 0
  · have : (((r.pieces.length : Nat) : Int) == 0) = true := beq_t (by omega)
    rw [this, if_pos c0]
    rfl
  · have : (((r.pieces.length : Nat) : Int) == 0) = false := beq_f (by omega)
    rw [this, if_neg c0, cond_false]
    by_cases c1 : 6 < r.pieces.length
    · have : decide (((r.pieces.length : Nat) : Int) > 6) = true := by simp only [decide_eq_true_eq]; omega
      rw [this, if_pos c1]
      rfl
    · have : decide (((r.pieces.length : Nat) : Int) > 6) = false := by simp only [decide_eq_false_iff_not]; omega
      rw [this, if_neg c1, cond_false]
      rw [loopNZ r.pieces.length (rulesPieces_L1 r) (pErr r.pieces) ((), ()) (some 0) (fun i hi => ?_) (by unfold rulesPieces_L1; simp)]
      · split
        · rename_i h; rw [h]
        · rfl
      · unfold rulesPieces_L1
        have h1 : (i : Int) < (r.pieces.length : Int) := by omega
        have hg : r.pieces[i]? = some r.pieces[i] := List.getElem?_eq_getElem hi
        have hb : boundsI 0 (i : Int) r.pieces.length = true := by unfold boundsI; simp only [Bool.and_eq_true, decide_eq_true_eq]; omega
        simp only [h1, decide_true, cond_true, at?_eq r.pieces (i : Int) (by omega) h1, Option.bind_some, Int.toNat_natCast, hb, req_true, w64_id (n := (i : Int) + 1) (by omega) (by omega)]
        unfold pErr
        rw [hg]
        generalize hp : r.pieces[i] = p
        simp only
        cases hA : (decide (p.1 < 65) || decide (p.1 > 90)) with
        | true => simp
        | false =>
          have hL2 := iterW_any ((r.pieces.take i).drop 0) (fun q => q.1 == p.1) (rulesPieces_L2 r (((i : Int), ()), ()) p) (.inr (.inr (.inr (.inr (7 : Int))))) (.inl ((), ())) (fun j hj => by
            have hj' : j < i := by rw [take_len _ (by omega)] at hj; exact hj
            unfold rulesPieces_L2
            have h2 : (j : Int) < ((((r.pieces.take i).drop 0).length : Nat) : Int) := by omega
            have h3 : (j : Int) ≥ 0 := by omega
            simp only [Int.toNat_natCast, h2, decide_true, cond_true, at?_eq ((r.pieces.take i).drop 0) (j : Int) (by omega) h2, Option.bind_some, h3, w64_id (n := (j : Int) + 1) (by omega) (by omega)]
            rfl) (by unfold rulesPieces_L2; simp)
          rw [hL2]
          simp only [List.drop_zero, cond_false, Option.bind_some]
          cases hB : (r.pieces.take i).any (fun q => q.1 == p.1) with
          | true => simp
          | false =>
            simp only [cond_false, Sum.elim_inl]
            cases hC : ((!(rulesWithin p.2.1 0 64)) || (!(rulesWithin p.2.2.1 0 ((r.pieces.length : Nat) : Int)))) with
            | true => simp
            | false =>
              simp only [cond_false]
              by_cases cD : ((p.2.2.2.1.length : Nat) : Int) > 16
              · simp [cD]
              · have hL4 := iterW_any p.2.2.2.1 badWay (rulesPieces_L4 p) (.inr (.inr (.inr (.inr (4 : Int))))) (.inl ((), ())) (fun j hj => by
                  unfold rulesPieces_L4
                  have h2 : (j : Int) < ((p.2.2.2.1.length : Nat) : Int) := by omega
                  simp only [h2, decide_true, cond_true, at?_eq p.2.2.2.1 (j : Int) (by omega) h2, Option.bind_some, Int.toNat_natCast, w64_id (n := (j : Int) + 1) (by omega) (by omega)]
                  rfl) (by unfold rulesPieces_L4; simp)
                simp only [cD, decide_false, cond_false, hL4, Option.bind_some]
                cases p.2.2.2.1.any badWay <;> simp
/-! ### the start, the ends, the rest -/
def sErr (r : Rules) (i : Nat) : Int := bif rulesWithin (r.start.getD i 0) 0 (2 * ((r.pieces.length : Nat) : Int)) then 0 else 4
def eErr (r : Rules) (i : Nat) : Int := match r.ends[i]? with
  | none => 0
  | some x => bif !(rulesWithin x.1 0 2) then 1 else
    bif (!(bif x.1 == 1 then x.2.2.1 == 0 else rulesWithin x.2.2.1 1 64)) || (!(bif x.1 == 0 then x.2.1 == 0 else rulesWithin x.2.1 0 (((r.pieces.length : Nat) : Int) - 1))) then 4 else 0
def lastErr (r : Rules) : Int := bif (((!(rulesWithin r.blocked (0 : Int) (2 : Int))) || (!(rulesWithin r.quiet (0 : Int) (200 : Int)))) || ((r.repeats != (0 : Int)) && (!(rulesWithin r.repeats (2 : Int) (5 : Int))))) then 4 else 0
def endsErr (r : Rules) : Int := if 6 < r.ends.length then 2 else firstNZ (eErr r) r.ends.length
def ruleErr (r : Rules) : Int :=
  if nameOk r.name = false then 6 else
  if ¬ ((1 ≤ r.width ∧ r.width ≤ 8) ∧ 1 ≤ r.height ∧ r.height ≤ 8) then 4 else
  if r.pieces.length = 0 then 8 else if 6 < r.pieces.length then 2 else
  if firstNZ (pErr r.pieces) r.pieces.length ≠ 0 then firstNZ (pErr r.pieces) r.pieces.length else
  if ((r.start.length : Nat) : Int) ≠ r.width * r.height then 3 else
  if firstNZ (sErr r) r.start.length ≠ 0 then firstNZ (sErr r) r.start.length else
  if endsErr r ≠ 0 then endsErr r else lastErr r
theorem within_iff {n a b : Int} : rulesWithin n a b = true ↔ a ≤ n ∧ n ≤ b := by unfold rulesWithin; simp
theorem conditions_spec (r : Rules) (hl : r.pieces.length ≤ 1000) : rulesConditions r = some (endsErr r) := by
  unfold rulesConditions endsErr
  by_cases c : 6 < r.ends.length
  · have : decide (((r.ends.length : Nat) : Int) > 6) = true := by simp only [decide_eq_true_eq]; omega
    rw [this, if_pos c]
    rfl
  · have : decide (((r.ends.length : Nat) : Int) > 6) = false := by simp only [decide_eq_false_iff_not]; omega
    rw [this, if_neg c, cond_false]
    rw [loopNZ r.ends.length (rulesConditions_L1 r) (eErr r) ((), ()) (some 0) (fun i hi => ?_) (by unfold rulesConditions_L1; simp)]
    · split
      · rename_i h; rw [h]
      · rfl
    · unfold rulesConditions_L1 eErr
      have h1 : (i : Int) < (r.ends.length : Int) := by omega
      have hg : r.ends[i]? = some r.ends[i] := List.getElem?_eq_getElem hi
      rw [hg]
      simp only [h1, decide_true, cond_true, at?_eq r.ends (i : Int) (by omega) h1, Option.bind_some, Int.toNat_natCast, w64_id (n := (i : Int) + 1) (by omega) (by omega), w64_id (n := ((r.pieces.length : Nat) : Int) - 1) (by omega) (by omega)]
      generalize r.ends[i] = x
      by_cases k0 : x.1 = 0
      · have : rulesWithin x.1 0 2 = true := within_iff.2 (by omega)
        have k1 : (x.1 == 1) = false := beq_f (by omega)
        simp only [this, beq_t k0, k1, cond_true, cond_false, Option.bind_some, Sum.elim_inl, Bool.not_true]
        cases rulesWithin x.2.2.1 1 64 <;> cases (x.2.1 == 0) <;> simp
      · by_cases k1 : x.1 = 1
        · have : rulesWithin x.1 0 2 = true := within_iff.2 (by omega)
          simp only [this, beq_f k0, beq_t k1, cond_true, cond_false, Option.bind_some, Sum.elim_inl, Bool.not_true]
          cases (x.2.2.1 == 0) <;> cases rulesWithin x.2.1 0 (((r.pieces.length : Nat) : Int) - 1) <;> simp
        · by_cases k2 : x.1 = 2
          · have : rulesWithin x.1 0 2 = true := within_iff.2 (by omega)
            simp only [this, beq_f k0, beq_f k1, beq_t k2, cond_true, cond_false, Option.bind_some, Sum.elim_inl, Bool.not_true]
            cases rulesWithin x.2.2.1 1 64 <;> cases rulesWithin x.2.1 0 (((r.pieces.length : Nat) : Int) - 1) <;> simp
          · have : rulesWithin x.1 0 2 = false := by
              rw [Bool.eq_false_iff]
              intro h
              have := within_iff.1 h
              omega
            simp only [this, beq_f k0, beq_f k1, beq_f k2, cond_true, cond_false, Option.bind_some, Sum.elim_inr, Bool.not_false]
            rfl
theorem check_spec (r : Rules) (hr : Rng tyRules r) : rulesCheck r = some (ruleErr r) := by
  have hname : r.name.size ≤ 9223372036854775807 := Nat.le_trans hr.1 (by decide)
  have hstart : r.start.length ≤ 9223372036854775807 := Nat.le_trans hr.2.2.2.2.1.1 (by decide)
  have hP : r.2.2.2.1.length = r.pieces.length := rfl
  have hW : r.2.1 * r.2.2.1 = r.width * r.height := rfl
  have hE : r.2.2.2.2.2.2.2.1.length = r.ends.length := rfl
  unfold rulesCheck ruleErr
  rw [name_spec r.name hname, pieces_spec r]
  simp only [Option.bind_some]
  cases nameOk r.name with
  | false => rfl
  | true =>
    simp only [Bool.not_true, cond_false, Bool.true_eq_false, if_false]
    by_cases cw : (1 ≤ r.width ∧ r.width ≤ 8) ∧ 1 ≤ r.height ∧ r.height ≤ 8
    · have e1 : ((!(rulesWithin r.2.1 1 8)) || (!(rulesWithin r.2.2.1 1 8))) = false := by
        rw [within_iff.2 cw.1, within_iff.2 cw.2]
        rfl
      have e2 : ¬ ¬ ((1 ≤ r.width ∧ r.width ≤ 8) ∧ 1 ≤ r.height ∧ r.height ≤ 8) := fun h => h cw
      simp only [e1, if_neg e2, cond_false]
      by_cases c0 : r.pieces.length = 0
      · simp only [if_pos c0]
        rfl
      · by_cases c6 : 6 < r.pieces.length
        · simp only [if_neg c0, if_pos c6]
          rfl
        · simp only [if_neg c0, if_neg c6]
          by_cases cp : firstNZ (pErr r.pieces) r.pieces.length = 0
          · have hwh : w64 (r.2.1 * r.2.2.1) = r.width * r.height := by
              have h1 : r.width * r.height ≤ 8 * 8 := Int.mul_le_mul cw.1.2 cw.2.2 (by omega) (by omega)
              have h2 : 0 ≤ r.width * r.height := Int.mul_nonneg (by omega) (by omega)
              exact w64_id (by omega) (by omega)
            rw [cp, if_neg (fun h => h rfl), hwh]
            simp only [bne_self_eq_false, cond_false]
            by_cases cs : ((r.start.length : Nat) : Int) = r.width * r.height
            · rw [bne_f cs, if_neg (fun h => h cs), cond_false]
              rw [loopNZ r.start.length (rulesCheck_L1 r) (sErr r) ((), ()) _ (fun i hi => ?_) (by unfold rulesCheck_L1; simp)]
              · rw [conditions_spec r (by omega)]
                by_cases cse : firstNZ (sErr r) r.start.length = 0
                · rw [if_pos cse, if_neg (fun h => h cse)]
                  simp only [Option.bind_some]
                  by_cases ce : endsErr r = 0
                  · rw [ce, if_neg (fun h => h rfl)]
                    simp only [bne_self_eq_false, cond_false]
                    unfold lastErr
                    exact cond_some _ _ _
                  · rw [if_pos ce, bne_t ce]
                    rfl
                · rw [if_neg cse, if_pos cse]
              · unfold rulesCheck_L1 sErr
                have h1 : (i : Int) < (r.start.length : Int) := by omega
                have h3 : (i : Int) ≥ 0 := by omega
                have hgd : r.start.getD i 0 = r.start[i] := by simp [List.getD_eq_getElem?_getD, List.getElem?_eq_getElem hi]
                simp only [h1, decide_true, cond_true, at?_eq r.start (i : Int) (by omega) h1, Option.bind_some, Int.toNat_natCast, h3, w64_id (n := (i : Int) + 1) (by omega) (by omega), w64_id (n := 2 * ((r.pieces.length : Nat) : Int)) (by omega) (by omega), hgd]
                cases rulesWithin r.start[i] 0 (2 * ((r.pieces.length : Nat) : Int)) <;> simp
            · rw [bne_t cs, if_pos cs]
              rfl
          · rw [bne_t cp, if_pos cp]
            rfl
    · have e1 : ((!(rulesWithin r.2.1 1 8)) || (!(rulesWithin r.2.2.1 1 8))) = true := by
        rw [Bool.or_eq_true, Bool.not_eq_true', Bool.not_eq_true']
        by_cases k : rulesWithin r.2.1 1 8 = true
        · right
          rw [Bool.eq_false_iff]
          intro k2
          exact cw ⟨within_iff.1 k, within_iff.1 k2⟩
        · left
          exact Bool.eq_false_iff.2 k
      rw [e1, if_pos cw]
      rfl
end Go.Proofs.YtfppnefcicdnfaaGreat
namespace Go.Den
set_option linter.unusedVariables false
set_option linter.unusedSimpArgs false

def foldN {A : Type} (g : Nat → A → A) : Nat → A → A
  | 0, a => a
  | n + 1, a => g n (foldN g n a)
theorem iter_fold {A R : Type} (n : Nat) (f : ((A × Int × Unit) × Unit) → Option (((A × Int × Unit) × Unit) ⊕ R)) (g : Nat → A → A) (fin : A → R) (I : Nat → A → Prop) (a0 : A) (h0 : I 0 a0)
    (hs : ∀ i, i < n → ∀ a, I i a → f ((a, (i : Int), ()), ()) = some (.inl ((g i a, ((i : Int) + 1), ()), ())) ∧ I (i + 1) (g i a)) (he : ∀ a, I n a → f ((a, (n : Int), ()), ()) = some (.inr (fin a))) :
    iterW f ((a0, (0 : Int), ()), ()) = some (fin (foldN g n a0)) := by
  have hI : ∀ i, i ≤ n → I i (foldN g i a0) := fun i => by
    induction i with
    | zero => intro _; exact h0
    | succ i ih => intro hi; exact (hs i (by omega) _ (ih (by omega))).2
  have := iterW_states (f := f) n (fun i => ((foldN g i a0, (i : Int), ()), ())) (fin (foldN g n a0)) (fun i hi => by
    rw [(hs i hi _ (hI i (by omega))).1]
    simp [foldN]) (he _ (hI n (Nat.le_refl _)))
  exact this
theorem foldN_app {A : Type} (F : Nat → List A) : ∀ (n : Nat) (a : List A), foldN (fun i a => a ++ F i) n a = a ++ (List.range n).flatMap F
  | 0, a => by simp [foldN]
  | n + 1, a => by rw [foldN, foldN_app F n, List.range_succ]; simp
/-- a loop that appends -/
theorem iter_app {A R : Type} (n B : Nat) (f : (((List A) × Int × Unit) × Unit) → Option ((((List A) × Int × Unit) × Unit) ⊕ R)) (F : Nat → List A) (fin : List A → R) (a0 : List A) (hF : ∀ i, i < n → (F i).length ≤ B)
    (hs : ∀ i, i < n → ∀ a : List A, a.length ≤ a0.length + i * B → f ((a, (i : Int), ()), ()) = some (.inl ((a ++ F i, ((i : Int) + 1), ()), ()))) (he : ∀ a, f ((a, (n : Int), ()), ()) = some (.inr (fin a))) :
    iterW f ((a0, (0 : Int), ()), ()) = some (fin (a0 ++ (List.range n).flatMap F)) := by
  rw [← foldN_app]
  refine iter_fold n f (fun i a => a ++ F i) fin (fun i a => a.length ≤ a0.length + i * B) a0 (by simp) (fun i hi a ha => ⟨hs i hi a ha, ?_⟩) (fun a _ => he a)
  have := hF i hi
  rw [List.length_append, Nat.add_mul]
  omega
theorem flatMap_len {A C : Type} (F : C → List A) (B : Nat) : ∀ l : List C, (∀ x ∈ l, (F x).length ≤ B) → (l.flatMap F).length ≤ l.length * B
  | [], _ => by simp
  | x :: l, h => by
    have := flatMap_len F B l (fun y hy => h y (List.mem_cons_of_mem _ hy))
    have := h x List.mem_cons_self
    rw [List.flatMap_cons, List.length_append, List.length_cons, Nat.add_mul]
    omega
theorem foldN_all {A : Type} (xs : List A) (q : A → Bool) (b0 : Bool) : ∀ n, n ≤ xs.length → foldN (fun i b => b && ((xs[i]?).map q).getD true) n b0 = (b0 && (xs.take n).all q)
  | 0, _ => by simp [foldN]
  | n + 1, h => by
    have hn : n < xs.length := by omega
    rw [foldN, foldN_all xs q b0 n (by omega), List.getElem?_eq_getElem hn, List.take_succ_eq_append_getElem hn, List.all_append]
    simp [Bool.and_assoc]
/-- a loop that asks of all elements -/
theorem iter_all {A R : Type} (xs : List A) (q : A → Bool) (f : ((Bool × Int × Unit) × Unit) → Option (((Bool × Int × Unit) × Unit) ⊕ R)) (fin : Bool → R) (b0 : Bool)
    (hs : ∀ (i : Nat) (hi : i < xs.length) (b : Bool), f ((b, (i : Int), ()), ()) = some (.inl ((b && q xs[i], ((i : Int) + 1), ()), ()))) (he : ∀ b, f ((b, (xs.length : Int), ()), ()) = some (.inr (fin b))) :
    iterW f ((b0, (0 : Int), ()), ()) = some (fin (b0 && xs.all q)) := by
  have := foldN_all xs q b0 xs.length (Nat.le_refl _)
  rw [List.take_length] at this
  rw [← this]
  refine iter_fold xs.length f _ fin (fun _ _ => True) b0 trivial (fun i hi b _ => ⟨?_, trivial⟩) (fun b _ => he b)
  rw [hs i hi b, List.getElem?_eq_getElem hi]
  rfl
/-- a loop that counts -/
theorem iter_count {A R : Type} (xs : List A) (q : A → Bool) (f : ((Int × Int × Unit) × Unit) → Option (((Int × Int × Unit) × Unit) ⊕ R)) (fin : Int → R)
    (hs : ∀ (i : Nat) (hi : i < xs.length) (c : Int), 0 ≤ c → c ≤ i → f ((c, (i : Int), ()), ()) = some (.inl (((bif q xs[i] then c + 1 else c), ((i : Int) + 1), ()), ()))) (he : ∀ c, f ((c, (xs.length : Int), ()), ()) = some (.inr (fin c))) :
    iterW f (((0 : Int), (0 : Int), ()), ()) = some (fin ((xs.countP q : Nat) : Int)) := by
  have hf : ∀ n, n ≤ xs.length → foldN (fun i (c : Int) => bif ((xs[i]?).map q).getD false then c + 1 else c) n 0 = (((xs.take n).countP q : Nat) : Int) := fun n => by
    induction n with
    | zero => intro _; simp [foldN]
    | succ n ih =>
      intro h
      have hn : n < xs.length := by omega
      rw [foldN, ih (by omega), List.getElem?_eq_getElem hn, List.take_succ_eq_append_getElem hn, List.countP_append]
      simp only [Option.map_some, Option.getD_some, List.countP_cons, List.countP_nil]
      cases q xs[n] <;> simp
  have := hf xs.length (Nat.le_refl _)
  rw [List.take_length] at this
  rw [← this]
  refine iter_fold xs.length f _ fin (fun i c => 0 ≤ c ∧ c ≤ i) 0 (by simp) (fun i hi c hc => ⟨?_, ?_⟩) (fun b _ => he b)
  · rw [hs i hi c hc.1 hc.2, List.getElem?_eq_getElem hi]
    rfl
  · cases ((xs[i]?).map q).getD false <;> simp <;> omega
/-- a walk over a list that may stop -/
def scanL {A S R : Type} (g : S → A → S ⊕ R) (fin : S → R) : List A → S → R
  | [], s => fin s
  | x :: xs, s => match g s x with
    | .inl s' => scanL g fin xs s'
    | .inr r => r
theorem iter_scan {A S T R : Type} (xs : List A) (f : T → Option (T ⊕ R)) (st : Nat → S → T) (g : S → A → S ⊕ R) (fin : S → R) (I : Nat → S → Prop)
    (hs : ∀ i (hi : i < xs.length) s, I i s → f (st i s) = match g s xs[i] with
      | .inl s' => some (.inl (st (i + 1) s'))
      | .inr r => some (.inr r))
    (hI : ∀ i (hi : i < xs.length) s s', I i s → g s xs[i] = .inl s' → I (i + 1) s')
    (he : ∀ s, I xs.length s → f (st xs.length s) = some (.inr (fin s))) (s0 : S) (h0 : I 0 s0) :
    iterW f (st 0 s0) = some (scanL g fin xs s0) := by
  have key : ∀ k i s, i + k = xs.length → I i s → iterW f (st i s) = some (scanL g fin (xs.drop i) s) := by
    intro k
    induction k with
    | zero =>
      intro i s hi hs'
      have : i = xs.length := by omega
      subst this
      rw [iterW_inr (he s hs'), List.drop_length]
      rfl
    | succ k ih =>
      intro i s hi hs'
      have hl : i < xs.length := by omega
      have h1 := hs i hl s hs'
      have h2 := hI i hl s
      rw [List.drop_eq_getElem_cons hl]
      unfold scanL
      match hg : g s xs[i] with
      | .inl s' =>
        rw [hg] at h1
        rw [iterW_inl h1, ih (i + 1) s' (by omega) (h2 s' hs' hg)]
      | .inr r =>
        rw [hg] at h1
        rw [iterW_inr h1]
  have := key xs.length 0 s0 (by omega) h0
  rwa [List.drop_zero] at this
/-- a walk that does not stop -/
theorem scanL_inl {A S R : Type} (g : S → A → S ⊕ R) (g' : S → A → S) (fin : S → R) : ∀ (xs : List A) (s : S), (∀ s x, x ∈ xs → g s x = .inl (g' s x)) → scanL g fin xs s = fin (xs.foldl g' s)
  | [], _, _ => rfl
  | x :: xs, s, h => by
    unfold scanL
    rw [h s x List.mem_cons_self]
    exact scanL_inl g g' fin xs _ fun s y hy => h s y (List.mem_cons_of_mem _ hy)
theorem Le.iterW {T α : Type} {f g : T → Option (T ⊕ α)} (h : ∀ x, Le (f x) (g x)) (x : T) : Le (Go.Den.iterW f x) (Go.Den.iterW g x) := fun r hr => by
  obtain ⟨n, hn⟩ := iterW_inv hr
  exact Le.iter h n x r hn
theorem Le.agreeW {α : Type} {a b a' b' : Option α} (h : Le a a') (h' : Le b b') : Le (Go.Den.agree a b) (Go.Den.agree a' b') := fun r hr => by
  unfold Go.Den.agree at hr ⊢
  split at hr
  · rename_i e
    rw [h r hr, h' r (e ▸ hr), if_pos rfl]
  · cases hr
/-- a recursion that computes s -/
theorem fixW_ind {T α : Type} {G : (T → Option α) → T → Option α} (hG : Mono G) (I : T → Prop) (μ : T → Nat) (s : T → α)
    (h : ∀ φ x, I x → (∀ y, I y → μ y < μ x → φ y = some (s y)) → G φ x = some (s x)) : ∀ x, I x → fixW G x = some (s x) := by
  have a2 : ∀ n x, I x → μ x < n → fixN G n x = some (s x) := by
    intro n
    induction n with
    | zero => intro x _ hl; omega
    | succ n ih => intro x hx hl; exact h _ x hx fun y hy hm => ih y hy (by omega)
  intro x hx
  exact Le.fix (fun φ ψ hs y => hG φ ψ hs y) hG (μ x + 1) x _ (a2 _ x hx (Nat.lt_succ_self _))
end Go.Den
namespace Go.Proofs.YtfppnefcicdnfaaGreat
open Go.Den
set_option linter.unusedVariables false
set_option linter.unusedSimpArgs false
set_option maxRecDepth 100000

abbrev Place := (List Int) × ((List Int) × (List Int) × Unit) × Int × Int × Unit
abbrev Place.cells (p : Place) : List Int := p.1
abbrev Place.h0 (p : Place) : List Int := p.2.1.1
abbrev Place.h1 (p : Place) : List Int := p.2.1.2.1
abbrev Place.turn (p : Place) : Int := p.2.2.1
abbrev Place.quiet (p : Place) : Int := p.2.2.2.1
abbrev tyPlace : Ty := .st (.sl (.int .i64)) (.st (.st (.sl (.int .i64)) (.st (.sl (.int .i64)) .nil)) (.st (.int .i64) (.st (.int .i64) .nil)))
theorem agree_self {α : Type} (x : Option α) : agree x x = x := by simp [agree]
theorem clone_ok (s : List Int) (h : s.length ≤ 1000000) : slicesClone_int s = some s := by
  unfold slicesClone_int
  have : room (([] : List Int).length + s.length) 8 = true := room_ok (by simp; omega)
  rw [this]
  cases s with
  | nil => simp [req_true, agree_self]
  | cons a l => simp [req_true]
theorem concat2 (a b : List Int) (ha : a.length ≤ 1000) (hb : b.length ≤ 1000) : slicesConcat_int [a, b] = some (a ++ b) := by
  have w1 : w64 (0 + ((a.length : Nat) : Int)) = (a.length : Int) := by rw [Int.zero_add]; exact w64_id (by omega) (by omega)
  have w2 : w64 ((a.length : Int) + ((b.length : Nat) : Int)) = ((a.length + b.length : Nat) : Int) := by rw [w64_id (by omega) (by omega)]; omega
  have w3 : w64 ((0 : Int) + 1) = 1 := by decide
  have w4 : w64 ((1 : Int) + 1) = 2 := by decide
  have g0 : at? [a, b] 0 = some a := rfl
  have g1 : at? [a, b] 1 = some b := rfl
  have l1 : iterW (slicesConcat_int_L1 [a, b]) (((0 : Int), (0 : Int), ()), ()) = some (((((a.length + b.length : Nat) : Int)), ()), ()) := by
    have s0 : slicesConcat_int_L1 [a, b] (((0 : Int), (0 : Int), ()), ()) = some (.inl ((((a.length : Nat) : Int), (1 : Int), ()), ())) := by
      unfold slicesConcat_int_L1
      simp only [g0, w1, w3, Option.bind_some]
      rw [show decide (((a.length : Nat) : Int) < 0) = false by simp]
      rfl
    have s1 : slicesConcat_int_L1 [a, b] ((((a.length : Nat) : Int), (1 : Int), ()), ()) = some (.inl ((((a.length + b.length : Nat) : Int), (2 : Int), ()), ())) := by
      unfold slicesConcat_int_L1
      simp only [g1, w2, w4, Option.bind_some]
      rw [show decide (((a.length + b.length : Nat) : Int) < 0) = false by simp; omega]
      rfl
    have s2 : slicesConcat_int_L1 [a, b] ((((a.length + b.length : Nat) : Int), (2 : Int), ()), ()) = some (.inr ((((a.length + b.length : Nat) : Int), ()), ())) := rfl
    rw [iterW_inl s0, iterW_inl s1, iterW_inr s2]
  have l2 : iterW (slicesConcat_int_L2 [a, b]) ((([] : List Int), (0 : Int), ()), ()) = some ((a ++ b, ()), ()) := by
    have s0 : slicesConcat_int_L2 [a, b] ((([] : List Int), (0 : Int), ()), ()) = some (.inl ((a, (1 : Int), ()), ())) := by
      unfold slicesConcat_int_L2
      simp only [g0, w3, Option.bind_some]
      rw [room_ok (by simp; omega)]
      rfl
    have s1 : slicesConcat_int_L2 [a, b] ((a, (1 : Int), ()), ()) = some (.inl ((a ++ b, (2 : Int), ()), ())) := by
      unfold slicesConcat_int_L2
      simp only [g1, w4, Option.bind_some]
      rw [room_ok (by omega)]
      rfl
    have s2 : slicesConcat_int_L2 [a, b] ((a ++ b, (2 : Int), ()), ()) = some (.inr ((a ++ b, ()), ())) := rfl
    rw [iterW_inl s0, iterW_inl s1, iterW_inr s2]
  unfold slicesConcat_int
  simp only [l1, Option.bind_some]
  rw [show decide (((a.length + b.length : Nat) : Int) < 0) = false by simp; omega]
  have w5 : w64 (((a.length + b.length : Nat) : Int) - 0) = ((a.length + b.length : Nat) : Int) := by rw [Int.sub_zero]; exact w64_id (by omega) (by omega)
  simp only [w5, cond_false]
  by_cases c : a.length + b.length = 0
  · rw [c]
    simp only [Int.natCast_zero, show decide ((0 : Int) > 0) = false by decide, cond_false, Option.bind_some]
    rw [l2]
    rfl
  · have c1 : decide (((a.length + b.length : Nat) : Int) > 0) = true := by simp; omega
    have c2 : decide (0 < ((a.length + b.length : Nat) : Int)) = true := by simp; omega
    have c3 : room ((((a.length + b.length : Nat) : Int)).toNat) 8 = true := room_ok (by omega)
    have c4 : ∀ l : List Int, boundsI 0 0 l.length = true := fun l => by simp [boundsI]
    simp only [c1, c2, c3, c4, cond_true, Bool.and_self, req_true, Option.bind_some, List.take_zero]
    rw [l2]
    rfl

def outC (r : Rules) (d : Int) : Bool := decide (d < 0) || decide (d > 2 * ((r.pieces.length : Nat) : Int))
def outH (d : Int) : Bool := decide (d < 0) || decide (d > 1000)
def outT (p : Place) : Bool := (((p.turn != 0) && (p.turn != 1)) || decide (p.quiet < 0)) || decide (p.quiet > 200)
def placeBad (r : Rules) (p : Place) : Bool := p.cells.any (outC r) || ((p.h0 ++ p.h1).any outH || outT p)
def formBad (r : Rules) (p : Place) : Bool := ((((p.cells.length : Nat) : Int) != r.width * r.height) || (((p.h0.length : Nat) : Int) != ((r.pieces.length : Nat) : Int))) || (((p.h1.length : Nat) : Int) != ((r.pieces.length : Nat) : Int))
def placeErr (r : Rules) (p : Place) : Int := if ruleErr r ≠ 0 then ruleErr r else bif formBad r p then 3 else bif placeBad r p then 4 else 0

structure VR0 (r : Rules) : Prop where
  w1 : 1 ≤ r.width
  w8 : r.width ≤ 8
  h1 : 1 ≤ r.height
  h8 : r.height ≤ 8
  t1 : 1 ≤ r.pieces.length
  t6 : r.pieces.length ≤ 6
  hand : ∀ q ∈ r.pieces, 0 ≤ q.2.1 ∧ q.2.1 ≤ 64
  prom : ∀ q ∈ r.pieces, 0 ≤ q.2.2.1 ∧ q.2.2.1 ≤ ((r.pieces.length : Nat) : Int)
  ways : ∀ q ∈ r.pieces, q.2.2.2.1.length ≤ 16
  way : ∀ q ∈ r.pieces, ∀ w ∈ q.2.2.2.1, (-7 ≤ w.1 ∧ w.1 ≤ 7) ∧ (-7 ≤ w.2.1 ∧ w.2.1 ≤ 7) ∧ ¬ (w.1 = 0 ∧ w.2.1 = 0) ∧ (1 ≤ w.2.2.1 ∧ w.2.2.1 ≤ 7) ∧ (0 ≤ w.2.2.2.1 ∧ w.2.2.2.1 ≤ 2)
  start : ((r.start.length : Nat) : Int) = r.width * r.height
  startC : ∀ c ∈ r.start, 0 ≤ c ∧ c ≤ 2 * ((r.pieces.length : Nat) : Int)
  ends6 : r.ends.length ≤ 6
  ends : ∀ x ∈ r.ends, (0 ≤ x.1 ∧ x.1 ≤ 2) ∧ (if x.1 = 1 then x.2.2.1 = 0 else 1 ≤ x.2.2.1 ∧ x.2.2.1 ≤ 64) ∧ (if x.1 = 0 then x.2.1 = 0 else 0 ≤ x.2.1 ∧ x.2.1 ≤ ((r.pieces.length : Nat) : Int) - 1)
  blocked : 0 ≤ r.blocked ∧ r.blocked ≤ 2
  quiet : 0 ≤ r.quiet ∧ r.quiet ≤ 200
  repeats : r.repeats = 0 ∨ (2 ≤ r.repeats ∧ r.repeats ≤ 5)
structure Valid (r : Rules) (p : Place) : Prop where
  r0 : VR0 r
  cells : ((p.cells.length : Nat) : Int) = r.width * r.height
  l0 : p.h0.length = r.pieces.length
  l1 : p.h1.length = r.pieces.length
  cell : ∀ c ∈ p.cells, 0 ≤ c ∧ c ≤ 2 * ((r.pieces.length : Nat) : Int)
  hand0 : ∀ c ∈ p.h0, 0 ≤ c ∧ c ≤ 1000
  hand1 : ∀ c ∈ p.h1, 0 ≤ c ∧ c ≤ 1000
  turn : p.turn = 0 ∨ p.turn = 1
  quiet : 0 ≤ p.quiet ∧ p.quiet ≤ 200

theorem mem_idx {α : Type} {l : List α} {x : α} (h : x ∈ l) : ∃ i, i < l.length ∧ l[i]? = some x := by
  obtain ⟨i, hi, e⟩ := List.mem_iff_getElem.1 h
  exact ⟨i, hi, by rw [List.getElem?_eq_getElem hi, e]⟩
theorem rules_valid {r : Rules} (h : ruleErr r = 0) : VR0 r := by
  unfold ruleErr at h
  split at h
  · cases h
  split at h
  · cases h
  rename_i _ h2
  have h2 := Decidable.not_not.1 h2
  split at h
  · cases h
  rename_i h3
  split at h
  · cases h
  rename_i h4
  split at h
  · rename_i h5; exact absurd h h5
  rename_i h5
  have h5 := firstNZ_zero (Decidable.not_not.1 h5)
  split at h
  · cases h
  rename_i h6
  have h6 := Decidable.not_not.1 h6
  split at h
  · rename_i h7; exact absurd h h7
  rename_i h7
  have h7 := firstNZ_zero (Decidable.not_not.1 h7)
  split at h
  · rename_i h8; exact absurd h h8
  rename_i h8
  have h8 := Decidable.not_not.1 h8
  unfold endsErr at h8
  split at h8
  · cases h8
  rename_i h9
  have h8 := firstNZ_zero h8
  have hp : ∀ q ∈ r.pieces, (0 ≤ q.2.1 ∧ q.2.1 ≤ 64) ∧ (0 ≤ q.2.2.1 ∧ q.2.2.1 ≤ ((r.pieces.length : Nat) : Int)) ∧ q.2.2.2.1.length ≤ 16 ∧ q.2.2.2.1.any badWay = false := fun q hq => by
    obtain ⟨i, hi, e⟩ := mem_idx hq
    have := h5 i hi
    unfold pErr at this
    rw [e] at this
    simp only at this
    cases c1 : (decide (q.1 < 65) || decide (q.1 > 90))
    · cases c2 : (r.pieces.take i).any (fun q' => q'.1 == q.1)
      · cases c3 : ((!(rulesWithin q.2.1 0 64)) || (!(rulesWithin q.2.2.1 0 ((r.pieces.length : Nat) : Int))))
        · cases c4 : decide (((q.2.2.2.1.length : Nat) : Int) > 16)
          · cases c5 : q.2.2.2.1.any badWay
            · simp only [Bool.or_eq_false_iff, Bool.not_eq_false'] at c3
              simp only [decide_eq_false_iff_not] at c4
              exact ⟨within_iff.1 c3.1, within_iff.1 c3.2, by omega, rfl⟩
            · simp [c1, c2, c3, c4, c5] at this
          · simp [c1, c2, c3, c4] at this
        · simp [c1, c2, c3] at this
      · simp [c1, c2] at this
    · simp [c1] at this
  refine ⟨h2.1.1, h2.1.2, h2.2.1, h2.2.2, by omega, by omega, fun q hq => (hp q hq).1, fun q hq => (hp q hq).2.1, fun q hq => (hp q hq).2.2.1, fun q hq w hw => ?_, h6, fun c hc => ?_, by omega, fun x hx => ?_, ?_, ?_, ?_⟩
  · have := (hp q hq).2.2.2
    rw [List.any_eq_false] at this
    have := this w hw
    unfold badWay at this
    simp only [Bool.not_eq_true, Bool.or_eq_false_iff, Bool.not_eq_false', within_iff, Bool.and_eq_false_iff, beq_eq_false_iff_ne] at this
    refine ⟨this.1.1.1.1, this.1.1.1.2, fun h => ?_, this.1.2, this.2⟩
    rcases this.1.1.2 with h' | h'
    · exact h' h.1
    · exact h' h.2
  · obtain ⟨i, hi, e⟩ := mem_idx hc
    have := h7 i hi
    unfold sErr at this
    rw [List.getD_eq_getElem?_getD, e] at this
    cases c1 : rulesWithin c 0 (2 * ((r.pieces.length : Nat) : Int))
    · simp [c1] at this
    · exact within_iff.1 c1
  · obtain ⟨i, hi, e⟩ := mem_idx hx
    have := h8 i hi
    unfold eErr at this
    rw [e] at this
    simp only at this
    cases c1 : rulesWithin x.1 0 2
    · simp [c1] at this
    · cases c2 : (!(bif x.1 == 1 then x.2.2.1 == 0 else rulesWithin x.2.2.1 1 64)) || (!(bif x.1 == 0 then x.2.1 == 0 else rulesWithin x.2.1 0 (((r.pieces.length : Nat) : Int) - 1)))
      · simp only [Bool.or_eq_false_iff, Bool.not_eq_false'] at c2
        refine ⟨within_iff.1 c1, ?_, ?_⟩
        · have := c2.1
          by_cases e1 : x.1 = 1
          · rw [if_pos e1]; simpa [e1] using this
          · rw [if_neg e1]; rw [beq_f e1, cond_false] at this; exact within_iff.1 this
        · have := c2.2
          by_cases e1 : x.1 = 0
          · rw [if_pos e1]; simpa [e1] using this
          · rw [if_neg e1]; rw [beq_f e1, cond_false] at this; exact within_iff.1 this
      · simp [c1, c2] at this
  all_goals
    unfold lastErr at h
    cases c1 : (((!(rulesWithin r.blocked (0 : Int) (2 : Int))) || (!(rulesWithin r.quiet (0 : Int) (200 : Int)))) || ((r.repeats != (0 : Int)) && (!(rulesWithin r.repeats (2 : Int) (5 : Int)))))
    · simp only [Bool.or_eq_false_iff, Bool.not_eq_false', within_iff, Bool.and_eq_false_iff, bne_eq_false_iff_eq] at c1
      first
      | exact c1.1.1
      | exact c1.1.2
      | exact c1.2
    · simp [c1] at h
theorem VR0.area {r : Rules} (h : VR0 r) : 1 ≤ r.width * r.height ∧ r.width * r.height ≤ 64 := by
  have h1 : r.width * r.height ≤ 8 * 8 := Int.mul_le_mul h.w8 h.h8 (by have := h.h1; omega) (by omega)
  have h2 : 1 * 1 ≤ r.width * r.height := Int.mul_le_mul h.w1 h.h1 (by omega) (by have := h.w1; omega)
  omega
theorem sound_spec (r : Rules) (p : Place) (hr : VR0 r) (hn : p.1.length ≤ 9223372036854775807) : placeSound r p = some (bif formBad r p then 3 else bif placeBad r p then 4 else 0) := by
  have ha := hr.area
  have ht := hr.t6
  unfold placeSound formBad
  rw [show r.2.1 * r.2.2.1 = r.width * r.height from rfl, w64_id (n := r.width * r.height) (by omega) (by omega)]
  cases hb : ((((((p.1.length : Nat) : Int) != r.width * r.height) || (((p.2.1.1.length : Nat) : Int) != ((r.2.2.2.1.length : Nat) : Int))) || (((p.2.1.2.1.length : Nat) : Int) != ((r.2.2.2.1.length : Nat) : Int)))) with
  | true => rfl
  | false =>
    simp only [Bool.or_eq_false_iff, bne_eq_false_iff_eq] at hb
    obtain ⟨⟨b1, b2⟩, b3⟩ := hb
    have ht' : r.2.2.2.1.length ≤ 6 := ht
    rw [cond_false, cond_false, concat2 _ _ (by omega) (by omega), Option.bind_some]
    unfold placeBad
    have hl2 : (p.2.1.1 ++ p.2.1.2.1).length ≤ 2000 := by simp; omega
    show _ = some (bif (p.1.any (outC r) || ((p.2.1.1 ++ p.2.1.2.1).any outH || outT p)) then (4 : Int) else 0)
    generalize p.2.1.1 ++ p.2.1.2.1 = l at hl2
    have i1 : iterW (placeSound_L1 p r l) (((0 : Int), ()), ()) = some (bif p.1.any (outC r) then .inr ((true, ()), ()) else .inl ((), ())) := by
      refine iterW_any p.1 (outC r) (placeSound_L1 p r l) (.inr ((true, ()), ())) (.inl ((), ())) (fun i hi => ?_) ?_
      · unfold placeSound_L1
        simp only [show decide ((i : Int) < ((p.1.length : Nat) : Int)) = true by simp; omega, cond_true]
        rw [at?_eq _ _ (by omega) (by omega)]
        simp only [Option.bind_some, Int.toNat_natCast, List.getElem?_eq_getElem hi]
        rw [w64_id (n := (i : Int) + 1) (by omega) (by omega), show decide ((i : Int) ≥ 0) = true by simp]
        rw [w64_id (n := (2 : Int) * ((r.2.2.2.1.length : Nat) : Int)) (by omega) (by omega)]
        unfold outC
        generalize (decide (p.1[i] < (0 : Int)) || decide (p.1[i] > ((2 : Int) * ((r.2.2.2.1.length : Nat) : Int)))) = q
        cases q <;> rfl
      · unfold placeSound_L1
        simp
    have i2 : iterW (placeSound_L3 l p) (((0 : Int), ()), ()) = some (bif l.any outH then .inr ((true, ()), ()) else .inl ((), ())) := by
      refine iterW_any l outH (placeSound_L3 l p) (.inr ((true, ()), ())) (.inl ((), ())) (fun i hi => ?_) ?_
      · unfold placeSound_L3
        simp only [show decide ((i : Int) < ((l.length : Nat) : Int)) = true by simp; omega, cond_true, Int.toNat_natCast, show inb (i : Int) l.length = true from inb_iff.2 ⟨by omega, by omega⟩, req_true, show decide ((i : Int) ≥ 0) = true by simp]
        rw [w64_id (n := (i : Int) + 1) (by omega) (by omega)]
        have e : getD' l i (0 : Int) = l[i] := by simp [getD', hi]
        have e' : outH l[i] = (decide (getD' l i (0 : Int) < (0 : Int)) || decide (getD' l i (0 : Int) > (1000 : Int))) := by rw [e]; rfl
        rw [e']
        generalize (decide (getD' l i (0 : Int) < (0 : Int)) || decide (getD' l i (0 : Int) > (1000 : Int))) = q
        cases q <;> simp
      · unfold placeSound_L3
        simp
    have e4 : iterW (placeSound_L4 p r l) (((0 : Int), ()), ()) = _ := i1
    have e6 : iterW (placeSound_L6 l p) (((0 : Int), ()), ()) = _ := i2
    simp only [i1, i2, e4, e6, agree_self, Option.bind_some]
    unfold outT
    cases p.1.any (outC r)
    · cases l.any outH
      · simp only [cond_false, Sum.elim_inl, Option.bind_some, Bool.false_or]
        exact (cond_some _ _ _)
      · rfl
    · rfl
theorem place_spec (r : Rules) (p : Place) (hr : Rng tyRules r) (hn : p.1.length ≤ 9223372036854775807) : placeCheck r p = some (placeErr r p) := by
  unfold placeCheck placeErr
  rw [check_spec r hr, Option.bind_some]
  by_cases c : ruleErr r = 0
  · rw [bne_f c, cond_false, if_neg (by simpa using c), sound_spec r p (rules_valid c) hn]
    rfl
  · rw [bne_t c, cond_true, if_pos c]
theorem valid_of {r : Rules} {p : Place} (h : placeErr r p = 0) : Valid r p := by
  unfold placeErr at h
  split at h
  · rename_i c; exact absurd h c
  rename_i c
  have hv := rules_valid (Decidable.not_not.1 c)
  cases c1 : formBad r p
  · rw [c1, cond_false] at h
    cases c2 : placeBad r p
    · unfold formBad at c1
      unfold placeBad outT at c2
      simp only [Bool.or_eq_false_iff, bne_eq_false_iff_eq, List.any_eq_false, Bool.and_eq_false_iff, decide_eq_false_iff_not, List.mem_append, outC, outH, decide_eq_true_eq, Bool.not_eq_true] at c1 c2
      obtain ⟨⟨a1, a2⟩, a3⟩ := c1
      obtain ⟨b1, b2, ⟨b3, b4⟩, b5⟩ := c2
      exact ⟨hv, a1, by omega, by omega, fun c hc => by have := b1 c hc; omega, fun c hc => by have := b2 c (.inl hc); omega, fun c hc => by have := b2 c (.inr hc); omega, b3, by omega⟩
    · rw [c2] at h; cases h
  · rw [c1] at h; cases h
end Go.Proofs.YtfppnefcicdnfaaGreat
namespace Go.Proofs.YtfppnefcicdnfaaGreat
open Go.Den
set_option linter.unusedVariables false
set_option linter.unusedSimpArgs false
set_option maxRecDepth 100000

abbrev RWay := Int × Int × Int × Int × Unit
def cellI (p : Place) (s : Int) : Int := p.cells.getD s.toNat 0
def onB (r : Rules) (x y : Int) : Bool := decide (0 ≤ x ∧ x < r.width ∧ 0 ≤ y ∧ y < r.height)
def sq (r : Rules) (x y : Int) : Int := y * r.width + x
def enemy (p : Place) (c : Int) : Bool := decide (c > 0) && ((c - 1).tmod 2 != p.turn)
def mineB (p : Place) (c : Int) : Bool := decide (c > 0) && ((c - 1).tmod 2 == p.turn)
def takes (p : Place) (w : RWay) (c : Int) : Bool := ((c == 0) && (w.2.2.2.1 != 2)) || (enemy p c && (w.2.2.2.1 != 0))
def dyOf (p : Place) (w : RWay) : Int := if p.turn = 1 then - w.2.1 else w.2.1
def wayL (r : Rules) (p : Place) (w : RWay) : Nat → Int → Int → List Int
  | 0, _, _ => []
  | n + 1, x, y => bif onB r (x + w.1) (y + dyOf p w) then (bif takes p w (cellI p (sq r (x + w.1) (y + dyOf p w))) then [sq r (x + w.1) (y + dyOf p w)] else []) ++ (bif cellI p (sq r (x + w.1) (y + dyOf p w)) == 0 then wayL r p w n (x + w.1) (y + dyOf p w) else []) else []
def wayS (r : Rules) (p : Place) (s : Int) (w : RWay) : List Int := wayL r p w w.2.2.1.toNat (s.tmod r.width) (s.tdiv r.width)

def WayOk (w : RWay) : Prop := (-7 ≤ w.1 ∧ w.1 ≤ 7) ∧ (-7 ≤ w.2.1 ∧ w.2.1 ≤ 7) ∧ ¬ (w.1 = 0 ∧ w.2.1 = 0) ∧ (1 ≤ w.2.2.1 ∧ w.2.2.1 ≤ 7) ∧ (0 ≤ w.2.2.2.1 ∧ w.2.2.2.1 ≤ 2)
theorem Valid.wayOk {r : Rules} {p : Place} (h : Valid r p) {q : Piece} (hq : q ∈ r.pieces) {w : RWay} (hw : w ∈ q.2.2.2.1) : WayOk w := h.r0.way q hq w hw
theorem dyOf_rng {p : Place} {w : RWay} (h : WayOk w) : -7 ≤ dyOf p w ∧ dyOf p w ≤ 7 := by
  unfold dyOf; obtain ⟨_, h1, _⟩ := h; split <;> omega
theorem dyOf_ne {p : Place} {w : RWay} (h : WayOk w) : ¬ (w.1 = 0 ∧ dyOf p w = 0) := by
  unfold dyOf; obtain ⟨_, h1, h2, _⟩ := h; split <;> omega
theorem onB_iff {r : Rules} {x y : Int} : onB r x y = true ↔ 0 ≤ x ∧ x < r.width ∧ 0 ≤ y ∧ y < r.height := by simp [onB]
theorem mul_rng {y W H : Int} (hW : 0 ≤ W) (h0 : 0 ≤ y) (h1 : y < H) : 0 ≤ y * W ∧ y * W ≤ W * H - W := by
  refine ⟨Int.mul_nonneg h0 hW, ?_⟩
  have := Int.mul_le_mul_of_nonneg_right (show y ≤ H - 1 by omega) hW
  rw [Int.sub_mul, Int.one_mul, Int.mul_comm H W] at this
  exact this
theorem sq_rng {r : Rules} (hr : VR0 r) {x y : Int} (h : onB r x y = true) : 0 ≤ sq r x y ∧ sq r x y < r.width * r.height := by
  obtain ⟨h1, h2, h3, h4⟩ := onB_iff.1 h
  have := mul_rng (show 0 ≤ r.width by have := hr.w1; omega) h3 h4
  unfold sq
  omega
theorem sq_inj {r : Rules} {x y x' y' : Int} (h : onB r x y = true) (h' : onB r x' y' = true) (e : sq r x y = sq r x' y') : x = x' ∧ y = y' := by
  obtain ⟨h1, h2, h3, h4⟩ := onB_iff.1 h
  obtain ⟨g1, g2, g3, g4⟩ := onB_iff.1 h'
  unfold sq at e
  have hW : 0 < r.width := by omega
  have ey : y = y' := by
    have a : (y * r.width + x) / r.width = y := by rw [Int.add_comm, Int.add_mul_ediv_right _ _ (by omega), Int.ediv_eq_zero_of_lt h1 h2, Int.zero_add]
    have b : (y' * r.width + x') / r.width = y' := by rw [Int.add_comm, Int.add_mul_ediv_right _ _ (by omega), Int.ediv_eq_zero_of_lt g1 g2, Int.zero_add]
    rw [← a, ← b, e]
  subst ey
  exact ⟨by omega, rfl⟩
theorem at_cell {p : Place} {s : Int} (h0 : 0 ≤ s) (h1 : s < ((p.cells.length : Nat) : Int)) : at? p.1 s = some (cellI p s) := by
  rw [at?_eq p.1 s h0 h1]
  unfold cellI
  have h1' : s < ((p.1.length : Nat) : Int) := h1
  rw [List.getD_eq_getElem?_getD, List.getElem?_eq_getElem (by show s.toNat < p.1.length; omega)]
  rfl
theorem cell_rng {r : Rules} {p : Place} (h : Valid r p) (s : Int) : 0 ≤ cellI p s ∧ cellI p s ≤ 2 * ((r.pieces.length : Nat) : Int) := by
  unfold cellI
  rw [List.getD_eq_getElem?_getD]
  cases e : p.cells[s.toNat]? with
  | none => simp; omega
  | some c => exact h.cell c (List.mem_of_getElem? e)
theorem cell_small {r : Rules} {p : Place} (h : Valid r p) (s : Int) : 0 ≤ cellI p s ∧ cellI p s ≤ 12 := by
  have := cell_rng h s
  have := h.r0.t6
  omega
theorem wayL_len (r : Rules) (p : Place) (w : RWay) : ∀ (n : Nat) (x y : Int), (wayL r p w n x y).length ≤ n
  | 0, x, y => by simp [wayL]
  | n + 1, x, y => by
    unfold wayL
    have := wayL_len r p w n (x + w.1) (y + dyOf p w)
    cases onB r (x + w.1) (y + dyOf p w)
    · simp
    · cases takes p w (cellI p (sq r (x + w.1) (y + dyOf p w))) <;> cases (cellI p (sq r (x + w.1) (y + dyOf p w)) == 0) <;> simp <;> omega
theorem wayL_mem {r : Rules} {p : Place} {w : RWay} {t : Int} : ∀ {n : Nat} {x y : Int}, t ∈ wayL r p w n x y → ∃ j : Int, 1 ≤ j ∧ onB r (x + j * w.1) (y + j * dyOf p w) = true ∧ t = sq r (x + j * w.1) (y + j * dyOf p w)
  | 0, x, y, h => by simp [wayL] at h
  | n + 1, x, y, h => by
    unfold wayL at h
    cases hb : onB r (x + w.1) (y + dyOf p w) with
    | false => simp [hb] at h
    | true =>
      rw [hb, cond_true] at h
      rcases List.mem_append.1 h with h | h
      · refine ⟨1, by omega, by simpa using hb, ?_⟩
        cases ht : takes p w (cellI p (sq r (x + w.1) (y + dyOf p w))) <;> simp [ht] at h
        simpa using h
      · cases hc : (cellI p (sq r (x + w.1) (y + dyOf p w)) == 0) <;> simp [hc] at h
        obtain ⟨j, h1, h2, h3⟩ := wayL_mem h
        have e1 : x + w.1 + j * w.1 = x + (j + 1) * w.1 := by rw [Int.add_mul]; omega
        have e2 : y + dyOf p w + j * dyOf p w = y + (j + 1) * dyOf p w := by rw [Int.add_mul]; omega
        rw [e1, e2] at h2 h3
        exact ⟨j + 1, by omega, h2, h3⟩
theorem wayL_new {r : Rules} {p : Place} {w : RWay} (hw : WayOk w) {n : Nat} {x y : Int} (hb : onB r x y = true) : sq r x y ∉ wayL r p w n x y := fun h => by
  obtain ⟨j, h1, h2, h3⟩ := wayL_mem h
  obtain ⟨e1, e2⟩ := sq_inj hb h2 h3
  have a : j * w.1 = 0 := by omega
  have b : j * dyOf p w = 0 := by omega
  refine dyOf_ne (p := p) hw ⟨?_, ?_⟩
  · rcases Int.mul_eq_zero.1 a with h | h
    · omega
    · exact h
  · rcases Int.mul_eq_zero.1 b with h | h
    · omega
    · exact h
theorem way_mem_rng {r : Rules} {p : Place} (h : VR0 r) {w : RWay} {n : Nat} {x y t : Int} (ht : t ∈ wayL r p w n x y) : 0 ≤ t ∧ t < r.width * r.height := by
  obtain ⟨j, h1, h2, h3⟩ := wayL_mem ht
  rw [h3]; exact sq_rng h h2
theorem div_rng {r : Rules} (hr : VR0 r) {s : Int} (h0 : 0 ≤ s) (h1 : s < r.width * r.height) : (0 ≤ s.tmod r.width ∧ s.tmod r.width < r.width) ∧ 0 ≤ s.tdiv r.width ∧ s.tdiv r.width < r.height := by
  have hw := hr.w1
  rw [Int.tmod_eq_emod_of_nonneg h0, Int.tdiv_eq_ediv_of_nonneg h0]
  refine ⟨⟨Int.emod_nonneg _ (by omega), Int.emod_lt_of_pos _ (by omega)⟩, Int.ediv_nonneg h0 (by omega), Int.ediv_lt_of_lt_mul (by omega) (by rw [Int.mul_comm]; exact h1)⟩
theorem takes_prog {r : Rules} {p : Place} (h : Valid r p) {w : RWay} (hw : WayOk w) (s : Int) :
    ((((w.2.2.2.1 == (0 : Int)) && (cellI p s == (0 : Int))) || ((w.2.2.2.1 == (1 : Int)) && ((cellI p s == (0 : Int)) || ((decide (cellI p s > (0 : Int))) && (((w64 (cellI p s - (1 : Int))).tmod (2 : Int)) != p.2.2.1))))) || ((w.2.2.2.1 == (2 : Int)) && ((decide (cellI p s > (0 : Int))) && (((w64 (cellI p s - (1 : Int))).tmod (2 : Int)) != p.2.2.1)))) = takes p w (cellI p s) := by
  have hc := cell_small h s
  rw [w64_id (n := cellI p s - 1) (by omega) (by omega)]
  obtain ⟨_, _, _, _, h5⟩ := hw
  have h6 : w.2.2.2.1 = 0 ∨ w.2.2.2.1 = 1 ∨ w.2.2.2.1 = 2 := by omega
  unfold takes enemy
  rw [show p.turn = p.2.2.1 from rfl]
  generalize hA : (cellI p s == 0) = A
  have hA' : A = true → decide (cellI p s > 0) = false := fun h => by
    subst hA
    rw [beq_iff_eq] at h
    simp [h]
  generalize decide (cellI p s > 0) = B at hA'
  generalize ((cellI p s - 1).tmod 2 != p.2.2.1) = C
  rcases h6 with h6 | h6 | h6 <;> rw [h6] <;> cases A <;> cases B <;> cases C <;> simp_all
theorem way_iter {r : Rules} {p : Place} (h : Valid r p) {w : RWay} (hw : WayOk w) : ∀ (n : Nat) (out : List Int) (x y k : Int), 0 ≤ k → k + n = w.2.2.1 → out.length ≤ k.toNat → (0 ≤ x ∧ x < r.width) → (0 ≤ y ∧ y < r.height) →
    iterW (movesWay_L1 w r ((dyOf p w, ()), ()) p) ((out, x, y, k, ()), ()) = some ((out ++ wayL r p w n x y, ()), ())
  | 0, out, x, y, k, h0, hk, ho, hx, hy => by
    refine iterW_inr ?_
    unfold movesWay_L1
    have : decide (k < w.2.2.1) = false := by simp; omega
    simp only [this, cond_false, wayL, List.append_nil]
  | n + 1, out, x, y, k, h0, hk, ho, hx, hy => by
    have hr := h.r0
    have hd := dyOf_rng (p := p) hw
    obtain ⟨hdx, _, _, hm, _⟩ := hw
    have := hr.w8; have := hr.h8; have := hr.w1; have := hr.h1
    have ha := hr.area
    have hlt : decide (k < w.2.2.1) = true := by simp; omega
    have wx : w64 (x + w.1) = x + w.1 := w64_id (by omega) (by omega)
    have wy : w64 (y + dyOf p w) = y + dyOf p w := w64_id (by omega) (by omega)
    have wk : w64 (k + 1) = k + 1 := w64_id (by omega) (by omega)
    have hoff : ((((decide (x + w.1 < (0 : Int))) || (decide (x + w.1 ≥ r.2.1))) || (decide (y + dyOf p w < (0 : Int)))) || (decide (y + dyOf p w ≥ r.2.2.1))) = !onB r (x + w.1) (y + dyOf p w) := by
      rw [Bool.eq_iff_iff]
      simp only [Bool.or_eq_true, decide_eq_true_eq, Bool.not_eq_true', onB, decide_eq_false_iff_not]
      show ((x + w.1 < 0 ∨ x + w.1 ≥ r.width) ∨ y + dyOf p w < 0) ∨ y + dyOf p w ≥ r.height ↔ _
      omega
    unfold wayL
    cases hb : onB r (x + w.1) (y + dyOf p w) with
    | false =>
      refine iterW_inr ?_
      unfold movesWay_L1
      simp only [hlt, cond_true, wx, wy, hoff, hb, Bool.not_false, cond_false, List.append_nil]
    | true =>
      have hs := sq_rng hr hb
      obtain ⟨b1, b2, b3, b4⟩ := onB_iff.1 hb
      have hmul := mul_rng (show 0 ≤ r.width by omega) b3 b4
      have w1 : w64 ((y + dyOf p w) * r.2.1) = (y + dyOf p w) * r.2.1 := w64_id (by show _ ≤ (y + dyOf p w) * r.width; omega) (by show (y + dyOf p w) * r.width ≤ _; omega)
      have w2 : w64 ((y + dyOf p w) * r.2.1 + (x + w.1)) = sq r (x + w.1) (y + dyOf p w) := w64_id (by show _ ≤ sq r (x + w.1) (y + dyOf p w); omega) (by show sq r (x + w.1) (y + dyOf p w) ≤ _; omega)
      have hat := at_cell (p := p) hs.1 (by rw [h.cells]; exact hs.2)
      have hlen := h.cells
      have hstep : movesWay_L1 w r ((dyOf p w, ()), ()) p ((out, x, y, k, ()), ()) = (bif cellI p (sq r (x + w.1) (y + dyOf p w)) != 0 then some (.inr ((out ++ (bif takes p w (cellI p (sq r (x + w.1) (y + dyOf p w))) then [sq r (x + w.1) (y + dyOf p w)] else []), ()), ())) else some (.inl ((out ++ (bif takes p w (cellI p (sq r (x + w.1) (y + dyOf p w))) then [sq r (x + w.1) (y + dyOf p w)] else []), x + w.1, y + dyOf p w, k + 1, ()), ()))) := by
        unfold movesWay_L1
        simp only [hlt, cond_true, wx, wy, hoff, hb, Bool.not_true, cond_false, w1, w2, wk, hat, Option.bind_some, takes_prog h ⟨hdx, ‹_›, ‹_›, hm, ‹_›⟩, show ∀ b, imp b true = true from fun b => by cases b <;> rfl, req_true]
        have hroom : room (out.length + [sq r (x + w.1) (y + dyOf p w)].length) 8 = true := room_ok (by simp; omega)
        cases takes p w (cellI p (sq r (x + w.1) (y + dyOf p w)))
        · simp
        · simp only [cond_true, hroom, req_true, Option.bind_some]
      cases hc : (cellI p (sq r (x + w.1) (y + dyOf p w)) == 0) with
      | true =>
        have hne : (cellI p (sq r (x + w.1) (y + dyOf p w)) != 0) = false := by simp only [bne, hc]; rfl
        rw [hne, cond_false] at hstep
        rw [iterW_inl hstep, way_iter h ⟨hdx, ‹_›, ‹_›, hm, ‹_›⟩ n _ (x + w.1) (y + dyOf p w) (k + 1) (by omega) (by omega) (by
          have : (bif takes p w (cellI p (sq r (x + w.1) (y + dyOf p w))) then [sq r (x + w.1) (y + dyOf p w)] else []).length ≤ 1 := by cases takes p w (cellI p (sq r (x + w.1) (y + dyOf p w))) <;> simp
          rw [List.length_append]; omega) ⟨b1, b2⟩ ⟨b3, b4⟩]
        simp [List.append_assoc]
      | false =>
        have hne : (cellI p (sq r (x + w.1) (y + dyOf p w)) != 0) = true := by simp only [bne, hc]; rfl
        rw [hne, cond_true] at hstep
        rw [iterW_inr hstep]
        simp
theorem way_spec {r : Rules} {p : Place} (h : Valid r p) {w : RWay} (hw : WayOk w) {s : Int} (h0 : 0 ≤ s) (h1 : s < r.width * r.height) : movesWay r p s w = some (wayS r p s w) := by
  have hr := h.r0
  have hd := div_rng hr h0 h1
  have := hr.w8; have := hr.h8; have := hr.w1; have := hr.h1
  obtain ⟨hdx, hdy, hnz, hm, htk⟩ := id hw
  unfold movesWay wayS
  have hq : (r.2.1 != 0) = true := bne_t (by show ¬ r.width = 0; omega)
  have wdy : (bif (p.2.2.1 == (1 : Int)) then some (((w64 (0 - w.2.1)), ()), ()) else some ((w.2.1, ()), ())) = some ((dyOf p w, ()), ()) := by
    unfold dyOf
    by_cases e : p.turn = 1
    · rw [if_pos e, beq_t e, cond_true, w64_id (by omega) (by omega)]; simp
    · rw [if_neg e, beq_f e, cond_false]
  have wq : w64 (s.tdiv r.2.1) = s.tdiv r.2.1 := w64_id (by show _ ≤ s.tdiv r.width; omega) (by show s.tdiv r.width ≤ _; omega)
  rw [wdy, Option.bind_some, hq, req_true, req_true, wq, way_iter h hw w.2.2.1.toNat [] _ _ 0 (by omega) (by omega) (by simp) hd.1 hd.2]
  simp
theorem mulb {k d : Int} (h0 : 0 ≤ k) (h8 : k ≤ 8) (d0 : -7 ≤ d) (d7 : d ≤ 7) : -56 ≤ k * d ∧ k * d ≤ 56 := by
  have : k = 0 ∨ k = 1 ∨ k = 2 ∨ k = 3 ∨ k = 4 ∨ k = 5 ∨ k = 6 ∨ k = 7 ∨ k = 8 := by omega
  rcases this with rfl | rfl | rfl | rfl | rfl | rfl | rfl | rfl | rfl <;> omega
theorem enemy_ref {r : Rules} {p : Place} (h : Valid r p) {c : Int} (h0 : 0 ≤ c) : (decide (c > 0) && ((c - 1).tmod 2 == 1 - p.turn)) = enemy p c := by
  unfold enemy
  by_cases hc : c > 0
  · have : (c - 1).tmod 2 = 0 ∨ (c - 1).tmod 2 = 1 := by rw [Int.tmod_eq_emod_of_nonneg (by omega)]; omega
    have ht := h.turn
    rw [decide_eq_true hc, Bool.true_and, Bool.true_and, Bool.eq_iff_iff, beq_iff_eq, bne_iff_ne]
    show _ ↔ ¬ _
    omega
  · simp [hc]
end Go.Proofs.YtfppnefcicdnfaaGreat
namespace Go.Proofs.YtfppnefcicdnfaaGreat
open Go.Den
set_option linter.unusedVariables false
set_option linter.unusedSimpArgs false
set_option maxRecDepth 100000

theorem lt_iff (x y : Mv) : mvLt x y = true ↔ x.1 < y.1 ∨ x.1 = y.1 ∧ (x.2.1 < y.2.1 ∨ x.2.1 = y.2.1 ∧ x.2.2.1 < y.2.2.1) := by simp [mvLt]
theorem lt_f (x y : Mv) : mvLt x y = false ↔ ¬ (x.1 < y.1 ∨ x.1 = y.1 ∧ (x.2.1 < y.2.1 ∨ x.2.1 = y.2.1 ∧ x.2.2.1 < y.2.2.1)) := by rw [← lt_iff, Bool.not_eq_true]
theorem mv_eq {x y : Mv} (h1 : x.1 = y.1) (h2 : x.2.1 = y.2.1) (h3 : x.2.2.1 = y.2.2.1) : x = y := by
  obtain ⟨a, b, c, ⟨⟩⟩ := x
  obtain ⟨a', b', c', ⟨⟩⟩ := y
  simp only at h1 h2 h3
  subst h1 h2 h3
  rfl
theorem mv_beq (x y : Mv) : ((x.1 == y.1) && ((x.2.1 == y.2.1) && ((x.2.2.1 == y.2.2.1) && true))) = decide (x = y) := by
  rw [Bool.eq_iff_iff]
  simp only [Bool.and_eq_true, beq_iff_eq, decide_eq_true_eq, and_true]
  constructor
  · rintro ⟨h1, h2, h3⟩; exact mv_eq h1 h2 h3
  · rintro rfl; exact ⟨rfl, rfl, rfl⟩

/-- each once, of a list in which equals are neighbours -/
def dd1 (a : Mv) : List Mv → List Mv
  | [] => []
  | x :: xs => if x = a then dd1 a xs else x :: dd1 x xs
def dd : List Mv → List Mv
  | [] => []
  | x :: xs => x :: dd1 x xs
theorem dd1_snoc (y : Mv) : ∀ (l : List Mv) (a : Mv), dd1 a (l ++ [y]) = dd1 a l ++ (if (a :: l).getLast (by simp) = y then [] else [y])
  | [], a => by simp only [List.nil_append, dd1, List.getLast_singleton]; by_cases h : y = a <;> simp [h, eq_comm]
  | x :: xs, a => by
    simp only [List.cons_append, dd1]
    by_cases h : x = a
    · subst h
      rw [if_pos rfl, if_pos rfl, dd1_snoc y xs x]
      congr 2
    · rw [if_neg h, if_neg h, dd1_snoc y xs x, List.cons_append]
      congr 2
theorem dd_snoc {l : List Mv} (hl : l ≠ []) (y : Mv) : dd (l ++ [y]) = dd l ++ (if l.getLast hl = y then [] else [y]) := by
  cases l with
  | nil => exact absurd rfl hl
  | cons x xs => simp only [List.cons_append, dd, dd1_snoc]
theorem dd1_mem (z : Mv) : ∀ (l : List Mv) (a : Mv), z ∈ a :: dd1 a l ↔ z ∈ a :: l
  | [], a => by simp [dd1]
  | x :: xs, a => by
    simp only [dd1]
    by_cases h : x = a
    · subst h; rw [if_pos rfl, dd1_mem z xs x]; simp
    · rw [if_neg h, List.mem_cons, dd1_mem z xs x, ← List.mem_cons]
theorem dd_mem (z : Mv) (l : List Mv) : z ∈ dd l ↔ z ∈ l := by
  cases l with
  | nil => simp [dd]
  | cons x xs => exact dd1_mem z xs x
theorem dd1_lt : ∀ (l : List Mv) (a : Mv), (a :: l).Pairwise (fun x y => (!mvLt y x) = true) → (a :: dd1 a l).Pairwise (fun x y => mvLt x y = true)
  | [], a, h => by simp [dd1]
  | x :: xs, a, h => by
    simp only [dd1]
    rw [List.pairwise_cons] at h
    by_cases e : x = a
    · subst e; rw [if_pos rfl]; exact dd1_lt xs x h.2
    · rw [if_neg e, List.pairwise_cons]
      refine ⟨fun z hz => ?_, dd1_lt xs x h.2⟩
      have hz' := (dd1_mem z xs x).1 hz
      have h1 := h.1 x (by simp)
      have hax : mvLt a x = true := by
        rw [Bool.not_eq_true', lt_f] at h1
        rw [lt_iff]
        by_cases c1 : a.1 = x.1
        · by_cases c2 : a.2.1 = x.2.1
          · by_cases c3 : a.2.2.1 = x.2.2.1
            · exact absurd (mv_eq c1 c2 c3).symm e
            · omega
          · omega
        · omega
      rcases List.mem_cons.1 hz' with rfl | hz2
      · exact hax
      · have h2 := (List.pairwise_cons.1 h.2).1 z hz2
        rw [Bool.not_eq_true', lt_f] at h2
        rw [lt_iff] at hax ⊢
        omega
theorem dd_lt {l : List Mv} (h : l.Pairwise (fun x y => (!mvLt y x) = true)) : (dd l).Pairwise (fun x y => mvLt x y = true) := by
  cases l with
  | nil => simp [dd]
  | cons x xs => exact dd1_lt xs x h
theorem sort_pw (l : List Mv) : (sortMoves l).Pairwise (fun x y => (!mvLt y x) = true) := by
  unfold sortMoves
  apply List.pairwise_mergeSort
  · intro a b c h1 h2
    rw [Bool.not_eq_true', lt_f] at *
    omega
  · intro a b
    rw [Bool.or_eq_true, Bool.not_eq_true', Bool.not_eq_true', lt_f, lt_f]
    omega
theorem sort_mem (z : Mv) (l : List Mv) : z ∈ sortMoves l ↔ z ∈ l := (List.mergeSort_perm l _).mem_iff
theorem sort_len (l : List Mv) : (sortMoves l).length = l.length := List.length_mergeSort l
theorem lt_irrefl (x : Mv) : mvLt x x = false := by rw [lt_f]; omega
/-- two lists in strict order with the same moves are the same -/
theorem lt_unique : ∀ {l m : List Mv}, l.Pairwise (fun x y => mvLt x y = true) → m.Pairwise (fun x y => mvLt x y = true) → (∀ z, z ∈ l ↔ z ∈ m) → l = m
  | [], [], _, _, _ => rfl
  | [], y :: m, _, _, h => by have := (h y).2 (by simp); simp at this
  | x :: l, [], _, _, h => by have := (h x).1 (by simp); simp at this
  | x :: l, y :: m, hl, hm, h => by
    rw [List.pairwise_cons] at hl hm
    have e : x = y := by
      rcases List.mem_cons.1 ((h x).1 (by simp)) with e | e
      · exact e
      · rcases List.mem_cons.1 ((h y).2 (by simp)) with e2 | e2
        · exact e2.symm
        · have a := hm.1 x e
          have b := hl.1 y e2
          rw [lt_iff] at a b
          omega
    subst e
    congr 1
    refine lt_unique hl.2 hm.2 fun z => ⟨fun hz => ?_, fun hz => ?_⟩
    · rcases List.mem_cons.1 ((h z).1 (by simp [hz])) with e | e
      · subst e; have := hl.1 z hz; rw [lt_irrefl] at this; cases this
      · exact e
    · rcases List.mem_cons.1 ((h z).2 (by simp [hz])) with e | e
      · subst e; have := hm.1 z hz; rw [lt_irrefl] at this; cases this
      · exact e

/-! ### compacting -/
abbrev d0 : Mv := ((0 : Int), ((0 : Int), ((0 : Int), ())))
theorem get_take {xs : List Mv} {j : Nat} (h : j < xs.length) : xs.take (j + 1) = xs.take j ++ [getD' xs j d0] := by
  rw [List.take_succ_eq_append_getElem h]
  simp [getD', h]
theorem dd_take {xs : List Mv} {j : Nat} (h : j < xs.length) (hj : 1 ≤ j) : dd (xs.take (j + 1)) = dd (xs.take j) ++ (if getD' xs (j - 1) d0 = getD' xs j d0 then [] else [getD' xs j d0]) := by
  have hne : xs.take j ≠ [] := by
    intro e
    have := congrArg List.length e
    rw [List.length_take] at this
    simp only [List.length_nil] at this
    omega
  rw [get_take h, dd_snoc hne]
  have : (xs.take j).getLast hne = getD' xs (j - 1) d0 := by
    rw [List.getLast_eq_getElem]
    simp only [List.getElem_take, List.length_take, getD']
    rw [List.getD_eq_getElem?_getD, List.getElem?_eq_getElem (by omega)]
    simp only [Option.getD_some]
    congr 1
    omega
  rw [this]
theorem compact5 (xs : List Mv) (k0 : Nat) (hk0 : 1 ≤ k0) (hk1 : k0 < xs.length) (hx : xs.length ≤ 1000000) (hd : dd (xs.take (k0 + 1)) = xs.take k0) :
    ∃ r, iterW (movesList_L5 (((k0 : Int), ()), (xs, ()))) (((k0 : Int), (1 : Int), ()), (xs, ())) = some r ∧ (∃ k : Nat, r.1.1 = (k : Int) ∧ k ≤ xs.length ∧ r.2.1.length = xs.length ∧ r.2.1.take k = dd xs) := by
  refine iterW_meas (fun x => ∃ (k k2 : Nat), x.1.1 = (k : Int) ∧ x.1.2.1 = (k2 : Int) ∧ 1 ≤ k2 ∧ k0 + k2 ≤ xs.length ∧ k0 ≤ k ∧ k + 1 ≤ k0 + k2 ∧ x.2.1.length = xs.length ∧ (∀ j, k0 + k2 ≤ j + 1 → getD' x.2.1 j d0 = getD' xs j d0) ∧ x.2.1.take k = dd (xs.take (k0 + k2))) (fun x => xs.length - x.1.2.1.toNat) _ ?_ _ ⟨k0, 1, rfl, rfl, by omega, by omega, by omega, by omega, rfl, fun _ _ => rfl, by rw [hd]⟩
  rintro ⟨⟨k, k2, ⟨⟩⟩, ys, ⟨⟩⟩ ⟨K, K2, e1, e2, h1, h2, h3, h4, h5, h6, h7⟩
  simp only at e1 e2 h5 h6 h7
  subst e1 e2
  unfold movesList_L5
  simp only [Int.toNat_natCast]
  by_cases hlt : K2 < xs.length - k0
  · left
    have c1 : decide ((K2 : Int) < ((xs.length - k0 : Nat) : Int)) = true := by simp; omega
    have c2 : inb (K2 : Int) (xs.length - k0) = true := inb_iff.2 ⟨by omega, by omega⟩
    have w1 : w64 ((K2 : Int) - 1) = ((K2 - 1 : Nat) : Int) := by rw [w64_id (by omega) (by omega)]; omega
    have c3 : inb ((K2 - 1 : Nat) : Int) (xs.length - k0) = true := inb_iff.2 ⟨by omega, by omega⟩
    have w2 : w64 ((K2 : Int) + 1) = ((K2 + 1 : Nat) : Int) := by rw [w64_id (by omega) (by omega)]; omega
    have w3 : w64 ((K : Int) + 1) = ((K + 1 : Nat) : Int) := by rw [w64_id (by omega) (by omega)]; omega
    have c4 : inb (K : Int) ys.length = true := inb_iff.2 ⟨by omega, by omega⟩
    have g1 : getD' ys (k0 + K2) d0 = getD' xs (k0 + K2) d0 := h6 _ (by omega)
    have g2 : getD' ys (k0 + (K2 - 1)) d0 = getD' xs (k0 + (K2 - 1)) d0 := h6 _ (by omega)
    have hdd := dd_take (xs := xs) (j := k0 + K2) (by omega) (by omega)
    simp only [c1, cond_true, c2, req_true, w1, Int.toNat_natCast, c3, w2, w3, c4, mv_beq, g1, g2]
    by_cases he : getD' xs (k0 + K2) d0 = getD' xs (k0 + (K2 - 1)) d0
    · refine ⟨(((K : Int), ((K2 + 1 : Nat) : Int), ()), (ys, ())), by simp [he], ⟨K, K2 + 1, rfl, rfl, by omega, by omega, by omega, by omega, h5, fun j hj => h6 j (by omega), ?_⟩, by simp; omega⟩
      rw [show k0 + (K2 + 1) = k0 + K2 + 1 by omega, hdd, if_pos (by rw [he]; congr 1; omega), List.append_nil]
      exact h7
    · refine ⟨((((K + 1 : Nat) : Int), ((K2 + 1 : Nat) : Int), ()), (ys.set K (getD' xs (k0 + K2) d0), ())), by simp [he], ⟨K + 1, K2 + 1, rfl, rfl, by omega, by omega, by omega, by omega, by simp [h5], fun j hj => ?_, ?_⟩, by simp; omega⟩
      · rw [← h6 j (by omega)]
        simp only [getD']
        simp only [List.getD_eq_getElem?_getD]
        rw [List.getElem?_set_ne (by omega)]
      · rw [show k0 + (K2 + 1) = k0 + K2 + 1 by omega, hdd, if_neg (by intro e; apply he; rw [← e]; congr 1; omega), ← h7]
        rw [List.take_succ_eq_append_getElem (by simp; omega)]
        simp [List.take_set_of_le]
  · right
    have c1 : decide ((K2 : Int) < ((xs.length - k0 : Nat) : Int)) = false := by simp; omega
    refine ⟨(((K : Int), ()), (ys, ())), by simp only [c1, cond_false], K, rfl, by omega, h5, ?_⟩
    rw [h7, show k0 + K2 = xs.length by omega, List.take_length]
theorem compact4 (xs : List Mv) (hx : xs.length ≤ 1000000) (h2 : 2 ≤ xs.length) :
    (Option.bind (α := ((Unit) × ((List Mv) × Unit)) ⊕ (((List Mv) × Unit) × (Unit))) (iterW movesList_L4 (((1 : Int), ()), (xs, ()))) (Sum.elim (fun x23 => some ((x23.2.1, ()), ())) some)) = some ((dd xs, ()), ()) := by
  obtain ⟨r, hr, hq⟩ := iterW_meas (f := movesList_L4) (fun x => ∃ k : Nat, x = (((k : Int), ()), (xs, ())) ∧ 1 ≤ k ∧ k ≤ xs.length ∧ dd (xs.take k) = xs.take k) (fun x => xs.length - x.1.1.toNat) (fun r => r = .inl ((), (xs, ())) ∧ dd xs = xs ∨ r = .inr ((dd xs, ()), ())) (by
    rintro x ⟨k, rfl, h1, h3, h4⟩
    unfold movesList_L4
    simp only [Int.toNat_natCast]
    by_cases hlt : k < xs.length
    · have c1 : decide ((k : Int) < ((xs.length : Nat) : Int)) = true := by simp; omega
      have c2 : inb (k : Int) xs.length = true := inb_iff.2 ⟨by omega, by omega⟩
      have w1 : w64 ((k : Int) - 1) = ((k - 1 : Nat) : Int) := by rw [w64_id (by omega) (by omega)]; omega
      have c3 : inb ((k - 1 : Nat) : Int) xs.length = true := inb_iff.2 ⟨by omega, by omega⟩
      have w2 : w64 ((k : Int) + 1) = ((k + 1 : Nat) : Int) := by rw [w64_id (by omega) (by omega)]; omega
      have c4 : boundsI (k : Int) ((xs.length : Nat) : Int) xs.length = true := by simp [boundsI]; omega
      have hdd := dd_take hlt h1
      simp only [c1, cond_true, c2, req_true, w1, Int.toNat_natCast, c3, c4, mv_beq]
      by_cases he : getD' xs k d0 = getD' xs (k - 1) d0
      · right
        rw [if_pos he.symm, List.append_nil, h4] at hdd
        obtain ⟨r, hr, K, e1, e2, e3, e4⟩ := compact5 xs k h1 hlt hx hdd
        obtain ⟨⟨k', ⟨⟩⟩, ys, ⟨⟩⟩ := r
        simp only at e1 e3 e4
        subst e1
        refine ⟨.inr ((dd xs, ()), ()), ?_, .inr rfl⟩
        rw [hr]
        have c5 : boundsI (K : Int) ((ys.length : Nat) : Int) ys.length = true := by simp [boundsI]; omega
        have c6 : ∀ l : List Mv, K ≤ l.length → boundsI 0 (K : Int) l.length = true := fun l hl => by simp [boundsI]; omega
        simp only [he, decide_true, cond_true, Option.bind_some, c5, req_true, Int.toNat_natCast]
        rw [c6 _ (by simp; omega), req_true, Option.bind_some, Sum.elim_inr, List.take_append_of_le_length (by simp; omega), List.take_take, Nat.min_self, e4]
      · left
        refine ⟨((((k + 1 : Nat) : Int), ()), (xs, ())), ?_, ⟨k + 1, rfl, by omega, by omega, ?_⟩, by simp; omega⟩
        · simp only [he, decide_false, cond_false, Option.bind_some, Sum.elim_inl, w2]
        · rw [hdd, if_neg (fun e => he e.symm), h4, ← get_take hlt]
    · right
      have c1 : decide ((k : Int) < ((xs.length : Nat) : Int)) = false := by simp; omega
      refine ⟨.inl ((), (xs, ())), by simp only [c1, cond_false], .inl ⟨rfl, ?_⟩⟩
      have : k = xs.length := by omega
      rw [this, List.take_length] at h4
      exact h4) (((1 : Int), ()), (xs, ())) ⟨1, rfl, by omega, by omega, by
        cases xs with
        | nil => rfl
        | cons x l => rfl⟩
  rw [hr]
  rcases hq with ⟨rfl, e⟩ | rfl
  · rw [e]; rfl
  · rfl
end Go.Proofs.YtfppnefcicdnfaaGreat
namespace Go.Proofs.YtfppnefcicdnfaaGreat
open Go.Den
set_option linter.unusedVariables false
set_option linter.unusedSimpArgs false
set_option maxRecDepth 100000

def handOf (p : Place) : List Int := getD' [p.2.1.1, p.2.1.2.1] (p.2.2.1).toNat []
theorem handOf_eq {r : Rules} {p : Place} (h : Valid r p) : handOf p = if p.turn = 0 then p.h0 else p.h1 := by
  unfold handOf
  rcases h.turn with e | e
  · rw [if_pos e, show p.2.2.1 = 0 from e]; rfl
  · rw [if_neg (by omega), show p.2.2.1 = 1 from e]; rfl
theorem hand_len {r : Rules} {p : Place} (h : Valid r p) : (handOf p).length = r.pieces.length := by
  rw [handOf_eq h]; split
  · exact h.l0
  · exact h.l1
theorem hand_rng {r : Rules} {p : Place} (h : Valid r p) : ∀ c ∈ handOf p, 0 ≤ c ∧ c ≤ 1000 := by
  rw [handOf_eq h]; split
  · exact h.hand0
  · exact h.hand1
def handI (p : Place) (k : Int) : Int := (handOf p).getD k.toNat 0
theorem at_hand {p : Place} {k : Int} (h0 : 0 ≤ k) (h1 : k < (((handOf p).length : Nat) : Int)) : at? (getD' [p.2.1.1, p.2.1.2.1] (p.2.2.1).toNat []) k = some (handI p k) := by
  show at? (handOf p) k = _
  rw [at?_eq _ k h0 h1]
  unfold handI
  rw [List.getD_eq_getElem?_getD, List.getElem?_eq_getElem (by omega)]
  rfl
theorem handI_rng {r : Rules} {p : Place} (h : Valid r p) (k : Int) : 0 ≤ handI p k ∧ handI p k ≤ 1000 := by
  unfold handI
  rw [List.getD_eq_getElem?_getD]
  cases e : (handOf p)[k.toNat]? with
  | none => simp
  | some c => exact hand_rng h c (List.mem_of_getElem? e)

/-! ### columns -/
def colF (p : Place) (W x0 : Int) : Nat → Bool
  | 0 => true
  | y + 1 => colF p W x0 y && (cellI p (x0 + (y : Int) * W) != 0)
theorem colF_any (p : Place) (W x0 : Int) : ∀ y, colF p W x0 y = !((List.range y).any fun i => cellI p (x0 + (i : Int) * W) == 0)
  | 0 => rfl
  | y + 1 => by rw [colF, colF_any p W x0 y, List.range_succ, List.any_append]; simp [bne]
def filledB (r : Rules) (p : Place) (s : Int) : Bool := colF p r.width (s.tmod r.width) (s.tdiv r.width).toNat
theorem div_eq {W s : Int} (hW : 1 ≤ W) (h0 : 0 ≤ s) : s = s.tmod W + ((s.tdiv W).toNat : Int) * W := by
  have h1 := Int.tmod_add_tdiv_mul s W
  have h2 : 0 ≤ s.tdiv W := by rw [Int.tdiv_eq_ediv_of_nonneg h0]; exact Int.ediv_nonneg h0 (by omega)
  rw [Int.toNat_of_nonneg h2]
  exact h1.symm
theorem mulN {y W : Int} (hy : 0 ≤ y) (hW : 0 ≤ W) : 0 ≤ y * W := Int.mul_nonneg hy hW
theorem filled_iter {r : Rules} {p : Place} (h : Valid r p) {x0 : Int} (hx : 0 ≤ x0 ∧ x0 < r.width) : ∀ (y : Nat), (y : Int) ≤ r.height →
    (Option.bind (α := ((Unit) × (Unit)) ⊕ Bool) (iterW (movesFilled_L1 p r) ((x0 + (y : Int) * r.width - r.width, ()), ())) (Sum.elim (fun x3 => some true) some)) = some (colF p r.width x0 y)
  | 0, hy => by
    rw [iterW_inr (r := .inl ((), ())) (by
      unfold movesFilled_L1
      have : decide (x0 + ((0 : Nat) : Int) * r.width - r.width ≥ 0) = false := by simp; omega
      simp only [this, cond_false])]
    rfl
  | y + 1, hy => by
    have hr := h.r0
    have := hr.w8; have := hr.h8; have := hr.w1; have := hr.h1
    have ha := hr.area
    have hb : onB r x0 (y : Int) = true := onB_iff.2 ⟨hx.1, hx.2, by omega, by omega⟩
    have hs := sq_rng hr hb
    have hm := mul_rng (show 0 ≤ r.width by omega) (show (0 : Int) ≤ (y : Int) by omega) (show (y : Int) < r.height by omega)
    have e : x0 + ((y + 1 : Nat) : Int) * r.width - r.width = x0 + (y : Int) * r.width := by
      rw [show ((y + 1 : Nat) : Int) = (y : Int) + 1 by omega, Int.add_mul]; omega
    rw [e]
    have hat := at_cell (p := p) (s := x0 + (y : Int) * r.width) (by omega) (by rw [h.cells]; omega)
    have hge : decide (x0 + (y : Int) * r.width ≥ 0) = true := by simp; omega
    cases hc : (cellI p (x0 + (y : Int) * r.width) == 0) with
    | true =>
      rw [iterW_inr (r := .inr false) (by
        unfold movesFilled_L1
        simp only [hge, cond_true, hat, Option.bind_some, hc])]
      simp [colF, bne, hc]
    | false =>
      rw [iterW_inl (y := ((x0 + (y : Int) * r.width - r.width, ()), ())) (by
        unfold movesFilled_L1
        simp only [hge, cond_true, hat, Option.bind_some, hc, cond_false]
        rw [w64_id (n := x0 + (y : Int) * r.width - r.2.1) (by show _ ≤ x0 + (y : Int) * r.width - r.width; omega) (by show x0 + (y : Int) * r.width - r.width ≤ _; omega)]), filled_iter h hx y (by omega)]
      simp [colF, bne, hc]
theorem filled_spec {r : Rules} {p : Place} (h : Valid r p) {s : Int} (h0 : 0 ≤ s) (h1 : s < r.width * r.height) : movesFilled r p s = some (filledB r p s) := by
  have hr := h.r0
  have := hr.w8; have := hr.h8; have := hr.w1; have := hr.h1
  have ha := hr.area
  have hd := div_rng hr h0 h1
  have e := div_eq hr.w1 h0
  unfold movesFilled filledB
  rw [w64_id (n := s - r.2.1) (by show _ ≤ s - r.width; omega) (by show s - r.width ≤ _; omega)]
  have := filled_iter h hd.1 (s.tdiv r.width).toNat (by omega)
  rw [← e] at this
  exact this
def putOk (r : Rules) (p : Place) (s : Int) : Bool := (cellI p s == 0) && (!r.falls || filledB r p s)
def putsAt (r : Rules) (p : Place) (s : Nat) : List Mv := bif putOk r p (s : Int) then (List.range (handOf p).length).flatMap (fun k : Nat => bif decide (handI p (k : Int) > 0) then [((-1 : Int), ((s : Int), ((k : Int), ())))] else []) else []
theorem fm_len1 {A : Type} (n : Nat) (F : Nat → List A) (h : ∀ k, (F k).length ≤ 1) : ((List.range n).flatMap F).length ≤ n := by
  have := flatMap_len F 1 (List.range n) (fun k _ => h k)
  simpa using this
theorem putsAt_len {r : Rules} {p : Place} (h : Valid r p) (s : Nat) : (putsAt r p s).length ≤ 6 := by
  unfold putsAt
  cases putOk r p (s : Int)
  · simp
  · rw [cond_true]
    refine Nat.le_trans (fm_len1 _ _ fun k => ?_) (by rw [hand_len h]; exact h.r0.t6)
    cases decide (handI p (k : Int) > 0) <;> simp
theorem area_len {r : Rules} {p : Place} (h : Valid r p) : p.1.length ≤ 64 := by
  have := h.cells
  have := h.r0.area
  have h1 : ((p.1.length : Nat) : Int) = r.width * r.height := h.cells
  omega
theorem puts_spec {r : Rules} {p : Place} (h : Valid r p) : movesPuts r p = some ((List.range p.1.length).flatMap (putsAt r p)) := by
  have hr := h.r0
  have := hr.w8; have := hr.h8; have := hr.w1; have := hr.h1
  have ha := hr.area
  have hlen : ((p.1.length : Nat) : Int) = r.width * r.height := h.cells
  have h64 := area_len h
  have hh : (handOf p).length ≤ 6 := by rw [hand_len h]; exact hr.t6
  unfold movesPuts
  rw [iter_app (A := Mv) p.1.length 6 (movesPuts_L1 p r) (putsAt r p) (fun a => ((a, ()), ())) [] (fun i _ => putsAt_len h i) (fun i hi a hal => ?_) (fun a => ?_)]
  · simp
  · unfold movesPuts_L1
    have c1 : decide ((i : Int) < ((p.1.length : Nat) : Int)) = true := by simp; omega
    have hat := at_cell (p := p) (s := (i : Int)) (by omega) (by show (i : Int) < ((p.1.length : Nat) : Int); omega)
    simp only [c1, cond_true, hat, Option.bind_some]
    have hf := filled_spec h (s := (i : Int)) (by omega) (by omega)
    have hfil : (i : Int) < r.width → filledB r p (i : Int) = true := fun hlt => by
      unfold filledB
      rw [Int.tdiv_eq_ediv_of_nonneg (by omega), Int.ediv_eq_zero_of_lt (by omega) hlt]
      rfl
    rw [hf]
    have hg : ∀ b c : Bool, gopt b false (some c) = some (b && c) := fun b c => by cases b <;> rfl
    rw [hg, Option.bind_some]
    have hcond : ((cellI p (i : Int) != (0 : Int)) || ((r.2.2.2.2.2.1 && (decide ((i : Int) ≥ r.2.1))) && (!(((r.2.2.2.2.2.1 && (decide ((i : Int) ≥ r.2.1))) && (!(cellI p (i : Int) != (0 : Int)))) && filledB r p (i : Int))))) = !putOk r p (i : Int) := by
      unfold putOk
      rw [show r.2.2.2.2.2.1 = r.falls from rfl]
      by_cases hlt : (i : Int) < r.width
      · rw [hfil hlt, show decide ((i : Int) ≥ r.2.1) = false by simp; exact hlt]
        simp only [bne]
        cases (cellI p (i : Int) == 0) <;> cases r.falls <;> rfl
      · rw [show decide ((i : Int) ≥ r.2.1) = true by simp; show r.width ≤ (i : Int); omega]
        simp only [bne]
        cases (cellI p (i : Int) == 0) <;> cases r.falls <;> cases filledB r p (i : Int) <;> rfl
    rw [hcond, w64_id (n := (i : Int) + 1) (by omega) (by omega)]
    unfold putsAt
    cases hp : putOk r p (i : Int) with
    | false => simp
    | true =>
      have hin : inb p.2.2.1 2 = true := inb_iff.2 (by have := h.turn; show 0 ≤ p.turn ∧ p.turn < ((2 : Nat) : Int); omega)
      simp only [Bool.not_true, cond_false, cond_true, hin, req_true]
      rw [iter_app (A := Mv) (handOf p).length 1 (movesPuts_L2 p ((a, (i : Int), ()), ())) (fun k => bif decide (handI p (k : Int) > 0) then [((-1 : Int), ((i : Int), ((k : Int), ())))] else []) (fun a => ((a, ()), ())) a (fun k _ => by cases decide (handI p (k : Int) > 0) <;> simp) (fun k hk a2 ha2 => ?_) (fun a2 => ?_)]
      · rfl
      · unfold movesPuts_L2
        have c2 : decide ((k : Int) < (((getD' [p.2.1.1, p.2.1.2.1] (p.2.2.1).toNat []).length : Nat) : Int)) = true := by
          have : k < (getD' [p.2.1.1, p.2.1.2.1] (p.2.2.1).toNat []).length := hk
          simp; exact this
        have hat2 := at_hand (p := p) (k := (k : Int)) (by omega) (by omega)
        simp only [c2, cond_true, hat2, Option.bind_some]
        rw [w64_id (n := (k : Int) + 1) (by omega) (by omega)]
        cases decide (handI p (k : Int) > 0)
        · simp
        · have hroom : room (a2.length + [((-1 : Int), ((i : Int), ((k : Int), ())))].length) 24 = true := room_ok (by
            simp only [List.length_singleton, List.length_nil] at *
            have : i * 6 ≤ 64 * 6 := Nat.mul_le_mul_right _ (by omega)
            omega)
          simp only [cond_true, hroom, req_true, Option.bind_some]
      · unfold movesPuts_L2
        have c2 : decide ((((handOf p).length : Nat) : Int) < (((getD' [p.2.1.1, p.2.1.2.1] (p.2.2.1).toNat []).length : Nat) : Int)) = false := by
          show decide ((((handOf p).length : Nat) : Int) < (((handOf p).length : Nat) : Int)) = false
          simp
        simp only [c2, cond_false]
  · unfold movesPuts_L1
    simp

/-! ### moves of pieces -/
def lastB (r : Rules) (pl t : Int) : Bool := bif pl == 0 then t.tdiv r.width == r.height - 1 else t.tdiv r.width == 0
theorem isLast_spec {r : Rules} (hr : VR0 r) (pl : Int) {t : Int} (h0 : 0 ≤ t) (h1 : t < r.width * r.height) : rulesIsLast r pl t = some (lastB r pl t) := by
  have := hr.w8; have := hr.h8; have := hr.w1; have := hr.h1
  have hd := div_rng hr h0 h1
  have hq : (r.2.1 != 0) = true := bne_t (by show ¬ r.width = 0; omega)
  have w1 : w64 (t.tdiv r.2.1) = t.tdiv r.width := w64_id (by show _ ≤ t.tdiv r.width; omega) (by show t.tdiv r.width ≤ _; omega)
  have w2 : w64 (r.2.2.1 - 1) = r.height - 1 := w64_id (by show _ ≤ r.height - 1; omega) (by show r.height - 1 ≤ _; omega)
  unfold rulesIsLast lastB
  rw [hq, req_true, req_true, w1, w2]
  exact cond_some _ _ _
def pieceI (r : Rules) (k : Int) : Piece := r.pieces.getD k.toNat (0, 0, 0, [], ())
theorem at_piece {r : Rules} {k : Int} (h0 : 0 ≤ k) (h1 : k < ((r.pieces.length : Nat) : Int)) : at? r.2.2.2.1 k = some (pieceI r k) ∧ pieceI r k ∈ r.pieces := by
  have h1' : k < ((r.2.2.2.1.length : Nat) : Int) := h1
  rw [at?_eq r.2.2.2.1 k h0 h1]
  unfold pieceI
  rw [List.getD_eq_getElem?_getD, List.getElem?_eq_getElem (by show k.toNat < r.2.2.2.1.length; omega)]
  exact ⟨rfl, List.getElem_mem _⟩
def kindOf (c : Int) : Int := (c - 1).tdiv 2
theorem kind_rng {r : Rules} {p : Place} (h : Valid r p) {s : Int} (hm : cellI p s > 0) : w64 ((w64 (cellI p s - 1)).tdiv 2) = kindOf (cellI p s) ∧ 0 ≤ kindOf (cellI p s) ∧ kindOf (cellI p s) < ((r.pieces.length : Nat) : Int) := by
  have hc := cell_rng h s
  have ht := h.r0.t6
  rw [w64_id (n := cellI p s - 1) (by omega) (by omega)]
  unfold kindOf
  rw [Int.tdiv_eq_ediv_of_nonneg (by omega)]
  refine ⟨w64_id (by omega) (by omega), by omega, by omega⟩
def becomes (r : Rules) (p : Place) (k t : Int) : Int := bif decide ((pieceI r k).2.2.1 > 0) && lastB r p.turn t then (pieceI r k).2.2.1 - 1 else k
def goAt (r : Rules) (p : Place) (s : Nat) : List Mv := bif mineB p (cellI p (s : Int)) then (pieceI r (kindOf (cellI p (s : Int)))).2.2.2.1.flatMap (fun w => (wayS r p (s : Int) w).map fun t => ((s : Int), (t, (becomes r p (kindOf (cellI p (s : Int))) t, ())))) else []
theorem flatMap_range {A C : Type} (l : List C) (F : C → List A) (d : C) : (List.range l.length).flatMap (fun i => F (l.getD i d)) = l.flatMap F := by
  induction l with
  | nil => rfl
  | cons x l ih =>
    rw [List.length_cons, List.range_succ_eq_map, List.flatMap_cons, List.flatMap_cons, List.flatMap_map]
    have e : (fun a => F ((x :: l).getD a.succ d)) = fun i => F (l.getD i d) := by funext i; simp
    rw [e, ih]
    rfl
theorem map_range {A C : Type} (l : List C) (F : C → A) (d : C) : (List.range l.length).flatMap (fun i => [F (l.getD i d)]) = l.map F := by
  rw [flatMap_range l (fun x => [F x]) d]
  induction l with
  | nil => rfl
  | cons x l ih => rw [List.flatMap_cons, List.map_cons, ih]; rfl
theorem way_len {r : Rules} {p : Place} {s : Int} {w : RWay} (hw : WayOk w) : (wayS r p s w).length ≤ 7 := by
  obtain ⟨_, _, _, h4, _⟩ := hw
  exact Nat.le_trans (wayL_len _ _ _ _ _ _) (by omega)
theorem goAt_len {r : Rules} {p : Place} (h : Valid r p) (s : Nat) : (goAt r p s).length ≤ 112 := by
  unfold goAt
  cases hm : mineB p (cellI p (s : Int)) with
  | false => simp
  | true =>
    have hc : cellI p (s : Int) > 0 := by unfold mineB at hm; simp at hm; exact hm.1
    have hk := kind_rng h hc
    have hmem := (at_piece (r := r) hk.2.1 hk.2.2).2
    rw [cond_true]
    refine Nat.le_trans (flatMap_len _ 7 _ fun w hw => ?_) ?_
    · rw [List.length_map]; exact way_len (h.wayOk hmem hw)
    · have := h.r0.ways _ hmem
      omega
def movesRaw (r : Rules) (p : Place) : List Mv := (List.range p.1.length).flatMap (putsAt r p) ++ (List.range p.1.length).flatMap (goAt r p)
theorem list_raw {r : Rules} {p : Place} (h : Valid r p) : iterW (movesList_L1 p r) (((List.range p.1.length).flatMap (putsAt r p), (0 : Int), ()), ()) = some ((movesRaw r p, ()), ()) := by
  have hr := h.r0
  have := hr.w8; have := hr.h8; have := hr.w1; have := hr.h1
  have ha := hr.area
  have hlen : ((p.1.length : Nat) : Int) = r.width * r.height := h.cells
  have h64 := area_len h
  have hpl : ((List.range p.1.length).flatMap (putsAt r p)).length ≤ 64 * 6 := by
    refine Nat.le_trans (flatMap_len _ 6 _ fun i _ => putsAt_len h i) ?_
    rw [List.length_range]; exact Nat.mul_le_mul_right _ h64
  unfold movesRaw
  generalize (List.range p.1.length).flatMap (putsAt r p) = pl at hpl
  refine iter_app (A := Mv) p.1.length 112 (movesList_L1 p r) (goAt r p) (fun a => ((a, ()), ())) pl (fun i _ => goAt_len h i) (fun i hi a hal => ?_) (fun a => ?_)
  · have hal2 : a.length ≤ 64 * 6 + 64 * 112 := by
      have : i * 112 ≤ 64 * 112 := Nat.mul_le_mul_right _ (by omega)
      omega
    unfold movesList_L1
    have c1 : decide ((i : Int) < ((p.1.length : Nat) : Int)) = true := by simp; omega
    have hat := at_cell (p := p) (s := (i : Int)) (by omega) (by show (i : Int) < ((p.1.length : Nat) : Int); omega)
    have hc := cell_small h (i : Int)
    have hi2 : (i : Int) < r.width * r.height := by omega
    simp only [c1, cond_true, hat, Option.bind_some, show ∀ b, imp b true = true from fun b => by cases b <;> rfl, req_true]
    have hcond : ((cellI p (i : Int) == (0 : Int)) || (((w64 (cellI p (i : Int) - (1 : Int))).tmod (2 : Int)) != p.2.2.1)) = !mineB p (cellI p (i : Int)) := by
      rw [w64_id (n := cellI p (i : Int) - 1) (by omega) (by omega)]
      unfold mineB
      rw [show p.turn = p.2.2.1 from rfl]
      by_cases hz : cellI p (i : Int) = 0
      · simp [hz]
      · rw [beq_f hz, show decide (cellI p (i : Int) > 0) = true by simp; omega]
        simp [bne]
    rw [hcond, w64_id (n := (i : Int) + 1) (by omega) (by omega)]
    unfold goAt
    cases hm : mineB p (cellI p (i : Int)) with
    | false => simp
    | true =>
      have hcp : cellI p (i : Int) > 0 := by unfold mineB at hm; simp at hm; exact hm.1
      have hk := kind_rng h hcp
      obtain ⟨hpa, hmem⟩ := at_piece (r := r) hk.2.1 hk.2.2
      simp only [Bool.not_true, cond_false, hk.1, hpa, Option.bind_some, cond_true]
      generalize hK : kindOf (cellI p (i : Int)) = K at *
      have hways := h.r0.ways _ hmem
      have hWl : (pieceI r K).2.2.2.1.length ≤ 16 := hways
      rw [iter_app (A := Mv) (pieceI r K).2.2.2.1.length 7 (movesList_L2 (pieceI r K) r p ((a, (i : Int), ()), ()) (cellI p (i : Int))) (fun j => (wayS r p (i : Int) ((pieceI r K).2.2.2.1.getD j (0, 0, 0, 0, ()))).map fun t => ((i : Int), (t, (becomes r p K t, ())))) (fun a => ((a, ()), ())) a (fun j hj => ?_) (fun j hj a2 ha2 => ?_) (fun a2 => ?_)]
      · rw [flatMap_range (pieceI r K).2.2.2.1 (fun w => (wayS r p (i : Int) w).map fun t => ((i : Int), (t, (becomes r p K t, ())))) (0, 0, 0, 0, ())]
        rfl
      · rw [List.length_map, List.getD_eq_getElem?_getD, List.getElem?_eq_getElem hj]
        exact way_len (h.wayOk hmem (List.getElem_mem hj))
      · have ha22 : a2.length ≤ 64 * 6 + 64 * 112 + 112 := by
          have : j * 7 ≤ 16 * 7 := Nat.mul_le_mul_right _ (by omega)
          omega
        unfold movesList_L2
        have c2 : decide ((j : Int) < (((pieceI r K).2.2.2.1.length : Nat) : Int)) = true := by simp; omega
        have hatw : at? (pieceI r K).2.2.2.1 (j : Int) = some ((pieceI r K).2.2.2.1.getD j (0, 0, 0, 0, ())) := by
          rw [at?_eq _ _ (by omega) (by omega), List.getD_eq_getElem?_getD, List.getElem?_eq_getElem hj]; rfl
        have hwm : (pieceI r K).2.2.2.1.getD j (0, 0, 0, 0, ()) ∈ (pieceI r K).2.2.2.1 := by
          rw [List.getD_eq_getElem?_getD, List.getElem?_eq_getElem hj]; exact List.getElem_mem hj
        have hwo := h.wayOk hmem hwm
        simp only [c2, cond_true, hatw, Option.bind_some]
        generalize (pieceI r K).2.2.2.1.getD j (0, 0, 0, 0, ()) = w at *
        rw [way_spec h hwo (by omega) hi2, Option.bind_some]
        have hwl := way_len (r := r) (p := p) (s := (i : Int)) hwo
        have hwr : ∀ t ∈ wayS r p (i : Int) w, 0 ≤ t ∧ t < r.width * r.height := fun t ht => way_mem_rng hr ht
        generalize wayS r p (i : Int) w = T at *
        rw [iter_app (A := Mv) T.length 1 (movesList_L3 T r (cellI p (i : Int)) p ((a, (i : Int), ()), ())) (fun t => [((i : Int), (T.getD t 0, (becomes r p K (T.getD t 0), ())))]) (fun a => ((a, ()), ())) a2 (fun _ _ => by simp) (fun t ht a3 ha3 => ?_) (fun a3 => ?_)]
        · rw [map_range T (fun t => ((i : Int), (t, (becomes r p K t, ())))) 0]
          simp only [Option.bind_some]
          rw [w64_id (n := (j : Int) + 1) (by omega) (by omega)]
        · unfold movesList_L3
          have c3 : decide ((t : Int) < ((T.length : Nat) : Int)) = true := by simp; omega
          have c4 : inb (t : Int) T.length = true := inb_iff.2 ⟨by omega, by omega⟩
          have hg : getD' T t (0 : Int) = T.getD t 0 := rfl
          have htr := hwr (T.getD t 0) (by rw [List.getD_eq_getElem?_getD, List.getElem?_eq_getElem ht]; exact List.getElem_mem ht)
          simp only [c3, cond_true, c4, req_true, hk.1, hpa, Option.bind_some, Int.toNat_natCast, hg]
          generalize T.getD t 0 = tt at *
          rw [isLast_spec hr p.2.2.1 htr.1 htr.2]
          have hpr := h.r0.prom _ hmem
          have ht6 := h.r0.t6
          have hgo : ∀ b c : Bool, gopt b false (some c) = some (b && c) := fun b c => by cases b <;> rfl
          rw [hgo, Option.bind_some, w64_id (n := (pieceI r K).2.2.1 - 1) (by omega) (by omega), w64_id (n := (t : Int) + 1) (by omega) (by omega)]
          unfold becomes
          rw [show p.turn = p.2.2.1 from rfl]
          have hroom : room (a3.length + 1) 24 = true := room_ok (by omega)
          cases decide ((pieceI r K).2.2.1 > 0) <;> cases lastB r p.2.2.1 tt <;> simp [hroom, req_true]
        · unfold movesList_L3
          simp
      · unfold movesList_L2
        simp
  · unfold movesList_L1
    simp
theorem raw_len {r : Rules} {p : Place} (h : Valid r p) : (movesRaw r p).length ≤ 10000 := by
  have h64 := area_len h
  unfold movesRaw
  rw [List.length_append]
  have h1 : ((List.range p.1.length).flatMap (putsAt r p)).length ≤ 64 * 6 := by
    refine Nat.le_trans (flatMap_len _ 6 _ fun i _ => putsAt_len h i) ?_
    rw [List.length_range]; exact Nat.mul_le_mul_right _ h64
  have h2 : ((List.range p.1.length).flatMap (goAt r p)).length ≤ 64 * 112 := by
    refine Nat.le_trans (flatMap_len _ 112 _ fun i _ => goAt_len h i) ?_
    rw [List.length_range]; exact Nat.mul_le_mul_right _ h64
  omega
theorem list_dd {r : Rules} {p : Place} (h : Valid r p) : movesList r p = some (dd (sortMoves (movesRaw r p))) := by
  unfold movesList
  rw [puts_spec h, Option.bind_some, list_raw h, Option.bind_some]
  have hl := raw_len h
  have hb : Nat.blt (movesRaw r p).length 4611686018427387904 = true := by
    rw [Nat.blt_eq]; omega
  simp only [hb, req_true]
  have hs := sort_len (movesRaw r p)
  generalize sortMoves (movesRaw r p) = xs at hs
  by_cases h2 : xs.length < 2
  · have c : decide (((xs.length : Nat) : Int) < 2) = true := by simp; omega
    rw [c, cond_true]
    have : dd xs = xs := by
      match xs, h2 with
      | [], _ => rfl
      | [x], _ => rfl
    rw [this]; rfl
  · have c : decide (((xs.length : Nat) : Int) < 2) = false := by simp; omega
    rw [c, cond_false, compact4 xs (by omega) (by omega)]
    rfl
end Go.Proofs.YtfppnefcicdnfaaGreat
