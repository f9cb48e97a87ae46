/- Several texts in one: What functions compute, in plain Lean: Game. No condition of its own.; What functions compute, in plain Lean: Text. No condition of its own.; What functions compute, in plain Lean: Record. No condition of its own.; What functions compute, in plain Lean: RecordChecks. No condition of its own.; Sorts by a comparing function, from the shelf, as what the interpreter asks. No condition of its own.; Plain facts: loops and recursions of the shallow functions; numbers. No condition of its own.; Builders of strings: their check and their string, from the shelf and from the code, as what the interpreter asks. No condition of its own.; Plain facts: data in range, decided. No condition of its own.; Rules in plain Lean: what is wrong with rules, as the program and the reference compute it. No condition of its own.; Loops over an index with what is gathered on the way, in plain Lean. No condition of its own.; What is wrong with a position, as the program and the reference compute it; what a valid one is. No condition of its own. -/
import Derived.Test.YtocnfflklfeocaaGreatMAA
import Derived.Test.YtocnfflklfeocaaGreatMAD
import Derived.Shelf.SlSortCmp.NoneTotal
import Derived.Shelf.Strings.Builder1
import Derived.Laws.Strings
namespace Go.Proofs.YtocnfflklfeocaaGreat
open Go.Den
set_option linter.unusedVariables false
set_option maxRecDepth 100000
noncomputable def plainGameCount_L1 (g : (ByteArray × Int × Int × (List (Int × Int × Int × (List (Int × Int × Int × Int × Unit)) × Unit)) × (List Int) × Bool × Bool × (List (Int × Int × Int × Bool × Unit)) × Int × Int × Int × Unit) × (List ((List Int) × ((List Int) × (List Int) × Unit) × Int × Int × Unit)) × (List (Int × Int × Int × Unit)) × Unit) (x1 : (Int × Int × Unit) × (Unit)) : Option (((Int × Int × Unit) × (Unit)) ⊕ ((Int × Unit) × (Unit))) :=
  bif (decide (x1.1.2.1 < ((g.2.1.length : Nat) : Int))) then (Option.bind (at? g.2.1 x1.1.2.1) fun d2 =>
  Option.bind (agree (Option.bind (at? g.2.1 (w64 (((g.2.1.length : Nat) : Int) - (1 : Int)))) fun d3 =>
  Option.bind (placeSame d2 d3) fun r4 =>
  some ((r4, ()), ())) (Option.bind (at? g.2.1 (w64 (((g.2.1.length : Nat) : Int) - (1 : Int)))) fun d5 =>
  Option.bind (placeSame d2 d5) fun r6 =>
  some ((r6, ()), ()))) fun x7 =>
  Option.bind (bif x7.1.1 then some (((w64 (x1.1.1 + (1 : Int))), ()), ())
  else some ((x1.1.1, ()), ())) fun x8 =>
  some (Sum.inl ((x8.1.1, (w64 (x1.1.2.1 + (1 : Int))), ()), ())))
  else some (Sum.inr ((x1.1.1, ()), ()))
noncomputable def plainGameCount (g : (ByteArray × Int × Int × (List (Int × Int × Int × (List (Int × Int × Int × Int × Unit)) × Unit)) × (List Int) × Bool × Bool × (List (Int × Int × Int × Bool × Unit)) × Int × Int × Int × Unit) × (List ((List Int) × ((List Int) × (List Int) × Unit) × Int × Int × Unit)) × (List (Int × Int × Int × Unit)) × Unit) : Option (Int) :=
  Option.bind (iterW (plainGameCount_L1 g) (((0 : Int), (0 : Int), ()), ())) fun x9 =>
  some x9.1.1
noncomputable def plainGameResult (g : (ByteArray × Int × Int × (List (Int × Int × Int × (List (Int × Int × Int × Int × Unit)) × Unit)) × (List Int) × Bool × Bool × (List (Int × Int × Int × Bool × Unit)) × Int × Int × Int × Unit) × (List ((List Int) × ((List Int) × (List Int) × Unit) × Int × Int × Unit)) × (List (Int × Int × Int × Unit)) × Unit) : Option (Int) :=
  Option.bind (agree (Option.bind (at? g.2.1 (w64 (((g.2.1.length : Nat) : Int) - (1 : Int)))) fun d2 =>
  Option.bind (endsResult g.1 d2) fun r3 =>
  some ((r3, ()), ())) (Option.bind (at? g.2.1 (w64 (((g.2.1.length : Nat) : Int) - (1 : Int)))) fun d4 =>
  Option.bind (endsResult g.1 d4) fun r5 =>
  some ((r5, ()), ()))) fun x6 =>
  Option.bind (gopt ((x6.1.1 == (0 : Int)) && (g.1.2.2.2.2.2.2.2.2.2.2.1 != (0 : Int))) (0 : Int) (plainGameCount g)) fun r7 =>
  bif (((x6.1.1 == (0 : Int)) && (g.1.2.2.2.2.2.2.2.2.2.2.1 != (0 : Int))) && (decide (r7 ≥ g.1.2.2.2.2.2.2.2.2.2.2.1))) then some (3 : Int)
  else some x6.1.1
noncomputable def plainGamePlay (g : (ByteArray × Int × Int × (List (Int × Int × Int × (List (Int × Int × Int × Int × Unit)) × Unit)) × (List Int) × Bool × Bool × (List (Int × Int × Int × Bool × Unit)) × Int × Int × Int × Unit) × (List ((List Int) × ((List Int) × (List Int) × Unit) × Int × Int × Unit)) × (List (Int × Int × Int × Unit)) × Unit) (m : Int × Int × Int × Unit) : Option (((ByteArray × Int × Int × (List (Int × Int × Int × (List (Int × Int × Int × Int × Unit)) × Unit)) × (List Int) × Bool × Bool × (List (Int × Int × Int × Bool × Unit)) × Int × Int × Int × Unit) × (List ((List Int) × ((List Int) × (List Int) × Unit) × Int × Int × Unit)) × (List (Int × Int × Int × Unit)) × Unit) × Int) :=
  Option.bind (plainGameResult (g.1, (g.2.1, (g.2.2.1, ())))) fun r2 =>
  bif (r2 != (0 : Int)) then some ((g.1, (g.2.1, (g.2.2.1, ()))), (14 : Int))
  else Option.bind (agree (agree (req (inb (w64 (((g.2.1.length : Nat) : Int) - (1 : Int))) g.2.1.length) (agree (Option.bind (movesList g.1 (getD' g.2.1 (((w64 (((g.2.1.length : Nat) : Int) - (1 : Int)))).toNat) ([], (([], ([], ())), ((0 : Int), ((0 : Int), ())))))) fun r3 =>
  Option.bind (slicesContains_Move r3 m) fun r4 =>
  some (((!r4), ()), ())) (Option.bind (movesList g.1 (getD' g.2.1 (((w64 (((g.2.1.length : Nat) : Int) - (1 : Int)))).toNat) ([], (([], ([], ())), ((0 : Int), ((0 : Int), ())))))) fun r5 =>
  Option.bind (slicesContains_Move r5 m) fun r6 =>
  some (((!r6), ()), ())))) (req (inb (w64 (((g.2.1.length : Nat) : Int) - (1 : Int))) g.2.1.length) (Option.bind (movesList g.1 (getD' g.2.1 (((w64 (((g.2.1.length : Nat) : Int) - (1 : Int)))).toNat) ([], (([], ([], ())), ((0 : Int), ((0 : Int), ())))))) fun r7 =>
  Option.bind (slicesContains_Move r7 m) fun r8 =>
  some (((!r8), ()), ())))) (agree (req (inb (w64 (((g.2.1.length : Nat) : Int) - (1 : Int))) g.2.1.length) (agree (Option.bind (movesList g.1 (getD' g.2.1 (((w64 (((g.2.1.length : Nat) : Int) - (1 : Int)))).toNat) ([], (([], ([], ())), ((0 : Int), ((0 : Int), ())))))) fun r9 =>
  Option.bind (slicesContains_Move r9 m) fun r10 =>
  some (((!r10), ()), ())) (Option.bind (movesList g.1 (getD' g.2.1 (((w64 (((g.2.1.length : Nat) : Int) - (1 : Int)))).toNat) ([], (([], ([], ())), ((0 : Int), ((0 : Int), ())))))) fun r11 =>
  Option.bind (slicesContains_Move r11 m) fun r12 =>
  some (((!r12), ()), ())))) (agree (req (inb (w64 (((g.2.1.length : Nat) : Int) - (1 : Int))) g.2.1.length) (Option.bind (movesList g.1 (getD' g.2.1 (((w64 (((g.2.1.length : Nat) : Int) - (1 : Int)))).toNat) ([], (([], ([], ())), ((0 : Int), ((0 : Int), ())))))) fun r13 =>
  Option.bind (slicesContains_Move r13 m) fun r14 =>
  some (((!r14), ()), ()))) (req (inb (w64 (((g.2.1.length : Nat) : Int) - (1 : Int))) g.2.1.length) (Option.bind (movesList g.1 (getD' g.2.1 (((w64 (((g.2.1.length : Nat) : Int) - (1 : Int)))).toNat) ([], (([], ([], ())), ((0 : Int), ((0 : Int), ())))))) fun r15 =>
  Option.bind (slicesContains_Move r15 m) fun r16 =>
  some (((!r16), ()), ())))))) fun x17 =>
  bif x17.1.1 then some ((g.1, (g.2.1, (g.2.2.1, ()))), (13 : Int))
  else bif (((g.2.2.1.length : Nat) : Int) == (400 : Int)) then some ((g.1, (g.2.1, (g.2.2.1, ()))), (9 : Int))
  else Option.bind (agree (agree (agree (req (inb (w64 (((g.2.1.length : Nat) : Int) - (1 : Int))) g.2.1.length) (Option.bind (movesMake g.1 (getD' g.2.1 (((w64 (((g.2.1.length : Nat) : Int) - (1 : Int)))).toNat) ([], (([], ([], ())), ((0 : Int), ((0 : Int), ()))))) m) fun r18 =>
  req (room (g.2.1.length + ([(r18.1, ((r18.2.1.1, (r18.2.1.2.1, ())), r18.2.2))]).length) 88) (some ((), ((g.1.1, (g.1.2.1, (g.1.2.2.1, (g.1.2.2.2.1, (g.1.2.2.2.2.1, (g.1.2.2.2.2.2.1, (g.1.2.2.2.2.2.2.1, (g.1.2.2.2.2.2.2.2.1, (g.1.2.2.2.2.2.2.2.2.1, (g.1.2.2.2.2.2.2.2.2.2.1, (g.1.2.2.2.2.2.2.2.2.2.2.1, ((g.2.1 ++ [(r18.1, ((r18.2.1.1, (r18.2.1.2.1, ())), r18.2.2))]), (g.2.2.1, ()))))))))))))), ()))))) (req (inb (w64 (((g.2.1.length : Nat) : Int) - (1 : Int))) g.2.1.length) (Option.bind (movesMake g.1 (getD' g.2.1 (((w64 (((g.2.1.length : Nat) : Int) - (1 : Int)))).toNat) ([], (([], ([], ())), ((0 : Int), ((0 : Int), ()))))) m) fun r19 =>
  req (room (g.2.1.length + ([(r19.1, ((r19.2.1.1, (r19.2.1.2.1, ())), r19.2.2))]).length) 88) (some ((), ((g.1.1, (g.1.2.1, (g.1.2.2.1, (g.1.2.2.2.1, (g.1.2.2.2.2.1, (g.1.2.2.2.2.2.1, (g.1.2.2.2.2.2.2.1, (g.1.2.2.2.2.2.2.2.1, (g.1.2.2.2.2.2.2.2.2.1, (g.1.2.2.2.2.2.2.2.2.2.1, (g.1.2.2.2.2.2.2.2.2.2.2.1, ((g.2.1 ++ [(r19.1, ((r19.2.1.1, (r19.2.1.2.1, ())), r19.2.2))]), (g.2.2.1, ()))))))))))))), ())))))) (agree (req (inb (w64 (((g.2.1.length : Nat) : Int) - (1 : Int))) g.2.1.length) (Option.bind (movesMake g.1 (getD' g.2.1 (((w64 (((g.2.1.length : Nat) : Int) - (1 : Int)))).toNat) ([], (([], ([], ())), ((0 : Int), ((0 : Int), ()))))) m) fun r20 =>
  req (room (g.2.1.length + ([(r20.1, ((r20.2.1.1, (r20.2.1.2.1, ())), r20.2.2))]).length) 88) (some ((), ((g.1.1, (g.1.2.1, (g.1.2.2.1, (g.1.2.2.2.1, (g.1.2.2.2.2.1, (g.1.2.2.2.2.2.1, (g.1.2.2.2.2.2.2.1, (g.1.2.2.2.2.2.2.2.1, (g.1.2.2.2.2.2.2.2.2.1, (g.1.2.2.2.2.2.2.2.2.2.1, (g.1.2.2.2.2.2.2.2.2.2.2.1, ((g.2.1 ++ [(r20.1, ((r20.2.1.1, (r20.2.1.2.1, ())), r20.2.2))]), (g.2.2.1, ()))))))))))))), ()))))) (agree (req (inb (w64 (((g.2.1.length : Nat) : Int) - (1 : Int))) g.2.1.length) (Option.bind (movesMake g.1 (getD' g.2.1 (((w64 (((g.2.1.length : Nat) : Int) - (1 : Int)))).toNat) ([], (([], ([], ())), ((0 : Int), ((0 : Int), ()))))) m) fun r21 =>
  req (room (g.2.1.length + ([(r21.1, ((r21.2.1.1, (r21.2.1.2.1, ())), r21.2.2))]).length) 88) (some ((), ((g.1.1, (g.1.2.1, (g.1.2.2.1, (g.1.2.2.2.1, (g.1.2.2.2.2.1, (g.1.2.2.2.2.2.1, (g.1.2.2.2.2.2.2.1, (g.1.2.2.2.2.2.2.2.1, (g.1.2.2.2.2.2.2.2.2.1, (g.1.2.2.2.2.2.2.2.2.2.1, (g.1.2.2.2.2.2.2.2.2.2.2.1, ((g.2.1 ++ [(r21.1, ((r21.2.1.1, (r21.2.1.2.1, ())), r21.2.2))]), (g.2.2.1, ()))))))))))))), ()))))) (req (inb (w64 (((g.2.1.length : Nat) : Int) - (1 : Int))) g.2.1.length) (Option.bind (movesMake g.1 (getD' g.2.1 (((w64 (((g.2.1.length : Nat) : Int) - (1 : Int)))).toNat) ([], (([], ([], ())), ((0 : Int), ((0 : Int), ()))))) m) fun r22 =>
  req (room (g.2.1.length + ([(r22.1, ((r22.2.1.1, (r22.2.1.2.1, ())), r22.2.2))]).length) 88) (some ((), ((g.1.1, (g.1.2.1, (g.1.2.2.1, (g.1.2.2.2.1, (g.1.2.2.2.2.1, (g.1.2.2.2.2.2.1, (g.1.2.2.2.2.2.2.1, (g.1.2.2.2.2.2.2.2.1, (g.1.2.2.2.2.2.2.2.2.1, (g.1.2.2.2.2.2.2.2.2.2.1, (g.1.2.2.2.2.2.2.2.2.2.2.1, ((g.2.1 ++ [(r22.1, ((r22.2.1.1, (r22.2.1.2.1, ())), r22.2.2))]), (g.2.2.1, ()))))))))))))), ())))))))) (agree (agree (agree (req (inb (w64 (((g.2.1.length : Nat) : Int) - (1 : Int))) g.2.1.length) (Option.bind (movesMake g.1 (getD' g.2.1 (((w64 (((g.2.1.length : Nat) : Int) - (1 : Int)))).toNat) ([], (([], ([], ())), ((0 : Int), ((0 : Int), ()))))) m) fun r23 =>
  req (room (g.2.1.length + ([(r23.1, ((r23.2.1.1, (r23.2.1.2.1, ())), r23.2.2))]).length) 88) (some ((), ((g.1.1, (g.1.2.1, (g.1.2.2.1, (g.1.2.2.2.1, (g.1.2.2.2.2.1, (g.1.2.2.2.2.2.1, (g.1.2.2.2.2.2.2.1, (g.1.2.2.2.2.2.2.2.1, (g.1.2.2.2.2.2.2.2.2.1, (g.1.2.2.2.2.2.2.2.2.2.1, (g.1.2.2.2.2.2.2.2.2.2.2.1, ((g.2.1 ++ [(r23.1, ((r23.2.1.1, (r23.2.1.2.1, ())), r23.2.2))]), (g.2.2.1, ()))))))))))))), ()))))) (req (inb (w64 (((g.2.1.length : Nat) : Int) - (1 : Int))) g.2.1.length) (Option.bind (movesMake g.1 (getD' g.2.1 (((w64 (((g.2.1.length : Nat) : Int) - (1 : Int)))).toNat) ([], (([], ([], ())), ((0 : Int), ((0 : Int), ()))))) m) fun r24 =>
  req (room (g.2.1.length + ([(r24.1, ((r24.2.1.1, (r24.2.1.2.1, ())), r24.2.2))]).length) 88) (some ((), ((g.1.1, (g.1.2.1, (g.1.2.2.1, (g.1.2.2.2.1, (g.1.2.2.2.2.1, (g.1.2.2.2.2.2.1, (g.1.2.2.2.2.2.2.1, (g.1.2.2.2.2.2.2.2.1, (g.1.2.2.2.2.2.2.2.2.1, (g.1.2.2.2.2.2.2.2.2.2.1, (g.1.2.2.2.2.2.2.2.2.2.2.1, ((g.2.1 ++ [(r24.1, ((r24.2.1.1, (r24.2.1.2.1, ())), r24.2.2))]), (g.2.2.1, ()))))))))))))), ())))))) (agree (req (inb (w64 (((g.2.1.length : Nat) : Int) - (1 : Int))) g.2.1.length) (agree (Option.bind (movesMake g.1 (getD' g.2.1 (((w64 (((g.2.1.length : Nat) : Int) - (1 : Int)))).toNat) ([], (([], ([], ())), ((0 : Int), ((0 : Int), ()))))) m) fun r25 =>
  req (room (g.2.1.length + ([(r25.1, ((r25.2.1.1, (r25.2.1.2.1, ())), r25.2.2))]).length) 88) (some ((), ((g.1.1, (g.1.2.1, (g.1.2.2.1, (g.1.2.2.2.1, (g.1.2.2.2.2.1, (g.1.2.2.2.2.2.1, (g.1.2.2.2.2.2.2.1, (g.1.2.2.2.2.2.2.2.1, (g.1.2.2.2.2.2.2.2.2.1, (g.1.2.2.2.2.2.2.2.2.2.1, (g.1.2.2.2.2.2.2.2.2.2.2.1, ((g.2.1 ++ [(r25.1, ((r25.2.1.1, (r25.2.1.2.1, ())), r25.2.2))]), (g.2.2.1, ()))))))))))))), ())))) (Option.bind (movesMake g.1 (getD' g.2.1 (((w64 (((g.2.1.length : Nat) : Int) - (1 : Int)))).toNat) ([], (([], ([], ())), ((0 : Int), ((0 : Int), ()))))) m) fun r26 =>
  req (room (g.2.1.length + ([(r26.1, ((r26.2.1.1, (r26.2.1.2.1, ())), r26.2.2))]).length) 88) (some ((), ((g.1.1, (g.1.2.1, (g.1.2.2.1, (g.1.2.2.2.1, (g.1.2.2.2.2.1, (g.1.2.2.2.2.2.1, (g.1.2.2.2.2.2.2.1, (g.1.2.2.2.2.2.2.2.1, (g.1.2.2.2.2.2.2.2.2.1, (g.1.2.2.2.2.2.2.2.2.2.1, (g.1.2.2.2.2.2.2.2.2.2.2.1, ((g.2.1 ++ [(r26.1, ((r26.2.1.1, (r26.2.1.2.1, ())), r26.2.2))]), (g.2.2.1, ()))))))))))))), ())))))) (agree (req (inb (w64 (((g.2.1.length : Nat) : Int) - (1 : Int))) g.2.1.length) (Option.bind (movesMake g.1 (getD' g.2.1 (((w64 (((g.2.1.length : Nat) : Int) - (1 : Int)))).toNat) ([], (([], ([], ())), ((0 : Int), ((0 : Int), ()))))) m) fun r27 =>
  req (room (g.2.1.length + ([(r27.1, ((r27.2.1.1, (r27.2.1.2.1, ())), r27.2.2))]).length) 88) (some ((), ((g.1.1, (g.1.2.1, (g.1.2.2.1, (g.1.2.2.2.1, (g.1.2.2.2.2.1, (g.1.2.2.2.2.2.1, (g.1.2.2.2.2.2.2.1, (g.1.2.2.2.2.2.2.2.1, (g.1.2.2.2.2.2.2.2.2.1, (g.1.2.2.2.2.2.2.2.2.2.1, (g.1.2.2.2.2.2.2.2.2.2.2.1, ((g.2.1 ++ [(r27.1, ((r27.2.1.1, (r27.2.1.2.1, ())), r27.2.2))]), (g.2.2.1, ()))))))))))))), ()))))) (req (inb (w64 (((g.2.1.length : Nat) : Int) - (1 : Int))) g.2.1.length) (agree (Option.bind (movesMake g.1 (getD' g.2.1 (((w64 (((g.2.1.length : Nat) : Int) - (1 : Int)))).toNat) ([], (([], ([], ())), ((0 : Int), ((0 : Int), ()))))) m) fun r28 =>
  req (room (g.2.1.length + ([(r28.1, ((r28.2.1.1, (r28.2.1.2.1, ())), r28.2.2))]).length) 88) (some ((), ((g.1.1, (g.1.2.1, (g.1.2.2.1, (g.1.2.2.2.1, (g.1.2.2.2.2.1, (g.1.2.2.2.2.2.1, (g.1.2.2.2.2.2.2.1, (g.1.2.2.2.2.2.2.2.1, (g.1.2.2.2.2.2.2.2.2.1, (g.1.2.2.2.2.2.2.2.2.2.1, (g.1.2.2.2.2.2.2.2.2.2.2.1, ((g.2.1 ++ [(r28.1, ((r28.2.1.1, (r28.2.1.2.1, ())), r28.2.2))]), (g.2.2.1, ()))))))))))))), ())))) (Option.bind (movesMake g.1 (getD' g.2.1 (((w64 (((g.2.1.length : Nat) : Int) - (1 : Int)))).toNat) ([], (([], ([], ())), ((0 : Int), ((0 : Int), ()))))) m) fun r29 =>
  req (room (g.2.1.length + ([(r29.1, ((r29.2.1.1, (r29.2.1.2.1, ())), r29.2.2))]).length) 88) (some ((), ((g.1.1, (g.1.2.1, (g.1.2.2.1, (g.1.2.2.2.1, (g.1.2.2.2.2.1, (g.1.2.2.2.2.2.1, (g.1.2.2.2.2.2.2.1, (g.1.2.2.2.2.2.2.2.1, (g.1.2.2.2.2.2.2.2.2.1, (g.1.2.2.2.2.2.2.2.2.2.1, (g.1.2.2.2.2.2.2.2.2.2.2.1, ((g.2.1 ++ [(r29.1, ((r29.2.1.1, (r29.2.1.2.1, ())), r29.2.2))]), (g.2.2.1, ()))))))))))))), ()))))))))) (agree (req (inb (w64 (((g.2.1.length : Nat) : Int) - (1 : Int))) g.2.1.length) (agree (Option.bind (movesMake g.1 (getD' g.2.1 (((w64 (((g.2.1.length : Nat) : Int) - (1 : Int)))).toNat) ([], (([], ([], ())), ((0 : Int), ((0 : Int), ()))))) m) fun r30 =>
  req (room (g.2.1.length + ([(r30.1, ((r30.2.1.1, (r30.2.1.2.1, ())), r30.2.2))]).length) 88) (some ((), ((g.1.1, (g.1.2.1, (g.1.2.2.1, (g.1.2.2.2.1, (g.1.2.2.2.2.1, (g.1.2.2.2.2.2.1, (g.1.2.2.2.2.2.2.1, (g.1.2.2.2.2.2.2.2.1, (g.1.2.2.2.2.2.2.2.2.1, (g.1.2.2.2.2.2.2.2.2.2.1, (g.1.2.2.2.2.2.2.2.2.2.2.1, ((g.2.1 ++ [(r30.1, ((r30.2.1.1, (r30.2.1.2.1, ())), r30.2.2))]), (g.2.2.1, ()))))))))))))), ())))) (Option.bind (movesMake g.1 (getD' g.2.1 (((w64 (((g.2.1.length : Nat) : Int) - (1 : Int)))).toNat) ([], (([], ([], ())), ((0 : Int), ((0 : Int), ()))))) m) fun r31 =>
  req (room (g.2.1.length + ([(r31.1, ((r31.2.1.1, (r31.2.1.2.1, ())), r31.2.2))]).length) 88) (some ((), ((g.1.1, (g.1.2.1, (g.1.2.2.1, (g.1.2.2.2.1, (g.1.2.2.2.2.1, (g.1.2.2.2.2.2.1, (g.1.2.2.2.2.2.2.1, (g.1.2.2.2.2.2.2.2.1, (g.1.2.2.2.2.2.2.2.2.1, (g.1.2.2.2.2.2.2.2.2.2.1, (g.1.2.2.2.2.2.2.2.2.2.2.1, ((g.2.1 ++ [(r31.1, ((r31.2.1.1, (r31.2.1.2.1, ())), r31.2.2))]), (g.2.2.1, ()))))))))))))), ())))))) (agree (agree (req (inb (w64 (((g.2.1.length : Nat) : Int) - (1 : Int))) g.2.1.length) (Option.bind (movesMake g.1 (getD' g.2.1 (((w64 (((g.2.1.length : Nat) : Int) - (1 : Int)))).toNat) ([], (([], ([], ())), ((0 : Int), ((0 : Int), ()))))) m) fun r32 =>
  req (room (g.2.1.length + ([(r32.1, ((r32.2.1.1, (r32.2.1.2.1, ())), r32.2.2))]).length) 88) (some ((), ((g.1.1, (g.1.2.1, (g.1.2.2.1, (g.1.2.2.2.1, (g.1.2.2.2.2.1, (g.1.2.2.2.2.2.1, (g.1.2.2.2.2.2.2.1, (g.1.2.2.2.2.2.2.2.1, (g.1.2.2.2.2.2.2.2.2.1, (g.1.2.2.2.2.2.2.2.2.2.1, (g.1.2.2.2.2.2.2.2.2.2.2.1, ((g.2.1 ++ [(r32.1, ((r32.2.1.1, (r32.2.1.2.1, ())), r32.2.2))]), (g.2.2.1, ()))))))))))))), ()))))) (req (inb (w64 (((g.2.1.length : Nat) : Int) - (1 : Int))) g.2.1.length) (Option.bind (movesMake g.1 (getD' g.2.1 (((w64 (((g.2.1.length : Nat) : Int) - (1 : Int)))).toNat) ([], (([], ([], ())), ((0 : Int), ((0 : Int), ()))))) m) fun r33 =>
  req (room (g.2.1.length + ([(r33.1, ((r33.2.1.1, (r33.2.1.2.1, ())), r33.2.2))]).length) 88) (some ((), ((g.1.1, (g.1.2.1, (g.1.2.2.1, (g.1.2.2.2.1, (g.1.2.2.2.2.1, (g.1.2.2.2.2.2.1, (g.1.2.2.2.2.2.2.1, (g.1.2.2.2.2.2.2.2.1, (g.1.2.2.2.2.2.2.2.2.1, (g.1.2.2.2.2.2.2.2.2.2.1, (g.1.2.2.2.2.2.2.2.2.2.2.1, ((g.2.1 ++ [(r33.1, ((r33.2.1.1, (r33.2.1.2.1, ())), r33.2.2))]), (g.2.2.1, ()))))))))))))), ())))))) (agree (agree (req (inb (w64 (((g.2.1.length : Nat) : Int) - (1 : Int))) g.2.1.length) (Option.bind (movesMake g.1 (getD' g.2.1 (((w64 (((g.2.1.length : Nat) : Int) - (1 : Int)))).toNat) ([], (([], ([], ())), ((0 : Int), ((0 : Int), ()))))) m) fun r34 =>
  req (room (g.2.1.length + ([(r34.1, ((r34.2.1.1, (r34.2.1.2.1, ())), r34.2.2))]).length) 88) (some ((), ((g.1.1, (g.1.2.1, (g.1.2.2.1, (g.1.2.2.2.1, (g.1.2.2.2.2.1, (g.1.2.2.2.2.2.1, (g.1.2.2.2.2.2.2.1, (g.1.2.2.2.2.2.2.2.1, (g.1.2.2.2.2.2.2.2.2.1, (g.1.2.2.2.2.2.2.2.2.2.1, (g.1.2.2.2.2.2.2.2.2.2.2.1, ((g.2.1 ++ [(r34.1, ((r34.2.1.1, (r34.2.1.2.1, ())), r34.2.2))]), (g.2.2.1, ()))))))))))))), ()))))) (req (inb (w64 (((g.2.1.length : Nat) : Int) - (1 : Int))) g.2.1.length) (agree (Option.bind (movesMake g.1 (getD' g.2.1 (((w64 (((g.2.1.length : Nat) : Int) - (1 : Int)))).toNat) ([], (([], ([], ())), ((0 : Int), ((0 : Int), ()))))) m) fun r35 =>
  req (room (g.2.1.length + ([(r35.1, ((r35.2.1.1, (r35.2.1.2.1, ())), r35.2.2))]).length) 88) (some ((), ((g.1.1, (g.1.2.1, (g.1.2.2.1, (g.1.2.2.2.1, (g.1.2.2.2.2.1, (g.1.2.2.2.2.2.1, (g.1.2.2.2.2.2.2.1, (g.1.2.2.2.2.2.2.2.1, (g.1.2.2.2.2.2.2.2.2.1, (g.1.2.2.2.2.2.2.2.2.2.1, (g.1.2.2.2.2.2.2.2.2.2.2.1, ((g.2.1 ++ [(r35.1, ((r35.2.1.1, (r35.2.1.2.1, ())), r35.2.2))]), (g.2.2.1, ()))))))))))))), ())))) (Option.bind (movesMake g.1 (getD' g.2.1 (((w64 (((g.2.1.length : Nat) : Int) - (1 : Int)))).toNat) ([], (([], ([], ())), ((0 : Int), ((0 : Int), ()))))) m) fun r36 =>
  req (room (g.2.1.length + ([(r36.1, ((r36.2.1.1, (r36.2.1.2.1, ())), r36.2.2))]).length) 88) (some ((), ((g.1.1, (g.1.2.1, (g.1.2.2.1, (g.1.2.2.2.1, (g.1.2.2.2.2.1, (g.1.2.2.2.2.2.1, (g.1.2.2.2.2.2.2.1, (g.1.2.2.2.2.2.2.2.1, (g.1.2.2.2.2.2.2.2.2.1, (g.1.2.2.2.2.2.2.2.2.2.1, (g.1.2.2.2.2.2.2.2.2.2.2.1, ((g.2.1 ++ [(r36.1, ((r36.2.1.1, (r36.2.1.2.1, ())), r36.2.2))]), (g.2.2.1, ()))))))))))))), ()))))))) (req (inb (w64 (((g.2.1.length : Nat) : Int) - (1 : Int))) g.2.1.length) (agree (Option.bind (movesMake g.1 (getD' g.2.1 (((w64 (((g.2.1.length : Nat) : Int) - (1 : Int)))).toNat) ([], (([], ([], ())), ((0 : Int), ((0 : Int), ()))))) m) fun r37 =>
  req (room (g.2.1.length + ([(r37.1, ((r37.2.1.1, (r37.2.1.2.1, ())), r37.2.2))]).length) 88) (some ((), ((g.1.1, (g.1.2.1, (g.1.2.2.1, (g.1.2.2.2.1, (g.1.2.2.2.2.1, (g.1.2.2.2.2.2.1, (g.1.2.2.2.2.2.2.1, (g.1.2.2.2.2.2.2.2.1, (g.1.2.2.2.2.2.2.2.2.1, (g.1.2.2.2.2.2.2.2.2.2.1, (g.1.2.2.2.2.2.2.2.2.2.2.1, ((g.2.1 ++ [(r37.1, ((r37.2.1.1, (r37.2.1.2.1, ())), r37.2.2))]), (g.2.2.1, ()))))))))))))), ())))) (Option.bind (movesMake g.1 (getD' g.2.1 (((w64 (((g.2.1.length : Nat) : Int) - (1 : Int)))).toNat) ([], (([], ([], ())), ((0 : Int), ((0 : Int), ()))))) m) fun r38 =>
  req (room (g.2.1.length + ([(r38.1, ((r38.2.1.1, (r38.2.1.2.1, ())), r38.2.2))]).length) 88) (some ((), ((g.1.1, (g.1.2.1, (g.1.2.2.1, (g.1.2.2.2.1, (g.1.2.2.2.2.1, (g.1.2.2.2.2.2.1, (g.1.2.2.2.2.2.2.1, (g.1.2.2.2.2.2.2.2.1, (g.1.2.2.2.2.2.2.2.2.1, (g.1.2.2.2.2.2.2.2.2.2.1, (g.1.2.2.2.2.2.2.2.2.2.2.1, ((g.2.1 ++ [(r38.1, ((r38.2.1.1, (r38.2.1.2.1, ())), r38.2.2))]), (g.2.2.1, ()))))))))))))), ()))))))))))) fun x39 =>
  req (room (x39.2.1.2.2.2.2.2.2.2.2.2.2.2.2.1.length + ([m]).length) 24) (some (((x39.2.1.1, (x39.2.1.2.1, (x39.2.1.2.2.1, (x39.2.1.2.2.2.1, (x39.2.1.2.2.2.2.1, (x39.2.1.2.2.2.2.2.1, (x39.2.1.2.2.2.2.2.2.1, (x39.2.1.2.2.2.2.2.2.2.1, (x39.2.1.2.2.2.2.2.2.2.2.1, (x39.2.1.2.2.2.2.2.2.2.2.2.1, (x39.2.1.2.2.2.2.2.2.2.2.2.2.1, ()))))))))))), (x39.2.1.2.2.2.2.2.2.2.2.2.2.2.1, ((x39.2.1.2.2.2.2.2.2.2.2.2.2.2.2.1 ++ [m]), ()))), (0 : Int)))
noncomputable def plainGamePosition (g : (ByteArray × Int × Int × (List (Int × Int × Int × (List (Int × Int × Int × Int × Unit)) × Unit)) × (List Int) × Bool × Bool × (List (Int × Int × Int × Bool × Unit)) × Int × Int × Int × Unit) × (List ((List Int) × ((List Int) × (List Int) × Unit) × Int × Int × Unit)) × (List (Int × Int × Int × Unit)) × Unit) : Option ((List Int) × ((List Int) × (List Int) × Unit) × Int × Int × Unit) :=
  Option.bind (at? g.2.1 (w64 (((g.2.1.length : Nat) : Int) - (1 : Int)))) fun d3 =>
  Option.bind (placeCopy d3) fun r4 =>
  some (r4.1, ((r4.2.1.1, (r4.2.1.2.1, ())), r4.2.2))
noncomputable def plainRun_L1 (l : List (Int × Int × Int × Unit)) (x5 : (Int × Unit) × (Unit)) : Option (((Int × Unit) × (Unit)) ⊕ (((Unit) × (Unit)) ⊕ (((List Int) × ((List Int) × (List Int) × Unit) × Int × Int × Unit) × Int × Int × Unit))) :=
  bif (decide (x5.1.1 < ((l.length : Nat) : Int))) then (Option.bind (at? l x5.1.1) fun d6 =>
  none)
  else some (Sum.inr (Sum.inl ((), ())))
noncomputable def plainRun_L2 (l : List (Int × Int × Int × Unit)) (x12 : (Int × Unit) × (((List Int) × (List Int) × (List Int) × Int × Int × Unit) × (ByteArray × Int × Int × (List (Int × Int × Int × (List (Int × Int × Int × Int × Unit)) × Unit)) × (List Int) × Bool × Bool × (List (Int × Int × Int × Bool × Unit)) × Int × Int × Int × (List ((List Int) × ((List Int) × (List Int) × Unit) × Int × Int × Unit)) × (List (Int × Int × Int × Unit)) × Unit) × Unit)) : Option (((Int × Unit) × (((List Int) × (List Int) × (List Int) × Int × Int × Unit) × (ByteArray × Int × Int × (List (Int × Int × Int × (List (Int × Int × Int × Int × Unit)) × Unit)) × (List Int) × Bool × Bool × (List (Int × Int × Int × Bool × Unit)) × Int × Int × Int × (List ((List Int) × ((List Int) × (List Int) × Unit) × Int × Int × Unit)) × (List (Int × Int × Int × Unit)) × Unit) × Unit)) ⊕ (((Unit) × (((List Int) × (List Int) × (List Int) × Int × Int × Unit) × (ByteArray × Int × Int × (List (Int × Int × Int × (List (Int × Int × Int × Int × Unit)) × Unit)) × (List Int) × Bool × Bool × (List (Int × Int × Int × Bool × Unit)) × Int × Int × Int × (List ((List Int) × ((List Int) × (List Int) × Unit) × Int × Int × Unit)) × (List (Int × Int × Int × Unit)) × Unit) × Unit)) ⊕ (((List Int) × ((List Int) × (List Int) × Unit) × Int × Int × Unit) × Int × Int × Unit))) :=
  bif (decide (x12.1.1 < ((l.length : Nat) : Int))) then (Option.bind (at? l x12.1.1) fun d13 =>
  Option.bind (plainGamePlay ((x12.2.2.1.1, (x12.2.2.1.2.1, (x12.2.2.1.2.2.1, (x12.2.2.1.2.2.2.1, (x12.2.2.1.2.2.2.2.1, (x12.2.2.1.2.2.2.2.2.1, (x12.2.2.1.2.2.2.2.2.2.1, (x12.2.2.1.2.2.2.2.2.2.2.1, (x12.2.2.1.2.2.2.2.2.2.2.2.1, (x12.2.2.1.2.2.2.2.2.2.2.2.2.1, (x12.2.2.1.2.2.2.2.2.2.2.2.2.2.1, ()))))))))))), (x12.2.2.1.2.2.2.2.2.2.2.2.2.2.2.1, (x12.2.2.1.2.2.2.2.2.2.2.2.2.2.2.2.1, ()))) d13) fun r14 =>
  bif (r14.2 != (0 : Int)) then some (Sum.inr (Sum.inr ((([] : List Int), ((([] : List Int), (([] : List Int), ())), ((0 : Int), ((0 : Int), ())))), ((0 : Int), (r14.2, ())))))
  else some (Sum.inl (((w64 (x12.1.1 + (1 : Int))), ()), ((x12.2.1.1, (x12.2.1.2.1, (x12.2.1.2.2.1, x12.2.1.2.2.2))), (r14.1.1.1, (r14.1.1.2.1, (r14.1.1.2.2.1, (r14.1.1.2.2.2.1, (r14.1.1.2.2.2.2.1, (r14.1.1.2.2.2.2.2.1, (r14.1.1.2.2.2.2.2.2.1, (r14.1.1.2.2.2.2.2.2.2.1, (r14.1.1.2.2.2.2.2.2.2.2.1, (r14.1.1.2.2.2.2.2.2.2.2.2.1, (r14.1.1.2.2.2.2.2.2.2.2.2.2.1, (r14.1.2.1, (r14.1.2.2.1, ()))))))))))))), ()))))
  else some (Sum.inr (Sum.inl ((), ((x12.2.1.1, (x12.2.1.2.1, (x12.2.1.2.2.1, x12.2.1.2.2.2))), (x12.2.2.1.1, (x12.2.2.1.2.1, (x12.2.2.1.2.2.1, (x12.2.2.1.2.2.2.1, (x12.2.2.1.2.2.2.2.1, (x12.2.2.1.2.2.2.2.2.1, (x12.2.2.1.2.2.2.2.2.2.1, (x12.2.2.1.2.2.2.2.2.2.2.1, (x12.2.2.1.2.2.2.2.2.2.2.2.1, (x12.2.2.1.2.2.2.2.2.2.2.2.2.1, (x12.2.2.1.2.2.2.2.2.2.2.2.2.2.1, (x12.2.2.1.2.2.2.2.2.2.2.2.2.2.2.1, (x12.2.2.1.2.2.2.2.2.2.2.2.2.2.2.2.1, ()))))))))))))), ()))))
noncomputable def plainRun (r : ByteArray × Int × Int × (List (Int × Int × Int × (List (Int × Int × Int × Int × Unit)) × Unit)) × (List Int) × Bool × Bool × (List (Int × Int × Int × Bool × Unit)) × Int × Int × Int × Unit) (l : List (Int × Int × Int × Unit)) : Option (((List Int) × ((List Int) × (List Int) × Unit) × Int × Int × Unit) × Int × Int × Unit) :=
  Option.bind (placeBegin r) fun r4 =>
  bif (r4.2.1 != (0 : Int)) then (bif (r4.2.1 != (0 : Int)) then some ((([] : List Int), ((([] : List Int), (([] : List Int), ())), ((0 : Int), ((0 : Int), ())))), ((0 : Int), r4.2))
  else Option.bind (α := ((Unit) × (Unit)) ⊕ (((List Int) × ((List Int) × (List Int) × Unit) × Int × Int × Unit) × Int × Int × Unit)) (iterW (plainRun_L1 l) (((0 : Int), ()), ())) (Sum.elim (fun x7 =>
  none) some))
  else Option.bind (agree (Option.bind (rulesCopy r) fun r8 =>
  some (((r8, ([(r4.1.1, ((r4.1.2.1.1, (r4.1.2.1.2.1, ())), r4.1.2.2))], (([] : List (Int × Int × Int × Unit)), ()))), (0 : Int), ()), ())) (agree (Option.bind (rulesCopy r) fun r9 =>
  some (((r9, ([(r4.1.1, ((r4.1.2.1.1, (r4.1.2.1.2.1, ())), r4.1.2.2))], (([] : List (Int × Int × Int × Unit)), ()))), (0 : Int), ()), ())) (Option.bind (rulesCopy r) fun r10 =>
  some (((r10, ([(r4.1.1, ((r4.1.2.1.1, (r4.1.2.1.2.1, ())), r4.1.2.2))], (([] : List (Int × Int × Int × Unit)), ()))), (0 : Int), ()), ())))) fun x11 =>
  bif (x11.1.2.1 != (0 : Int)) then some ((([] : List Int), ((([] : List Int), (([] : List Int), ())), ((0 : Int), ((0 : Int), ())))), ((0 : Int), (x11.1.2.1, ())))
  else Option.bind (α := ((Unit) × (((List Int) × (List Int) × (List Int) × Int × Int × Unit) × (ByteArray × Int × Int × (List (Int × Int × Int × (List (Int × Int × Int × Int × Unit)) × Unit)) × (List Int) × Bool × Bool × (List (Int × Int × Int × Bool × Unit)) × Int × Int × Int × (List ((List Int) × ((List Int) × (List Int) × Unit) × Int × Int × Unit)) × (List (Int × Int × Int × Unit)) × Unit) × Unit)) ⊕ (((List Int) × ((List Int) × (List Int) × Unit) × Int × Int × Unit) × Int × Int × Unit)) (iterW (plainRun_L2 l) (((0 : Int), ()), ((([] : List Int), (([] : List Int), (([] : List Int), ((0 : Int), ((0 : Int), ()))))), (x11.1.1.1.1, (x11.1.1.1.2.1, (x11.1.1.1.2.2.1, (x11.1.1.1.2.2.2.1, (x11.1.1.1.2.2.2.2.1, (x11.1.1.1.2.2.2.2.2.1, (x11.1.1.1.2.2.2.2.2.2.1, (x11.1.1.1.2.2.2.2.2.2.2.1, (x11.1.1.1.2.2.2.2.2.2.2.2.1, (x11.1.1.1.2.2.2.2.2.2.2.2.2.1, (x11.1.1.1.2.2.2.2.2.2.2.2.2.2.1, (x11.1.1.2.1, (x11.1.1.2.2.1, ()))))))))))))), ()))) (Sum.elim (fun x15 =>
  Option.bind (plainGamePosition ((x15.2.2.1.1, (x15.2.2.1.2.1, (x15.2.2.1.2.2.1, (x15.2.2.1.2.2.2.1, (x15.2.2.1.2.2.2.2.1, (x15.2.2.1.2.2.2.2.2.1, (x15.2.2.1.2.2.2.2.2.2.1, (x15.2.2.1.2.2.2.2.2.2.2.1, (x15.2.2.1.2.2.2.2.2.2.2.2.1, (x15.2.2.1.2.2.2.2.2.2.2.2.2.1, (x15.2.2.1.2.2.2.2.2.2.2.2.2.2.1, ()))))))))))), (x15.2.2.1.2.2.2.2.2.2.2.2.2.2.2.1, (x15.2.2.1.2.2.2.2.2.2.2.2.2.2.2.2.1, ())))) fun r16 =>
  Option.bind (plainGameResult ((x15.2.2.1.1, (x15.2.2.1.2.1, (x15.2.2.1.2.2.1, (x15.2.2.1.2.2.2.1, (x15.2.2.1.2.2.2.2.1, (x15.2.2.1.2.2.2.2.2.1, (x15.2.2.1.2.2.2.2.2.2.1, (x15.2.2.1.2.2.2.2.2.2.2.1, (x15.2.2.1.2.2.2.2.2.2.2.2.1, (x15.2.2.1.2.2.2.2.2.2.2.2.2.1, (x15.2.2.1.2.2.2.2.2.2.2.2.2.2.1, ()))))))))))), (x15.2.2.1.2.2.2.2.2.2.2.2.2.2.2.1, (x15.2.2.1.2.2.2.2.2.2.2.2.2.2.2.2.1, ())))) fun r17 =>
  some ((r16.1, ((r16.2.1.1, (r16.2.1.2.1, ())), r16.2.2)), (r17, ((0 : Int), ())))) some)
noncomputable def ref3Times_L1 (l : List ((List Int) × ((List Int) × (List Int) × Unit) × Int × Int × Unit)) (x1 : (Int × Int × Unit) × (Unit)) : Option (((Int × Int × Unit) × (Unit)) ⊕ ((Int × Unit) × (Unit))) :=
  bif (decide (x1.1.2.1 < ((l.length : Nat) : Int))) then (Option.bind (at? l x1.1.2.1) fun d2 =>
  Option.bind (at? l (w64 (((l.length : Nat) : Int) - (1 : Int)))) fun d3 =>
  Option.bind (placeSame d2 d3) fun r4 =>
  Option.bind (bif r4 then some (((w64 (x1.1.1 + (1 : Int))), ()), ())
  else some ((x1.1.1, ()), ())) fun x5 =>
  some (Sum.inl ((x5.1.1, (w64 (x1.1.2.1 + (1 : Int))), ()), ())))
  else some (Sum.inr ((x1.1.1, ()), ()))
noncomputable def ref3Times (l : List ((List Int) × ((List Int) × (List Int) × Unit) × Int × Int × Unit)) : Option (Int) :=
  Option.bind (iterW (ref3Times_L1 l) (((0 : Int), (0 : Int), ()), ())) fun x6 =>
  some x6.1.1
noncomputable def ref3Result (r : ByteArray × Int × Int × (List (Int × Int × Int × (List (Int × Int × Int × Int × Unit)) × Unit)) × (List Int) × Bool × Bool × (List (Int × Int × Int × Bool × Unit)) × Int × Int × Int × Unit) (l : List ((List Int) × ((List Int) × (List Int) × Unit) × Int × Int × Unit)) : Option (Int) :=
  Option.bind (at? l (w64 (((l.length : Nat) : Int) - (1 : Int)))) fun d4 =>
  Option.bind (endsOf r d4) fun r5 =>
  Option.bind (gopt (((r5.2.1 == (0 : Int)) && (r5.1 == (0 : Int))) && (decide (r.2.2.2.2.2.2.2.2.2.2.1 > (0 : Int)))) (0 : Int) (ref3Times l)) fun r6 =>
  bif ((((r5.2.1 == (0 : Int)) && (r5.1 == (0 : Int))) && (decide (r.2.2.2.2.2.2.2.2.2.2.1 > (0 : Int)))) && (decide (r6 ≥ r.2.2.2.2.2.2.2.2.2.2.1))) then some (3 : Int)
  else some r5.1
noncomputable def ref3Places_L1 (l : List (Int × Int × Int × Unit)) (r : ByteArray × Int × Int × (List (Int × Int × Int × (List (Int × Int × Int × Int × Unit)) × Unit)) × (List Int) × Bool × Bool × (List (Int × Int × Int × Bool × Unit)) × Int × Int × Int × Unit) (x3 : ((List ((List Int) × ((List Int) × (List Int) × Unit) × Int × Int × Unit)) × Int × Unit) × (Unit)) : Option ((((List ((List Int) × ((List Int) × (List Int) × Unit) × Int × Int × Unit)) × Int × Unit) × (Unit)) ⊕ ((((List ((List Int) × ((List Int) × (List Int) × Unit) × Int × Int × Unit)) × Unit) × (Unit)) ⊕ ((List ((List Int) × ((List Int) × (List Int) × Unit) × Int × Int × Unit)) × Int × Unit))) :=
  bif (decide (x3.1.2.1 < ((l.length : Nat) : Int))) then (Option.bind (at? l x3.1.2.1) fun d4 =>
  Option.bind (ref3Result r x3.1.1) fun r5 =>
  bif (r5 != (0 : Int)) then some (Sum.inr (Sum.inr (([] : List ((List Int) × ((List Int) × (List Int) × Unit) × Int × Int × Unit)), ((14 : Int), ()))))
  else Option.bind (req (inb (w64 (((x3.1.1.length : Nat) : Int) - (1 : Int))) x3.1.1.length) (agree (Option.bind (movesAfter r (getD' x3.1.1 (((w64 (((x3.1.1.length : Nat) : Int) - (1 : Int)))).toNat) ([], (([], ([], ())), ((0 : Int), ((0 : Int), ()))))) d4) fun r6 =>
  some (((r6.1.1, ((r6.1.2.1.1, (r6.1.2.1.2.1, ())), r6.1.2.2)), r6.2.1, ()), ())) (Option.bind (movesAfter r (getD' x3.1.1 (((w64 (((x3.1.1.length : Nat) : Int) - (1 : Int)))).toNat) ([], (([], ([], ())), ((0 : Int), ((0 : Int), ()))))) d4) fun r7 =>
  some (((r7.1.1, ((r7.1.2.1.1, (r7.1.2.1.2.1, ())), r7.1.2.2)), r7.2.1, ()), ())))) fun x8 =>
  bif (x8.1.2.1 != (0 : Int)) then some (Sum.inr (Sum.inr (([] : List ((List Int) × ((List Int) × (List Int) × Unit) × Int × Int × Unit)), ((13 : Int), ()))))
  else bif (decide (((x3.1.1.length : Nat) : Int) > (400 : Int))) then some (Sum.inr (Sum.inr (([] : List ((List Int) × ((List Int) × (List Int) × Unit) × Int × Int × Unit)), ((9 : Int), ()))))
  else req (room (x3.1.1.length + ([(x8.1.1.1, ((x8.1.1.2.1.1, (x8.1.1.2.1.2.1, ())), x8.1.1.2.2))]).length) 88) (some (Sum.inl (((x3.1.1 ++ [(x8.1.1.1, ((x8.1.1.2.1.1, (x8.1.1.2.1.2.1, ())), x8.1.1.2.2))]), (w64 (x3.1.2.1 + (1 : Int))), ()), ()))))
  else some (Sum.inr (Sum.inl ((x3.1.1, ()), ())))
noncomputable def ref3Places (r : ByteArray × Int × Int × (List (Int × Int × Int × (List (Int × Int × Int × Int × Unit)) × Unit)) × (List Int) × Bool × Bool × (List (Int × Int × Int × Bool × Unit)) × Int × Int × Int × Unit) (l : List (Int × Int × Int × Unit)) : Option ((List ((List Int) × ((List Int) × (List Int) × Unit) × Int × Int × Unit)) × Int × Unit) :=
  Option.bind (placeBegin r) fun r2 =>
  bif (r2.2.1 != (0 : Int)) then some (([] : List ((List Int) × ((List Int) × (List Int) × Unit) × Int × Int × Unit)), r2.2)
  else Option.bind (α := (((List ((List Int) × ((List Int) × (List Int) × Unit) × Int × Int × Unit)) × Unit) × (Unit)) ⊕ ((List ((List Int) × ((List Int) × (List Int) × Unit) × Int × Int × Unit)) × Int × Unit)) (iterW (ref3Places_L1 l r) (([(r2.1.1, ((r2.1.2.1.1, (r2.1.2.1.2.1, ())), r2.1.2.2))], (0 : Int), ()), ())) (Sum.elim (fun x9 =>
  some (x9.1.1, ((0 : Int), ()))) some)
noncomputable def ref3SameLine_L1 (a : List (Int × Int × Int × Unit)) (b : List (Int × Int × Int × Unit)) (x1 : (Int × Unit) × (Unit)) : Option (((Int × Unit) × (Unit)) ⊕ (((Unit) × (Unit)) ⊕ Bool)) :=
  bif (decide (x1.1.1 < ((a.length : Nat) : Int))) then (Option.bind (at? a x1.1.1) fun d2 =>
  Option.bind (at? b x1.1.1) fun d3 =>
  bif (!((d2.1 == d3.1) && ((d2.2.1 == d3.2.1) && ((d2.2.2.1 == d3.2.2.1) && true)))) then some (Sum.inr (Sum.inr false))
  else some (Sum.inl (((w64 (x1.1.1 + (1 : Int))), ()), ())))
  else some (Sum.inr (Sum.inl ((), ())))
noncomputable def ref3SameLine (a : List (Int × Int × Int × Unit)) (b : List (Int × Int × Int × Unit)) : Option (Bool) :=
  bif (((a.length : Nat) : Int) != ((b.length : Nat) : Int)) then some false
  else Option.bind (α := ((Unit) × (Unit)) ⊕ Bool) (iterW (ref3SameLine_L1 a b) (((0 : Int), ()), ())) (Sum.elim (fun x4 =>
  some true) some)
noncomputable def law3Tic_o : Option (ByteArray × Int × Int × (List (Int × Int × Int × (List (Int × Int × Int × Int × Unit)) × Unit)) × (List Int) × Bool × Bool × (List (Int × Int × Int × Bool × Unit)) × Int × Int × Int × Unit) :=
  some ((ByteArray.mk #[84, 73, 67]), ((3 : Int), ((3 : Int), ([((83 : Int), ((5 : Int), ((0 : Int), (([] : List (Int × Int × Int × Int × Unit)), ()))))], ((List.replicate 9 (0 : Int)), (false, (false, ([((0 : Int), ((0 : Int), ((3 : Int), (false, ()))))], ((2 : Int), ((0 : Int), ((0 : Int), ())))))))))))
def law3Tic : ByteArray × Int × Int × (List (Int × Int × Int × (List (Int × Int × Int × Int × Unit)) × Unit)) × (List Int) × Bool × Bool × (List (Int × Int × Int × Bool × Unit)) × Int × Int × Int × Unit :=
  ((ByteArray.mk #[84, 73, 67]), ((3 : Int), ((3 : Int), ([((83 : Int), ((5 : Int), ((0 : Int), (([] : List (Int × Int × Int × Int × Unit)), ()))))], ((List.replicate 9 (0 : Int)), (false, (false, ([((0 : Int), ((0 : Int), ((3 : Int), (false, ()))))], ((2 : Int), ((0 : Int), ((0 : Int), ())))))))))))
theorem law3Tic_eq : law3Tic_o = some (law3Tic) := by
  unfold law3Tic_o law3Tic
  first | rfl | simp only [cond_some]
noncomputable def law3Drop_o (to : Int) : Option (Int × Int × Int × Unit) :=
  some ((-1 : Int), (to, ((0 : Int), ())))
def law3Drop (to : Int) : Int × Int × Int × Unit :=
  ((-1 : Int), (to, ((0 : Int), ())))
theorem law3Drop_eq (to : Int) : law3Drop_o to = some (law3Drop to) := by
  unfold law3Drop_o law3Drop
  first | rfl | simp only [cond_some]
noncomputable def law3Great_o (r : ByteArray × Int × Int × (List (Int × Int × Int × (List (Int × Int × Int × Int × Unit)) × Unit)) × (List Int) × Bool × Bool × (List (Int × Int × Int × Bool × Unit)) × Int × Int × Int × Unit) : Option (Bool) :=
  some (decide (((r.2.2.2.2.1.length : Nat) : Int) > (20 : Int)))
def law3Great (r : ByteArray × Int × Int × (List (Int × Int × Int × (List (Int × Int × Int × Int × Unit)) × Unit)) × (List Int) × Bool × Bool × (List (Int × Int × Int × Bool × Unit)) × Int × Int × Int × Unit) : Bool :=
  (decide (((r.2.2.2.2.1.length : Nat) : Int) > (20 : Int)))
theorem law3Great_eq (r : ByteArray × Int × Int × (List (Int × Int × Int × (List (Int × Int × Int × Int × Unit)) × Unit)) × (List Int) × Bool × Bool × (List (Int × Int × Int × Bool × Unit)) × Int × Int × Int × Unit) : law3Great_o r = some (law3Great r) := by
  unfold law3Great_o law3Great
  first | rfl | simp only [cond_some]
noncomputable def law3Cut (l : List (Int × Int × Int × Unit)) : Option (List (Int × Int × Int × Unit)) :=
  req (boundsI (0 : Int) (if (40 : Int) < ((l.length : Nat) : Int) then (40 : Int) else ((l.length : Nat) : Int)) l.length) (some ((l.take ((if (40 : Int) < ((l.length : Nat) : Int) then (40 : Int) else ((l.length : Nat) : Int))).toNat).drop 0))
end Go.Proofs.YtocnfflklfeocaaGreat
namespace Go.Proofs.YtocnfflklfeocaaGreat
open Go.Den
set_option linter.unusedVariables false
set_option maxRecDepth 100000
noncomputable def movetextLetter (r : ByteArray × Int × Int × (List (Int × Int × Int × (List (Int × Int × Int × Int × Unit)) × Unit)) × (List Int) × Bool × Bool × (List (Int × Int × Int × Bool × Unit)) × Int × Int × Int × Unit) (k : Int) : Option (ByteArray) :=
  Option.bind (at? r.2.2.2.1 k) fun d2 =>
  some (Go.Utf8.encode (IntKind.wrap .i32 d2.1))
noncomputable def movetextColumn (r : ByteArray × Int × Int × (List (Int × Int × Int × (List (Int × Int × Int × Int × Unit)) × Unit)) × (List Int) × Bool × Bool × (List (Int × Int × Int × Bool × Unit)) × Int × Int × Int × Unit) (n : Int) : Option (ByteArray) :=
  req (r.2.1 != 0) (some (Go.Utf8.encode (IntKind.wrap .i32 (w64 ((97 : Int) + (n.tmod r.2.1))))))
noncomputable def movetextRow (r : ByteArray × Int × Int × (List (Int × Int × Int × (List (Int × Int × Int × Int × Unit)) × Unit)) × (List Int) × Bool × Bool × (List (Int × Int × Int × Bool × Unit)) × Int × Int × Int × Unit) (n : Int) : Option (ByteArray) :=
  req (r.2.1 != 0) (some (Go.Utf8.encode (IntKind.wrap .i32 (w64 ((49 : Int) + (w64 (n.tdiv r.2.1)))))))
noncomputable def movetextSquare (r : ByteArray × Int × Int × (List (Int × Int × Int × (List (Int × Int × Int × Int × Unit)) × Unit)) × (List Int) × Bool × Bool × (List (Int × Int × Int × Bool × Unit)) × Int × Int × Int × Unit) (n : Int) : Option (ByteArray) :=
  Option.bind (movetextColumn r n) fun r3 =>
  Option.bind (movetextRow r n) fun r4 =>
  req (strRoom r3 r4) (some (r3 ++ r4))
noncomputable def movetextMark_L1 (l : List (Int × Int × Int × Unit)) (m : Int × Int × Int × Unit) (p : (List Int) × ((List Int) × (List Int) × Unit) × Int × Int × Unit) (x2 : (Int × Unit) × (((List Int) × Unit) × Unit)) : Option (((Int × Unit) × (((List Int) × Unit) × Unit)) ⊕ ((Unit) × (((List Int) × Unit) × Unit))) :=
  bif (decide (x2.1.1 < ((l.length : Nat) : Int))) then (Option.bind (at? l x2.1.1) fun d3 =>
  Option.bind (gat (((decide (d3.1 ≥ (0 : Int))) && (d3.1 != m.1)) && (d3.2.1 == m.2.1)) (0 : Int) p.1 d3.1) fun d4 =>
  Option.bind (gat (((decide (d3.1 ≥ (0 : Int))) && (d3.1 != m.1)) && (d3.2.1 == m.2.1)) (0 : Int) p.1 m.1) fun d5 =>
  Option.bind (bif ((((decide (d3.1 ≥ (0 : Int))) && (d3.1 != m.1)) && (d3.2.1 == m.2.1)) && (d4 == d5)) then req (room (x2.2.1.1.length + ([d3.1]).length) 8) (some ((), (((x2.2.1.1 ++ [d3.1]), ()), ())))
  else some ((), ((x2.2.1.1, ()), ()))) fun x6 =>
  some (Sum.inl (((w64 (x2.1.1 + (1 : Int))), ()), ((x6.2.1.1, ()), ()))))
  else some (Sum.inr ((), ((x2.2.1.1, ()), ())))
noncomputable def movetextMark_L3 (x7 : (Unit) × (((List Int) × Unit) × Unit)) (r : ByteArray × Int × Int × (List (Int × Int × Int × (List (Int × Int × Int × Int × Unit)) × Unit)) × (List Int) × Bool × Bool × (List (Int × Int × Int × Bool × Unit)) × Int × Int × Int × Unit) (m : Int × Int × Int × Unit) (x10 : (Int × Unit) × (Unit)) : Option (((Int × Unit) × (Unit)) ⊕ (((Unit) × (Unit)) ⊕ ByteArray)) :=
  bif (decide (x10.1.1 < ((x7.2.1.1.length : Nat) : Int))) then (req (inb x10.1.1 x7.2.1.1.length) (req (r.2.1 != 0) (req (r.2.1 != 0) (bif ((w64 ((getD' x7.2.1.1 ((x10.1.1).toNat) (0 : Int)).tdiv r.2.1)) == (w64 (m.1.tdiv r.2.1))) then (Option.map Sum.inr (Option.map Sum.inr (bif (!(decide (x10.1.1 ≥ (0 : Int)))) then (Option.bind (movetextRow r m.1) fun r11 =>
  some r11)
  else Option.bind (movetextSquare r m.1) fun r12 =>
  some r12)))
  else some (Sum.inl (((w64 (x10.1.1 + (1 : Int))), ()), ()))))))
  else some (Sum.inr (Sum.inl ((), ())))
noncomputable def movetextMark_L2 (x7 : (Unit) × (((List Int) × Unit) × Unit)) (r : ByteArray × Int × Int × (List (Int × Int × Int × (List (Int × Int × Int × Int × Unit)) × Unit)) × (List Int) × Bool × Bool × (List (Int × Int × Int × Bool × Unit)) × Int × Int × Int × Unit) (m : Int × Int × Int × Unit) (x8 : (Int × Unit) × (Unit)) : Option (((Int × Unit) × (Unit)) ⊕ (((Unit) × (Unit)) ⊕ ByteArray)) :=
  bif (decide (x8.1.1 < ((x7.2.1.1.length : Nat) : Int))) then (req (inb x8.1.1 x7.2.1.1.length) (req (r.2.1 != 0) (req (r.2.1 != 0) (bif (((getD' x7.2.1.1 ((x8.1.1).toNat) (0 : Int)).tmod r.2.1) == (m.1.tmod r.2.1)) then (Option.map Sum.inr (Option.map Sum.inr (bif (!(decide (x8.1.1 ≥ (0 : Int)))) then (Option.bind (movetextColumn r m.1) fun r9 =>
  some r9)
  else Option.bind (α := ((Unit) × (Unit)) ⊕ ByteArray) (iterW (movetextMark_L3 x7 r m) (((0 : Int), ()), ())) (Sum.elim (fun x13 =>
  Option.bind (movetextRow r m.1) fun r14 =>
  some r14) some))))
  else some (Sum.inl (((w64 (x8.1.1 + (1 : Int))), ()), ()))))))
  else some (Sum.inr (Sum.inl ((), ())))
noncomputable def movetextMark (r : ByteArray × Int × Int × (List (Int × Int × Int × (List (Int × Int × Int × Int × Unit)) × Unit)) × (List Int) × Bool × Bool × (List (Int × Int × Int × Bool × Unit)) × Int × Int × Int × Unit) (p : (List Int) × ((List Int) × (List Int) × Unit) × Int × Int × Unit) (l : List (Int × Int × Int × Unit)) (m : Int × Int × Int × Unit) : Option (ByteArray) :=
  Option.bind (iterW (movetextMark_L1 l m p) (((0 : Int), ()), ((([] : List Int), ()), ()))) fun x7 =>
  bif (((x7.2.1.1.length : Nat) : Int) == (0 : Int)) then some (ByteArray.mk #[])
  else Option.bind (α := ((Unit) × (Unit)) ⊕ ByteArray) (iterW (movetextMark_L2 x7 r m) (((0 : Int), ()), ())) (Sum.elim (fun x15 =>
  Option.bind (movetextColumn r m.1) fun r16 =>
  some r16) some)
noncomputable def movetextOf (r : ByteArray × Int × Int × (List (Int × Int × Int × (List (Int × Int × Int × Int × Unit)) × Unit)) × (List Int) × Bool × Bool × (List (Int × Int × Int × Bool × Unit)) × Int × Int × Int × Unit) (p : (List Int) × ((List Int) × (List Int) × Unit) × Int × Int × Unit) (l : List (Int × Int × Int × Unit)) (m : Int × Int × Int × Unit) : Option (ByteArray) :=
  bif (decide (m.1 < (0 : Int))) then (Option.bind (movetextLetter r m.2.2.1) fun r8 =>
  req (strRoom r8 (ByteArray.mk #[64])) (Option.bind (movetextSquare r m.2.1) fun r9 =>
  req (strRoom (r8 ++ (ByteArray.mk #[64])) r9) (some ((r8 ++ (ByteArray.mk #[64])) ++ r9))))
  else Option.bind (at? p.1 m.1) fun d10 =>
  Option.bind (movetextLetter r (w64 ((w64 (d10 - (1 : Int))).tdiv (2 : Int)))) fun r11 =>
  Option.bind (movetextMark r p l m) fun r12 =>
  req (strRoom r11 r12) (Option.bind (at? p.1 m.2.1) fun d13 =>
  Option.bind (bif (d13 != (0 : Int)) then req (strRoom (r11 ++ r12) (ByteArray.mk #[120])) (some ((((r11 ++ r12) ++ (ByteArray.mk #[120])), ()), ()))
  else some (((r11 ++ r12), ()), ())) fun x14 =>
  Option.bind (movetextSquare r m.2.1) fun r15 =>
  req (strRoom x14.1.1 r15) (Option.bind (bif (m.2.2.1 != (w64 ((w64 (d10 - (1 : Int))).tdiv (2 : Int)))) then (Option.bind (movetextLetter r m.2.2.1) fun r16 =>
  req (strRoom (ByteArray.mk #[61]) r16) (req (strRoom (x14.1.1 ++ r15) ((ByteArray.mk #[61]) ++ r16)) (some ((((x14.1.1 ++ r15) ++ ((ByteArray.mk #[61]) ++ r16)), ()), ()))))
  else some (((x14.1.1 ++ r15), ()), ())) fun x17 =>
  some x17.1.1))
end Go.Proofs.YtocnfflklfeocaaGreat
namespace Go.Proofs.YtocnfflklfeocaaGreat
open Go.Den
set_option linter.unusedVariables false
set_option maxRecDepth 100000
noncomputable def recordPrintable_L1 (s : ByteArray) (not : ByteArray) (x1 : (Int × Unit) × (Unit)) : Option (((Int × Unit) × (Unit)) ⊕ (((Unit) × (Unit)) ⊕ Bool)) :=
  bif (decide (x1.1.1 < ((s.size : Nat) : Int))) then (Option.bind (strAt s x1.1.1) fun c2 =>
  Option.bind (gopt (!(decide (((c2.toNat : Nat) : Int) < (32 : Int)))) 0 (strAt s x1.1.1)) fun c3 =>
  Option.bind (gopt (!((decide (((c2.toNat : Nat) : Int) < (32 : Int))) || (decide (((c3.toNat : Nat) : Int) > (126 : Int))))) 0 (strAt s x1.1.1)) fun c4 =>
  bif (((decide (((c2.toNat : Nat) : Int) < (32 : Int))) || (decide (((c3.toNat : Nat) : Int) > (126 : Int)))) || (decide ((indexByteS not ((c4.toNat : Nat) : Int)) ≥ (0 : Int)))) then some (Sum.inr (Sum.inr false))
  else some (Sum.inl (((w64 (x1.1.1 + (1 : Int))), ()), ())))
  else some (Sum.inr (Sum.inl ((), ())))
noncomputable def recordPrintable (s : ByteArray) (not : ByteArray) : Option (Bool) :=
  Option.bind (α := ((Unit) × (Unit)) ⊕ Bool) (iterW (recordPrintable_L1 s not) (((0 : Int), ()), ())) (Sum.elim (fun x5 =>
  some true) some)
noncomputable def recordTags_L2 (x : (List (ByteArray × ByteArray × Unit)) × ByteArray × (List (Int × (Int × Int × Int × Unit) × ByteArray × Unit)) × Int × Unit) (x1 : (Int × Unit) × (Unit)) (d2 : ByteArray × ByteArray × Unit) (x5 : (Int × Unit) × (Unit)) : Option (((Int × Unit) × (Unit)) ⊕ (((Unit) × (Unit)) ⊕ (((Int × Unit) × (Unit)) ⊕ (((Unit) × (Unit)) ⊕ Int)))) :=
  bif (decide (x5.1.1 < ((((x.1.take (x1.1.1).toNat).drop 0).length : Nat) : Int))) then (Option.bind (at? ((x.1.take (x1.1.1).toNat).drop 0) x5.1.1) fun d6 =>
  bif (d6.1.toList == d2.1.toList) then (Option.map Sum.inr (Option.map Sum.inr (bif (decide (x5.1.1 ≥ (0 : Int))) then some (Sum.inr (Sum.inr (7 : Int)))
  else some (Sum.inl (((w64 (x1.1.1 + (1 : Int))), ()), ())))))
  else some (Sum.inl (((w64 (x5.1.1 + (1 : Int))), ()), ())))
  else some (Sum.inr (Sum.inl ((), ())))
noncomputable def recordTags_L1 (x : (List (ByteArray × ByteArray × Unit)) × ByteArray × (List (Int × (Int × Int × Int × Unit) × ByteArray × Unit)) × Int × Unit) (x1 : (Int × Unit) × (Unit)) : Option (((Int × Unit) × (Unit)) ⊕ (((Unit) × (Unit)) ⊕ Int)) :=
  bif (decide (x1.1.1 < ((x.1.length : Nat) : Int))) then (Option.bind (at? x.1 x1.1.1) fun d2 =>
  Option.bind (rulesName d2.1) fun r3 =>
  bif (!r3) then some (Sum.inr (Sum.inr (6 : Int)))
  else bif (decide (((d2.2.1.size : Nat) : Int) > (40 : Int))) then some (Sum.inr (Sum.inr (2 : Int)))
  else Option.bind (recordPrintable d2.2.1 (ByteArray.mk #[34])) fun r4 =>
  bif (!r4) then some (Sum.inr (Sum.inr (3 : Int)))
  else req (boundsI (0 : Int) x1.1.1 x.1.length) (Option.bind (α := ((Unit) × (Unit)) ⊕ (((Int × Unit) × (Unit)) ⊕ (((Unit) × (Unit)) ⊕ Int))) (iterW (recordTags_L2 x x1 d2) (((0 : Int), ()), ())) (Sum.elim (fun x7 =>
  some (Sum.inl (((w64 (x1.1.1 + (1 : Int))), ()), ()))) some)))
  else some (Sum.inr (Sum.inl ((), ())))
noncomputable def recordTags (x : (List (ByteArray × ByteArray × Unit)) × ByteArray × (List (Int × (Int × Int × Int × Unit) × ByteArray × Unit)) × Int × Unit) : Option (Int) :=
  Option.bind (α := ((Unit) × (Unit)) ⊕ Int) (iterW (recordTags_L1 x) (((0 : Int), ()), ())) (Sum.elim (fun x8 =>
  some (0 : Int)) some)
noncomputable def recordComment (s : ByteArray) : Option (Int) :=
  bif (decide (((s.size : Nat) : Int) > (60 : Int))) then some (2 : Int)
  else Option.bind (recordPrintable s (ByteArray.mk #[123, 125])) fun r2 =>
  bif (!r2) then some (3 : Int)
  else some (0 : Int)
noncomputable def recordOn_L1 (node : Int) (x : (List (ByteArray × ByteArray × Unit)) × ByteArray × (List (Int × (Int × Int × Int × Unit) × ByteArray × Unit)) × Int × Unit) (x1 : (Int × Unit) × (Unit)) : Option (((Int × Unit) × (Unit)) ⊕ (((Unit) × (Unit)) ⊕ Bool)) :=
  bif (decide (x1.1.1 ≥ (0 : Int))) then (bif (x1.1.1 == node) then some (Sum.inr (Sum.inr true))
  else Option.bind (at? x.2.2.1 x1.1.1) fun d2 =>
  some (Sum.inl ((d2.1, ()), ())))
  else some (Sum.inr (Sum.inl ((), ())))
noncomputable def recordOn (x : (List (ByteArray × ByteArray × Unit)) × ByteArray × (List (Int × (Int × Int × Int × Unit) × ByteArray × Unit)) × Int × Unit) (node : Int) (last : Int) : Option (Bool) :=
  Option.bind (α := ((Unit) × (Unit)) ⊕ Bool) (iterW (recordOn_L1 node x) ((last, ()), ())) (Sum.elim (fun x3 =>
  some (node == (-1 : Int))) some)
noncomputable def recordWay_L1 (x : (List (ByteArray × ByteArray × Unit)) × ByteArray × (List (Int × (Int × Int × Int × Unit) × ByteArray × Unit)) × Int × Unit) (x1 : ((List (Int × Int × Int × Unit)) × Int × Unit) × (Unit)) : Option ((((List (Int × Int × Int × Unit)) × Int × Unit) × (Unit)) ⊕ (((List (Int × Int × Int × Unit)) × Unit) × (Unit))) :=
  bif (decide (x1.1.2.1 ≥ (0 : Int))) then (Option.bind (at? x.2.2.1 x1.1.2.1) fun d2 =>
  req (room (x1.1.1.length + ([d2.2.1]).length) 24) (Option.bind (at? x.2.2.1 x1.1.2.1) fun d3 =>
  some (Sum.inl (((x1.1.1 ++ [d2.2.1]), d3.1, ()), ()))))
  else some (Sum.inr ((x1.1.1, ()), ()))
noncomputable def recordWay_L2 (x5 : (Int × Int × Unit) × ((List (Int × Int × Int × Unit)) × Unit)) : Option (((Int × Int × Unit) × ((List (Int × Int × Int × Unit)) × Unit)) ⊕ ((Unit) × ((List (Int × Int × Int × Unit)) × Unit))) :=
  bif (decide (x5.1.1 < x5.1.2.1)) then req (inb x5.1.2.1 x5.2.1.length) (req (inb x5.1.1 x5.2.1.length) (req (inb x5.1.1 x5.2.1.length) (req (inb x5.1.2.1 (x5.2.1.set ((x5.1.1).toNat) (getD' x5.2.1 ((x5.1.2.1).toNat) ((0 : Int), ((0 : Int), ((0 : Int), ()))))).length) (some (Sum.inl (((w64 (x5.1.1 + (1 : Int))), (w64 (x5.1.2.1 - (1 : Int))), ()), (((x5.2.1.set ((x5.1.1).toNat) (getD' x5.2.1 ((x5.1.2.1).toNat) ((0 : Int), ((0 : Int), ((0 : Int), ()))))).set ((x5.1.2.1).toNat) (getD' x5.2.1 ((x5.1.1).toNat) ((0 : Int), ((0 : Int), ((0 : Int), ()))))), ())))))))
  else some (Sum.inr ((), (x5.2.1, ())))
noncomputable def recordWay (x : (List (ByteArray × ByteArray × Unit)) × ByteArray × (List (Int × (Int × Int × Int × Unit) × ByteArray × Unit)) × Int × Unit) (node : Int) : Option (List (Int × Int × Int × Unit)) :=
  Option.bind (iterW (recordWay_L1 x) ((([] : List (Int × Int × Int × Unit)), node, ()), ())) fun x4 =>
  Option.bind (iterW (recordWay_L2) (((0 : Int), (w64 (((x4.1.1.length : Nat) : Int) - (1 : Int))), ()), (x4.1.1, ()))) fun x6 =>
  some x6.2.1
noncomputable def recordNode_L1 (x : (List (ByteArray × ByteArray × Unit)) × ByteArray × (List (Int × (Int × Int × Int × Unit) × ByteArray × Unit)) × Int × Unit) (i : Int) (d4 : Int × (Int × Int × Int × Unit) × ByteArray × Unit) (x7 : (Unit) × ((List Int) × Unit)) (x8 : (Int × Unit) × (Unit)) : Option (((Int × Unit) × (Unit)) ⊕ (((Unit) × (Unit)) ⊕ ((List Int) × Int))) :=
  bif (decide (x8.1.1 < ((((x.2.2.1.take (i).toNat).drop 0).length : Nat) : Int))) then (Option.bind (α := ((Unit) × (Unit)) ⊕ (((Int × Unit) × (Unit)) ⊕ (((Unit) × (Unit)) ⊕ ((List Int) × Int)))) (Option.bind (at? ((x.2.2.1.take (i).toNat).drop 0) x8.1.1) fun d9 =>
  bif (d9.1 != d4.1) then some (Sum.inl ((), ()))
  else bif ((d9.2.1.1 == d4.2.1.1) && ((d9.2.1.2.1 == d4.2.1.2.1) && ((d9.2.1.2.2.1 == d4.2.1.2.2.1) && true))) then some (Sum.inr (Sum.inr (Sum.inr (x7.2.1, (7 : Int)))))
  else some (Sum.inl ((), ()))) (Sum.elim (fun x10 =>
  some (Sum.inl (((w64 (x8.1.1 + (1 : Int))), ()), ()))) some))
  else some (Sum.inr (Sum.inl ((), ())))
noncomputable def recordNode_L2 (x : (List (ByteArray × ByteArray × Unit)) × ByteArray × (List (Int × (Int × Int × Int × Unit) × ByteArray × Unit)) × Int × Unit) (i : Int) (d4 : Int × (Int × Int × Int × Unit) × ByteArray × Unit) (x7 : (Unit) × ((List Int) × Unit)) (r : ByteArray × Int × Int × (List (Int × Int × Int × (List (Int × Int × Int × Int × Unit)) × Unit)) × (List Int) × Bool × Bool × (List (Int × Int × Int × Bool × Unit)) × Int × Int × Int × Unit) (x12 : (Int × Unit) × (Unit)) : Option (((Int × Unit) × (Unit)) ⊕ (((Unit) × (Unit)) ⊕ ((List Int) × Int))) :=
  bif (decide (x12.1.1 < ((((x.2.2.1.take (i).toNat).drop 0).length : Nat) : Int))) then (Option.bind (at? ((x.2.2.1.take (i).toNat).drop 0) x12.1.1) fun d13 =>
  bif (d13.1 == d4.1) then (Option.map Sum.inr (Option.map Sum.inr (Option.bind (bif (decide (x12.1.1 ≥ (0 : Int))) then req (inb i x7.2.1.length) (req (inb i x7.2.1.length) (some ((), ((x7.2.1.set ((i).toNat) (w64 ((getD' x7.2.1 ((i).toNat) (0 : Int)) + (1 : Int)))), ()))))
  else some ((), (x7.2.1, ()))) fun x14 =>
  Option.bind (agree (agree (Option.bind (recordWay x i) fun r15 =>
  agree (Option.bind (plainRun r r15) fun r16 =>
  some ((r16.2.2.1, ()), ())) (Option.bind (plainRun r r15) fun r17 =>
  some ((r17.2.2.1, ()), ()))) (Option.bind (recordWay x i) fun r18 =>
  Option.bind (plainRun r r18) fun r19 =>
  some ((r19.2.2.1, ()), ()))) (agree (Option.bind (recordWay x i) fun r20 =>
  agree (Option.bind (plainRun r r20) fun r21 =>
  some ((r21.2.2.1, ()), ())) (Option.bind (plainRun r r20) fun r22 =>
  some ((r22.2.2.1, ()), ()))) (agree (Option.bind (recordWay x i) fun r23 =>
  Option.bind (plainRun r r23) fun r24 =>
  some ((r24.2.2.1, ()), ())) (Option.bind (recordWay x i) fun r25 =>
  Option.bind (plainRun r r25) fun r26 =>
  some ((r26.2.2.1, ()), ()))))) fun x27 =>
  bif (x27.1.1 != (0 : Int)) then some (x14.2.1, x27.1.1)
  else req (inb i x14.2.1.length) (bif (decide ((getD' x14.2.1 ((i).toNat) (0 : Int)) > (20 : Int))) then some (x14.2.1, (2 : Int))
  else some (x14.2.1, (0 : Int))))))
  else some (Sum.inl (((w64 (x12.1.1 + (1 : Int))), ()), ())))
  else some (Sum.inr (Sum.inl ((), ())))
noncomputable def recordNode (deep : List Int) (r : ByteArray × Int × Int × (List (Int × Int × Int × (List (Int × Int × Int × Int × Unit)) × Unit)) × (List Int) × Bool × Bool × (List (Int × Int × Int × Bool × Unit)) × Int × Int × Int × Unit) (x : (List (ByteArray × ByteArray × Unit)) × ByteArray × (List (Int × (Int × Int × Int × Unit) × ByteArray × Unit)) × Int × Unit) (i : Int) : Option ((List Int) × Int) :=
  Option.bind (at? x.2.2.1 i) fun d4 =>
  Option.bind (recordComment d4.2.2.1) fun r5 =>
  bif (r5 != (0 : Int)) then some (deep, r5)
  else Option.bind (gopt (!(decide (d4.1 ≥ i))) false (recordOn x d4.1 (w64 (i - (1 : Int))))) fun r6 =>
  bif ((decide (d4.1 ≥ i)) || (!r6)) then some (deep, (3 : Int))
  else Option.bind (bif (decide (d4.1 ≥ (0 : Int))) then req (inb d4.1 deep.length) (req (inb i deep.length) (some ((), ((deep.set ((i).toNat) (getD' deep ((d4.1).toNat) (0 : Int))), ()))))
  else some ((), (deep, ()))) fun x7 =>
  req (boundsI (0 : Int) i x.2.2.1.length) (Option.bind (α := ((Unit) × (Unit)) ⊕ ((List Int) × Int)) (iterW (recordNode_L1 x i d4 x7) (((0 : Int), ()), ())) (Sum.elim (fun x11 =>
  req (boundsI (0 : Int) i x.2.2.1.length) (Option.bind (α := ((Unit) × (Unit)) ⊕ ((List Int) × Int)) (iterW (recordNode_L2 x i d4 x7 r) (((0 : Int), ()), ())) (Sum.elim (fun x28 =>
  Option.bind (agree (agree (Option.bind (recordWay x i) fun r29 =>
  agree (Option.bind (plainRun r r29) fun r30 =>
  some ((r30.2.2.1, ()), ())) (Option.bind (plainRun r r29) fun r31 =>
  some ((r31.2.2.1, ()), ()))) (Option.bind (recordWay x i) fun r32 =>
  Option.bind (plainRun r r32) fun r33 =>
  some ((r33.2.2.1, ()), ()))) (agree (Option.bind (recordWay x i) fun r34 =>
  agree (Option.bind (plainRun r r34) fun r35 =>
  some ((r35.2.2.1, ()), ())) (Option.bind (plainRun r r34) fun r36 =>
  some ((r36.2.2.1, ()), ()))) (agree (Option.bind (recordWay x i) fun r37 =>
  Option.bind (plainRun r r37) fun r38 =>
  some ((r38.2.2.1, ()), ())) (Option.bind (recordWay x i) fun r39 =>
  Option.bind (plainRun r r39) fun r40 =>
  some ((r40.2.2.1, ()), ()))))) fun x41 =>
  bif (x41.1.1 != (0 : Int)) then some (x7.2.1, x41.1.1)
  else req (inb i x7.2.1.length) (bif (decide ((getD' x7.2.1 ((i).toNat) (0 : Int)) > (20 : Int))) then some (x7.2.1, (2 : Int))
  else some (x7.2.1, (0 : Int)))) some))) some))
noncomputable def recordCheck_L1 (x : (List (ByteArray × ByteArray × Unit)) × ByteArray × (List (Int × (Int × Int × Int × Unit) × ByteArray × Unit)) × Int × Unit) (r : ByteArray × Int × Int × (List (Int × Int × Int × (List (Int × Int × Int × Int × Unit)) × Unit)) × (List Int) × Bool × Bool × (List (Int × Int × Int × Bool × Unit)) × Int × Int × Int × Unit) (x7 : (Int × Unit) × ((List Int) × Unit)) : Option (((Int × Unit) × ((List Int) × Unit)) ⊕ (((Unit) × ((List Int) × Unit)) ⊕ Int)) :=
  bif (decide (x7.1.1 < ((x.2.2.1.length : Nat) : Int))) then (Option.bind (recordNode x7.2.1 r x x7.1.1) fun r8 =>
  bif (r8.2 != (0 : Int)) then some (Sum.inr (Sum.inr r8.2))
  else some (Sum.inl (((w64 (x7.1.1 + (1 : Int))), ()), (r8.1, ()))))
  else some (Sum.inr (Sum.inl ((), (x7.2.1, ()))))
noncomputable def recordCheck (r : ByteArray × Int × Int × (List (Int × Int × Int × (List (Int × Int × Int × Int × Unit)) × Unit)) × (List Int) × Bool × Bool × (List (Int × Int × Int × Bool × Unit)) × Int × Int × Int × Unit) (x : (List (ByteArray × ByteArray × Unit)) × ByteArray × (List (Int × (Int × Int × Int × Unit) × ByteArray × Unit)) × Int × Unit) : Option (Int) :=
  Option.bind (rulesCheck r) fun r4 =>
  bif (r4 != (0 : Int)) then some r4
  else bif ((decide (((x.1.length : Nat) : Int) > (10 : Int))) || (decide (((x.2.2.1.length : Nat) : Int) > (200 : Int)))) then some (2 : Int)
  else Option.bind (recordTags x) fun r5 =>
  bif (r5 != (0 : Int)) then some r5
  else bif ((decide (x.2.2.2.1 < (0 : Int))) || (decide (x.2.2.2.1 > (3 : Int)))) then some (4 : Int)
  else Option.bind (recordComment x.2.1) fun r6 =>
  bif (r6 != (0 : Int)) then some r6
  else req (decide (0 ≤ ((x.2.2.1.length : Nat) : Int)) && (((x.2.2.1.length : Nat) : Int) == ((x.2.2.1.length : Nat) : Int) && room (((x.2.2.1.length : Nat) : Int)).toNat 8)) (Option.bind (α := ((Unit) × ((List Int) × Unit)) ⊕ Int) (iterW (recordCheck_L1 x r) (((0 : Int), ()), ((List.replicate (((x.2.2.1.length : Nat) : Int)).toNat (0 : Int)), ()))) (Sum.elim (fun x9 =>
  some (0 : Int)) some))
noncomputable def recordKids_L1 (x : (List (ByteArray × ByteArray × Unit)) × ByteArray × (List (Int × (Int × Int × Int × Unit) × ByteArray × Unit)) × Int × Unit) (parent : Int) (x1 : ((List Int) × Int × Unit) × (Unit)) : Option ((((List Int) × Int × Unit) × (Unit)) ⊕ (((List Int) × Unit) × (Unit))) :=
  bif (decide (x1.1.2.1 < ((x.2.2.1.length : Nat) : Int))) then (Option.bind (at? x.2.2.1 x1.1.2.1) fun d2 =>
  Option.bind (bif (d2.1 == parent) then req (room (x1.1.1.length + ([x1.1.2.1]).length) 8) (some (((x1.1.1 ++ [x1.1.2.1]), ()), ()))
  else some ((x1.1.1, ()), ())) fun x3 =>
  some (Sum.inl ((x3.1.1, (w64 (x1.1.2.1 + (1 : Int))), ()), ())))
  else some (Sum.inr ((x1.1.1, ()), ()))
noncomputable def recordKids (x : (List (ByteArray × ByteArray × Unit)) × ByteArray × (List (Int × (Int × Int × Int × Unit) × ByteArray × Unit)) × Int × Unit) (parent : Int) : Option (List Int) :=
  Option.bind (iterW (recordKids_L1 x parent) ((([] : List Int), (0 : Int), ()), ())) fun x4 =>
  some x4.1.1
noncomputable def ref3Name_L1 (s : ByteArray) (x5 : (Int × Unit) × (Unit)) : Option (((Int × Unit) × (Unit)) ⊕ (((Unit) × (Unit)) ⊕ Bool)) :=
  bif (decide (x5.1.1 < (((bytesOf s).length : Nat) : Int))) then (req (inb x5.1.1 (bytesOf s).length) (bif (((decide ((getD' (bytesOf s) ((x5.1.1).toNat) (0 : Int)) < (65 : Int))) || (decide ((getD' (bytesOf s) ((x5.1.1).toNat) (0 : Int)) > (90 : Int)))) && ((decide ((getD' (bytesOf s) ((x5.1.1).toNat) (0 : Int)) < (48 : Int))) || (decide ((getD' (bytesOf s) ((x5.1.1).toNat) (0 : Int)) > (57 : Int))))) then some (Sum.inr (Sum.inr false))
  else some (Sum.inl (((w64 (x5.1.1 + (1 : Int))), ()), ()))))
  else some (Sum.inr (Sum.inl ((), ())))
noncomputable def ref3Name (s : ByteArray) : Option (Bool) :=
  Option.bind (gopt (!((s.toList == (ByteArray.mk #[]).toList) || (decide (((s.size : Nat) : Int) > (8 : Int))))) 0 (strAt s (0 : Int))) fun c3 =>
  Option.bind (gopt (!(((s.toList == (ByteArray.mk #[]).toList) || (decide (((s.size : Nat) : Int) > (8 : Int)))) || (decide (((c3.toNat : Nat) : Int) < (65 : Int))))) 0 (strAt s (0 : Int))) fun c4 =>
  bif ((((s.toList == (ByteArray.mk #[]).toList) || (decide (((s.size : Nat) : Int) > (8 : Int)))) || (decide (((c3.toNat : Nat) : Int) < (65 : Int)))) || (decide (((c4.toNat : Nat) : Int) > (90 : Int)))) then some false
  else req (Nat.ble s.size 140737488355328) (Option.bind (α := ((Unit) × (Unit)) ⊕ Bool) (iterW (ref3Name_L1 s) (((0 : Int), ()), ())) (Sum.elim (fun x6 =>
  some true) some))
noncomputable def ref3Fine_L2 (without : ByteArray) (s : ByteArray) (x1 : (Int × Unit) × (Unit)) (x2 : (Int × Unit) × (Unit)) : Option (((Int × Unit) × (Unit)) ⊕ (((Unit) × (Unit)) ⊕ (((Unit) × (Unit)) ⊕ (((Int × Unit) × (Unit)) ⊕ (((Unit) × (Unit)) ⊕ Bool))))) :=
  bif (decide (x2.1.1 < (((bytesOf without).length : Nat) : Int))) then (req (inb x2.1.1 (bytesOf without).length) (bif ((getD' (bytesOf s) ((x1.1.1).toNat) (0 : Int)) == (getD' (bytesOf without) ((x2.1.1).toNat) (0 : Int))) then some (Sum.inr (Sum.inr (Sum.inr (Sum.inr (Sum.inr false)))))
  else some (Sum.inl (((w64 (x2.1.1 + (1 : Int))), ()), ()))))
  else some (Sum.inr (Sum.inl ((), ())))
noncomputable def ref3Fine_L1 (s : ByteArray) (without : ByteArray) (x1 : (Int × Unit) × (Unit)) : Option (((Int × Unit) × (Unit)) ⊕ (((Unit) × (Unit)) ⊕ Bool)) :=
  bif (decide (x1.1.1 < (((bytesOf s).length : Nat) : Int))) then (Option.bind (α := ((Unit) × (Unit)) ⊕ (((Int × Unit) × (Unit)) ⊕ (((Unit) × (Unit)) ⊕ Bool))) (req (inb x1.1.1 (bytesOf s).length) (req (Nat.ble without.size 140737488355328) (Option.bind (α := ((Unit) × (Unit)) ⊕ (((Unit) × (Unit)) ⊕ (((Int × Unit) × (Unit)) ⊕ (((Unit) × (Unit)) ⊕ Bool)))) (iterW (ref3Fine_L2 without s x1) (((0 : Int), ()), ())) (Sum.elim (fun x3 =>
  bif ((decide ((getD' (bytesOf s) ((x1.1.1).toNat) (0 : Int)) < (32 : Int))) || (decide ((getD' (bytesOf s) ((x1.1.1).toNat) (0 : Int)) > (126 : Int)))) then some (Sum.inr (Sum.inr (Sum.inr false)))
  else some (Sum.inl ((), ()))) some)))) (Sum.elim (fun x4 =>
  some (Sum.inl (((w64 (x1.1.1 + (1 : Int))), ()), ()))) some))
  else some (Sum.inr (Sum.inl ((), ())))
noncomputable def ref3Fine (s : ByteArray) (without : ByteArray) : Option (Bool) :=
  req (Nat.ble s.size 140737488355328) (Option.bind (α := ((Unit) × (Unit)) ⊕ Bool) (iterW (ref3Fine_L1 s without) (((0 : Int), ()), ())) (Sum.elim (fun x5 =>
  some true) some))
noncomputable def ref3Above_L1 (a : Int) (l : List (Int × (Int × Int × Int × Unit) × ByteArray × Unit)) (x1 : (Int × Unit) × (Unit)) : Option (((Int × Unit) × (Unit)) ⊕ ((Int × Unit) × (Unit))) :=
  bif ((decide (x1.1.1 > a)) && (decide (x1.1.1 ≥ (0 : Int)))) then (Option.bind (at? l x1.1.1) fun d2 =>
  some (Sum.inl ((d2.1, ()), ())))
  else some (Sum.inr ((x1.1.1, ()), ()))
noncomputable def ref3Above (l : List (Int × (Int × Int × Int × Unit) × ByteArray × Unit)) (a : Int) (i : Int) : Option (Bool) :=
  Option.bind (iterW (ref3Above_L1 a l) ((i, ()), ())) fun x3 =>
  some (x3.1.1 == a)
noncomputable def ref3Way_F (self : ((List (Int × (Int × Int × Int × Unit) × ByteArray × Unit)) × Int × Unit) → Option ((List (Int × Int × Int × Unit)) × Bool × Unit)) (l : List (Int × (Int × Int × Int × Unit) × ByteArray × Unit)) (i : Int) : Option ((List (Int × Int × Int × Unit)) × Bool × Unit) :=
  bif (i == (-1 : Int)) then some (([] : List (Int × Int × Int × Unit)), (true, ()))
  else Option.bind (gat (!((decide (i < (0 : Int))) || (decide (i ≥ ((l.length : Nat) : Int))))) ((0 : Int), (((0 : Int), ((0 : Int), ((0 : Int), ()))), (ByteArray.empty, ()))) l i) fun d5 =>
  bif (((decide (i < (0 : Int))) || (decide (i ≥ ((l.length : Nat) : Int)))) || (decide (d5.1 ≥ i))) then some (([] : List (Int × Int × Int × Unit)), (false, ()))
  else Option.bind (at? l i) fun d6 =>
  Option.bind (self (l, d6.1, ())) fun r7 =>
  Option.bind (at? l i) fun d8 =>
  req (room (r7.1.length + ([d8.2.1]).length) 24) (some ((r7.1 ++ [d8.2.1]), r7.2))
noncomputable def ref3Way_G (self : ((List (Int × (Int × Int × Int × Unit) × ByteArray × Unit)) × Int × Unit) → Option ((List (Int × Int × Int × Unit)) × Bool × Unit)) (x : (List (Int × (Int × Int × Int × Unit) × ByteArray × Unit)) × Int × Unit) : Option ((List (Int × Int × Int × Unit)) × Bool × Unit) := ref3Way_F self x.1 x.2.1
noncomputable def ref3Way (l : List (Int × (Int × Int × Int × Unit) × ByteArray × Unit)) (i : Int) : Option ((List (Int × Int × Int × Unit)) × Bool × Unit) := fixW ref3Way_G (l, i, ())
noncomputable def ref3Within_L2 (x1 : (Int × Int × Unit) × (Unit)) (l : List (Int × (Int × Int × Int × Unit) × ByteArray × Unit)) (x2 : (Int × Int × Unit) × (Unit)) : Option (((Int × Int × Unit) × (Unit)) ⊕ ((Int × Unit) × (Unit))) :=
  bif (decide (x2.1.2.1 < x1.1.1)) then (Option.bind (at? l x2.1.2.1) fun d3 =>
  Option.bind (at? l x1.1.1) fun d4 =>
  bif (d3.1 == d4.1) then some (Sum.inr (((w64 (x2.1.1 + (1 : Int))), ()), ()))
  else some (Sum.inl ((x2.1.1, (w64 (x2.1.2.1 + (1 : Int))), ()), ())))
  else some (Sum.inr ((x2.1.1, ()), ()))
noncomputable def ref3Within_L1 (l : List (Int × (Int × Int × Int × Unit) × ByteArray × Unit)) (x1 : (Int × Int × Unit) × (Unit)) : Option (((Int × Int × Unit) × (Unit)) ⊕ ((Int × Unit) × (Unit))) :=
  bif (decide (x1.1.1 ≥ (0 : Int))) then (Option.bind (Option.bind (iterW (ref3Within_L2 x1 l) ((x1.1.2.1, (0 : Int), ()), ())) fun x5 =>
  some ((x5.1.1, ()), ())) fun x6 =>
  Option.bind (at? l x1.1.1) fun d7 =>
  some (Sum.inl ((d7.1, x6.1.1, ()), ())))
  else some (Sum.inr ((x1.1.2.1, ()), ()))
noncomputable def ref3Within (l : List (Int × (Int × Int × Int × Unit) × ByteArray × Unit)) (i : Int) : Option (Int) :=
  Option.bind (iterW (ref3Within_L1 l) ((i, (0 : Int), ()), ())) fun x8 =>
  some x8.1.1
noncomputable def ref3RecordFault_L2 (x4 : (Int × Unit) × (Unit)) (x : (List (ByteArray × ByteArray × Unit)) × ByteArray × (List (Int × (Int × Int × Int × Unit) × ByteArray × Unit)) × Int × Unit) (d5 : ByteArray × ByteArray × Unit) (x8 : (Int × Unit) × (Unit)) : Option (((Int × Unit) × (Unit)) ⊕ (((Unit) × (Unit)) ⊕ (((Unit) × (Unit)) ⊕ (((Int × Unit) × (Unit)) ⊕ (((Unit) × (Unit)) ⊕ Int))))) :=
  bif (decide (x8.1.1 < x4.1.1)) then (Option.bind (at? x.1 x8.1.1) fun d9 =>
  bif (d9.1.toList == d5.1.toList) then some (Sum.inr (Sum.inr (Sum.inr (Sum.inr (Sum.inr (7 : Int))))))
  else some (Sum.inl (((w64 (x8.1.1 + (1 : Int))), ()), ())))
  else some (Sum.inr (Sum.inl ((), ())))
noncomputable def ref3RecordFault_L1 (x : (List (ByteArray × ByteArray × Unit)) × ByteArray × (List (Int × (Int × Int × Int × Unit) × ByteArray × Unit)) × Int × Unit) (x4 : (Int × Unit) × (Unit)) : Option (((Int × Unit) × (Unit)) ⊕ (((Unit) × (Unit)) ⊕ Int)) :=
  bif (decide (x4.1.1 < ((x.1.length : Nat) : Int))) then (Option.bind (α := ((Unit) × (Unit)) ⊕ (((Int × Unit) × (Unit)) ⊕ (((Unit) × (Unit)) ⊕ Int))) (Option.bind (at? x.1 x4.1.1) fun d5 =>
  Option.bind (ref3Name d5.1) fun r6 =>
  bif (!r6) then some (Sum.inr (Sum.inr (Sum.inr (6 : Int))))
  else bif (decide (((d5.2.1.size : Nat) : Int) > (40 : Int))) then some (Sum.inr (Sum.inr (Sum.inr (2 : Int))))
  else Option.bind (ref3Fine d5.2.1 (ByteArray.mk #[34])) fun r7 =>
  bif (!r7) then some (Sum.inr (Sum.inr (Sum.inr (3 : Int))))
  else Option.bind (α := ((Unit) × (Unit)) ⊕ (((Unit) × (Unit)) ⊕ (((Int × Unit) × (Unit)) ⊕ (((Unit) × (Unit)) ⊕ Int)))) (iterW (ref3RecordFault_L2 x4 x d5) (((0 : Int), ()), ())) (Sum.elim (fun x10 =>
  some (Sum.inl ((), ()))) some)) (Sum.elim (fun x11 =>
  some (Sum.inl (((w64 (x4.1.1 + (1 : Int))), ()), ()))) some))
  else some (Sum.inr (Sum.inl ((), ())))
noncomputable def ref3RecordFault_L4 (x14 : (Int × Unit) × (Unit)) (x : (List (ByteArray × ByteArray × Unit)) × ByteArray × (List (Int × (Int × Int × Int × Unit) × ByteArray × Unit)) × Int × Unit) (d15 : Int × (Int × Int × Int × Unit) × ByteArray × Unit) (x18 : (Int × Unit) × (Unit)) : Option (((Int × Unit) × (Unit)) ⊕ (((Unit) × (Unit)) ⊕ (((Unit) × (Unit)) ⊕ (((Int × Unit) × (Unit)) ⊕ (((Unit) × (Unit)) ⊕ Int))))) :=
  bif (decide (x18.1.1 < x14.1.1)) then (Option.bind (at? x.2.2.1 x18.1.1) fun d19 =>
  Option.bind (gat (d19.1 == d15.1) ((0 : Int), (((0 : Int), ((0 : Int), ((0 : Int), ()))), (ByteArray.empty, ()))) x.2.2.1 x18.1.1) fun d20 =>
  bif ((d19.1 == d15.1) && ((d20.2.1.1 == d15.2.1.1) && ((d20.2.1.2.1 == d15.2.1.2.1) && ((d20.2.1.2.2.1 == d15.2.1.2.2.1) && true)))) then some (Sum.inr (Sum.inr (Sum.inr (Sum.inr (Sum.inr (7 : Int))))))
  else some (Sum.inl (((w64 (x18.1.1 + (1 : Int))), ()), ())))
  else some (Sum.inr (Sum.inl ((), ())))
noncomputable def ref3RecordFault_L3 (x : (List (ByteArray × ByteArray × Unit)) × ByteArray × (List (Int × (Int × Int × Int × Unit) × ByteArray × Unit)) × Int × Unit) (r : ByteArray × Int × Int × (List (Int × Int × Int × (List (Int × Int × Int × Int × Unit)) × Unit)) × (List Int) × Bool × Bool × (List (Int × Int × Int × Bool × Unit)) × Int × Int × Int × Unit) (x14 : (Int × Unit) × (Unit)) : Option (((Int × Unit) × (Unit)) ⊕ (((Unit) × (Unit)) ⊕ Int)) :=
  bif (decide (x14.1.1 < ((x.2.2.1.length : Nat) : Int))) then (Option.bind (α := ((Unit) × (Unit)) ⊕ (((Int × Unit) × (Unit)) ⊕ (((Unit) × (Unit)) ⊕ Int))) (Option.bind (at? x.2.2.1 x14.1.1) fun d15 =>
  bif (decide (((d15.2.2.1.size : Nat) : Int) > (60 : Int))) then some (Sum.inr (Sum.inr (Sum.inr (2 : Int))))
  else Option.bind (ref3Fine d15.2.2.1 (ByteArray.mk #[123, 125])) fun r16 =>
  bif (!r16) then some (Sum.inr (Sum.inr (Sum.inr (3 : Int))))
  else Option.bind (gopt (((decide (x14.1.1 > (0 : Int))) && (decide (d15.1 ≥ (0 : Int)))) && (!((decide (d15.1 < (-1 : Int))) || (decide (d15.1 ≥ x14.1.1))))) false (ref3Above x.2.2.1 d15.1 (w64 (x14.1.1 - (1 : Int))))) fun r17 =>
  bif ((((decide (d15.1 < (-1 : Int))) || (decide (d15.1 ≥ x14.1.1))) || (((decide (x14.1.1 > (0 : Int))) && (decide (d15.1 ≥ (0 : Int)))) && (!r17))) || ((x14.1.1 == (0 : Int)) && (d15.1 != (-1 : Int)))) then some (Sum.inr (Sum.inr (Sum.inr (3 : Int))))
  else Option.bind (α := ((Unit) × (Unit)) ⊕ (((Unit) × (Unit)) ⊕ (((Int × Unit) × (Unit)) ⊕ (((Unit) × (Unit)) ⊕ Int)))) (iterW (ref3RecordFault_L4 x14 x d15) (((0 : Int), ()), ())) (Sum.elim (fun x21 =>
  Option.bind (ref3Way x.2.2.1 x14.1.1) fun r22 =>
  Option.bind (ref3Places r r22.1) fun r23 =>
  bif (r23.2.1 != (0 : Int)) then some (Sum.inr (Sum.inr (Sum.inr r23.2.1)))
  else some (Sum.inl ((), ()))) some)) (Sum.elim (fun x24 =>
  some (Sum.inl (((w64 (x14.1.1 + (1 : Int))), ()), ()))) some))
  else some (Sum.inr (Sum.inl ((), ())))
noncomputable def ref3RecordFault_L5 (x : (List (ByteArray × ByteArray × Unit)) × ByteArray × (List (Int × (Int × Int × Int × Unit) × ByteArray × Unit)) × Int × Unit) (x26 : (Int × Unit) × (Unit)) : Option (((Int × Unit) × (Unit)) ⊕ (((Unit) × (Unit)) ⊕ Int)) :=
  bif (decide (x26.1.1 < ((x.2.2.1.length : Nat) : Int))) then (Option.bind (ref3Within x.2.2.1 x26.1.1) fun r27 =>
  bif (decide (r27 > (20 : Int))) then some (Sum.inr (Sum.inr (2 : Int)))
  else some (Sum.inl (((w64 (x26.1.1 + (1 : Int))), ()), ())))
  else some (Sum.inr (Sum.inl ((), ())))
noncomputable def ref3RecordFault (r : ByteArray × Int × Int × (List (Int × Int × Int × (List (Int × Int × Int × Int × Unit)) × Unit)) × (List Int) × Bool × Bool × (List (Int × Int × Int × Bool × Unit)) × Int × Int × Int × Unit) (x : (List (ByteArray × ByteArray × Unit)) × ByteArray × (List (Int × (Int × Int × Int × Unit) × ByteArray × Unit)) × Int × Unit) : Option (Int) :=
  Option.bind (ref3Places r ([] : List (Int × Int × Int × Unit))) fun r3 =>
  bif (r3.2.1 != (0 : Int)) then some r3.2.1
  else bif ((decide (((x.1.length : Nat) : Int) > (10 : Int))) || (decide (((x.2.2.1.length : Nat) : Int) > (200 : Int)))) then some (2 : Int)
  else Option.bind (α := ((Unit) × (Unit)) ⊕ Int) (iterW (ref3RecordFault_L1 x) (((0 : Int), ()), ())) (Sum.elim (fun x12 =>
  bif ((decide (x.2.2.2.1 < (0 : Int))) || (decide (x.2.2.2.1 > (3 : Int)))) then some (4 : Int)
  else bif (decide (((x.2.1.size : Nat) : Int) > (60 : Int))) then some (2 : Int)
  else Option.bind (ref3Fine x.2.1 (ByteArray.mk #[123, 125])) fun r13 =>
  bif (!r13) then some (3 : Int)
  else Option.bind (α := ((Unit) × (Unit)) ⊕ Int) (iterW (ref3RecordFault_L3 x r) (((0 : Int), ()), ())) (Sum.elim (fun x25 =>
  Option.bind (α := ((Unit) × (Unit)) ⊕ Int) (iterW (ref3RecordFault_L5 x) (((0 : Int), ()), ())) (Sum.elim (fun x28 =>
  some (0 : Int)) some)) some)) some)
noncomputable def law3Short (x : (List (ByteArray × ByteArray × Unit)) × ByteArray × (List (Int × (Int × Int × Int × Unit) × ByteArray × Unit)) × Int × Unit) : Option ((List (ByteArray × ByteArray × Unit)) × ByteArray × (List (Int × (Int × Int × Int × Unit) × ByteArray × Unit)) × Int × Unit) :=
  req (boundsI (0 : Int) (if (30 : Int) < ((x.2.2.1.length : Nat) : Int) then (30 : Int) else ((x.2.2.1.length : Nat) : Int)) x.2.2.1.length) (some (x.1, (x.2.1, (((x.2.2.1.take ((if (30 : Int) < ((x.2.2.1.length : Nat) : Int) then (30 : Int) else ((x.2.2.1.length : Nat) : Int))).toNat).drop 0), x.2.2.2))))
end Go.Proofs.YtocnfflklfeocaaGreat
namespace Go.Proofs.YtocnfflklfeocaaGreat
open Go.Den
set_option linter.unusedVariables false
set_option maxRecDepth 100000
noncomputable def recordWriterOne (w : (ByteArray × Int × Int × (List (Int × Int × Int × (List (Int × Int × Int × Int × Unit)) × Unit)) × (List Int) × Bool × Bool × (List (Int × Int × Int × Bool × Unit)) × Int × Int × Int × Unit) × ((List (ByteArray × ByteArray × Unit)) × ByteArray × (List (Int × (Int × Int × Int × Unit) × ByteArray × Unit)) × Int × Unit) × Unit) (p : (List Int) × ((List Int) × (List Int) × Unit) × Int × Int × Unit) (n : Int) : Option (((ByteArray × Int × Int × (List (Int × Int × Int × (List (Int × Int × Int × Int × Unit)) × Unit)) × (List Int) × Bool × Bool × (List (Int × Int × Int × Bool × Unit)) × Int × Int × Int × Unit) × ((List (ByteArray × ByteArray × Unit)) × ByteArray × (List (Int × (Int × Int × Int × Unit) × ByteArray × Unit)) × Int × Unit) × Unit) × (List ByteArray)) :=
  Option.bind (agree (agree (agree (Option.bind (movesList w.1 p) fun r2 =>
  Option.bind (at? w.2.1.2.2.1 n) fun d3 =>
  Option.bind (movetextOf w.1 p r2 d3.2.1) fun r4 =>
  some (([r4], ()), ())) (Option.bind (at? w.2.1.2.2.1 n) fun d5 =>
  agree (Option.bind (movesList w.1 p) fun r6 =>
  Option.bind (movetextOf w.1 p r6 d5.2.1) fun r7 =>
  some (([r7], ()), ())) (Option.bind (movesList w.1 p) fun r8 =>
  Option.bind (movetextOf w.1 p r8 d5.2.1) fun r9 =>
  some (([r9], ()), ())))) (agree (Option.bind (movesList w.1 p) fun r10 =>
  Option.bind (at? w.2.1.2.2.1 n) fun d11 =>
  Option.bind (movetextOf w.1 p r10 d11.2.1) fun r12 =>
  some (([r12], ()), ())) (Option.bind (at? w.2.1.2.2.1 n) fun d13 =>
  agree (agree (Option.bind (movesList w.1 p) fun r14 =>
  Option.bind (movetextOf w.1 p r14 d13.2.1) fun r15 =>
  some (([r15], ()), ())) (Option.bind (movesList w.1 p) fun r16 =>
  Option.bind (movetextOf w.1 p r16 d13.2.1) fun r17 =>
  some (([r17], ()), ()))) (agree (Option.bind (movesList w.1 p) fun r18 =>
  Option.bind (movetextOf w.1 p r18 d13.2.1) fun r19 =>
  some (([r19], ()), ())) (agree (Option.bind (movesList w.1 p) fun r20 =>
  Option.bind (movetextOf w.1 p r20 d13.2.1) fun r21 =>
  some (([r21], ()), ())) (Option.bind (movesList w.1 p) fun r22 =>
  Option.bind (movetextOf w.1 p r22 d13.2.1) fun r23 =>
  some (([r23], ()), ()))))))) (agree (agree (agree (Option.bind (movesList w.1 p) fun r24 =>
  Option.bind (at? w.2.1.2.2.1 n) fun d25 =>
  Option.bind (movetextOf w.1 p r24 d25.2.1) fun r26 =>
  some (([r26], ()), ())) (Option.bind (at? w.2.1.2.2.1 n) fun d27 =>
  agree (Option.bind (movesList w.1 p) fun r28 =>
  Option.bind (movetextOf w.1 p r28 d27.2.1) fun r29 =>
  some (([r29], ()), ())) (Option.bind (movesList w.1 p) fun r30 =>
  Option.bind (movetextOf w.1 p r30 d27.2.1) fun r31 =>
  some (([r31], ()), ())))) (agree (Option.bind (movesList w.1 p) fun r32 =>
  Option.bind (at? w.2.1.2.2.1 n) fun d33 =>
  Option.bind (movetextOf w.1 p r32 d33.2.1) fun r34 =>
  some (([r34], ()), ())) (Option.bind (at? w.2.1.2.2.1 n) fun d35 =>
  agree (agree (Option.bind (movesList w.1 p) fun r36 =>
  Option.bind (movetextOf w.1 p r36 d35.2.1) fun r37 =>
  some (([r37], ()), ())) (Option.bind (movesList w.1 p) fun r38 =>
  Option.bind (movetextOf w.1 p r38 d35.2.1) fun r39 =>
  some (([r39], ()), ()))) (agree (Option.bind (movesList w.1 p) fun r40 =>
  Option.bind (movetextOf w.1 p r40 d35.2.1) fun r41 =>
  some (([r41], ()), ())) (agree (Option.bind (movesList w.1 p) fun r42 =>
  Option.bind (movetextOf w.1 p r42 d35.2.1) fun r43 =>
  some (([r43], ()), ())) (Option.bind (movesList w.1 p) fun r44 =>
  Option.bind (movetextOf w.1 p r44 d35.2.1) fun r45 =>
  some (([r45], ()), ()))))))) (agree (Option.bind (movesList w.1 p) fun r46 =>
  Option.bind (at? w.2.1.2.2.1 n) fun d47 =>
  Option.bind (movetextOf w.1 p r46 d47.2.1) fun r48 =>
  some (([r48], ()), ())) (Option.bind (at? w.2.1.2.2.1 n) fun d49 =>
  agree (agree (agree (Option.bind (movesList w.1 p) fun r50 =>
  Option.bind (movetextOf w.1 p r50 d49.2.1) fun r51 =>
  some (([r51], ()), ())) (Option.bind (movesList w.1 p) fun r52 =>
  Option.bind (movetextOf w.1 p r52 d49.2.1) fun r53 =>
  some (([r53], ()), ()))) (agree (Option.bind (movesList w.1 p) fun r54 =>
  Option.bind (movetextOf w.1 p r54 d49.2.1) fun r55 =>
  some (([r55], ()), ())) (agree (Option.bind (movesList w.1 p) fun r56 =>
  Option.bind (movetextOf w.1 p r56 d49.2.1) fun r57 =>
  some (([r57], ()), ())) (Option.bind (movesList w.1 p) fun r58 =>
  Option.bind (movetextOf w.1 p r58 d49.2.1) fun r59 =>
  some (([r59], ()), ()))))) (agree (agree (agree (Option.bind (movesList w.1 p) fun r60 =>
  Option.bind (movetextOf w.1 p r60 d49.2.1) fun r61 =>
  some (([r61], ()), ())) (Option.bind (movesList w.1 p) fun r62 =>
  Option.bind (movetextOf w.1 p r62 d49.2.1) fun r63 =>
  some (([r63], ()), ()))) (agree (Option.bind (movesList w.1 p) fun r64 =>
  Option.bind (movetextOf w.1 p r64 d49.2.1) fun r65 =>
  some (([r65], ()), ())) (agree (Option.bind (movesList w.1 p) fun r66 =>
  Option.bind (movetextOf w.1 p r66 d49.2.1) fun r67 =>
  some (([r67], ()), ())) (Option.bind (movesList w.1 p) fun r68 =>
  Option.bind (movetextOf w.1 p r68 d49.2.1) fun r69 =>
  some (([r69], ()), ()))))) (agree (Option.bind (movesList w.1 p) fun r70 =>
  Option.bind (movetextOf w.1 p r70 d49.2.1) fun r71 =>
  some (([r71], ()), ())) (agree (agree (Option.bind (movesList w.1 p) fun r72 =>
  Option.bind (movetextOf w.1 p r72 d49.2.1) fun r73 =>
  some (([r73], ()), ())) (Option.bind (movesList w.1 p) fun r74 =>
  Option.bind (movetextOf w.1 p r74 d49.2.1) fun r75 =>
  some (([r75], ()), ()))) (agree (agree (Option.bind (movesList w.1 p) fun r76 =>
  Option.bind (movetextOf w.1 p r76 d49.2.1) fun r77 =>
  some (([r77], ()), ())) (Option.bind (movesList w.1 p) fun r78 =>
  Option.bind (movetextOf w.1 p r78 d49.2.1) fun r79 =>
  some (([r79], ()), ()))) (Option.bind (movesList w.1 p) fun r80 =>
  Option.bind (movetextOf w.1 p r80 d49.2.1) fun r81 =>
  some (([r81], ()), ())))))))))) fun x82 =>
  Option.bind (at? w.2.1.2.2.1 n) fun d83 =>
  Option.bind (bif (!(d83.2.2.1.toList == (ByteArray.mk #[]).toList)) then req (strRoom (ByteArray.mk #[123]) d83.2.2.1) (req (strRoom ((ByteArray.mk #[123]) ++ d83.2.2.1) (ByteArray.mk #[125])) (req (room (x82.1.1.length + ([(((ByteArray.mk #[123]) ++ d83.2.2.1) ++ (ByteArray.mk #[125]))]).length) 16) (some (((x82.1.1 ++ [(((ByteArray.mk #[123]) ++ d83.2.2.1) ++ (ByteArray.mk #[125]))]), ()), ()))))
  else some ((x82.1.1, ()), ())) fun x84 =>
  some (w, x84.1.1)
noncomputable def recordWriterAfter_L1 (r3 : List Int) (p : (List Int) × ((List Int) × (List Int) × Unit) × Int × Int × Unit) (self : (((ByteArray × Int × Int × (List (Int × Int × Int × (List (Int × Int × Int × Int × Unit)) × Unit)) × (List Int) × Bool × Bool × (List (Int × Int × Int × Bool × Unit)) × Int × Int × Int × Unit) × ((List (ByteArray × ByteArray × Unit)) × ByteArray × (List (Int × (Int × Int × Int × Unit) × ByteArray × Unit)) × Int × Unit) × Unit) × ((List Int) × ((List Int) × (List Int) × Unit) × Int × Int × Unit) × Int × Unit) → Option (((ByteArray × Int × Int × (List (Int × Int × Int × (List (Int × Int × Int × Int × Unit)) × Unit)) × (List Int) × Bool × Bool × (List (Int × Int × Int × Bool × Unit)) × Int × Int × Int × Unit) × ((List (ByteArray × ByteArray × Unit)) × ByteArray × (List (Int × (Int × Int × Int × Unit) × ByteArray × Unit)) × Int × Unit) × Unit) × (List ByteArray))) (x5 : ((List ByteArray) × Int × Unit) × ((ByteArray × Int × Int × (List (Int × Int × Int × (List (Int × Int × Int × Int × Unit)) × Unit)) × (List Int) × Bool × Bool × (List (Int × Int × Int × Bool × Unit)) × Int × Int × Int × (List (ByteArray × ByteArray × Unit)) × ByteArray × (List (Int × (Int × Int × Int × Unit) × ByteArray × Unit)) × Int × Unit) × Unit)) : Option ((((List ByteArray) × Int × Unit) × ((ByteArray × Int × Int × (List (Int × Int × Int × (List (Int × Int × Int × Int × Unit)) × Unit)) × (List Int) × Bool × Bool × (List (Int × Int × Int × Bool × Unit)) × Int × Int × Int × (List (ByteArray × ByteArray × Unit)) × ByteArray × (List (Int × (Int × Int × Int × Unit) × ByteArray × Unit)) × Int × Unit) × Unit)) ⊕ (((List ByteArray) × Unit) × ((ByteArray × Int × Int × (List (Int × Int × Int × (List (Int × Int × Int × Int × Unit)) × Unit)) × (List Int) × Bool × Bool × (List (Int × Int × Int × Bool × Unit)) × Int × Int × Int × (List (ByteArray × ByteArray × Unit)) × ByteArray × (List (Int × (Int × Int × Int × Unit) × ByteArray × Unit)) × Int × Unit) × Unit))) :=
  bif (decide (x5.1.2.1 < ((((r3.take (((r3.length : Nat) : Int)).toNat).drop 1).length : Nat) : Int))) then (Option.bind (at? ((r3.take (((r3.length : Nat) : Int)).toNat).drop 1) x5.1.2.1) fun d6 =>
  Option.bind (agree (Option.bind (recordWriterOne ((x5.2.1.1, (x5.2.1.2.1, (x5.2.1.2.2.1, (x5.2.1.2.2.2.1, (x5.2.1.2.2.2.2.1, (x5.2.1.2.2.2.2.2.1, (x5.2.1.2.2.2.2.2.2.1, (x5.2.1.2.2.2.2.2.2.2.1, (x5.2.1.2.2.2.2.2.2.2.2.1, (x5.2.1.2.2.2.2.2.2.2.2.2.1, (x5.2.1.2.2.2.2.2.2.2.2.2.2.1, ()))))))))))), (x5.2.1.2.2.2.2.2.2.2.2.2.2.2, ())) p d6) fun r7 =>
  agree (Option.bind (at? r7.1.2.1.2.2.1 d6) fun d8 =>
  Option.bind (movesMake r7.1.1 p d8.2.1) fun r9 =>
  Option.bind (self (r7.1, (r9.1, ((r9.2.1.1, (r9.2.1.2.1, ())), r9.2.2)), d6, ())) fun r10 =>
  req (room (r7.2.length + r10.2.length) 16) (some (((r7.2 ++ r10.2), ()), ((r10.1.1.1, (r10.1.1.2.1, (r10.1.1.2.2.1, (r10.1.1.2.2.2.1, (r10.1.1.2.2.2.2.1, (r10.1.1.2.2.2.2.2.1, (r10.1.1.2.2.2.2.2.2.1, (r10.1.1.2.2.2.2.2.2.2.1, (r10.1.1.2.2.2.2.2.2.2.2.1, (r10.1.1.2.2.2.2.2.2.2.2.2.1, (r10.1.1.2.2.2.2.2.2.2.2.2.2.1, r10.1.2.1))))))))))), ())))) (Option.bind (at? r7.1.2.1.2.2.1 d6) fun d11 =>
  Option.bind (movesMake r7.1.1 p d11.2.1) fun r12 =>
  Option.bind (self (r7.1, (r12.1, ((r12.2.1.1, (r12.2.1.2.1, ())), r12.2.2)), d6, ())) fun r13 =>
  req (room (r7.2.length + r13.2.length) 16) (some (((r7.2 ++ r13.2), ()), ((r13.1.1.1, (r13.1.1.2.1, (r13.1.1.2.2.1, (r13.1.1.2.2.2.1, (r13.1.1.2.2.2.2.1, (r13.1.1.2.2.2.2.2.1, (r13.1.1.2.2.2.2.2.2.1, (r13.1.1.2.2.2.2.2.2.2.1, (r13.1.1.2.2.2.2.2.2.2.2.1, (r13.1.1.2.2.2.2.2.2.2.2.2.1, (r13.1.1.2.2.2.2.2.2.2.2.2.2.1, r13.1.2.1))))))))))), ()))))) (Option.bind (recordWriterOne ((x5.2.1.1, (x5.2.1.2.1, (x5.2.1.2.2.1, (x5.2.1.2.2.2.1, (x5.2.1.2.2.2.2.1, (x5.2.1.2.2.2.2.2.1, (x5.2.1.2.2.2.2.2.2.1, (x5.2.1.2.2.2.2.2.2.2.1, (x5.2.1.2.2.2.2.2.2.2.2.1, (x5.2.1.2.2.2.2.2.2.2.2.2.1, (x5.2.1.2.2.2.2.2.2.2.2.2.2.1, ()))))))))))), (x5.2.1.2.2.2.2.2.2.2.2.2.2.2, ())) p d6) fun r14 =>
  Option.bind (at? r14.1.2.1.2.2.1 d6) fun d15 =>
  Option.bind (movesMake r14.1.1 p d15.2.1) fun r16 =>
  Option.bind (self (r14.1, (r16.1, ((r16.2.1.1, (r16.2.1.2.1, ())), r16.2.2)), d6, ())) fun r17 =>
  req (room (r14.2.length + r17.2.length) 16) (some (((r14.2 ++ r17.2), ()), ((r17.1.1.1, (r17.1.1.2.1, (r17.1.1.2.2.1, (r17.1.1.2.2.2.1, (r17.1.1.2.2.2.2.1, (r17.1.1.2.2.2.2.2.1, (r17.1.1.2.2.2.2.2.2.1, (r17.1.1.2.2.2.2.2.2.2.1, (r17.1.1.2.2.2.2.2.2.2.2.1, (r17.1.1.2.2.2.2.2.2.2.2.2.1, (r17.1.1.2.2.2.2.2.2.2.2.2.2.1, r17.1.2.1))))))))))), ()))))) fun x18 =>
  Option.bind (joinS x18.1.1 (ByteArray.mk #[32])) fun r19 =>
  req (strRoom (ByteArray.mk #[40]) r19) (req (strRoom ((ByteArray.mk #[40]) ++ r19) (ByteArray.mk #[41])) (req (room (x5.1.1.length + ([(((ByteArray.mk #[40]) ++ r19) ++ (ByteArray.mk #[41]))]).length) 16) (some (Sum.inl (((x5.1.1 ++ [(((ByteArray.mk #[40]) ++ r19) ++ (ByteArray.mk #[41]))]), (w64 (x5.1.2.1 + (1 : Int))), ()), (x18.2.1, ())))))))
  else some (Sum.inr ((x5.1.1, ()), (x5.2.1, ())))
noncomputable def recordWriterAfter_F (self : (((ByteArray × Int × Int × (List (Int × Int × Int × (List (Int × Int × Int × Int × Unit)) × Unit)) × (List Int) × Bool × Bool × (List (Int × Int × Int × Bool × Unit)) × Int × Int × Int × Unit) × ((List (ByteArray × ByteArray × Unit)) × ByteArray × (List (Int × (Int × Int × Int × Unit) × ByteArray × Unit)) × Int × Unit) × Unit) × ((List Int) × ((List Int) × (List Int) × Unit) × Int × Int × Unit) × Int × Unit) → Option (((ByteArray × Int × Int × (List (Int × Int × Int × (List (Int × Int × Int × Int × Unit)) × Unit)) × (List Int) × Bool × Bool × (List (Int × Int × Int × Bool × Unit)) × Int × Int × Int × Unit) × ((List (ByteArray × ByteArray × Unit)) × ByteArray × (List (Int × (Int × Int × Int × Unit) × ByteArray × Unit)) × Int × Unit) × Unit) × (List ByteArray))) (w : (ByteArray × Int × Int × (List (Int × Int × Int × (List (Int × Int × Int × Int × Unit)) × Unit)) × (List Int) × Bool × Bool × (List (Int × Int × Int × Bool × Unit)) × Int × Int × Int × Unit) × ((List (ByteArray × ByteArray × Unit)) × ByteArray × (List (Int × (Int × Int × Int × Unit) × ByteArray × Unit)) × Int × Unit) × Unit) (p : (List Int) × ((List Int) × (List Int) × Unit) × Int × Int × Unit) (parent : Int) : Option (((ByteArray × Int × Int × (List (Int × Int × Int × (List (Int × Int × Int × Int × Unit)) × Unit)) × (List Int) × Bool × Bool × (List (Int × Int × Int × Bool × Unit)) × Int × Int × Int × Unit) × ((List (ByteArray × ByteArray × Unit)) × ByteArray × (List (Int × (Int × Int × Int × Unit) × ByteArray × Unit)) × Int × Unit) × Unit) × (List ByteArray)) :=
  Option.bind (recordKids w.2.1 parent) fun r3 =>
  bif (((r3.length : Nat) : Int) == (0 : Int)) then some (w, ([] : List ByteArray))
  else req (inb (0 : Int) r3.length) (Option.bind (recordWriterOne w p (getD' r3 0 (0 : Int))) fun r4 =>
  req (boundsI (1 : Int) ((r3.length : Nat) : Int) r3.length) (Option.bind (iterW (recordWriterAfter_L1 r3 p self) ((r4.2, (0 : Int), ()), ((r4.1.1.1, (r4.1.1.2.1, (r4.1.1.2.2.1, (r4.1.1.2.2.2.1, (r4.1.1.2.2.2.2.1, (r4.1.1.2.2.2.2.2.1, (r4.1.1.2.2.2.2.2.2.1, (r4.1.1.2.2.2.2.2.2.2.1, (r4.1.1.2.2.2.2.2.2.2.2.1, (r4.1.1.2.2.2.2.2.2.2.2.2.1, (r4.1.1.2.2.2.2.2.2.2.2.2.2.1, r4.1.2.1))))))))))), ()))) fun x20 =>
  Option.bind (req (inb (0 : Int) r3.length) (req (inb (0 : Int) r3.length) (agree (agree (Option.bind (at? x20.2.1.2.2.2.2.2.2.2.2.2.2.2.2.2.1 (getD' r3 0 (0 : Int))) fun d21 =>
  Option.bind (movesMake (x20.2.1.1, (x20.2.1.2.1, (x20.2.1.2.2.1, (x20.2.1.2.2.2.1, (x20.2.1.2.2.2.2.1, (x20.2.1.2.2.2.2.2.1, (x20.2.1.2.2.2.2.2.2.1, (x20.2.1.2.2.2.2.2.2.2.1, (x20.2.1.2.2.2.2.2.2.2.2.1, (x20.2.1.2.2.2.2.2.2.2.2.2.1, (x20.2.1.2.2.2.2.2.2.2.2.2.2.1, ()))))))))))) p d21.2.1) fun r22 =>
  Option.bind (self (((x20.2.1.1, (x20.2.1.2.1, (x20.2.1.2.2.1, (x20.2.1.2.2.2.1, (x20.2.1.2.2.2.2.1, (x20.2.1.2.2.2.2.2.1, (x20.2.1.2.2.2.2.2.2.1, (x20.2.1.2.2.2.2.2.2.2.1, (x20.2.1.2.2.2.2.2.2.2.2.1, (x20.2.1.2.2.2.2.2.2.2.2.2.1, (x20.2.1.2.2.2.2.2.2.2.2.2.2.1, ()))))))))))), (x20.2.1.2.2.2.2.2.2.2.2.2.2.2, ())), (r22.1, ((r22.2.1.1, (r22.2.1.2.1, ())), r22.2.2)), (getD' r3 0 (0 : Int)), ())) fun r23 =>
  req (room (x20.1.1.length + r23.2.length) 16) (some (((x20.1.1 ++ r23.2), ()), ((r23.1.1.1, (r23.1.1.2.1, (r23.1.1.2.2.1, (r23.1.1.2.2.2.1, (r23.1.1.2.2.2.2.1, (r23.1.1.2.2.2.2.2.1, (r23.1.1.2.2.2.2.2.2.1, (r23.1.1.2.2.2.2.2.2.2.1, (r23.1.1.2.2.2.2.2.2.2.2.1, (r23.1.1.2.2.2.2.2.2.2.2.2.1, (r23.1.1.2.2.2.2.2.2.2.2.2.2.1, r23.1.2.1))))))))))), ())))) (Option.bind (at? x20.2.1.2.2.2.2.2.2.2.2.2.2.2.2.2.1 (getD' r3 0 (0 : Int))) fun d24 =>
  Option.bind (movesMake (x20.2.1.1, (x20.2.1.2.1, (x20.2.1.2.2.1, (x20.2.1.2.2.2.1, (x20.2.1.2.2.2.2.1, (x20.2.1.2.2.2.2.2.1, (x20.2.1.2.2.2.2.2.2.1, (x20.2.1.2.2.2.2.2.2.2.1, (x20.2.1.2.2.2.2.2.2.2.2.1, (x20.2.1.2.2.2.2.2.2.2.2.2.1, (x20.2.1.2.2.2.2.2.2.2.2.2.2.1, ()))))))))))) p d24.2.1) fun r25 =>
  Option.bind (self (((x20.2.1.1, (x20.2.1.2.1, (x20.2.1.2.2.1, (x20.2.1.2.2.2.1, (x20.2.1.2.2.2.2.1, (x20.2.1.2.2.2.2.2.1, (x20.2.1.2.2.2.2.2.2.1, (x20.2.1.2.2.2.2.2.2.2.1, (x20.2.1.2.2.2.2.2.2.2.2.1, (x20.2.1.2.2.2.2.2.2.2.2.2.1, (x20.2.1.2.2.2.2.2.2.2.2.2.2.1, ()))))))))))), (x20.2.1.2.2.2.2.2.2.2.2.2.2.2, ())), (r25.1, ((r25.2.1.1, (r25.2.1.2.1, ())), r25.2.2)), (getD' r3 0 (0 : Int)), ())) fun r26 =>
  req (room (x20.1.1.length + r26.2.length) 16) (some (((x20.1.1 ++ r26.2), ()), ((r26.1.1.1, (r26.1.1.2.1, (r26.1.1.2.2.1, (r26.1.1.2.2.2.1, (r26.1.1.2.2.2.2.1, (r26.1.1.2.2.2.2.2.1, (r26.1.1.2.2.2.2.2.2.1, (r26.1.1.2.2.2.2.2.2.2.1, (r26.1.1.2.2.2.2.2.2.2.2.1, (r26.1.1.2.2.2.2.2.2.2.2.2.1, (r26.1.1.2.2.2.2.2.2.2.2.2.2.1, r26.1.2.1))))))))))), ()))))) (agree (Option.bind (at? x20.2.1.2.2.2.2.2.2.2.2.2.2.2.2.2.1 (getD' r3 0 (0 : Int))) fun d27 =>
  Option.bind (movesMake (x20.2.1.1, (x20.2.1.2.1, (x20.2.1.2.2.1, (x20.2.1.2.2.2.1, (x20.2.1.2.2.2.2.1, (x20.2.1.2.2.2.2.2.1, (x20.2.1.2.2.2.2.2.2.1, (x20.2.1.2.2.2.2.2.2.2.1, (x20.2.1.2.2.2.2.2.2.2.2.1, (x20.2.1.2.2.2.2.2.2.2.2.2.1, (x20.2.1.2.2.2.2.2.2.2.2.2.2.1, ()))))))))))) p d27.2.1) fun r28 =>
  Option.bind (self (((x20.2.1.1, (x20.2.1.2.1, (x20.2.1.2.2.1, (x20.2.1.2.2.2.1, (x20.2.1.2.2.2.2.1, (x20.2.1.2.2.2.2.2.1, (x20.2.1.2.2.2.2.2.2.1, (x20.2.1.2.2.2.2.2.2.2.1, (x20.2.1.2.2.2.2.2.2.2.2.1, (x20.2.1.2.2.2.2.2.2.2.2.2.1, (x20.2.1.2.2.2.2.2.2.2.2.2.2.1, ()))))))))))), (x20.2.1.2.2.2.2.2.2.2.2.2.2.2, ())), (r28.1, ((r28.2.1.1, (r28.2.1.2.1, ())), r28.2.2)), (getD' r3 0 (0 : Int)), ())) fun r29 =>
  req (room (x20.1.1.length + r29.2.length) 16) (some (((x20.1.1 ++ r29.2), ()), ((r29.1.1.1, (r29.1.1.2.1, (r29.1.1.2.2.1, (r29.1.1.2.2.2.1, (r29.1.1.2.2.2.2.1, (r29.1.1.2.2.2.2.2.1, (r29.1.1.2.2.2.2.2.2.1, (r29.1.1.2.2.2.2.2.2.2.1, (r29.1.1.2.2.2.2.2.2.2.2.1, (r29.1.1.2.2.2.2.2.2.2.2.2.1, (r29.1.1.2.2.2.2.2.2.2.2.2.2.1, r29.1.2.1))))))))))), ())))) (agree (Option.bind (at? x20.2.1.2.2.2.2.2.2.2.2.2.2.2.2.2.1 (getD' r3 0 (0 : Int))) fun d30 =>
  Option.bind (movesMake (x20.2.1.1, (x20.2.1.2.1, (x20.2.1.2.2.1, (x20.2.1.2.2.2.1, (x20.2.1.2.2.2.2.1, (x20.2.1.2.2.2.2.2.1, (x20.2.1.2.2.2.2.2.2.1, (x20.2.1.2.2.2.2.2.2.2.1, (x20.2.1.2.2.2.2.2.2.2.2.1, (x20.2.1.2.2.2.2.2.2.2.2.2.1, (x20.2.1.2.2.2.2.2.2.2.2.2.2.1, ()))))))))))) p d30.2.1) fun r31 =>
  Option.bind (self (((x20.2.1.1, (x20.2.1.2.1, (x20.2.1.2.2.1, (x20.2.1.2.2.2.1, (x20.2.1.2.2.2.2.1, (x20.2.1.2.2.2.2.2.1, (x20.2.1.2.2.2.2.2.2.1, (x20.2.1.2.2.2.2.2.2.2.1, (x20.2.1.2.2.2.2.2.2.2.2.1, (x20.2.1.2.2.2.2.2.2.2.2.2.1, (x20.2.1.2.2.2.2.2.2.2.2.2.2.1, ()))))))))))), (x20.2.1.2.2.2.2.2.2.2.2.2.2.2, ())), (r31.1, ((r31.2.1.1, (r31.2.1.2.1, ())), r31.2.2)), (getD' r3 0 (0 : Int)), ())) fun r32 =>
  req (room (x20.1.1.length + r32.2.length) 16) (some (((x20.1.1 ++ r32.2), ()), ((r32.1.1.1, (r32.1.1.2.1, (r32.1.1.2.2.1, (r32.1.1.2.2.2.1, (r32.1.1.2.2.2.2.1, (r32.1.1.2.2.2.2.2.1, (r32.1.1.2.2.2.2.2.2.1, (r32.1.1.2.2.2.2.2.2.2.1, (r32.1.1.2.2.2.2.2.2.2.2.1, (r32.1.1.2.2.2.2.2.2.2.2.2.1, (r32.1.1.2.2.2.2.2.2.2.2.2.2.1, r32.1.2.1))))))))))), ())))) (Option.bind (at? x20.2.1.2.2.2.2.2.2.2.2.2.2.2.2.2.1 (getD' r3 0 (0 : Int))) fun d33 =>
  Option.bind (movesMake (x20.2.1.1, (x20.2.1.2.1, (x20.2.1.2.2.1, (x20.2.1.2.2.2.1, (x20.2.1.2.2.2.2.1, (x20.2.1.2.2.2.2.2.1, (x20.2.1.2.2.2.2.2.2.1, (x20.2.1.2.2.2.2.2.2.2.1, (x20.2.1.2.2.2.2.2.2.2.2.1, (x20.2.1.2.2.2.2.2.2.2.2.2.1, (x20.2.1.2.2.2.2.2.2.2.2.2.2.1, ()))))))))))) p d33.2.1) fun r34 =>
  Option.bind (self (((x20.2.1.1, (x20.2.1.2.1, (x20.2.1.2.2.1, (x20.2.1.2.2.2.1, (x20.2.1.2.2.2.2.1, (x20.2.1.2.2.2.2.2.1, (x20.2.1.2.2.2.2.2.2.1, (x20.2.1.2.2.2.2.2.2.2.1, (x20.2.1.2.2.2.2.2.2.2.2.1, (x20.2.1.2.2.2.2.2.2.2.2.2.1, (x20.2.1.2.2.2.2.2.2.2.2.2.2.1, ()))))))))))), (x20.2.1.2.2.2.2.2.2.2.2.2.2.2, ())), (r34.1, ((r34.2.1.1, (r34.2.1.2.1, ())), r34.2.2)), (getD' r3 0 (0 : Int)), ())) fun r35 =>
  req (room (x20.1.1.length + r35.2.length) 16) (some (((x20.1.1 ++ r35.2), ()), ((r35.1.1.1, (r35.1.1.2.1, (r35.1.1.2.2.1, (r35.1.1.2.2.2.1, (r35.1.1.2.2.2.2.1, (r35.1.1.2.2.2.2.2.1, (r35.1.1.2.2.2.2.2.2.1, (r35.1.1.2.2.2.2.2.2.2.1, (r35.1.1.2.2.2.2.2.2.2.2.1, (r35.1.1.2.2.2.2.2.2.2.2.2.1, (r35.1.1.2.2.2.2.2.2.2.2.2.2.1, r35.1.2.1))))))))))), ()))))))))) fun x36 =>
  some (((x36.2.1.1, (x36.2.1.2.1, (x36.2.1.2.2.1, (x36.2.1.2.2.2.1, (x36.2.1.2.2.2.2.1, (x36.2.1.2.2.2.2.2.1, (x36.2.1.2.2.2.2.2.2.1, (x36.2.1.2.2.2.2.2.2.2.1, (x36.2.1.2.2.2.2.2.2.2.2.1, (x36.2.1.2.2.2.2.2.2.2.2.2.1, (x36.2.1.2.2.2.2.2.2.2.2.2.2.1, ()))))))))))), (x36.2.1.2.2.2.2.2.2.2.2.2.2.2, ())), x36.1.1)))
noncomputable def recordWriterAfter_G (self : (((ByteArray × Int × Int × (List (Int × Int × Int × (List (Int × Int × Int × Int × Unit)) × Unit)) × (List Int) × Bool × Bool × (List (Int × Int × Int × Bool × Unit)) × Int × Int × Int × Unit) × ((List (ByteArray × ByteArray × Unit)) × ByteArray × (List (Int × (Int × Int × Int × Unit) × ByteArray × Unit)) × Int × Unit) × Unit) × ((List Int) × ((List Int) × (List Int) × Unit) × Int × Int × Unit) × Int × Unit) → Option (((ByteArray × Int × Int × (List (Int × Int × Int × (List (Int × Int × Int × Int × Unit)) × Unit)) × (List Int) × Bool × Bool × (List (Int × Int × Int × Bool × Unit)) × Int × Int × Int × Unit) × ((List (ByteArray × ByteArray × Unit)) × ByteArray × (List (Int × (Int × Int × Int × Unit) × ByteArray × Unit)) × Int × Unit) × Unit) × (List ByteArray))) (x : ((ByteArray × Int × Int × (List (Int × Int × Int × (List (Int × Int × Int × Int × Unit)) × Unit)) × (List Int) × Bool × Bool × (List (Int × Int × Int × Bool × Unit)) × Int × Int × Int × Unit) × ((List (ByteArray × ByteArray × Unit)) × ByteArray × (List (Int × (Int × Int × Int × Unit) × ByteArray × Unit)) × Int × Unit) × Unit) × ((List Int) × ((List Int) × (List Int) × Unit) × Int × Int × Unit) × Int × Unit) : Option (((ByteArray × Int × Int × (List (Int × Int × Int × (List (Int × Int × Int × Int × Unit)) × Unit)) × (List Int) × Bool × Bool × (List (Int × Int × Int × Bool × Unit)) × Int × Int × Int × Unit) × ((List (ByteArray × ByteArray × Unit)) × ByteArray × (List (Int × (Int × Int × Int × Unit) × ByteArray × Unit)) × Int × Unit) × Unit) × (List ByteArray)) := recordWriterAfter_F self x.1 x.2.1 x.2.2.1
noncomputable def recordWriterAfter (w : (ByteArray × Int × Int × (List (Int × Int × Int × (List (Int × Int × Int × Int × Unit)) × Unit)) × (List Int) × Bool × Bool × (List (Int × Int × Int × Bool × Unit)) × Int × Int × Int × Unit) × ((List (ByteArray × ByteArray × Unit)) × ByteArray × (List (Int × (Int × Int × Int × Unit) × ByteArray × Unit)) × Int × Unit) × Unit) (p : (List Int) × ((List Int) × (List Int) × Unit) × Int × Int × Unit) (parent : Int) : Option (((ByteArray × Int × Int × (List (Int × Int × Int × (List (Int × Int × Int × Int × Unit)) × Unit)) × (List Int) × Bool × Bool × (List (Int × Int × Int × Bool × Unit)) × Int × Int × Int × Unit) × ((List (ByteArray × ByteArray × Unit)) × ByteArray × (List (Int × (Int × Int × Int × Unit) × ByteArray × Unit)) × Int × Unit) × Unit) × (List ByteArray)) := fixW recordWriterAfter_G (w, p, parent, ())
noncomputable def recordResults_o : Option (ByteArray × ByteArray × ByteArray × ByteArray × Unit) :=
  some ((ByteArray.mk #[42]), ((ByteArray.mk #[49, 45, 48]), ((ByteArray.mk #[48, 45, 49]), ((ByteArray.mk #[49, 47, 50]), ()))))
def recordResults : ByteArray × ByteArray × ByteArray × ByteArray × Unit :=
  ((ByteArray.mk #[42]), ((ByteArray.mk #[49, 45, 48]), ((ByteArray.mk #[48, 45, 49]), ((ByteArray.mk #[49, 47, 50]), ()))))
theorem recordResults_eq : recordResults_o = some (recordResults) := by
  unfold recordResults_o recordResults
  first | rfl | simp only [cond_some]
noncomputable def recordText_L1 (x : (List (ByteArray × ByteArray × Unit)) × ByteArray × (List (Int × (Int × Int × Int × Unit) × ByteArray × Unit)) × Int × Unit) (x5 : (Int × Unit) × ((List Int) × Unit)) : Option (((Int × Unit) × ((List Int) × Unit)) ⊕ ((Unit) × ((List Int) × Unit))) :=
  bif (decide (x5.1.1 < ((x.1.length : Nat) : Int))) then (Option.bind (at? x.1 x5.1.1) fun d6 =>
  req (strRoom (ByteArray.mk #[91]) d6.1) (req (strRoom ((ByteArray.mk #[91]) ++ d6.1) (ByteArray.mk #[32, 34])) (req (strRoom (((ByteArray.mk #[91]) ++ d6.1) ++ (ByteArray.mk #[32, 34])) d6.2.1) (req (strRoom ((((ByteArray.mk #[91]) ++ d6.1) ++ (ByteArray.mk #[32, 34])) ++ d6.2.1) (ByteArray.mk #[34, 93, 10])) (req (room (x5.2.1.length + (((((ByteArray.mk #[91]) ++ d6.1) ++ (ByteArray.mk #[32, 34])) ++ d6.2.1) ++ (ByteArray.mk #[34, 93, 10])).size) 1) (req (Nat.blt 0 (x5.2.1 ++ bytesOf (((((ByteArray.mk #[91]) ++ d6.1) ++ (ByteArray.mk #[32, 34])) ++ d6.2.1) ++ (ByteArray.mk #[34, 93, 10]))).length) (some (Sum.inl (((w64 (x5.1.1 + (1 : Int))), ()), ((x5.2.1 ++ bytesOf (((((ByteArray.mk #[91]) ++ d6.1) ++ (ByteArray.mk #[32, 34])) ++ d6.2.1) ++ (ByteArray.mk #[34, 93, 10]))), ()))))))))))
  else some (Sum.inr ((), (x5.2.1, ())))
noncomputable def recordText (r : ByteArray × Int × Int × (List (Int × Int × Int × (List (Int × Int × Int × Int × Unit)) × Unit)) × (List Int) × Bool × Bool × (List (Int × Int × Int × Bool × Unit)) × Int × Int × Int × Unit) (x : (List (ByteArray × ByteArray × Unit)) × ByteArray × (List (Int × (Int × Int × Int × Unit) × ByteArray × Unit)) × Int × Unit) : Option (ByteArray × Int × Unit) :=
  Option.bind (recordCheck r x) fun r4 =>
  bif (r4 != (0 : Int)) then some ((ByteArray.mk #[]), (r4, ()))
  else Option.bind (iterW (recordText_L1 x) (((0 : Int), ()), (([] : List Int), ()))) fun x7 =>
  Option.bind (bif (!(x.2.1.toList == (ByteArray.mk #[]).toList)) then req (strRoom (ByteArray.mk #[123]) x.2.1) (req (strRoom ((ByteArray.mk #[123]) ++ x.2.1) (ByteArray.mk #[125])) (req (room (([] : List ByteArray).length + ([(((ByteArray.mk #[123]) ++ x.2.1) ++ (ByteArray.mk #[125]))]).length) 16) (some (((([] : List ByteArray) ++ [(((ByteArray.mk #[123]) ++ x.2.1) ++ (ByteArray.mk #[125]))]), ()), ()))))
  else some ((([] : List ByteArray), ()), ())) fun x8 =>
  Option.bind (placeBegin r) fun r9 =>
  Option.bind (recordWriterAfter (r, (x, ())) (r9.1.1, ((r9.1.2.1.1, (r9.1.2.1.2.1, ())), r9.1.2.2)) (-1 : Int)) fun r10 =>
  req (room (x8.1.1.length + r10.2.length) 16) (Option.bind (agree (req (inb x.2.2.2.1 4) (req (room ((x8.1.1 ++ r10.2).length + ([(getD' [(recordResults).1, ((recordResults).2).1, (((recordResults).2).2).1, ((((recordResults).2).2).2).1] (x.2.2.2.1).toNat ByteArray.empty)]).length) 16) (Option.bind (joinS ((x8.1.1 ++ r10.2) ++ [(getD' [(recordResults).1, ((recordResults).2).1, (((recordResults).2).2).1, ((((recordResults).2).2).2).1] (x.2.2.2.1).toNat ByteArray.empty)]) (ByteArray.mk #[32])) fun r11 =>
  req (strRoom r11 (ByteArray.mk #[10])) (req (room (x7.2.1.length + (r11 ++ (ByteArray.mk #[10])).size) 1) (req (Nat.blt 0 (x7.2.1 ++ bytesOf (r11 ++ (ByteArray.mk #[10]))).length) (some ((), ((x7.2.1 ++ bytesOf (r11 ++ (ByteArray.mk #[10]))), ())))))))) (req (inb x.2.2.2.1 4) (req (room ((x8.1.1 ++ r10.2).length + ([(getD' [(recordResults).1, ((recordResults).2).1, (((recordResults).2).2).1, ((((recordResults).2).2).2).1] (x.2.2.2.1).toNat ByteArray.empty)]).length) 16) (Option.bind (joinS ((x8.1.1 ++ r10.2) ++ [(getD' [(recordResults).1, ((recordResults).2).1, (((recordResults).2).2).1, ((((recordResults).2).2).2).1] (x.2.2.2.1).toNat ByteArray.empty)]) (ByteArray.mk #[32])) fun r12 =>
  req (strRoom r12 (ByteArray.mk #[10])) (req (room (x7.2.1.length + (r12 ++ (ByteArray.mk #[10])).size) 1) (req (Nat.blt 0 (x7.2.1 ++ bytesOf (r12 ++ (ByteArray.mk #[10]))).length) (some ((), ((x7.2.1 ++ bytesOf (r12 ++ (ByteArray.mk #[10]))), ()))))))))) fun x13 =>
  bif (decide (((x13.2.1.length : Nat) : Int) > (8192 : Int))) then some ((ByteArray.mk #[]), ((2 : Int), ()))
  else some ((strOf x13.2.1), ((0 : Int), ())))
noncomputable def law3Records : Option (Bool) :=
  Option.bind (recordText ((law3Tic).1, (((law3Tic).2).1, ((((law3Tic).2).2).1, (((((law3Tic).2).2).2).1, ((((((law3Tic).2).2).2).2).1, (((((((law3Tic).2).2).2).2).2).1, ((((((((law3Tic).2).2).2).2).2).2).1, (((((((((law3Tic).2).2).2).2).2).2).2).1, ((((((((((law3Tic).2).2).2).2).2).2).2).2).1, (((((((((((law3Tic).2).2).2).2).2).2).2).2).2).1, ((((((((((((law3Tic).2).2).2).2).2).2).2).2).2).2).1, ()))))))))))) (([] : List (ByteArray × ByteArray × Unit)), ((ByteArray.mk #[]), ([((-1 : Int), ((law3Drop (0 : Int)), ((ByteArray.mk #[]), ())))], ((0 : Int), ()))))) fun r2 =>
  some ((r2.2.1 == (0 : Int)) && (r2.1.toList == (ByteArray.mk #[83, 64, 97, 49, 32, 42, 10]).toList))
noncomputable def recordChildren (r : ByteArray × Int × Int × (List (Int × Int × Int × (List (Int × Int × Int × Int × Unit)) × Unit)) × (List Int) × Bool × Bool × (List (Int × Int × Int × Bool × Unit)) × Int × Int × Int × Unit) (x : (List (ByteArray × ByteArray × Unit)) × ByteArray × (List (Int × (Int × Int × Int × Unit) × ByteArray × Unit)) × Int × Unit) (node : Int) : Option ((List Int) × Int × Unit) :=
  Option.bind (recordCheck r x) fun r3 =>
  bif (r3 != (0 : Int)) then some (([] : List Int), (r3, ()))
  else bif ((decide (node < (-1 : Int))) || (decide (node ≥ ((x.2.2.1.length : Nat) : Int)))) then some (([] : List Int), ((1 : Int), ()))
  else Option.bind (recordKids x node) fun r4 =>
  some (r4, ((0 : Int), ()))
noncomputable def law3RecordChecks_L1 (r7 : (List (ByteArray × ByteArray × Unit)) × ByteArray × (List (Int × (Int × Int × Int × Unit) × ByteArray × Unit)) × Int × Unit) (node : Int) (r9 : (List Int) × Int × Unit) (x12 : (Int × Int × Unit) × (Unit)) : Option (((Int × Int × Unit) × (Unit)) ⊕ (((Int × Unit) × (Unit)) ⊕ Bool)) :=
  bif (decide (x12.1.2.1 < ((r7.2.2.1.length : Nat) : Int))) then (Option.bind (α := ((Int × Unit) × (Unit)) ⊕ (((Int × Int × Unit) × (Unit)) ⊕ (((Int × Unit) × (Unit)) ⊕ Bool))) (Option.bind (at? r7.2.2.1 x12.1.2.1) fun d13 =>
  bif (d13.1 != node) then some (Sum.inl ((x12.1.1, ()), ()))
  else req (imp (!(decide (x12.1.1 ≥ ((r9.1.length : Nat) : Int)))) (inb x12.1.1 r9.1.length)) (bif ((decide (x12.1.1 ≥ ((r9.1.length : Nat) : Int))) || ((getD' r9.1 ((x12.1.1).toNat) (0 : Int)) != x12.1.2.1)) then some (Sum.inr (Sum.inr (Sum.inr false)))
  else some (Sum.inl (((w64 (x12.1.1 + (1 : Int))), ()), ())))) (Sum.elim (fun x14 =>
  some (Sum.inl ((x14.1.1, (w64 (x12.1.2.1 + (1 : Int))), ()), ()))) some))
  else some (Sum.inr (Sum.inl ((x12.1.1, ()), ())))
noncomputable def law3RecordChecks (r : ByteArray × Int × Int × (List (Int × Int × Int × (List (Int × Int × Int × Int × Unit)) × Unit)) × (List Int) × Bool × Bool × (List (Int × Int × Int × Bool × Unit)) × Int × Int × Int × Unit) (x : (List (ByteArray × ByteArray × Unit)) × ByteArray × (List (Int × (Int × Int × Int × Unit) × ByteArray × Unit)) × Int × Unit) (node : Int) : Option (Bool) :=
  Option.bind (law3Records) fun r6 =>
  bif (!r6) then some false
  else Option.bind (law3Short x) fun r7 =>
  bif (law3Great r) then some true
  else Option.bind (ref3RecordFault r r7) fun r8 =>
  Option.bind (recordChildren r r7 node) fun r9 =>
  Option.bind (recordCheck r r7) fun r10 =>
  bif (r10 != r8) then some false
  else Option.bind (bif ((r8 == (0 : Int)) && ((decide (node < (-1 : Int))) || (decide (node ≥ ((r7.2.2.1.length : Nat) : Int))))) then some (((1 : Int), ()), ())
  else some ((r8, ()), ())) fun x11 =>
  bif (x11.1.1 != (0 : Int)) then some ((r9.2.1 == x11.1.1) && (((r9.1.length : Nat) : Int) == (0 : Int)))
  else Option.bind (α := ((Int × Unit) × (Unit)) ⊕ Bool) (iterW (law3RecordChecks_L1 r7 node r9) (((0 : Int), (0 : Int), ()), ())) (Sum.elim (fun x15 =>
  some ((r9.2.1 == (0 : Int)) && (x15.1.1 == ((r9.1.length : Nat) : Int)))) some)
end Go.Proofs.YtocnfflklfeocaaGreat
namespace Go.Den
open Go.Eng Go.Sort Go.Proofs Go.Shelf Go.Lib
set_option linter.unusedVariables false
set_option linter.unusedSectionVars false
set_option linter.unusedSimpArgs false
instance (τ : Ty) : Inhabited (D τ) := ⟨dflt τ⟩

theorem flat_get {α : Type} [Inhabited α] (enc : α → List Value) (k : Nat) (hk : ∀ x, (enc x).length = k) : ∀ (l : List α) (t : Nat), t < l.length * k → (l.map enc).flatten[t]? = some ((enc l[t / k]!)[t % k]!)
  | [], t, h => by simp at h
  | x :: l, t, h => by
    rw [List.map_cons, List.flatten_cons]
    have k0 : 0 < k := by
      rcases Nat.eq_zero_or_pos k with e | e
      · subst e; simp at h
      · exact e
    by_cases ht : t < k
    · rw [List.getElem?_append_left (by rw [hk]; exact ht), Nat.div_eq_of_lt ht, Nat.mod_eq_of_lt ht]
      simp [hk, ht]
    · rw [List.getElem?_append_right (by rw [hk]; omega), hk, flat_get enc k hk l (t - k) (by rw [List.length_cons, Nat.add_mul] at h; omega)]
      obtain ⟨u, rfl⟩ : ∃ u, t = u + k := ⟨t - k, by omega⟩
      rw [Nat.add_sub_cancel, Nat.add_div_right _ k0, Nat.add_mod_right]
      simp
theorem flen {α : Type} (enc : α → List Value) (k : Nat) (hk : ∀ x, (enc x).length = k) : ∀ l : List α, ((l.map enc).flatten).length = l.length * k
  | [] => by simp
  | x :: l => by rw [List.map_cons, List.flatten_cons, List.length_append, hk, flen enc k hk l, List.length_cons, Nat.add_mul]; omega
theorem flatK_list {α : Type} [Inhabited α] (enc : α → List Value) (k : Nat) (hk : ∀ x, (enc x).length = k) (l : List α) : flatK enc k l.toArray = ((l.map enc).flatten).toArray := by
  have hl := flen enc k hk l
  refine ext_get! (by simp [hl]) fun t ht => ?_
  have ht' : t < l.toArray.size * k := by simpa using ht
  rw [get_flatK _ _ _ _ ht']
  have := flat_get enc k hk l t (by simpa using ht')
  simp [this]

variable [CT : Ctx]
theorem flat_mk {w : World} {S : Nat → Prop} : ∀ (τ : Ty) (x : D τ), τ.flat = true → Rep w S τ x [] (cellsV τ x)
  | .int k, x, _ => ⟨rfl, rfl⟩
  | .bool, x, _ => ⟨rfl, rfl⟩
  | .str, x, _ => ⟨rfl, rfl⟩
  | .nil, x, _ => ⟨rfl, rfl⟩
  | .sl e, x, h => by cases h
  | .osl i e, x, h => by cases h
  | .obx _, x, h => by cases h
  | .err, x, h => by cases h
  | .bld _ _, x, h => by cases h
  | .st f r, x, h => by
    simp only [Ty.flat, Bool.and_eq_true] at h
    exact ⟨_, _, [], [], rfl, rfl, flat_mk f x.1 h.1, flat_mk r x.2 h.2⟩
theorem repL_flat {w : World} {S : Nat → Prop} {τ : Ty} (hf : τ.flat = true) : ∀ {xs : List (D τ)} {us : List Value}, RepL (fun x c => Rep w S τ x [] c) xs us → us = (xs.map (cellsV τ)).flatten
  | [], us, h => h
  | x :: xs, us, ⟨c, r, e, h1, h2⟩ => by
    rw [e, flat_rep τ hf h1, repL_flat hf h2]; rfl
theorem flat_repL {w : World} {S : Nat → Prop} {τ : Ty} (hf : τ.flat = true) : ∀ (xs : List (D τ)), RepL (fun x c => Rep w S τ x [] c) xs (xs.map (cellsV τ)).flatten
  | [] => rfl
  | x :: xs => ⟨_, _, rfl, flat_mk τ x hf, flat_repL hf xs⟩
theorem chg_grow {w w' : World} (h : Chg (CT := ⟨[], [], true⟩) [] w w') : ∃ q os', w' = grow (w.drewN q) os' := by
  refine ⟨w'.drawn - w.drawn, w'.heap.extract w.heap.size w'.heap.size, ?_⟩
  obtain ⟨heap, tape, drawn, os, output⟩ := w
  obtain ⟨heap', tape', drawn', os', output'⟩ := w'
  obtain ⟨h1, h2, h3, h4, h5, h6⟩ := h
  simp only at h1 h2 h3 h4 h5 h6
  subst h1 h2 h3
  have h6 := h6 trivial
  have : heap' = heap ++ heap'.extract heap.size heap'.size := by
    apply Array.ext_getElem?
    intro j
    rw [Array.getElem?_append]
    by_cases hj : j < heap.size
    · rw [if_pos hj]; exact h5 j hj (by simp)
    · rw [if_neg hj, Array.getElem?_extract]
      by_cases hj2 : j < heap'.size
      · rw [if_pos (by omega)]; congr 1; omega
      · rw [if_neg (by omega), Array.getElem?_eq_none (by omega)]
  show World.mk heap' tape' drawn' os' output' = World.mk (heap ++ heap'.extract heap.size heap'.size) tape' (drawn + (drawn' - drawn)) os' output'
  rw [← this]
  congr 1
  omega

section
variable {P : Program} {ρ : Ren}
/-- slices.SortFunc at structs without slices, by a function that tells all elements apart -/
theorem srt_structs (L : SlLaysF0.n6 P ρ) {f : FuncId} (hf6 : ρ.f 6 = f) {τ : Ty} {i : TypeId} (hi : ρ.t 24 = i) (hflat : τ.flat = true) (hagg : τ.isAgg = true) (aE : ∀ w, (isAgg i).run P w = .ok true w) (zE : ∀ w, (Go.sizeOf i).run P w = .ok τ.size w) {g : FuncId} {res : List Ty} {φ : DL [τ, τ] → Option Int} {tot : Option (DL [τ, τ] → Int)}
    (hc : ConOK (CT := ⟨[], [], true⟩) P g ⟨[τ, τ], true, res, .int .i64, φ, tot⟩) (cf : D τ → D τ → Int) (hcf : ∀ x y, φ (x, y, ()) = some (cf x y)) (hO : SWO (ltOf cf)) (hT : ∀ x y, (ltOf cf) x y = false → (ltOf cf) y x = false → x = y) (eg : ∀ args w, (callFunc g args).run P w = .ok (.enter g args) w) :
    SrtOK P f ⟨i, τ, some g, fun xs => xs.mergeSort fun x y => !(ltOf cf) y x⟩ := by
  subst hf6; subst hi
  refine ⟨hflat, fun xs => List.length_mergeSort xs, fun w S v M xs us hlen hown hrep => ?_⟩
  simp only at hown hrep ⊢
  have hsz : ∀ x : D τ, (cellsV τ x).length = τ.size := fun x => Rep.length τ (flat_mk (w := w) (S := S) τ x hflat)
  have hus := repL_flat hflat hrep
  rcases hown with ⟨rfl, ⟨ao, rfl⟩, h3, h4⟩ | ⟨b, cap, cur, rfl, rfl, hb, hcap, hcap2, hcs, htake⟩
  · have hxs : xs = [] := List.length_eq_zero_iff.1 h3
    subst hxs
    refine (AnyF.slices_SortFunc_none L ao 0 _ w).mono ?_
    rintro e w' ⟨rfl, rfl⟩
    exact ⟨rfl, Chg.refl _ _, us, .inl ⟨rfl, ⟨ao, rfl⟩, rfl, h4⟩, by subst h4; simp [RepL]⟩
  · have hrow := hb
    obtain ⟨fz, hb, hfz⟩ := hb
    have hcmp : CmpLays P g #[] (cellsV τ) τ.size cf b 0 xs.toArray.size w := fun m os dk hdk x y => by
      have := ConOK.calls (CT := ⟨[], [], true⟩) hc (sortWorldK (cellsV τ) τ.size w b 0 m dk os) (fun _ => False) (#[.agg (cellsV τ x).toArray, .agg (cellsV τ y).toArray] ++ #[]) (x, y, ()) (cf x y) (fun _ h => h.elim) (tabR_nil (CT := ⟨[], [], true⟩) rfl rfl)
        ⟨_, _, rfl, ⟨_, flat_mk τ x hflat, by simp [oneV, hagg]⟩, _, _, rfl, ⟨_, flat_mk τ y hflat, by simp [oneV, hagg]⟩, rfl⟩ (hcf x y)
      refine this.mono ?_
      rintro e w' ⟨v, rfl, hch, M', cs, _, _, hr, hv⟩
      refine ⟨?_, chg_grow hch⟩
      rw [hv, hr.2]
      rfl
    have hblk : b < w.heap.size := (Array.getElem?_eq_some_iff.1 hb).1
    have hul : us.length = xs.length * τ.size := by rw [hus]; exact flen _ _ hsz xs
    have hnc : xs.length * τ.size ≤ cur.size := by rw [hcs]; exact Nat.mul_le_mul_right _ hcap
    have hH : HoldsK (cellsV τ) τ.size w b 0 xs.toArray := by
      intro j hj
      rw [size_flatK] at hj
      rw [flatK_list _ _ hsz, ← hus]
      have hj' : j < us.length := by rw [hul]; simpa using hj
      refine ⟨?_, by rw [Nat.zero_add]; exact hrow.fro (by omega)⟩
      simp only [World.cell?, hb, Nat.zero_add]
      have : cur[j]? = us[j]? := by
        rw [← htake, List.getElem?_take, if_pos (by rw [← hul]; exact hj'), Array.getElem?_toList]
      simp [this, hj']
    have := AnyQ.slices_SortFunc_total L τ.size aE zE (cellsV τ) hsz (fun x v hv => Rep.one τ (flat_mk (w := w) (S := S) τ x hflat) v hv) cf hO g #[] b 0 cap xs.toArray w eg hcmp hH hblk (by simpa using hlen) hT
    simp only [List.size_toArray] at this
    refine this.mono ?_
    rintro e w' ⟨rfl, n, os, rfl⟩
    have hl := List.length_mergeSort (le := fun x y => !ltOf cf y x) xs
    generalize hys : xs.mergeSort (fun x y => !ltOf cf y x) = ys at hl ⊢
    simp only [hys]
    have hyl : ((ys.map (cellsV τ)).flatten).length = xs.length * τ.size := by rw [flen _ _ hsz ys, hl]
    have hheap : ∀ j, j < w.heap.size → (sortWorldK (cellsV τ) τ.size w b 0 n ys.toArray os).heap[j]? = if b = j then some (.cells (putCells id 0 (flatK (cellsV τ) τ.size ys.toArray) cur) (ρ.t 24) fz) else w.heap[j]? := fun j hj => by
      simp only [sortWorldK, putRowK, putRow, grow, mapBlock, Sort.ahead]
      rw [Array.getElem?_append_left (by simpa using hj), Array.getElem?_modify]
      by_cases e : b = j
      · subst e; simp [hb, onCells]
      · simp [e]
    refine ⟨trivial, ⟨rfl, rfl, rfl, ?_, fun j hj hn => ?_, ?_⟩, _, .inr ⟨b, cap, putCells id 0 (flatK (cellsV τ) τ.size ys.toArray) cur, rfl, rfl, ?_, hcap, hcap2, ?_, rfl⟩, ?_⟩
    · simp [sortWorldK, putRowK, putRow, grow, mapBlock, Sort.ahead]
    · rw [hheap j hj, if_neg (fun e => hn (by simp [e]))]
    · simp [sortWorldK, putRowK, putRow, grow, mapBlock, Sort.ahead]
    · exact ⟨fz, by rw [hheap b hblk, if_pos rfl], by simpa [putCells] using hfz⟩
    · simp [putCells, hcs]
    · have : (putCells id 0 (flatK (cellsV τ) τ.size ys.toArray) cur).toList.take (xs.length * τ.size) = (ys.map (cellsV τ)).flatten := by
        apply List.ext_getElem?
        intro j
        rw [List.getElem?_take]
        by_cases hj : j < xs.length * τ.size
        · rw [if_pos hj, Array.getElem?_toList, flatK_list _ _ hsz]
          have h1 : j < cur.size := by omega
          simp [putCells, Array.getElem?_mapIdx, h1, hyl, hj]
        · rw [if_neg hj, List.getElem?_eq_none (by rw [hyl]; omega)]
      rw [this]
      exact flat_repL hflat ys
end
end Go.Den
namespace Go.Den
set_option linter.unusedVariables false
set_option linter.unusedSimpArgs false

theorem iterN_mono {T α : Type} {f : T → Option (T ⊕ α)} : ∀ {n m : Nat} {x : T} {r : α}, iterN f n x = some r → n ≤ m → iterN f m x = some r
  | 0, _, _, _, h, _ => by simp [iterN] at h
  | n + 1, 0, _, _, _, h => by omega
  | n + 1, m + 1, x, r, h, hm => by
    simp only [iterN] at h ⊢
    match hf : f x with
    | none => simp [hf] at h
    | some (.inr q) => simp only [hf] at h ⊢; exact h
    | some (.inl y) => simp only [hf] at h ⊢; exact iterN_mono h (by omega)
theorem iterW_of {T α : Type} {f : T → Option (T ⊕ α)} {n : Nat} {x : T} {r : α} (h : iterN f n x = some r) : iterW f x = some r := by
  have hx : ∃ n, (iterN f n x).isSome = true := ⟨n, by rw [h]; rfl⟩
  unfold iterW
  rw [dif_pos hx]
  obtain ⟨q, hq⟩ := Option.isSome_iff_exists.1 (Classical.choose_spec hx)
  rw [hq]
  rcases Nat.le_total n (Classical.choose hx) with hl | hl
  · rw [← hq, iterN_mono h hl]
  · rw [← h, iterN_mono hq hl]
theorem iterW_inv {T α : Type} {f : T → Option (T ⊕ α)} {x : T} {r : α} (h : iterW f x = some r) : ∃ n, iterN f n x = some r := by
  unfold iterW at h
  split at h
  · exact ⟨_, h⟩
  · cases h
theorem iterW_inl {T α : Type} {f : T → Option (T ⊕ α)} {x y : T} (h : f x = some (.inl y)) : iterW f x = iterW f y := by
  cases hy : iterW f y with
  | some r =>
    obtain ⟨n, hn⟩ := iterW_inv hy
    exact iterW_of (n := n + 1) (by simp [iterN, h, hn])
  | none =>
    cases hx : iterW f x with
    | none => rfl
    | some r =>
      obtain ⟨n, hn⟩ := iterW_inv hx
      cases n with
      | zero => simp [iterN] at hn
      | succ n =>
        simp only [iterN, h] at hn
        rw [iterW_of hn] at hy
        cases hy
theorem iterW_inr {T α : Type} {f : T → Option (T ⊕ α)} {x : T} {r : α} (h : f x = some (.inr r)) : iterW f x = some r := iterW_of (n := 1) (by simp [iterN, h])
theorem iterW_eq {T α : Type} (f : T → Option (T ⊕ α)) (x : T) : iterW f x = match f x with
    | none => none
    | some (.inl y) => iterW f y
    | some (.inr r) => some r := by
  match h : f x with
  | some (.inl y) => exact iterW_inl h
  | some (.inr r) => exact iterW_inr h
  | none =>
    cases hx : iterW f x with
    | none => rfl
    | some r =>
      obtain ⟨n, hn⟩ := iterW_inv hx
      cases n <;> simp [iterN, h] at hn
/-- a loop with a measure and an invariant -/
theorem iterW_meas {T α : Type} {f : T → Option (T ⊕ α)} (I : T → Prop) (μ : T → Nat) (Q : α → Prop)
    (h : ∀ x, I x → (∃ y, f x = some (.inl y) ∧ I y ∧ μ y < μ x) ∨ (∃ r, f x = some (.inr r) ∧ Q r)) : ∀ x, I x → ∃ r, iterW f x = some r ∧ Q r := by
  have key : ∀ (n : Nat) x, μ x < n → I x → ∃ r, iterW f x = some r ∧ Q r := by
    intro n
    induction n with
    | zero => intro x hx; omega
    | succ n ih =>
      intro x hx hi
      rcases h x hi with ⟨y, h1, h2, h3⟩ | ⟨r, h1, h2⟩
      · rw [iterW_inl h1]; exact ih y (by omega) h2
      · exact ⟨r, iterW_inr h1, h2⟩
  exact fun x hi => key _ x (Nat.lt_succ_self _) hi
/-- a loop that computes g -/
theorem iterW_fun {T α : Type} {f : T → Option (T ⊕ α)} (I : T → Prop) (μ : T → Nat) (g : T → α)
    (h : ∀ x, I x → (∃ y, f x = some (.inl y) ∧ I y ∧ μ y < μ x ∧ g y = g x) ∨ f x = some (.inr (g x))) : ∀ x, I x → iterW f x = some (g x) := by
  have key : ∀ (n : Nat) x, μ x < n → I x → iterW f x = some (g x) := by
    intro n
    induction n with
    | zero => intro x hx; omega
    | succ n ih =>
      intro x hx hi
      rcases h x hi with ⟨y, h1, h2, h3, h4⟩ | h1
      · rw [iterW_inl h1, ih y (by omega) h2, h4]
      · exact iterW_inr h1
  exact fun x hi => key _ x (Nat.lt_succ_self _) hi
/-- a recursion that computes s -/
theorem fixW_fun {T α : Type} {G : (T → Option α) → T → Option α} (I : T → Prop) (μ : T → Nat) (s : T → α)
    (h1 : ∀ φ x, I x → (∀ y, I y → φ y = none ∨ φ y = some (s y)) → G φ x = none ∨ G φ x = some (s x))
    (h2 : ∀ φ x, I x → (∀ y, I y → μ y < μ x → φ y = some (s y)) → G φ x = some (s x)) : ∀ x, I x → fixW G x = some (s x) := by
  have a1 : ∀ n x, I x → fixN G n x = none ∨ fixN G n x = some (s x) := by
    intro n
    induction n with
    | zero => intro x _; exact .inl rfl
    | succ n ih => intro x hx; exact h1 _ x hx ih
  have a2 : ∀ n x, I x → μ x < n → fixN G n x = some (s x) := by
    intro n
    induction n with
    | zero => intro x _ hl; omega
    | succ n ih => intro x hx hl; exact h2 _ x hx fun y hy hm => ih y hy (by omega)
  intro x hx
  have hx' : ∃ n, (fixN G n x).isSome = true := ⟨μ x + 1, by rw [a2 _ x hx (Nat.lt_succ_self _)]; rfl⟩
  unfold fixW
  rw [dif_pos hx']
  have := Classical.choose_spec hx'
  rcases a1 (Classical.choose hx') x hx with h | h
  · rw [h] at this; cases this
  · exact h

/-- a loop whose states are known -/
theorem iterW_states {T α : Type} {f : T → Option (T ⊕ α)} (n : Nat) (st : Nat → T) (r : α) (hs : ∀ i, i < n → f (st i) = some (.inl (st (i + 1)))) (he : f (st n) = some (.inr r)) : iterW f (st 0) = some r := by
  have key : ∀ k, k ≤ n → iterW f (st (n - k)) = some r := by
    intro k
    induction k with
    | zero => intro _; exact iterW_inr he
    | succ k ih =>
      intro hk
      have := hs (n - (k + 1)) (by omega)
      rw [show n - (k + 1) + 1 = n - k by omega] at this
      rw [iterW_inl this]
      exact ih (by omega)
  have := key n (Nat.le_refl _)
  rwa [Nat.sub_self] at this
/-- two loops that agree where an invariant holds -/
theorem iterW_congr {T α : Type} {f g : T → Option (T ⊕ α)} (I : T → Prop) (h : ∀ x, I x → f x = g x) (hi : ∀ x y, I x → f x = some (.inl y) → I y) : ∀ x, I x → iterW f x = iterW g x := by
  have key : ∀ n x, I x → iterN f n x = iterN g n x := by
    intro n
    induction n with
    | zero => intro x _; rfl
    | succ n ih =>
      intro x hx
      simp only [iterN, ← h x hx]
      match hf : f x with
      | none => rfl
      | some (.inr q) => rfl
      | some (.inl y) => exact ih y (hi x y hx hf)
  intro x hx
  cases hf : iterW f x with
  | some r =>
    obtain ⟨n, hn⟩ := iterW_inv hf
    rw [key n x hx] at hn
    exact (iterW_of hn).symm
  | none =>
    cases hg : iterW g x with
    | none => rfl
    | some r =>
      obtain ⟨n, hn⟩ := iterW_inv hg
      rw [← key n x hx] at hn
      rw [iterW_of hn] at hf
      cases hf
/-- a search in a row -/
theorem iterW_any {α β : Type} (xs : List α) (p : α → Bool) (f : ((Int × Unit) × Unit) → Option (((Int × Unit) × Unit) ⊕ β)) (A B : β)
    (h1 : ∀ i (hi : i < xs.length), f (((i : Int), ()), ()) = bif p xs[i] then some (.inr A) else some (.inl ((((i + 1 : Nat) : Int), ()), ()))) (h2 : f (((xs.length : Int), ()), ()) = some (.inr B)) :
    iterW f ((0, ()), ()) = some (bif xs.any p then A else B) := by
  have key : ∀ k i, i + k = xs.length → iterW f (((i : Int), ()), ()) = some (bif (xs.drop i).any p then A else B) := by
    intro k
    induction k with
    | zero =>
      intro i hi
      have : i = xs.length := by omega
      subst this
      rw [iterW_inr h2]
      simp
    | succ k ih =>
      intro i hi
      have hl : i < xs.length := by omega
      have hs := h1 i hl
      rw [List.drop_eq_getElem_cons hl]
      cases hp : p xs[i] with
      | true =>
        rw [hp] at hs
        rw [iterW_inr hs]
        simp only [List.any_cons, hp, Bool.true_or, cond_true]
      | false =>
        rw [hp] at hs
        rw [iterW_inl hs, ih (i + 1) (by omega)]
        simp only [List.any_cons, hp, Bool.false_or]
  have := key xs.length 0 (by omega)
  simpa using this
/-- the first answer of a row of questions -/
def scan {β : Type} (e : Nat → Option β) (B : β) : Nat → Nat → β
  | _, 0 => B
  | i, k + 1 => match e i with
    | some b => b
    | none => scan e B (i + 1) k
theorem iterW_scan {β : Type} (n : Nat) (f : ((Int × Unit) × Unit) → Option (((Int × Unit) × Unit) ⊕ β)) (e : Nat → Option β) (B : β)
    (h1 : ∀ i, i < n → f (((i : Int), ()), ()) = match e i with
      | some b => some (.inr b)
      | none => some (.inl ((((i + 1 : Nat) : Int), ()), ()))) (h2 : f (((n : Int), ()), ()) = some (.inr B)) :
    iterW f ((0, ()), ()) = some (scan e B 0 n) := by
  have key : ∀ k i, i + k = n → iterW f (((i : Int), ()), ()) = some (scan e B i k) := by
    intro k
    induction k with
    | zero =>
      intro i hi
      have : i = n := by omega
      subst this
      exact iterW_inr h2
    | succ k ih =>
      intro i hi
      have hs := h1 i (by omega)
      unfold scan
      match he : e i with
      | some b => rw [he] at hs; exact iterW_inr hs
      | none => rw [he] at hs; rw [iterW_inl hs]; exact ih (i + 1) (by omega)
  exact key n 0 (by omega)
theorem scan_map {β γ : Type} (g : β → γ) (e : Nat → Option β) (B : β) : ∀ (k i : Nat), scan (fun i => (e i).map g) (g B) i k = g (scan e B i k)
  | 0, _ => rfl
  | k + 1, i => by
    unfold scan
    match he : e i with
    | some b => rfl
    | none => simp only [Option.map_none]; exact scan_map g e B k (i + 1)
theorem scan_congr {β : Type} {e e' : Nat → Option β} (B : β) : ∀ (k i : Nat), (∀ j, i ≤ j → j < i + k → e j = e' j) → scan e B i k = scan e' B i k
  | 0, _, _ => rfl
  | k + 1, i, h => by
    unfold scan
    rw [h i (Nat.le_refl _) (by omega), scan_congr B k (i + 1) fun j h1 h2 => h j (by omega) (by omega)]
/-! ### numbers -/
theorem w64_id {n : Int} (h1 : -9223372036854775808 ≤ n) (h2 : n ≤ 9223372036854775807) : w64 n = n := by
  simp [w64, IntKind.wrap, IntKind.signed, IntKind.bits]
  omega
theorem w64_rng (n : Int) : -9223372036854775808 ≤ w64 n ∧ w64 n ≤ 9223372036854775807 := by
  simp [w64, IntKind.wrap, IntKind.signed, IntKind.bits]
  omega
theorem room_ok {n b : Nat} (h : n * b ≤ 140737488355328) : room n b = true := Nat.ble_eq_true_of_le h
theorem beq_f {α : Type} [BEq α] [LawfulBEq α] {a b : α} (h : ¬ a = b) : (a == b) = false := by simpa using h
theorem bne_t {α : Type} [BEq α] [LawfulBEq α] {a b : α} (h : ¬ a = b) : (a != b) = true := by simpa using h
theorem beq_t {α : Type} [BEq α] [LawfulBEq α] {a b : α} (h : a = b) : (a == b) = true := by simpa using h
theorem bne_f {α : Type} [BEq α] [LawfulBEq α] {a b : α} (h : a = b) : (a != b) = false := by simpa using h
theorem req_true {α : Type} (x : Option α) : req true x = x := rfl
theorem req_false {α : Type} (x : Option α) : req false x = none := rfl
theorem at?_eq {α : Type} (xs : List α) (i : Int) (h0 : 0 ≤ i) (h1 : i < (xs.length : Int)) : at? xs i = some (xs[i.toNat]'(by omega)) := by
  simp [at?, h0, List.getElem?_eq_getElem (show i.toNat < xs.length by omega)]
theorem inb_iff {i : Int} {n : Nat} : inb i n = true ↔ 0 ≤ i ∧ i < (n : Int) := by simp [inb]
/-! ### functions that the kernel can evaluate: every loop gets a bound -/
/-- what the left side gives, the right side gives -/
def Le {α : Type} (a b : Option α) : Prop := ∀ r, a = some r → b = some r
theorem Le.refl {α : Type} (a : Option α) : Le a a := fun _ h => h
theorem Le.bind {α β : Type} {a b : Option α} {f g : α → Option β} (h : Le a b) (hf : ∀ x, Le (f x) (g x)) : Le (Option.bind a f) (Option.bind b g) := fun r hr => by
  obtain ⟨x, h1, h2⟩ := Option.bind_eq_some_iff.1 hr
  rw [h x h1]
  exact hf x r h2
theorem Le.elim {α β γ : Type} {f g : α → Option γ} {f' g' : β → Option γ} (h : ∀ x, Le (f x) (g x)) (h' : ∀ x, Le (f' x) (g' x)) : ∀ x, Le (Sum.elim f f' x) (Sum.elim g g' x)
  | .inl x => h x
  | .inr x => h' x
theorem Le.cond {α : Type} {c : Bool} {a b a' b' : Option α} (h : Le a a') (h' : Le b b') : Le (bif c then a else b) (bif c then a' else b') := by
  cases c
  · exact h'
  · exact h
theorem Le.req {α : Type} {c : Bool} {a b : Option α} (h : Le a b) : Le (req c a) (req c b) := by
  cases c
  · exact Le.refl _
  · exact h
theorem Le.gopt {α : Type} {c : Bool} {d : α} {a b : Option α} (h : Le a b) : Le (gopt c d a) (gopt c d b) := by
  cases c
  · exact Le.refl _
  · exact h
theorem Le.map {α β : Type} {f : α → β} {a b : Option α} (h : Le a b) : Le (Option.map f a) (Option.map f b) := fun r hr => by
  obtain ⟨x, h1, h2⟩ := Option.map_eq_some_iff.1 hr
  rw [h x h1, ← h2]
  rfl
def agreeC {α : Type} [DecidableEq α] (a b : Option α) : Option α := if a = b then a else none
theorem Le.agree {α : Type} [DecidableEq α] {a b a' b' : Option α} (h : Le a a') (h' : Le b b') : Le (agreeC a b) (agree a' b') := fun r hr => by
  unfold agreeC at hr
  split at hr
  · rename_i e
    have h1 := h r hr
    have h2 := h' r (e ▸ hr)
    unfold Go.Den.agree
    rw [h1, h2, if_pos rfl]
  · cases hr
theorem Le.iter {T α : Type} {f g : T → Option (T ⊕ α)} (h : ∀ x, Le (f x) (g x)) (n : Nat) (x : T) : Le (iterN f n x) (iterW g x) := by
  have key : ∀ n x, Le (iterN f n x) (iterN g n x) := by
    intro n
    induction n with
    | zero => intro x; exact Le.refl _
    | succ n ih =>
      intro x r hr
      simp only [iterN] at hr ⊢
      match hf : f x with
      | none => rw [hf] at hr; cases hr
      | some (.inl y) => rw [hf] at hr; rw [h x _ hf]; exact ih y r hr
      | some (.inr q) => rw [hf] at hr; rw [h x _ hf]; exact hr
  exact fun r hr => iterW_of (key n x r hr)
/-- a loop of bounded length in which a bound on the number of rounds does not matter -/
def Mono {T α : Type} (G : (T → Option α) → T → Option α) : Prop := ∀ φ ψ, (∀ x, Le (φ x) (ψ x)) → ∀ x, Le (G φ x) (G ψ x)
theorem Le.fix {T α : Type} {F G : (T → Option α) → T → Option α} (h : ∀ φ ψ, (∀ x, Le (φ x) (ψ x)) → ∀ x, Le (F φ x) (G ψ x)) (hG : Mono G) (n : Nat) (x : T) : Le (fixN F n x) (fixW G x) := by
  have key : ∀ n x, Le (fixN F n x) (fixN G n x) := by
    intro n
    induction n with
    | zero => intro x; exact Le.refl _
    | succ n ih => intro x; exact h _ _ ih x
  have up : ∀ n x, Le (fixN G n x) (fixN G (n + 1) x) := by
    intro n
    induction n with
    | zero => intro x r hr; cases hr
    | succ n ih => intro x; exact hG _ _ ih x
  have mono : ∀ k n x, Le (fixN G n x) (fixN G (n + k) x) := by
    intro k
    induction k with
    | zero => intro n x; exact Le.refl _
    | succ k ih => intro n x r hr; exact up _ x r (ih n x r hr)
  intro r hr
  have h1 := key n x r hr
  have hx : ∃ n, (fixN G n x).isSome = true := ⟨n, by rw [h1]; rfl⟩
  unfold fixW
  rw [dif_pos hx]
  obtain ⟨q, hq⟩ := Option.isSome_iff_exists.1 (Classical.choose_spec hx)
  rw [hq]
  rcases Nat.le_total n (Classical.choose hx) with hl | hl
  · have := mono (Classical.choose hx - n) n x r h1
    rw [show n + (Classical.choose hx - n) = Classical.choose hx by omega, hq] at this
    exact this
  · have := mono (n - Classical.choose hx) (Classical.choose hx) x q hq
    rw [show Classical.choose hx + (n - Classical.choose hx) = n by omega, h1] at this
    exact this.symm
end Go.Den
namespace Go.Den
open Go.Eng Go.Proofs Go.Shelf Go.RowKit
set_option linter.unusedVariables false
set_option linter.unusedSectionVars false
set_option linter.unusedSimpArgs false
variable [CT : Ctx]
variable {P : Program} {ρ : Ren}

theorem ck_of (L : Lays.n240 P ρ) (X : Builder.X72 P ρ) : CkOK P (ρ.f 240) (ρ.t 72) := by
  intro w b p v hheap hp
  rcases hp with rfl | rfl
  · refine (Any.Builder_copyCheck_fresh L X b w (by simp [World.cell?, hheap]) (by simp [World.shape?, hheap]) (by simp [World.frozen?, hheap])).mono ?_
    rintro e w' ⟨rfl, rfl⟩
    have hs := setCell_eq_setRow w b 0 #[.pointer none, v] (ρ.t 72) (0, 0) (.pointer (some ⟨b, 0, none⟩)) hheap
    rw [hs]
    exact ⟨rfl, setRow_chg, setRow_heap w b _ _ (ρ.t 72) (0, 0) hheap⟩
  · refine (Any.Builder_copyCheck_used L X b w (by simp [World.cell?, hheap])).mono ?_
    rintro e w' ⟨rfl, rfl⟩
    exact ⟨rfl, Chg.refl _ _, hheap⟩
theorem load_ints (w : World) : ∀ (l : List Int) (a : Addr) (acc : ByteArray), (∀ (j : Nat) x, l[j]? = some x → w.cell? (a.add j) = some (.int .u8 x)) → (loadBytes a acc l.length).run P w = .ok (l.foldl (fun r n => r.push (UInt8.ofNat n.toNat)) acc) w
  | [], a, acc, _ => by simp [loadBytes]
  | x :: l, a, acc, h => by
    have h0 : w.cell? a = some (.int .u8 x) := by
      have := h 0 x rfl
      simpa [Addr.add] using this
    have ih := load_ints w l (a.add 1) (acc.push (UInt8.ofNat x.toNat)) (fun j y hy => by
      have := h (j + 1) y (by simpa using hy)
      rw [add_add, Nat.add_comm]
      exact this)
    simp only [List.length_cons, loadBytes, Sem.run_bind, run_load, h0, Result.andThen]
    exact ih
theorem string_row (w : World) (pt it ty e : TypeId) (hp : P.underlying pt = some (.pointer e)) (hc : P.cellsOf e = 1) (g cells : Nat) (hsh : w.shape? g = some (e, cells)) (l : List Int) (h0 : l ≠ []) (hn : l.length ≤ cells) (h63 : l.length ≤ 9223372036854775807)
    (hcell : ∀ (j : Nat) x, l[j]? = some x → w.cell? ((⟨g, 0, none⟩ : Addr).add j) = some (.int .u8 x)) :
    (Builtin.unsafeString_ #[pt, it] ty #[.pointer (some ⟨g, 0, none⟩), .int .i64 l.length]).run P w = .ok (Value.string (strOf l)) (w.freeze ⟨g, 0, none⟩ l.length) := by
  have hl : l.length ≠ 0 := by simpa using h0
  have hlb := load_ints (P := P) w l ⟨g, 0, none⟩ .empty hcell
  have hlies := Lib.liesAt_bytes (P := P) hc (cells / P.cellsOf e) l.length (by rw [hc]; simpa using hn)
  have h63' : ¬ (9223372036854775807 : Int) < (l.length : Int) := by omega
  have hmax : IntKind.i64.max = 9223372036854775807 := rfl
  have hneg : ¬ (l.length : Int) < 0 := by omega
  have hstr : strOf l = l.foldl (fun r n => r.push (UInt8.ofNat n.toNat)) ByteArray.empty := rfl
  rw [hstr]
  refine (congrArg (fun s => Sem.run P s w) (show Builtin.unsafeString_ #[pt, it] ty #[.pointer (some ⟨g, 0, none⟩), .int .i64 l.length] = (Go.asInt (.int .i64 l.length) >>= _) from rfl)).trans ?_
  simp [Go.asInt, asIntOf, hmax, h63', hneg, hl, variablesAt, hsh, Go.elemOf, run_underlying hp, hlies, hlb]
theorem freeze_chg (w : World) (g n : Nat) : Chg [g] w (w.drew.freeze ⟨g, 0, none⟩ n) := by
  by_cases h0 : n = 0
  · subst h0
    exact (Chg.drewN w 1).mono (by simp)
  · unfold World.freeze
    rw [if_neg h0]
    refine ⟨rfl, rfl, rfl, by simp, fun k hk hn => ?_, fun _ => Nat.le_succ _⟩
    have hne : ¬ g = k := fun e => hn (by simp [e])
    simp [Array.getElem?_modify, hne]
    rfl
set_option maxHeartbeats 2000000 in
set_option maxRecDepth 100000 in
theorem bs_row (L : Lays.n169 P ρ) (X : Builder.Extra P ρ) (w : World) (b g n cap : Nat) (p r : Value) (W : World) (hch : Chg [g] w W) (hbk : w.heap[b]? = some (.cells #[p, .slice (some ⟨g, 0, none⟩) n cap] (ρ.t 72) (0, 0))) (hcap : cap ≠ 0)
    (hUS : (Builtin.unsafeString_ #[(ρ.t 127), (ρ.t 3)] (ρ.t 9) #[.pointer (some ⟨g, 0, none⟩), .int .i64 n]).run P w.drew = .ok r W) :
    Calls P (ρ.f 169) #[.pointer (some ⟨b, 0, none⟩)] w fun e w' => e = .returned r ∧ Chg [g] w w' := by
  have c1 : w.drew.cell? ⟨b, 1, none⟩ = some (.slice (some ⟨g, 0, none⟩) n cap) := by
    have : w.drew.heap[b]? = some (.cells #[p, .slice (some ⟨g, 0, none⟩) n cap] (ρ.t 72) (0, 0)) := hbk
    rw [Lib.cell_of_heap this]; rfl
  have hSD : (Builtin.unsafeSliceData_ #[(ρ.t 37)] (ρ.t 127) #[.slice (some ⟨g, 0, none⟩) n cap]).run P w.drew = .ok (.pointer (some ⟨g, 0, none⟩)) w.drew := Lib.run_unsafeSliceData_row _ _ _ _ _ _ hcap
  have mixed := L.mixed
  have t72 := L.t72; have a72 := L.a72; have z72 := L.z72; have v72 := L.v72; have u72 := run_underlying L.t72
  have t70 := L.t70; have a70 := L.a70; have z70 := L.z70; have v70 := L.v70; have u70 := run_underlying L.t70
  have t37 := L.t37; have a37 := L.a37; have z37 := L.z37; have v37 := L.v37; have u37 := run_underlying L.t37
  have t127 := L.t127; have a127 := L.a127; have z127 := L.z127; have v127 := L.v127; have u127 := run_underlying L.t127
  have t3 := L.t3; have a3 := L.a3; have z3 := L.z3; have v3 := L.v3; have u3 := run_underlying L.t3
  have t9 := L.t9; have a9 := L.a9; have z9 := L.z9; have v9 := L.v9; have u9 := run_underlying L.t9
  have t5 := X.t5; have a5 := X.a5; have z5 := X.z5; have v5 := X.v5; have u5 := run_underlying X.t5
  clear hcap
  go_enter L.f169, Body.n169_ntmps ρ
  go_wp2
  go_region_o
  all_goals (go_wp2; go_ret; exact ⟨rfl, hch⟩)
set_option maxHeartbeats 2000000 in
set_option maxRecDepth 100000 in
theorem bs_nil (L : Lays.n169 P ρ) (X : Builder.Extra P ρ) (w : World) (b : Nat) (p : Value) (hbk : w.heap[b]? = some (.cells #[p, .slice none 0 0] (ρ.t 72) (0, 0))) :
    Calls P (ρ.f 169) #[.pointer (some ⟨b, 0, none⟩)] w fun e w' => e = .returned (.string .empty) ∧ Chg [] w w' := by
  have hUS := Any.unsafeString_none L X
  have c1 : w.drew.cell? ⟨b, 1, none⟩ = some (.slice none 0 0) := by
    have : w.drew.heap[b]? = some (.cells #[p, .slice none 0 0] (ρ.t 72) (0, 0)) := hbk
    rw [Lib.cell_of_heap this]; rfl
  have hSD : (Builtin.unsafeSliceData_ #[(ρ.t 37)] (ρ.t 127) #[.slice none 0 0]).run P w.drew = .ok (.pointer none) w.drew := rfl
  have hch : Chg [] w w.drew := Chg.drewN w 1
  have mixed := L.mixed
  have t72 := L.t72; have a72 := L.a72; have z72 := L.z72; have v72 := L.v72; have u72 := run_underlying L.t72
  have t70 := L.t70; have a70 := L.a70; have z70 := L.z70; have v70 := L.v70; have u70 := run_underlying L.t70
  have t37 := L.t37; have a37 := L.a37; have z37 := L.z37; have v37 := L.v37; have u37 := run_underlying L.t37
  have t127 := L.t127; have a127 := L.a127; have z127 := L.z127; have v127 := L.v127; have u127 := run_underlying L.t127
  have t3 := L.t3; have a3 := L.a3; have z3 := L.z3; have v3 := L.v3; have u3 := run_underlying L.t3
  have t9 := L.t9; have a9 := L.a9; have z9 := L.z9; have v9 := L.v9; have u9 := run_underlying L.t9
  have t5 := X.t5; have a5 := X.a5; have z5 := X.z5; have v5 := X.v5; have u5 := run_underlying X.t5
  go_enter L.f169, Body.n169_ntmps ρ
  go_wp2
  go_region_o
  all_goals (go_wp2; go_ret; exact ⟨rfl, hch⟩)
theorem bs_of (L : Lays.n169 P ρ) (X : Builder.Extra P ρ) : BsOK P (ρ.f 169) (ρ.t 72) (ρ.t 5) := by
  intro w b p v M xs hheap hne hown hb
  rcases hown with ⟨rfl, ⟨ao, rfl⟩, h0, h4⟩ | ⟨g, cap, cur, rfl, rfl, hh, h4, h5, h6, h7⟩
  · have hx : xs = [] := List.length_eq_zero_iff.1 h0
    subst hx
    have : ao = none := by
      rcases hne with h | ⟨a, n, c, h, hc⟩
      · simp at h; exact h
      · simp at h; exact absurd h.2.2.symm hc
    subst this
    exact bs_nil L X w b p hheap
  · by_cases hx : xs = []
    · subst hx
      have hcap : cap ≠ 0 := by
        rcases hne with h | ⟨a, n, c, h, hc⟩
        · simp at h
        · simp at h; rw [h.2.2]; exact hc
      refine bs_row L X w b g 0 cap p (.string .empty) w.drew ((Chg.drewN w 1).mono (by simp)) hheap hcap ?_
      exact Any.unsafeString_none L X w.drew (some ⟨g, 0, none⟩)
    · have hpos : 0 < xs.length := List.length_pos_iff.2 hx
      rw [Nat.mul_one] at h6 h7
      obtain ⟨fz, hg, _⟩ := hh
      refine bs_row L X w b g xs.length cap p (.string (strOf xs)) (w.drew.freeze ⟨g, 0, none⟩ xs.length) (freeze_chg w g _) hheap (by omega) ?_
      refine string_row w.drew (ρ.t 127) (ρ.t 3) (ρ.t 9) (ρ.t 5) L.t127 X.cellsByte g cur.size (by have hg' : w.drew.heap[g]? = some (.cells cur (ρ.t 5) fz) := hg; simp [World.shape?, hg']) xs hx (by omega) (by unfold maxLen at h5; omega) ?_
      intro j x hj
      have hlt : j < xs.length := (List.getElem?_eq_some_iff.1 hj).1
      rw [adr_add, Nat.zero_add]
      have hg' : w.drew.heap[g]? = some (.cells cur (ρ.t 5) fz) := hg
      simp only [World.cell?, hg']
      have : cur.toList[j]? = some (.int .u8 x) := by
        have h8 : (cur.toList.take xs.length)[j]? = (xs.map (Value.int .u8))[j]? := by rw [h7]
        rw [List.getElem?_take, if_pos hlt, List.getElem?_map, hj] at h8
        exact h8
      simpa using this
end Go.Den
namespace Go.Den
set_option linter.unusedVariables false
def rngB : (τ : Ty) → D τ → Bool
  | .int k, (n : Int) => decide (k.min ≤ n) && decide (n ≤ k.max)
  | .bool, _ => true
  | .str, (s : ByteArray) => Nat.ble s.size maxLen
  | .sl e, (xs : List (D e)) => Nat.ble xs.length maxLen && xs.all (rngB e)
  | .osl _ e, (xs : List (D e)) => Nat.ble xs.length maxLen && xs.all (rngB e)
  | .obx e, x => rngB e x
  | .err, _ => true
  | .bld _ _, _ => true
  | .nil, _ => true
  | .st f r, x => rngB f x.1 && rngB r x.2
theorem rngB_ok : ∀ (τ : Ty) (x : D τ), rngB τ x = true → Rng τ x
  | .int k, n, h => by
    simp only [rngB, Bool.and_eq_true, decide_eq_true_eq] at h
    cases k <;> exact h
  | .bool, _, _ => trivial
  | .str, s, h => Nat.le_of_ble_eq_true h
  | .sl e, xs, h => by
    simp only [rngB, Bool.and_eq_true] at h
    exact ⟨Nat.le_of_ble_eq_true h.1, fun x hx => rngB_ok e x (List.all_eq_true.1 h.2 x hx)⟩
  | .osl _ e, xs, h => by
    simp only [rngB, Bool.and_eq_true] at h
    exact ⟨Nat.le_of_ble_eq_true h.1, fun x hx => rngB_ok e x (List.all_eq_true.1 h.2 x hx)⟩
  | .obx e, x, h => rngB_ok e x h
  | .err, _, _ => trivial
  | .bld _ _, _, _ => trivial
  | .nil, _, _ => trivial
  | .st f r, x, h => by
    simp only [rngB, Bool.and_eq_true] at h
    exact ⟨rngB_ok f x.1 h.1, rngB_ok r x.2 h.2⟩
end Go.Den
namespace Go.Proofs.YtocnfflklfeocaaGreat
open Go.Den
set_option linter.unusedVariables false
set_option linter.unusedSimpArgs false
set_option maxRecDepth 100000

abbrev Way := Int × Int × Int × Int × Unit
abbrev Piece := Int × Int × Int × (List Way) × Unit
abbrev End := Int × Int × Int × Bool × Unit
abbrev Rules := ByteArray × Int × Int × (List Piece) × (List Int) × Bool × Bool × (List End) × Int × Int × Int × Unit
abbrev Rules.name (r : Rules) : ByteArray := r.1
abbrev Rules.width (r : Rules) : Int := r.2.1
abbrev Rules.height (r : Rules) : Int := r.2.2.1
abbrev Rules.pieces (r : Rules) : List Piece := r.2.2.2.1
abbrev Rules.start (r : Rules) : List Int := r.2.2.2.2.1
abbrev Rules.falls (r : Rules) : Bool := r.2.2.2.2.2.1
abbrev Rules.keeps (r : Rules) : Bool := r.2.2.2.2.2.2.1
abbrev Rules.ends (r : Rules) : List End := r.2.2.2.2.2.2.2.1
abbrev Rules.blocked (r : Rules) : Int := r.2.2.2.2.2.2.2.2.1
abbrev Rules.quiet (r : Rules) : Int := r.2.2.2.2.2.2.2.2.2.1
abbrev Rules.repeats (r : Rules) : Int := r.2.2.2.2.2.2.2.2.2.2.1
abbrev tyWay : Ty := .st (.int .i64) (.st (.int .i64) (.st (.int .i64) (.st (.int .i64) .nil)))
abbrev tyPiece : Ty := .st (.int .u8) (.st (.int .i64) (.st (.int .i64) (.st (.sl tyWay) .nil)))
abbrev tyEnd : Ty := .st (.int .i64) (.st (.int .i64) (.st (.int .i64) (.st .bool .nil)))
abbrev tyRules : Ty := .st .str (.st (.int .i64) (.st (.int .i64) (.st (.sl tyPiece) (.st (.sl (.int .i64)) (.st .bool (.st .bool (.st (.sl tyEnd) (.st (.int .i64) (.st (.int .i64) (.st (.int .i64) .nil))))))))))

/-! ### a loop that looks for the first error -/
def nz (x : Int) : Option Int := if x = 0 then none else some x
def firstNZ (f : Nat → Int) (n : Nat) : Int := scan (fun i => nz (f i)) 0 0 n
theorem firstNZ_zero {f : Nat → Int} {n : Nat} (h : firstNZ f n = 0) : ∀ i, i < n → f i = 0 := by
  have key : ∀ (k i : Nat), scan (fun i => nz (f i)) 0 i k = 0 → ∀ j, i ≤ j → j < i + k → f j = 0 := by
    intro k
    induction k with
    | zero => intro i _ j h1 h2; omega
    | succ k ih =>
      intro i hs j h1 h2
      unfold scan at hs
      by_cases c : f i = 0
      · simp only [nz, if_pos c] at hs
        rcases Nat.eq_or_lt_of_le h1 with e | e
        · rw [← e]; exact c
        · exact ih (i + 1) hs j e (by omega)
      · simp only [nz, if_neg c] at hs
        exact absurd hs c
  exact fun i hi => key n 0 h i (Nat.zero_le _) (by omega)
theorem firstNZ_congr {f g : Nat → Int} {n : Nat} (h : ∀ i, i < n → f i = g i) : firstNZ f n = firstNZ g n :=
  scan_congr 0 n 0 fun j _ hj => by rw [h j (by omega)]
theorem loopNZ {γ : Type} (n : Nat) (f : ((Int × Unit) × Unit) → Option (((Int × Unit) × Unit) ⊕ (γ ⊕ Int))) (err : Nat → Int) (u : γ) (z : Option Int)
    (h1 : ∀ i, i < n → f (((i : Int), ()), ()) = if err i = 0 then some (.inl ((((i + 1 : Nat) : Int), ()), ())) else some (.inr (.inr (err i)))) (h2 : f (((n : Int), ()), ()) = some (.inr (.inl u))) :
    Option.bind (iterW f ((0, ()), ())) (Sum.elim (fun _ => z) some) = if firstNZ err n = 0 then z else some (firstNZ err n) := by
  have key : ∀ k i, i + k = n → Option.bind (iterW f (((i : Int), ()), ())) (Sum.elim (fun _ => z) some) = if scan (fun i => nz (err i)) 0 i k = 0 then z else some (scan (fun i => nz (err i)) 0 i k) := by
    intro k
    induction k with
    | zero =>
      intro i hi
      have : i = n := by omega
      subst this
      rw [iterW_inr h2]
      rfl
    | succ k ih =>
      intro i hi
      have hs := h1 i (by omega)
      unfold scan
      by_cases c : err i = 0
      · rw [if_pos c] at hs
        rw [iterW_inl hs, ih (i + 1) (by omega)]
        have : nz (err i) = none := by simp only [nz, if_pos c]
        rw [this]
      · rw [if_neg c] at hs
        rw [iterW_inr hs]
        have : nz (err i) = some (err i) := by simp only [nz, if_neg c]
        simp only [this, if_neg c]
        rfl
  exact key n 0 (by omega)
/-! ### names -/
def ch (s : ByteArray) (i : Nat) : Nat := ((s[i]?).getD 0).toNat
theorem strAt_eq (s : ByteArray) (i : Nat) (h : i < s.size) : ∃ c : UInt8, strAt s (i : Int) = some c ∧ c.toNat = ch s i := by
  refine ⟨(s[i]?).getD 0, ?_, rfl⟩
  have h0 : decide ((0 : Int) ≤ (i : Int)) = true := by simp
  have : s[i]? = some s[i] := getElem?_pos s i h
  unfold strAt
  rw [h0, cond_true, Int.toNat_natCast, this]
  rfl
theorem ch_lt (s : ByteArray) (i : Nat) : ch s i < 256 := UInt8.toNat_lt _
def nameBad (s : ByteArray) (i : Nat) : Bool := !(decide (65 ≤ ch s i ∧ ch s i ≤ 90) || decide (i ≠ 0 ∧ 48 ≤ ch s i ∧ ch s i ≤ 57))
def nameOk (s : ByteArray) : Bool := !((List.range s.size).any (nameBad s)) && decide (1 ≤ s.size ∧ s.size ≤ 8)
theorem empty_iff (s : ByteArray) : (s.toList == (ByteArray.mk #[]).toList) = decide (s.size = 0) := by
  rw [ByteArray.toList_eq, ByteArray.toList_eq]
  obtain ⟨⟨l⟩⟩ := s
  rw [Bool.eq_iff_iff, beq_iff_eq, decide_eq_true_eq]
  exact List.length_eq_zero_iff.symm
theorem name_spec (s : ByteArray) (hs : s.size ≤ 9223372036854775807) : rulesName s = some (nameOk s) := by
  unfold rulesName nameOk
  have hL := iterW_any (List.range s.size) (nameBad s) (rulesName_L1 s) (.inr false) (.inl ((), ())) (fun i hi => by
    have hi' : i < s.size := by simpa using hi
    obtain ⟨c, h1, h2⟩ := strAt_eq s i hi'
    have hlt := ch_lt s i
    unfold rulesName_L1
    have h3 : (i : Int) < (s.size : Int) := by omega
    have hg : ∀ b, gopt b 0 (some c) = some (bif b then c else 0) := fun b => by cases b <;> rfl
    simp only [h3, decide_true, cond_true, h1, Option.bind_some, hg, List.getElem_range, w64_id (n := (i : Int) + 1) (by omega) (by omega)]
    have hb : nameBad s i = !(decide (65 ≤ c.toNat ∧ c.toNat ≤ 90) || decide (i ≠ 0 ∧ 48 ≤ c.toNat ∧ c.toNat ≤ 57)) := by unfold nameBad; rw [h2]
    rw [hb]
    generalize hn : c.toNat = n at *
    have e0 : ((i : Int) == 0) = decide (i = 0) := by rw [Bool.eq_iff_iff]; simp
    rw [e0]
    by_cases c1 : 65 ≤ n
    · have a1 : decide ((n : Int) ≥ 65) = true := by simp only [decide_eq_true_eq]; omega
      simp only [a1, cond_true, Bool.true_and, hn]
      by_cases c2 : n ≤ 90
      · have a2 : decide ((n : Int) ≤ 90) = true := by simp only [decide_eq_true_eq]; omega
        simp [a2, c1, c2]
      · have a2 : decide ((n : Int) ≤ 90) = false := by simp only [decide_eq_false_iff_not]; omega
        have a3 : decide ((n : Int) < 48) = false := by simp only [decide_eq_false_iff_not]; omega
        have a4 : decide ((n : Int) > 57) = true := by simp only [decide_eq_true_eq]; omega
        have a5 : ¬ n ≤ 57 := by omega
        by_cases c3 : i = 0
        · simp [a2, c1, c2, c3]
        · simp [a2, a3, a4, a5, c1, c2, c3, hn]
    · have a1 : decide ((n : Int) ≥ 65) = false := by simp only [decide_eq_false_iff_not]; omega
      by_cases c3 : i = 0
      · simp [a1, c1, c3]
      · by_cases c4 : 48 ≤ n
        · have a3 : decide ((n : Int) < 48) = false := by simp only [decide_eq_false_iff_not]; omega
          by_cases c5 : n ≤ 57
          · have a4 : decide ((n : Int) > 57) = false := by simp only [decide_eq_false_iff_not]; omega
            simp [a1, a3, a4, c1, c3, c4, c5, hn]
          · have a4 : decide ((n : Int) > 57) = true := by simp only [decide_eq_true_eq]; omega
            simp [a1, a3, a4, c1, c3, c4, c5, hn]
        · have a3 : decide ((n : Int) < 48) = true := by simp only [decide_eq_true_eq]; omega
          simp [a1, a3, c1, c3, c4, hn]) (by unfold rulesName_L1; simp)
  rw [hL, empty_iff]
  cases (List.range s.size).any (nameBad s) with
  | true => rfl
  | false =>
    simp only [cond_false, Option.bind_some, Sum.elim_inl, Bool.not_false, Bool.true_and, Option.some.injEq]
    rw [Bool.eq_iff_iff]
    simp only [Bool.and_eq_true, Bool.not_eq_true', decide_eq_false_iff_not, decide_eq_true_eq]
    omega
/-! ### pieces -/
def badWay (w : Way) : Bool := ((((!(rulesWithin w.1 (-7 : Int) (7 : Int))) || (!(rulesWithin w.2.1 (-7 : Int) (7 : Int)))) || ((w.1 == (0 : Int)) && (w.2.1 == (0 : Int)))) || (!(rulesWithin w.2.2.1 (1 : Int) (7 : Int)))) || (!(rulesWithin w.2.2.2.1 (0 : Int) (2 : Int)))
def pErr (l : List Piece) (i : Nat) : Int := match l[i]? with
  | none => 0
  | some p => bif decide (p.1 < 65) || decide (p.1 > 90) then 6 else bif (l.take i).any (fun q => q.1 == p.1) then 7
    else bif (!(rulesWithin p.2.1 0 64)) || (!(rulesWithin p.2.2.1 0 ((l.length : Nat) : Int))) then 4 else bif decide (((p.2.2.2.1.length : Nat) : Int) > 16) then 2 else bif p.2.2.2.1.any badWay then 4 else 0
theorem take_len {α : Type} (l : List α) {i : Nat} (h : i ≤ l.length) : ((l.take i).drop 0).length = i := by simp; omega
theorem pieces_spec (r : Rules) : rulesPieces r = some (if r.pieces.length = 0 then 8 else if 6 < r.pieces.length then 2 else firstNZ (pErr r.pieces) r.pieces.length) := by
  unfold rulesPieces
  by_cases c0 : r.pieces.length = 0
  · have : (((r.pieces.length : Nat) : Int) == 0) = true := beq_t (by omega)
    rw [this, if_pos c0]
    rfl
  · have : (((r.pieces.length : Nat) : Int) == 0) = false := beq_f (by omega)
    rw [this, if_neg c0, cond_false]
    by_cases c1 : 6 < r.pieces.length
    · have : decide (((r.pieces.length : Nat) : Int) > 6) = true := by simp only [decide_eq_true_eq]; omega
      rw [this, if_pos c1]
      rfl
    · have : decide (((r.pieces.length : Nat) : Int) > 6) = false := by simp only [decide_eq_false_iff_not]; omega
      rw [this, if_neg c1, cond_false]
      rw [loopNZ r.pieces.length (rulesPieces_L1 r) (pErr r.pieces) ((), ()) (some 0) (fun i hi => ?_) (by unfold rulesPieces_L1; simp)]
      · split
        · rename_i h; rw [h]
        · rfl
      · unfold rulesPieces_L1
        have h1 : (i : Int) < (r.pieces.length : Int) := by omega
        have hg : r.pieces[i]? = some r.pieces[i] := List.getElem?_eq_getElem hi
        have hb : boundsI 0 (i : Int) r.pieces.length = true := by unfold boundsI; simp only [Bool.and_eq_true, decide_eq_true_eq]; omega
        simp only [h1, decide_true, cond_true, at?_eq r.pieces (i : Int) (by omega) h1, Option.bind_some, Int.toNat_natCast, hb, req_true, w64_id (n := (i : Int) + 1) (by omega) (by omega)]
        unfold pErr
        rw [hg]
        generalize hp : r.pieces[i] = p
        simp only
        cases hA : (decide (p.1 < 65) || decide (p.1 > 90)) with
        | true => simp
        | false =>
          have hL2 := iterW_any ((r.pieces.take i).drop 0) (fun q => q.1 == p.1) (rulesPieces_L2 r (((i : Int), ()), ()) p) (.inr (.inr (.inr (.inr (7 : Int))))) (.inl ((), ())) (fun j hj => by
            have hj' : j < i := by rw [take_len _ (by omega)] at hj; exact hj
            unfold rulesPieces_L2
            have h2 : (j : Int) < ((((r.pieces.take i).drop 0).length : Nat) : Int) := by omega
            have h3 : (j : Int) ≥ 0 := by omega
            simp only [Int.toNat_natCast, h2, decide_true, cond_true, at?_eq ((r.pieces.take i).drop 0) (j : Int) (by omega) h2, Option.bind_some, h3, w64_id (n := (j : Int) + 1) (by omega) (by omega)]
            rfl) (by unfold rulesPieces_L2; simp)
          rw [hL2]
          simp only [List.drop_zero, cond_false, Option.bind_some]
          cases hB : (r.pieces.take i).any (fun q => q.1 == p.1) with
          | true => simp
          | false =>
            simp only [cond_false, Sum.elim_inl]
            cases hC : ((!(rulesWithin p.2.1 0 64)) || (!(rulesWithin p.2.2.1 0 ((r.pieces.length : Nat) : Int)))) with
            | true => simp
            | false =>
              simp only [cond_false]
              by_cases cD : ((p.2.2.2.1.length : Nat) : Int) > 16
              · simp [cD]
              · have hL4 := iterW_any p.2.2.2.1 badWay (rulesPieces_L4 p) (.inr (.inr (.inr (.inr (4 : Int))))) (.inl ((), ())) (fun j hj => by
                  unfold rulesPieces_L4
                  have h2 : (j : Int) < ((p.2.2.2.1.length : Nat) : Int) := by omega
                  simp only [h2, decide_true, cond_true, at?_eq p.2.2.2.1 (j : Int) (by omega) h2, Option.bind_some, Int.toNat_natCast, w64_id (n := (j : Int) + 1) (by omega) (by omega)]
                  rfl) (by unfold rulesPieces_L4; simp)
                simp only [cD, decide_false, cond_false, hL4, Option.bind_some]
                cases p.2.2.2.1.any badWay <;> simp
/-! ### the start, the ends, the rest -/
def sErr (r : Rules) (i : Nat) : Int := bif rulesWithin (r.start.getD i 0) 0 (2 * ((r.pieces.length : Nat) : Int)) then 0 else 4
def eErr (r : Rules) (i : Nat) : Int := match r.ends[i]? with
  | none => 0
  | some x => bif !(rulesWithin x.1 0 2) then 1 else
    bif (!(bif x.1 == 1 then x.2.2.1 == 0 else rulesWithin x.2.2.1 1 64)) || (!(bif x.1 == 0 then x.2.1 == 0 else rulesWithin x.2.1 0 (((r.pieces.length : Nat) : Int) - 1))) then 4 else 0
def lastErr (r : Rules) : Int := bif (((!(rulesWithin r.blocked (0 : Int) (2 : Int))) || (!(rulesWithin r.quiet (0 : Int) (200 : Int)))) || ((r.repeats != (0 : Int)) && (!(rulesWithin r.repeats (2 : Int) (5 : Int))))) then 4 else 0
def endsErr (r : Rules) : Int := if 6 < r.ends.length then 2 else firstNZ (eErr r) r.ends.length
def ruleErr (r : Rules) : Int :=
  if nameOk r.name = false then 6 else
  if ¬ ((1 ≤ r.width ∧ r.width ≤ 8) ∧ 1 ≤ r.height ∧ r.height ≤ 8) then 4 else
  if r.pieces.length = 0 then 8 else if 6 < r.pieces.length then 2 else
  if firstNZ (pErr r.pieces) r.pieces.length ≠ 0 then firstNZ (pErr r.pieces) r.pieces.length else
  if ((r.start.length : Nat) : Int) ≠ r.width * r.height then 3 else
  if firstNZ (sErr r) r.start.length ≠ 0 then firstNZ (sErr r) r.start.length else
  if endsErr r ≠ 0 then endsErr r else lastErr r
theorem within_iff {n a b : Int} : rulesWithin n a b = true ↔ a ≤ n ∧ n ≤ b := by unfold rulesWithin; simp
theorem conditions_spec (r : Rules) (hl : r.pieces.length ≤ 1000) : rulesConditions r = some (endsErr r) := by
  unfold rulesConditions endsErr
  by_cases c : 6 < r.ends.length
  · have : decide (((r.ends.length : Nat) : Int) > 6) = true := by simp only [decide_eq_true_eq]; omega
    rw [this, if_pos c]
    rfl
  · have : decide (((r.ends.length : Nat) : Int) > 6) = false := by simp only [decide_eq_false_iff_not]; omega
    rw [this, if_neg c, cond_false]
    rw [loopNZ r.ends.length (rulesConditions_L1 r) (eErr r) ((), ()) (some 0) (fun i hi => ?_) (by unfold rulesConditions_L1; simp)]
    · split
      · rename_i h; rw [h]
      · rfl
    · unfold rulesConditions_L1 eErr
      have h1 : (i : Int) < (r.ends.length : Int) := by omega
      have hg : r.ends[i]? = some r.ends[i] := List.getElem?_eq_getElem hi
      rw [hg]
      simp only [h1, decide_true, cond_true, at?_eq r.ends (i : Int) (by omega) h1, Option.bind_some, Int.toNat_natCast, w64_id (n := (i : Int) + 1) (by omega) (by omega), w64_id (n := ((r.pieces.length : Nat) : Int) - 1) (by omega) (by omega)]
      generalize r.ends[i] = x
      by_cases k0 : x.1 = 0
      · have : rulesWithin x.1 0 2 = true := within_iff.2 (by omega)
        have k1 : (x.1 == 1) = false := beq_f (by omega)
        simp only [this, beq_t k0, k1, cond_true, cond_false, Option.bind_some, Sum.elim_inl, Bool.not_true]
        cases rulesWithin x.2.2.1 1 64 <;> cases (x.2.1 == 0) <;> simp
      · by_cases k1 : x.1 = 1
        · have : rulesWithin x.1 0 2 = true := within_iff.2 (by omega)
          simp only [this, beq_f k0, beq_t k1, cond_true, cond_false, Option.bind_some, Sum.elim_inl, Bool.not_true]
          cases (x.2.2.1 == 0) <;> cases rulesWithin x.2.1 0 (((r.pieces.length : Nat) : Int) - 1) <;> simp
        · by_cases k2 : x.1 = 2
          · have : rulesWithin x.1 0 2 = true := within_iff.2 (by omega)
            simp only [this, beq_f k0, beq_f k1, beq_t k2, cond_true, cond_false, Option.bind_some, Sum.elim_inl, Bool.not_true]
            cases rulesWithin x.2.2.1 1 64 <;> cases rulesWithin x.2.1 0 (((r.pieces.length : Nat) : Int) - 1) <;> simp
          · have : rulesWithin x.1 0 2 = false := by
              rw [Bool.eq_false_iff]
              intro h
              have := within_iff.1 h
              omega
            simp only [this, beq_f k0, beq_f k1, beq_f k2, cond_true, cond_false, Option.bind_some, Sum.elim_inr, Bool.not_false]
            rfl
theorem check_spec (r : Rules) (hr : Rng tyRules r) : rulesCheck r = some (ruleErr r) := by
  have hname : r.name.size ≤ 9223372036854775807 := Nat.le_trans hr.1 (by decide)
  have hstart : r.start.length ≤ 9223372036854775807 := Nat.le_trans hr.2.2.2.2.1.1 (by decide)
  have hP : r.2.2.2.1.length = r.pieces.length := rfl
  have hW : r.2.1 * r.2.2.1 = r.width * r.height := rfl
  have hE : r.2.2.2.2.2.2.2.1.length = r.ends.length := rfl
  unfold rulesCheck ruleErr
  rw [name_spec r.name hname, pieces_spec r]
  simp only [Option.bind_some]
  cases nameOk r.name with
  | false => rfl
  | true =>
    simp only [Bool.not_true, cond_false, Bool.true_eq_false, if_false]
    by_cases cw : (1 ≤ r.width ∧ r.width ≤ 8) ∧ 1 ≤ r.height ∧ r.height ≤ 8
    · have e1 : ((!(rulesWithin r.2.1 1 8)) || (!(rulesWithin r.2.2.1 1 8))) = false := by
        rw [within_iff.2 cw.1, within_iff.2 cw.2]
        rfl
      have e2 : ¬ ¬ ((1 ≤ r.width ∧ r.width ≤ 8) ∧ 1 ≤ r.height ∧ r.height ≤ 8) := fun h => h cw
      simp only [e1, if_neg e2, cond_false]
      by_cases c0 : r.pieces.length = 0
      · simp only [if_pos c0]
        rfl
      · by_cases c6 : 6 < r.pieces.length
        · simp only [if_neg c0, if_pos c6]
          rfl
        · simp only [if_neg c0, if_neg c6]
          by_cases cp : firstNZ (pErr r.pieces) r.pieces.length = 0
          · have hwh : w64 (r.2.1 * r.2.2.1) = r.width * r.height := by
              have h1 : r.width * r.height ≤ 8 * 8 := Int.mul_le_mul cw.1.2 cw.2.2 (by omega) (by omega)
              have h2 : 0 ≤ r.width * r.height := Int.mul_nonneg (by omega) (by omega)
              exact w64_id (by omega) (by omega)
            rw [cp, if_neg (fun h => h rfl), hwh]
            simp only [bne_self_eq_false, cond_false]
            by_cases cs : ((r.start.length : Nat) : Int) = r.width * r.height
            · rw [bne_f cs, if_neg (fun h => h cs), cond_false]
              rw [loopNZ r.start.length (rulesCheck_L1 r) (sErr r) ((), ()) _ (fun i hi => ?_) (by unfold rulesCheck_L1; simp)]
              · rw [conditions_spec r (by omega)]
                by_cases cse : firstNZ (sErr r) r.start.length = 0
                · rw [if_pos cse, if_neg (fun h => h cse)]
                  simp only [Option.bind_some]
                  by_cases ce : endsErr r = 0
                  · rw [ce, if_neg (fun h => h rfl)]
                    simp only [bne_self_eq_false, cond_false]
                    unfold lastErr
                    exact cond_some _ _ _
                  · rw [if_pos ce, bne_t ce]
                    rfl
                · rw [if_neg cse, if_pos cse]
              · unfold rulesCheck_L1 sErr
                have h1 : (i : Int) < (r.start.length : Int) := by omega
                have h3 : (i : Int) ≥ 0 := by omega
                have hgd : r.start.getD i 0 = r.start[i] := by simp [List.getD_eq_getElem?_getD, List.getElem?_eq_getElem hi]
                simp only [h1, decide_true, cond_true, at?_eq r.start (i : Int) (by omega) h1, Option.bind_some, Int.toNat_natCast, h3, w64_id (n := (i : Int) + 1) (by omega) (by omega), w64_id (n := 2 * ((r.pieces.length : Nat) : Int)) (by omega) (by omega), hgd]
                cases rulesWithin r.start[i] 0 (2 * ((r.pieces.length : Nat) : Int)) <;> simp
            · rw [bne_t cs, if_pos cs]
              rfl
          · rw [bne_t cp, if_pos cp]
            rfl
    · have e1 : ((!(rulesWithin r.2.1 1 8)) || (!(rulesWithin r.2.2.1 1 8))) = true := by
        rw [Bool.or_eq_true, Bool.not_eq_true', Bool.not_eq_true']
        by_cases k : rulesWithin r.2.1 1 8 = true
        · right
          rw [Bool.eq_false_iff]
          intro k2
          exact cw ⟨within_iff.1 k, within_iff.1 k2⟩
        · left
          exact Bool.eq_false_iff.2 k
      rw [e1, if_pos cw]
      rfl
end Go.Proofs.YtocnfflklfeocaaGreat
namespace Go.Den
set_option linter.unusedVariables false
set_option linter.unusedSimpArgs false

def foldN {A : Type} (g : Nat → A → A) : Nat → A → A
  | 0, a => a
  | n + 1, a => g n (foldN g n a)
theorem iter_fold {A R : Type} (n : Nat) (f : ((A × Int × Unit) × Unit) → Option (((A × Int × Unit) × Unit) ⊕ R)) (g : Nat → A → A) (fin : A → R) (I : Nat → A → Prop) (a0 : A) (h0 : I 0 a0)
    (hs : ∀ i, i < n → ∀ a, I i a → f ((a, (i : Int), ()), ()) = some (.inl ((g i a, ((i : Int) + 1), ()), ())) ∧ I (i + 1) (g i a)) (he : ∀ a, I n a → f ((a, (n : Int), ()), ()) = some (.inr (fin a))) :
    iterW f ((a0, (0 : Int), ()), ()) = some (fin (foldN g n a0)) := by
  have hI : ∀ i, i ≤ n → I i (foldN g i a0) := fun i => by
    induction i with
    | zero => intro _; exact h0
    | succ i ih => intro hi; exact (hs i (by omega) _ (ih (by omega))).2
  have := iterW_states (f := f) n (fun i => ((foldN g i a0, (i : Int), ()), ())) (fin (foldN g n a0)) (fun i hi => by
    rw [(hs i hi _ (hI i (by omega))).1]
    simp [foldN]) (he _ (hI n (Nat.le_refl _)))
  exact this
theorem foldN_app {A : Type} (F : Nat → List A) : ∀ (n : Nat) (a : List A), foldN (fun i a => a ++ F i) n a = a ++ (List.range n).flatMap F
  | 0, a => by simp [foldN]
  | n + 1, a => by rw [foldN, foldN_app F n, List.range_succ]; simp
/-- a loop that appends -/
theorem iter_app {A R : Type} (n B : Nat) (f : (((List A) × Int × Unit) × Unit) → Option ((((List A) × Int × Unit) × Unit) ⊕ R)) (F : Nat → List A) (fin : List A → R) (a0 : List A) (hF : ∀ i, i < n → (F i).length ≤ B)
    (hs : ∀ i, i < n → ∀ a : List A, a.length ≤ a0.length + i * B → f ((a, (i : Int), ()), ()) = some (.inl ((a ++ F i, ((i : Int) + 1), ()), ()))) (he : ∀ a, f ((a, (n : Int), ()), ()) = some (.inr (fin a))) :
    iterW f ((a0, (0 : Int), ()), ()) = some (fin (a0 ++ (List.range n).flatMap F)) := by
  rw [← foldN_app]
  refine iter_fold n f (fun i a => a ++ F i) fin (fun i a => a.length ≤ a0.length + i * B) a0 (by simp) (fun i hi a ha => ⟨hs i hi a ha, ?_⟩) (fun a _ => he a)
  have := hF i hi
  rw [List.length_append, Nat.add_mul]
  omega
theorem flatMap_len {A C : Type} (F : C → List A) (B : Nat) : ∀ l : List C, (∀ x ∈ l, (F x).length ≤ B) → (l.flatMap F).length ≤ l.length * B
  | [], _ => by simp
  | x :: l, h => by
    have := flatMap_len F B l (fun y hy => h y (List.mem_cons_of_mem _ hy))
    have := h x List.mem_cons_self
    rw [List.flatMap_cons, List.length_append, List.length_cons, Nat.add_mul]
    omega
theorem foldN_all {A : Type} (xs : List A) (q : A → Bool) (b0 : Bool) : ∀ n, n ≤ xs.length → foldN (fun i b => b && ((xs[i]?).map q).getD true) n b0 = (b0 && (xs.take n).all q)
  | 0, _ => by simp [foldN]
  | n + 1, h => by
    have hn : n < xs.length := by omega
    rw [foldN, foldN_all xs q b0 n (by omega), List.getElem?_eq_getElem hn, List.take_succ_eq_append_getElem hn, List.all_append]
    simp [Bool.and_assoc]
/-- a loop that asks of all elements -/
theorem iter_all {A R : Type} (xs : List A) (q : A → Bool) (f : ((Bool × Int × Unit) × Unit) → Option (((Bool × Int × Unit) × Unit) ⊕ R)) (fin : Bool → R) (b0 : Bool)
    (hs : ∀ (i : Nat) (hi : i < xs.length) (b : Bool), f ((b, (i : Int), ()), ()) = some (.inl ((b && q xs[i], ((i : Int) + 1), ()), ()))) (he : ∀ b, f ((b, (xs.length : Int), ()), ()) = some (.inr (fin b))) :
    iterW f ((b0, (0 : Int), ()), ()) = some (fin (b0 && xs.all q)) := by
  have := foldN_all xs q b0 xs.length (Nat.le_refl _)
  rw [List.take_length] at this
  rw [← this]
  refine iter_fold xs.length f _ fin (fun _ _ => True) b0 trivial (fun i hi b _ => ⟨?_, trivial⟩) (fun b _ => he b)
  rw [hs i hi b, List.getElem?_eq_getElem hi]
  rfl
/-- a loop that counts -/
theorem iter_count {A R : Type} (xs : List A) (q : A → Bool) (f : ((Int × Int × Unit) × Unit) → Option (((Int × Int × Unit) × Unit) ⊕ R)) (fin : Int → R)
    (hs : ∀ (i : Nat) (hi : i < xs.length) (c : Int), 0 ≤ c → c ≤ i → f ((c, (i : Int), ()), ()) = some (.inl (((bif q xs[i] then c + 1 else c), ((i : Int) + 1), ()), ()))) (he : ∀ c, f ((c, (xs.length : Int), ()), ()) = some (.inr (fin c))) :
    iterW f (((0 : Int), (0 : Int), ()), ()) = some (fin ((xs.countP q : Nat) : Int)) := by
  have hf : ∀ n, n ≤ xs.length → foldN (fun i (c : Int) => bif ((xs[i]?).map q).getD false then c + 1 else c) n 0 = (((xs.take n).countP q : Nat) : Int) := fun n => by
    induction n with
    | zero => intro _; simp [foldN]
    | succ n ih =>
      intro h
      have hn : n < xs.length := by omega
      rw [foldN, ih (by omega), List.getElem?_eq_getElem hn, List.take_succ_eq_append_getElem hn, List.countP_append]
      simp only [Option.map_some, Option.getD_some, List.countP_cons, List.countP_nil]
      cases q xs[n] <;> simp
  have := hf xs.length (Nat.le_refl _)
  rw [List.take_length] at this
  rw [← this]
  refine iter_fold xs.length f _ fin (fun i c => 0 ≤ c ∧ c ≤ i) 0 (by simp) (fun i hi c hc => ⟨?_, ?_⟩) (fun b _ => he b)
  · rw [hs i hi c hc.1 hc.2, List.getElem?_eq_getElem hi]
    rfl
  · cases ((xs[i]?).map q).getD false <;> simp <;> omega
/-- a walk over a list that may stop -/
def scanL {A S R : Type} (g : S → A → S ⊕ R) (fin : S → R) : List A → S → R
  | [], s => fin s
  | x :: xs, s => match g s x with
    | .inl s' => scanL g fin xs s'
    | .inr r => r
theorem iter_scan {A S T R : Type} (xs : List A) (f : T → Option (T ⊕ R)) (st : Nat → S → T) (g : S → A → S ⊕ R) (fin : S → R) (I : Nat → S → Prop)
    (hs : ∀ i (hi : i < xs.length) s, I i s → f (st i s) = match g s xs[i] with
      | .inl s' => some (.inl (st (i + 1) s'))
      | .inr r => some (.inr r))
    (hI : ∀ i (hi : i < xs.length) s s', I i s → g s xs[i] = .inl s' → I (i + 1) s')
    (he : ∀ s, I xs.length s → f (st xs.length s) = some (.inr (fin s))) (s0 : S) (h0 : I 0 s0) :
    iterW f (st 0 s0) = some (scanL g fin xs s0) := by
  have key : ∀ k i s, i + k = xs.length → I i s → iterW f (st i s) = some (scanL g fin (xs.drop i) s) := by
    intro k
    induction k with
    | zero =>
      intro i s hi hs'
      have : i = xs.length := by omega
      subst this
      rw [iterW_inr (he s hs'), List.drop_length]
      rfl
    | succ k ih =>
      intro i s hi hs'
      have hl : i < xs.length := by omega
      have h1 := hs i hl s hs'
      have h2 := hI i hl s
      rw [List.drop_eq_getElem_cons hl]
      unfold scanL
      match hg : g s xs[i] with
      | .inl s' =>
        rw [hg] at h1
        rw [iterW_inl h1, ih (i + 1) s' (by omega) (h2 s' hs' hg)]
      | .inr r =>
        rw [hg] at h1
        rw [iterW_inr h1]
  have := key xs.length 0 s0 (by omega) h0
  rwa [List.drop_zero] at this
/-- a walk that does not stop -/
theorem scanL_inl {A S R : Type} (g : S → A → S ⊕ R) (g' : S → A → S) (fin : S → R) : ∀ (xs : List A) (s : S), (∀ s x, x ∈ xs → g s x = .inl (g' s x)) → scanL g fin xs s = fin (xs.foldl g' s)
  | [], _, _ => rfl
  | x :: xs, s, h => by
    unfold scanL
    rw [h s x List.mem_cons_self]
    exact scanL_inl g g' fin xs _ fun s y hy => h s y (List.mem_cons_of_mem _ hy)
theorem Le.iterW {T α : Type} {f g : T → Option (T ⊕ α)} (h : ∀ x, Le (f x) (g x)) (x : T) : Le (Go.Den.iterW f x) (Go.Den.iterW g x) := fun r hr => by
  obtain ⟨n, hn⟩ := iterW_inv hr
  exact Le.iter h n x r hn
theorem Le.agreeW {α : Type} {a b a' b' : Option α} (h : Le a a') (h' : Le b b') : Le (Go.Den.agree a b) (Go.Den.agree a' b') := fun r hr => by
  unfold Go.Den.agree at hr ⊢
  split at hr
  · rename_i e
    rw [h r hr, h' r (e ▸ hr), if_pos rfl]
  · cases hr
/-- a recursion that computes s -/
theorem fixW_ind {T α : Type} {G : (T → Option α) → T → Option α} (hG : Mono G) (I : T → Prop) (μ : T → Nat) (s : T → α)
    (h : ∀ φ x, I x → (∀ y, I y → μ y < μ x → φ y = some (s y)) → G φ x = some (s x)) : ∀ x, I x → fixW G x = some (s x) := by
  have a2 : ∀ n x, I x → μ x < n → fixN G n x = some (s x) := by
    intro n
    induction n with
    | zero => intro x _ hl; omega
    | succ n ih => intro x hx hl; exact h _ x hx fun y hy hm => ih y hy (by omega)
  intro x hx
  exact Le.fix (fun φ ψ hs y => hG φ ψ hs y) hG (μ x + 1) x _ (a2 _ x hx (Nat.lt_succ_self _))
end Go.Den
namespace Go.Proofs.YtocnfflklfeocaaGreat
open Go.Den
set_option linter.unusedVariables false
set_option linter.unusedSimpArgs false
set_option maxRecDepth 100000

abbrev Place := (List Int) × ((List Int) × (List Int) × Unit) × Int × Int × Unit
abbrev Place.cells (p : Place) : List Int := p.1
abbrev Place.h0 (p : Place) : List Int := p.2.1.1
abbrev Place.h1 (p : Place) : List Int := p.2.1.2.1
abbrev Place.turn (p : Place) : Int := p.2.2.1
abbrev Place.quiet (p : Place) : Int := p.2.2.2.1
abbrev tyPlace : Ty := .st (.sl (.int .i64)) (.st (.st (.sl (.int .i64)) (.st (.sl (.int .i64)) .nil)) (.st (.int .i64) (.st (.int .i64) .nil)))
theorem agree_self {α : Type} (x : Option α) : agree x x = x := by simp [agree]
theorem clone_ok (s : List Int) (h : s.length ≤ 1000000) : slicesClone_int s = some s := by
  unfold slicesClone_int
  have : room (([] : List Int).length + s.length) 8 = true := room_ok (by simp; omega)
  rw [this]
  cases s with
  | nil => simp [req_true, agree_self]
  | cons a l => simp [req_true]
theorem concat2 (a b : List Int) (ha : a.length ≤ 1000) (hb : b.length ≤ 1000) : slicesConcat_int [a, b] = some (a ++ b) := by
  have w1 : w64 (0 + ((a.length : Nat) : Int)) = (a.length : Int) := by rw [Int.zero_add]; exact w64_id (by omega) (by omega)
  have w2 : w64 ((a.length : Int) + ((b.length : Nat) : Int)) = ((a.length + b.length : Nat) : Int) := by rw [w64_id (by omega) (by omega)]; omega
  have w3 : w64 ((0 : Int) + 1) = 1 := by decide
  have w4 : w64 ((1 : Int) + 1) = 2 := by decide
  have g0 : at? [a, b] 0 = some a := rfl
  have g1 : at? [a, b] 1 = some b := rfl
  have l1 : iterW (slicesConcat_int_L1 [a, b]) (((0 : Int), (0 : Int), ()), ()) = some (((((a.length + b.length : Nat) : Int)), ()), ()) := by
    have s0 : slicesConcat_int_L1 [a, b] (((0 : Int), (0 : Int), ()), ()) = some (.inl ((((a.length : Nat) : Int), (1 : Int), ()), ())) := by
      unfold slicesConcat_int_L1
      simp only [g0, w1, w3, Option.bind_some]
      rw [show decide (((a.length : Nat) : Int) < 0) = false by simp]
      rfl
    have s1 : slicesConcat_int_L1 [a, b] ((((a.length : Nat) : Int), (1 : Int), ()), ()) = some (.inl ((((a.length + b.length : Nat) : Int), (2 : Int), ()), ())) := by
      unfold slicesConcat_int_L1
      simp only [g1, w2, w4, Option.bind_some]
      rw [show decide (((a.length + b.length : Nat) : Int) < 0) = false by simp; omega]
      rfl
    have s2 : slicesConcat_int_L1 [a, b] ((((a.length + b.length : Nat) : Int), (2 : Int), ()), ()) = some (.inr ((((a.length + b.length : Nat) : Int), ()), ())) := rfl
    rw [iterW_inl s0, iterW_inl s1, iterW_inr s2]
  have l2 : iterW (slicesConcat_int_L2 [a, b]) ((([] : List Int), (0 : Int), ()), ()) = some ((a ++ b, ()), ()) := by
    have s0 : slicesConcat_int_L2 [a, b] ((([] : List Int), (0 : Int), ()), ()) = some (.inl ((a, (1 : Int), ()), ())) := by
      unfold slicesConcat_int_L2
      simp only [g0, w3, Option.bind_some]
      rw [room_ok (by simp; omega)]
      rfl
    have s1 : slicesConcat_int_L2 [a, b] ((a, (1 : Int), ()), ()) = some (.inl ((a ++ b, (2 : Int), ()), ())) := by
      unfold slicesConcat_int_L2
      simp only [g1, w4, Option.bind_some]
      rw [room_ok (by omega)]
      rfl
    have s2 : slicesConcat_int_L2 [a, b] ((a ++ b, (2 : Int), ()), ()) = some (.inr ((a ++ b, ()), ())) := rfl
    rw [iterW_inl s0, iterW_inl s1, iterW_inr s2]
  unfold slicesConcat_int
  simp only [l1, Option.bind_some]
  rw [show decide (((a.length + b.length : Nat) : Int) < 0) = false by simp; omega]
  have w5 : w64 (((a.length + b.length : Nat) : Int) - 0) = ((a.length + b.length : Nat) : Int) := by rw [Int.sub_zero]; exact w64_id (by omega) (by omega)
  simp only [w5, cond_false]
  by_cases c : a.length + b.length = 0
  · rw [c]
    simp only [Int.natCast_zero, show decide ((0 : Int) > 0) = false by decide, cond_false, Option.bind_some]
    rw [l2]
    rfl
  · have c1 : decide (((a.length + b.length : Nat) : Int) > 0) = true := by simp; omega
    have c2 : decide (0 < ((a.length + b.length : Nat) : Int)) = true := by simp; omega
    have c3 : room ((((a.length + b.length : Nat) : Int)).toNat) 8 = true := room_ok (by omega)
    have c4 : ∀ l : List Int, boundsI 0 0 l.length = true := fun l => by simp [boundsI]
    simp only [c1, c2, c3, c4, cond_true, Bool.and_self, req_true, Option.bind_some, List.take_zero]
    rw [l2]
    rfl

def outC (r : Rules) (d : Int) : Bool := decide (d < 0) || decide (d > 2 * ((r.pieces.length : Nat) : Int))
def outH (d : Int) : Bool := decide (d < 0) || decide (d > 1000)
def outT (p : Place) : Bool := (((p.turn != 0) && (p.turn != 1)) || decide (p.quiet < 0)) || decide (p.quiet > 200)
def placeBad (r : Rules) (p : Place) : Bool := p.cells.any (outC r) || ((p.h0 ++ p.h1).any outH || outT p)
def formBad (r : Rules) (p : Place) : Bool := ((((p.cells.length : Nat) : Int) != r.width * r.height) || (((p.h0.length : Nat) : Int) != ((r.pieces.length : Nat) : Int))) || (((p.h1.length : Nat) : Int) != ((r.pieces.length : Nat) : Int))
def placeErr (r : Rules) (p : Place) : Int := if ruleErr r ≠ 0 then ruleErr r else bif formBad r p then 3 else bif placeBad r p then 4 else 0

structure VR0 (r : Rules) : Prop where
  w1 : 1 ≤ r.width
  w8 : r.width ≤ 8
  h1 : 1 ≤ r.height
  h8 : r.height ≤ 8
  t1 : 1 ≤ r.pieces.length
  t6 : r.pieces.length ≤ 6
  hand : ∀ q ∈ r.pieces, 0 ≤ q.2.1 ∧ q.2.1 ≤ 64
  prom : ∀ q ∈ r.pieces, 0 ≤ q.2.2.1 ∧ q.2.2.1 ≤ ((r.pieces.length : Nat) : Int)
  ways : ∀ q ∈ r.pieces, q.2.2.2.1.length ≤ 16
  way : ∀ q ∈ r.pieces, ∀ w ∈ q.2.2.2.1, (-7 ≤ w.1 ∧ w.1 ≤ 7) ∧ (-7 ≤ w.2.1 ∧ w.2.1 ≤ 7) ∧ ¬ (w.1 = 0 ∧ w.2.1 = 0) ∧ (1 ≤ w.2.2.1 ∧ w.2.2.1 ≤ 7) ∧ (0 ≤ w.2.2.2.1 ∧ w.2.2.2.1 ≤ 2)
  start : ((r.start.length : Nat) : Int) = r.width * r.height
  startC : ∀ c ∈ r.start, 0 ≤ c ∧ c ≤ 2 * ((r.pieces.length : Nat) : Int)
  ends6 : r.ends.length ≤ 6
  ends : ∀ x ∈ r.ends, (0 ≤ x.1 ∧ x.1 ≤ 2) ∧ (if x.1 = 1 then x.2.2.1 = 0 else 1 ≤ x.2.2.1 ∧ x.2.2.1 ≤ 64) ∧ (if x.1 = 0 then x.2.1 = 0 else 0 ≤ x.2.1 ∧ x.2.1 ≤ ((r.pieces.length : Nat) : Int) - 1)
  blocked : 0 ≤ r.blocked ∧ r.blocked ≤ 2
  quiet : 0 ≤ r.quiet ∧ r.quiet ≤ 200
  repeats : r.repeats = 0 ∨ (2 ≤ r.repeats ∧ r.repeats ≤ 5)
structure Valid (r : Rules) (p : Place) : Prop where
  r0 : VR0 r
  cells : ((p.cells.length : Nat) : Int) = r.width * r.height
  l0 : p.h0.length = r.pieces.length
  l1 : p.h1.length = r.pieces.length
  cell : ∀ c ∈ p.cells, 0 ≤ c ∧ c ≤ 2 * ((r.pieces.length : Nat) : Int)
  hand0 : ∀ c ∈ p.h0, 0 ≤ c ∧ c ≤ 1000
  hand1 : ∀ c ∈ p.h1, 0 ≤ c ∧ c ≤ 1000
  turn : p.turn = 0 ∨ p.turn = 1
  quiet : 0 ≤ p.quiet ∧ p.quiet ≤ 200

theorem mem_idx {α : Type} {l : List α} {x : α} (h : x ∈ l) : ∃ i, i < l.length ∧ l[i]? = some x := by
  obtain ⟨i, hi, e⟩ := List.mem_iff_getElem.1 h
  exact ⟨i, hi, by rw [List.getElem?_eq_getElem hi, e]⟩
theorem rules_valid {r : Rules} (h : ruleErr r = 0) : VR0 r := by
  unfold ruleErr at h
  split at h
  · cases h
  split at h
  · cases h
  rename_i _ h2
  have h2 := Decidable.not_not.1 h2
  split at h
  · cases h
  rename_i h3
  split at h
  · cases h
  rename_i h4
  split at h
  · rename_i h5; exact absurd h h5
  rename_i h5
  have h5 := firstNZ_zero (Decidable.not_not.1 h5)
  split at h
  · cases h
  rename_i h6
  have h6 := Decidable.not_not.1 h6
  split at h
  · rename_i h7; exact absurd h h7
  rename_i h7
  have h7 := firstNZ_zero (Decidable.not_not.1 h7)
  split at h
  · rename_i h8; exact absurd h h8
  rename_i h8
  have h8 := Decidable.not_not.1 h8
  unfold endsErr at h8
  split at h8
  · cases h8
  rename_i h9
  have h8 := firstNZ_zero h8
  have hp : ∀ q ∈ r.pieces, (0 ≤ q.2.1 ∧ q.2.1 ≤ 64) ∧ (0 ≤ q.2.2.1 ∧ q.2.2.1 ≤ ((r.pieces.length : Nat) : Int)) ∧ q.2.2.2.1.length ≤ 16 ∧ q.2.2.2.1.any badWay = false := fun q hq => by
    obtain ⟨i, hi, e⟩ := mem_idx hq
    have := h5 i hi
    unfold pErr at this
    rw [e] at this
    simp only at this
    cases c1 : (decide (q.1 < 65) || decide (q.1 > 90))
    · cases c2 : (r.pieces.take i).any (fun q' => q'.1 == q.1)
      · cases c3 : ((!(rulesWithin q.2.1 0 64)) || (!(rulesWithin q.2.2.1 0 ((r.pieces.length : Nat) : Int))))
        · cases c4 : decide (((q.2.2.2.1.length : Nat) : Int) > 16)
          · cases c5 : q.2.2.2.1.any badWay
            · simp only [Bool.or_eq_false_iff, Bool.not_eq_false'] at c3
              simp only [decide_eq_false_iff_not] at c4
              exact ⟨within_iff.1 c3.1, within_iff.1 c3.2, by omega, rfl⟩
            · simp [c1, c2, c3, c4, c5] at this
          · simp [c1, c2, c3, c4] at this
        · simp [c1, c2, c3] at this
      · simp [c1, c2] at this
    · simp [c1] at this
  refine ⟨h2.1.1, h2.1.2, h2.2.1, h2.2.2, by omega, by omega, fun q hq => (hp q hq).1, fun q hq => (hp q hq).2.1, fun q hq => (hp q hq).2.2.1, fun q hq w hw => ?_, h6, fun c hc => ?_, by omega, fun x hx => ?_, ?_, ?_, ?_⟩
  · have := (hp q hq).2.2.2
    rw [List.any_eq_false] at this
    have := this w hw
    unfold badWay at this
    simp only [Bool.not_eq_true, Bool.or_eq_false_iff, Bool.not_eq_false', within_iff, Bool.and_eq_false_iff, beq_eq_false_iff_ne] at this
    refine ⟨this.1.1.1.1, this.1.1.1.2, fun h => ?_, this.1.2, this.2⟩
    rcases this.1.1.2 with h' | h'
    · exact h' h.1
    · exact h' h.2
  · obtain ⟨i, hi, e⟩ := mem_idx hc
    have := h7 i hi
    unfold sErr at this
    rw [List.getD_eq_getElem?_getD, e] at this
    cases c1 : rulesWithin c 0 (2 * ((r.pieces.length : Nat) : Int))
    · simp [c1] at this
    · exact within_iff.1 c1
  · obtain ⟨i, hi, e⟩ := mem_idx hx
    have := h8 i hi
    unfold eErr at this
    rw [e] at this
    simp only at this
    cases c1 : rulesWithin x.1 0 2
    · simp [c1] at this
    · cases c2 : (!(bif x.1 == 1 then x.2.2.1 == 0 else rulesWithin x.2.2.1 1 64)) || (!(bif x.1 == 0 then x.2.1 == 0 else rulesWithin x.2.1 0 (((r.pieces.length : Nat) : Int) - 1)))
      · simp only [Bool.or_eq_false_iff, Bool.not_eq_false'] at c2
        refine ⟨within_iff.1 c1, ?_, ?_⟩
        · have := c2.1
          by_cases e1 : x.1 = 1
          · rw [if_pos e1]; simpa [e1] using this
          · rw [if_neg e1]; rw [beq_f e1, cond_false] at this; exact within_iff.1 this
        · have := c2.2
          by_cases e1 : x.1 = 0
          · rw [if_pos e1]; simpa [e1] using this
          · rw [if_neg e1]; rw [beq_f e1, cond_false] at this; exact within_iff.1 this
      · simp [c1, c2] at this
  all_goals
    unfold lastErr at h
    cases c1 : (((!(rulesWithin r.blocked (0 : Int) (2 : Int))) || (!(rulesWithin r.quiet (0 : Int) (200 : Int)))) || ((r.repeats != (0 : Int)) && (!(rulesWithin r.repeats (2 : Int) (5 : Int)))))
    · simp only [Bool.or_eq_false_iff, Bool.not_eq_false', within_iff, Bool.and_eq_false_iff, bne_eq_false_iff_eq] at c1
      first
      | exact c1.1.1
      | exact c1.1.2
      | exact c1.2
    · simp [c1] at h
theorem VR0.area {r : Rules} (h : VR0 r) : 1 ≤ r.width * r.height ∧ r.width * r.height ≤ 64 := by
  have h1 : r.width * r.height ≤ 8 * 8 := Int.mul_le_mul h.w8 h.h8 (by have := h.h1; omega) (by omega)
  have h2 : 1 * 1 ≤ r.width * r.height := Int.mul_le_mul h.w1 h.h1 (by omega) (by have := h.w1; omega)
  omega
theorem sound_spec (r : Rules) (p : Place) (hr : VR0 r) (hn : p.1.length ≤ 9223372036854775807) : placeSound r p = some (bif formBad r p then 3 else bif placeBad r p then 4 else 0) := by
  have ha := hr.area
  have ht := hr.t6
  unfold placeSound formBad
  rw [show r.2.1 * r.2.2.1 = r.width * r.height from rfl, w64_id (n := r.width * r.height) (by omega) (by omega)]
  cases hb : ((((((p.1.length : Nat) : Int) != r.width * r.height) || (((p.2.1.1.length : Nat) : Int) != ((r.2.2.2.1.length : Nat) : Int))) || (((p.2.1.2.1.length : Nat) : Int) != ((r.2.2.2.1.length : Nat) : Int)))) with
  | true => rfl
  | false =>
    simp only [Bool.or_eq_false_iff, bne_eq_false_iff_eq] at hb
    obtain ⟨⟨b1, b2⟩, b3⟩ := hb
    have ht' : r.2.2.2.1.length ≤ 6 := ht
    rw [cond_false, cond_false, concat2 _ _ (by omega) (by omega), Option.bind_some]
    unfold placeBad
    have hl2 : (p.2.1.1 ++ p.2.1.2.1).length ≤ 2000 := by simp; omega
    show _ = some (bif (p.1.any (outC r) || ((p.2.1.1 ++ p.2.1.2.1).any outH || outT p)) then (4 : Int) else 0)
    generalize p.2.1.1 ++ p.2.1.2.1 = l at hl2
    have i1 : iterW (placeSound_L1 p r l) (((0 : Int), ()), ()) = some (bif p.1.any (outC r) then .inr ((true, ()), ()) else .inl ((), ())) := by
      refine iterW_any p.1 (outC r) (placeSound_L1 p r l) (.inr ((true, ()), ())) (.inl ((), ())) (fun i hi => ?_) ?_
      · unfold placeSound_L1
        simp only [show decide ((i : Int) < ((p.1.length : Nat) : Int)) = true by simp; omega, cond_true]
        rw [at?_eq _ _ (by omega) (by omega)]
        simp only [Option.bind_some, Int.toNat_natCast, List.getElem?_eq_getElem hi]
        rw [w64_id (n := (i : Int) + 1) (by omega) (by omega), show decide ((i : Int) ≥ 0) = true by simp]
        rw [w64_id (n := (2 : Int) * ((r.2.2.2.1.length : Nat) : Int)) (by omega) (by omega)]
        unfold outC
        generalize (decide (p.1[i] < (0 : Int)) || decide (p.1[i] > ((2 : Int) * ((r.2.2.2.1.length : Nat) : Int)))) = q
        cases q <;> rfl
      · unfold placeSound_L1
        simp
    have i2 : iterW (placeSound_L3 l p) (((0 : Int), ()), ()) = some (bif l.any outH then .inr ((true, ()), ()) else .inl ((), ())) := by
      refine iterW_any l outH (placeSound_L3 l p) (.inr ((true, ()), ())) (.inl ((), ())) (fun i hi => ?_) ?_
      · unfold placeSound_L3
        simp only [show decide ((i : Int) < ((l.length : Nat) : Int)) = true by simp; omega, cond_true, Int.toNat_natCast, show inb (i : Int) l.length = true from inb_iff.2 ⟨by omega, by omega⟩, req_true, show decide ((i : Int) ≥ 0) = true by simp]
        rw [w64_id (n := (i : Int) + 1) (by omega) (by omega)]
        have e : getD' l i (0 : Int) = l[i] := by simp [getD', hi]
        have e' : outH l[i] = (decide (getD' l i (0 : Int) < (0 : Int)) || decide (getD' l i (0 : Int) > (1000 : Int))) := by rw [e]; rfl
        rw [e']
        generalize (decide (getD' l i (0 : Int) < (0 : Int)) || decide (getD' l i (0 : Int) > (1000 : Int))) = q
        cases q <;> simp
      · unfold placeSound_L3
        simp
    have e4 : iterW (placeSound_L4 p r l) (((0 : Int), ()), ()) = _ := i1
    have e6 : iterW (placeSound_L6 l p) (((0 : Int), ()), ()) = _ := i2
    simp only [i1, i2, e4, e6, agree_self, Option.bind_some]
    unfold outT
    cases p.1.any (outC r)
    · cases l.any outH
      · simp only [cond_false, Sum.elim_inl, Option.bind_some, Bool.false_or]
        exact (cond_some _ _ _)
      · rfl
    · rfl
theorem place_spec (r : Rules) (p : Place) (hr : Rng tyRules r) (hn : p.1.length ≤ 9223372036854775807) : placeCheck r p = some (placeErr r p) := by
  unfold placeCheck placeErr
  rw [check_spec r hr, Option.bind_some]
  by_cases c : ruleErr r = 0
  · rw [bne_f c, cond_false, if_neg (by simpa using c), sound_spec r p (rules_valid c) hn]
    rfl
  · rw [bne_t c, cond_true, if_pos c]
theorem valid_of {r : Rules} {p : Place} (h : placeErr r p = 0) : Valid r p := by
  unfold placeErr at h
  split at h
  · rename_i c; exact absurd h c
  rename_i c
  have hv := rules_valid (Decidable.not_not.1 c)
  cases c1 : formBad r p
  · rw [c1, cond_false] at h
    cases c2 : placeBad r p
    · unfold formBad at c1
      unfold placeBad outT at c2
      simp only [Bool.or_eq_false_iff, bne_eq_false_iff_eq, List.any_eq_false, Bool.and_eq_false_iff, decide_eq_false_iff_not, List.mem_append, outC, outH, decide_eq_true_eq, Bool.not_eq_true] at c1 c2
      obtain ⟨⟨a1, a2⟩, a3⟩ := c1
      obtain ⟨b1, b2, ⟨b3, b4⟩, b5⟩ := c2
      exact ⟨hv, a1, by omega, by omega, fun c hc => by have := b1 c hc; omega, fun c hc => by have := b2 c (.inl hc); omega, fun c hc => by have := b2 c (.inr hc); omega, b3, by omega⟩
    · rw [c2] at h; cases h
  · rw [c1] at h; cases h
end Go.Proofs.YtocnfflklfeocaaGreat
