/- What functions compute, in plain Lean: DeepenBest. No condition of its own. -/
import Derived.Test.YtpajmeljfpolcaaDen0
import Derived.Test.YtpajmeljfpolcaaSearchS
namespace Go.Proofs.Ytpajmeljfpolcaa
open Go.Den
set_option linter.unusedVariables false
set_option maxRecDepth 100000
noncomputable def deepenBest_L1 (depth : Int) (r : ByteArray × Int × Int × (List (Int × Int × Int × (List (Int × Int × Int × Int × Unit)) × Unit)) × (List Int) × Bool × Bool × (List (Int × Int × Int × Bool × Unit)) × Int × Int × Int × Unit) (p : (List Int) × ((List Int) × (List Int) × Unit) × Int × Int × Unit) (budget : Int) (x6 : (Int × Int × Int × Unit) × (Unit)) : Option (((Int × Int × Int × Unit) × (Unit)) ⊕ ((Int × Int × Unit) × (Unit))) :=
  bif (decide (x6.1.2.2.1 ≤ depth)) then (Option.bind (perftTree r p x6.1.2.2.1) fun r7 =>
  bif ((r7.2.1 != (0 : Int)) || (decide (r7.1 > budget))) then some (Sum.inr ((x6.1.1, x6.1.2.1, ()), ()))
  else some (Sum.inl ((x6.1.2.2.1, r7.1, (w64 (x6.1.2.2.1 + (1 : Int))), ()), ())))
  else some (Sum.inr ((x6.1.1, x6.1.2.1, ()), ()))
noncomputable def deepenBest (r : ByteArray × Int × Int × (List (Int × Int × Int × (List (Int × Int × Int × Int × Unit)) × Unit)) × (List Int) × Bool × Bool × (List (Int × Int × Int × Bool × Unit)) × Int × Int × Int × Unit) (p : (List Int) × ((List Int) × (List Int) × Unit) × Int × Int × Unit) (depth : Int) (budget : Int) : Option (((Int × Int × Int × Unit) × Int × Int × Int × Unit) × Int × Unit) :=
  Option.bind (placeCheck r p) fun r4 =>
  bif (r4 != (0 : Int)) then some ((((0 : Int), ((0 : Int), ((0 : Int), ()))), ((0 : Int), ((0 : Int), ((0 : Int), ())))), (r4, ()))
  else bif ((decide (depth < (1 : Int))) || (decide (depth > (12 : Int)))) then some ((((0 : Int), ((0 : Int), ((0 : Int), ()))), ((0 : Int), ((0 : Int), ((0 : Int), ())))), ((1 : Int), ()))
  else bif ((decide (budget < (1 : Int))) || (decide (budget > (50000 : Int)))) then some ((((0 : Int), ((0 : Int), ((0 : Int), ()))), ((0 : Int), ((0 : Int), ((0 : Int), ())))), ((4 : Int), ()))
  else Option.bind (endsResult r p) fun r5 =>
  bif (r5 != (0 : Int)) then some ((((0 : Int), ((0 : Int), ((0 : Int), ()))), ((0 : Int), ((0 : Int), ((0 : Int), ())))), ((14 : Int), ()))
  else Option.bind (iterW (deepenBest_L1 depth r p budget) (((0 : Int), (0 : Int), (1 : Int), ()), ())) fun x8 =>
  bif (x8.1.1 == (0 : Int)) then some ((((0 : Int), ((0 : Int), ((0 : Int), ()))), ((0 : Int), ((0 : Int), ((0 : Int), ())))), ((17 : Int), ()))
  else Option.bind (minimaxFirst r p x8.1.1) fun r9 =>
  some ((r9.1, (r9.2.1, (x8.1.1, (x8.1.2.1, ())))), ((0 : Int), ()))
noncomputable def law1DeepenBest_L1 (depth : Int) (r : ByteArray × Int × Int × (List (Int × Int × Int × (List (Int × Int × Int × Int × Unit)) × Unit)) × (List Int) × Bool × Bool × (List (Int × Int × Int × Bool × Unit)) × Int × Int × Int × Unit) (p : (List Int) × ((List Int) × (List Int) × Unit) × Int × Int × Unit) (budget : Int) (x18 : (Int × Unit) × ((Int × Int × Int × Int × Int × Int × Unit) × Unit)) : Option (((Int × Unit) × ((Int × Int × Int × Int × Int × Int × Unit) × Unit)) ⊕ ((Unit) × ((Int × Int × Int × Int × Int × Int × Unit) × Unit))) :=
  Option.bind (gopt (decide (x18.1.1 ≤ depth)) (0 : Int) (ref1Tree r p x18.1.1)) fun r19 =>
  bif ((decide (x18.1.1 ≤ depth)) && (decide (r19 ≤ budget))) then (Option.bind (ref1Tree r p x18.1.1) fun r20 =>
  some (Sum.inl (((w64 (x18.1.1 + (1 : Int))), ()), ((x18.2.1.1, (x18.2.1.2.1, (x18.2.1.2.2.1, (x18.2.1.2.2.2.1, (x18.1.1, (r20, ())))))), ()))))
  else some (Sum.inr ((), (x18.2.1, ())))
noncomputable def law1DeepenBest_L2 (r25 : List (Int × Int × Int × Unit)) (r : ByteArray × Int × Int × (List (Int × Int × Int × (List (Int × Int × Int × Int × Unit)) × Unit)) × (List Int) × Bool × Bool × (List (Int × Int × Int × Bool × Unit)) × Int × Int × Int × Unit) (p : (List Int) × ((List Int) × (List Int) × Unit) × Int × Int × Unit) (x26 : (Int × Unit) × ((Int × Int × Int × Int × Int × Int × Unit) × Unit)) : Option (((Int × Unit) × ((Int × Int × Int × Int × Int × Int × Unit) × Unit)) ⊕ ((Unit) × ((Int × Int × Int × Int × Int × Int × Unit) × Unit))) :=
  bif (decide (x26.1.1 < ((r25.length : Nat) : Int))) then (req (inb x26.1.1 r25.length) (Option.bind (agree (agree (Option.bind (ref1After r p (getD' r25 ((x26.1.1).toNat) ((0 : Int), ((0 : Int), ((0 : Int), ()))))) fun r27 =>
  agree (Option.bind (ref1Score r (r27.1, ((r27.2.1.1, (r27.2.1.2.1, ())), r27.2.2)) (w64 (x26.2.1.2.2.2.2.1 - (1 : Int)))) fun r28 =>
  agree (some ((((law1Step r28) == x26.2.1.2.2.2.1), ()), ())) (some ((((law1Step r28) == x26.2.1.2.2.2.1), ()), ()))) (Option.bind (ref1Score r (r27.1, ((r27.2.1.1, (r27.2.1.2.1, ())), r27.2.2)) (w64 (x26.2.1.2.2.2.2.1 - (1 : Int)))) fun r29 =>
  some ((((law1Step r29) == x26.2.1.2.2.2.1), ()), ()))) (agree (agree (Option.bind (ref1After r p (getD' r25 ((x26.1.1).toNat) ((0 : Int), ((0 : Int), ((0 : Int), ()))))) fun r30 =>
  agree (Option.bind (ref1Score r (r30.1, ((r30.2.1.1, (r30.2.1.2.1, ())), r30.2.2)) (w64 (x26.2.1.2.2.2.2.1 - (1 : Int)))) fun r31 =>
  agree (some ((((law1Step r31) == x26.2.1.2.2.2.1), ()), ())) (some ((((law1Step r31) == x26.2.1.2.2.2.1), ()), ()))) (Option.bind (ref1Score r (r30.1, ((r30.2.1.1, (r30.2.1.2.1, ())), r30.2.2)) (w64 (x26.2.1.2.2.2.2.1 - (1 : Int)))) fun r32 =>
  some ((((law1Step r32) == x26.2.1.2.2.2.1), ()), ()))) (Option.bind (ref1After r p (getD' r25 ((x26.1.1).toNat) ((0 : Int), ((0 : Int), ((0 : Int), ()))))) fun r33 =>
  Option.bind (ref1Score r (r33.1, ((r33.2.1.1, (r33.2.1.2.1, ())), r33.2.2)) (w64 (x26.2.1.2.2.2.2.1 - (1 : Int)))) fun r34 =>
  some ((((law1Step r34) == x26.2.1.2.2.2.1), ()), ()))) (agree (Option.bind (ref1After r p (getD' r25 ((x26.1.1).toNat) ((0 : Int), ((0 : Int), ((0 : Int), ()))))) fun r35 =>
  Option.bind (ref1Score r (r35.1, ((r35.2.1.1, (r35.2.1.2.1, ())), r35.2.2)) (w64 (x26.2.1.2.2.2.2.1 - (1 : Int)))) fun r36 =>
  some ((((law1Step r36) == x26.2.1.2.2.2.1), ()), ())) (Option.bind (ref1After r p (getD' r25 ((x26.1.1).toNat) ((0 : Int), ((0 : Int), ((0 : Int), ()))))) fun r37 =>
  Option.bind (ref1Score r (r37.1, ((r37.2.1.1, (r37.2.1.2.1, ())), r37.2.2)) (w64 (x26.2.1.2.2.2.2.1 - (1 : Int)))) fun r38 =>
  some ((((law1Step r38) == x26.2.1.2.2.2.1), ()), ()))))) (agree (Option.bind (ref1After r p (getD' r25 ((x26.1.1).toNat) ((0 : Int), ((0 : Int), ((0 : Int), ()))))) fun r39 =>
  agree (Option.bind (ref1Score r (r39.1, ((r39.2.1.1, (r39.2.1.2.1, ())), r39.2.2)) (w64 (x26.2.1.2.2.2.2.1 - (1 : Int)))) fun r40 =>
  agree (some ((((law1Step r40) == x26.2.1.2.2.2.1), ()), ())) (some ((((law1Step r40) == x26.2.1.2.2.2.1), ()), ()))) (Option.bind (ref1Score r (r39.1, ((r39.2.1.1, (r39.2.1.2.1, ())), r39.2.2)) (w64 (x26.2.1.2.2.2.2.1 - (1 : Int)))) fun r41 =>
  some ((((law1Step r41) == x26.2.1.2.2.2.1), ()), ()))) (agree (agree (agree (Option.bind (ref1After r p (getD' r25 ((x26.1.1).toNat) ((0 : Int), ((0 : Int), ((0 : Int), ()))))) fun r42 =>
  agree (Option.bind (ref1Score r (r42.1, ((r42.2.1.1, (r42.2.1.2.1, ())), r42.2.2)) (w64 (x26.2.1.2.2.2.2.1 - (1 : Int)))) fun r43 =>
  agree (some ((((law1Step r43) == x26.2.1.2.2.2.1), ()), ())) (some ((((law1Step r43) == x26.2.1.2.2.2.1), ()), ()))) (Option.bind (ref1Score r (r42.1, ((r42.2.1.1, (r42.2.1.2.1, ())), r42.2.2)) (w64 (x26.2.1.2.2.2.2.1 - (1 : Int)))) fun r44 =>
  some ((((law1Step r44) == x26.2.1.2.2.2.1), ()), ()))) (Option.bind (ref1After r p (getD' r25 ((x26.1.1).toNat) ((0 : Int), ((0 : Int), ((0 : Int), ()))))) fun r45 =>
  Option.bind (ref1Score r (r45.1, ((r45.2.1.1, (r45.2.1.2.1, ())), r45.2.2)) (w64 (x26.2.1.2.2.2.2.1 - (1 : Int)))) fun r46 =>
  some ((((law1Step r46) == x26.2.1.2.2.2.1), ()), ()))) (agree (Option.bind (ref1After r p (getD' r25 ((x26.1.1).toNat) ((0 : Int), ((0 : Int), ((0 : Int), ()))))) fun r47 =>
  agree (Option.bind (ref1Score r (r47.1, ((r47.2.1.1, (r47.2.1.2.1, ())), r47.2.2)) (w64 (x26.2.1.2.2.2.2.1 - (1 : Int)))) fun r48 =>
  agree (some ((((law1Step r48) == x26.2.1.2.2.2.1), ()), ())) (some ((((law1Step r48) == x26.2.1.2.2.2.1), ()), ()))) (Option.bind (ref1Score r (r47.1, ((r47.2.1.1, (r47.2.1.2.1, ())), r47.2.2)) (w64 (x26.2.1.2.2.2.2.1 - (1 : Int)))) fun r49 =>
  some ((((law1Step r49) == x26.2.1.2.2.2.1), ()), ()))) (agree (Option.bind (ref1After r p (getD' r25 ((x26.1.1).toNat) ((0 : Int), ((0 : Int), ((0 : Int), ()))))) fun r50 =>
  Option.bind (ref1Score r (r50.1, ((r50.2.1.1, (r50.2.1.2.1, ())), r50.2.2)) (w64 (x26.2.1.2.2.2.2.1 - (1 : Int)))) fun r51 =>
  some ((((law1Step r51) == x26.2.1.2.2.2.1), ()), ())) (Option.bind (ref1After r p (getD' r25 ((x26.1.1).toNat) ((0 : Int), ((0 : Int), ((0 : Int), ()))))) fun r52 =>
  Option.bind (ref1Score r (r52.1, ((r52.2.1.1, (r52.2.1.2.1, ())), r52.2.2)) (w64 (x26.2.1.2.2.2.2.1 - (1 : Int)))) fun r53 =>
  some ((((law1Step r53) == x26.2.1.2.2.2.1), ()), ()))))) (agree (agree (Option.bind (ref1After r p (getD' r25 ((x26.1.1).toNat) ((0 : Int), ((0 : Int), ((0 : Int), ()))))) fun r54 =>
  Option.bind (ref1Score r (r54.1, ((r54.2.1.1, (r54.2.1.2.1, ())), r54.2.2)) (w64 (x26.2.1.2.2.2.2.1 - (1 : Int)))) fun r55 =>
  some ((((law1Step r55) == x26.2.1.2.2.2.1), ()), ())) (Option.bind (ref1After r p (getD' r25 ((x26.1.1).toNat) ((0 : Int), ((0 : Int), ((0 : Int), ()))))) fun r56 =>
  Option.bind (ref1Score r (r56.1, ((r56.2.1.1, (r56.2.1.2.1, ())), r56.2.2)) (w64 (x26.2.1.2.2.2.2.1 - (1 : Int)))) fun r57 =>
  some ((((law1Step r57) == x26.2.1.2.2.2.1), ()), ()))) (agree (Option.bind (ref1After r p (getD' r25 ((x26.1.1).toNat) ((0 : Int), ((0 : Int), ((0 : Int), ()))))) fun r58 =>
  Option.bind (ref1Score r (r58.1, ((r58.2.1.1, (r58.2.1.2.1, ())), r58.2.2)) (w64 (x26.2.1.2.2.2.2.1 - (1 : Int)))) fun r59 =>
  some ((((law1Step r59) == x26.2.1.2.2.2.1), ()), ())) (agree (Option.bind (ref1After r p (getD' r25 ((x26.1.1).toNat) ((0 : Int), ((0 : Int), ((0 : Int), ()))))) fun r60 =>
  Option.bind (ref1Score r (r60.1, ((r60.2.1.1, (r60.2.1.2.1, ())), r60.2.2)) (w64 (x26.2.1.2.2.2.2.1 - (1 : Int)))) fun r61 =>
  some ((((law1Step r61) == x26.2.1.2.2.2.1), ()), ())) (Option.bind (ref1After r p (getD' r25 ((x26.1.1).toNat) ((0 : Int), ((0 : Int), ((0 : Int), ()))))) fun r62 =>
  Option.bind (ref1Score r (r62.1, ((r62.2.1.1, (r62.2.1.2.1, ())), r62.2.2)) (w64 (x26.2.1.2.2.2.2.1 - (1 : Int)))) fun r63 =>
  some ((((law1Step r63) == x26.2.1.2.2.2.1), ()), ())))))))) fun x64 =>
  bif x64.1.1 then some (Sum.inr ((), (((getD' r25 ((x26.1.1).toNat) ((0 : Int), ((0 : Int), ((0 : Int), ())))).1, (((getD' r25 ((x26.1.1).toNat) ((0 : Int), ((0 : Int), ((0 : Int), ())))).2).1, ((((getD' r25 ((x26.1.1).toNat) ((0 : Int), ((0 : Int), ((0 : Int), ())))).2).2).1, x26.2.1.2.2.2))), ())))
  else some (Sum.inl (((w64 (x26.1.1 + (1 : Int))), ()), (x26.2.1, ())))))
  else some (Sum.inr ((), (x26.2.1, ())))
noncomputable def law1DeepenBest (r : ByteArray × Int × Int × (List (Int × Int × Int × (List (Int × Int × Int × Int × Unit)) × Unit)) × (List Int) × Bool × Bool × (List (Int × Int × Int × Bool × Unit)) × Int × Int × Int × Unit) (p : (List Int) × ((List Int) × (List Int) × Unit) × Int × Int × Unit) (depth : Int) (budget : Int) : Option (Bool) :=
  Option.bind (deepenBest ((law1Three).1, (((law1Three).2).1, ((((law1Three).2).2).1, (((((law1Three).2).2).2).1, ((((((law1Three).2).2).2).2).1, (((((((law1Three).2).2).2).2).2).1, ((((((((law1Three).2).2).2).2).2).2).1, (((((((((law1Three).2).2).2).2).2).2).2).1, ((((((((((law1Three).2).2).2).2).2).2).2).2).1, (((((((((((law1Three).2).2).2).2).2).2).2).2).2).1, ((((((((((((law1Three).2).2).2).2).2).2).2).2).2).2).1, ()))))))))))) ((law1Near).1, (((((law1Near).2).1).1, (((((law1Near).2).1).2).1, ())), ((((law1Near).2).2).1, (((((law1Near).2).2).2).1, ())))) (1 : Int) (50 : Int)) fun r9 =>
  Option.bind (gopt (!((r9.2.1 != (0 : Int)) || (!(((r9.1.1.1 == (law1Put (2 : Int)).1) && ((r9.1.1.2.1 == ((law1Put (2 : Int)).2).1) && ((r9.1.1.2.2.1 == (((law1Put (2 : Int)).2).2).1) && true))) && ((r9.1.2.1 == (999 : Int)) && ((r9.1.2.2.1 == (1 : Int)) && ((r9.1.2.2.2.1 == (6 : Int)) && true))))))) false (law1Scored)) fun r10 =>
  bif (((r9.2.1 != (0 : Int)) || (!(((r9.1.1.1 == (law1Put (2 : Int)).1) && ((r9.1.1.2.1 == ((law1Put (2 : Int)).2).1) && ((r9.1.1.2.2.1 == (((law1Put (2 : Int)).2).2).1) && true))) && ((r9.1.2.1 == (999 : Int)) && ((r9.1.2.2.1 == (1 : Int)) && ((r9.1.2.2.2.1 == (6 : Int)) && true)))))) || (!r10)) then some false
  else Option.bind (law1Light r p depth) fun r11 =>
  bif (!r11) then some true
  else Option.bind (deepenBest r p depth budget) fun r12 =>
  Option.bind (ref1PlaceError r p) fun r13 =>
  Option.bind (bif ((r13 == (0 : Int)) && (!(ref1In depth (1 : Int) (12 : Int)))) then some (((1 : Int), ()), ())
  else some ((r13, ()), ())) fun x14 =>
  Option.bind (bif ((x14.1.1 == (0 : Int)) && (!(ref1In budget (1 : Int) (50000 : Int)))) then some (((4 : Int), ()), ())
  else some ((x14.1.1, ()), ())) fun x15 =>
  Option.bind (gopt (x15.1.1 == (0 : Int)) (0 : Int) (ref1Result r p)) fun r16 =>
  Option.bind (bif ((x15.1.1 == (0 : Int)) && (r16 != (0 : Int))) then some (((14 : Int), ()), ())
  else some ((x15.1.1, ()), ())) fun x17 =>
  Option.bind (bif (x17.1.1 == (0 : Int)) then (Option.bind (iterW (law1DeepenBest_L1 depth r p budget) (((1 : Int), ()), (((0 : Int), ((0 : Int), ((0 : Int), ((0 : Int), ((0 : Int), ((0 : Int), ())))))), ()))) fun x21 =>
  Option.bind (bif (x21.2.1.2.2.2.2.1 == (0 : Int)) then some (((17 : Int), ()), ())
  else some ((x17.1.1, ()), ())) fun x22 =>
  some ((x22.1.1, ()), (x21.2.1, ())))
  else some ((x17.1.1, ()), (((0 : Int), ((0 : Int), ((0 : Int), ((0 : Int), ((0 : Int), ((0 : Int), ())))))), ()))) fun x23 =>
  bif (x23.1.1 != (0 : Int)) then some ((r12.2.1 == x23.1.1) && (((r12.1.1.1 == (0 : Int)) && ((r12.1.1.2.1 == (0 : Int)) && ((r12.1.1.2.2.1 == (0 : Int)) && true))) && ((r12.1.2.1 == (0 : Int)) && ((r12.1.2.2.1 == (0 : Int)) && ((r12.1.2.2.2.1 == (0 : Int)) && true)))))
  else Option.bind (ref1Score r p x23.2.1.2.2.2.2.1) fun r24 =>
  Option.bind (ref1Moves r p) fun r25 =>
  Option.bind (iterW (law1DeepenBest_L2 r25 r p) (((0 : Int), ()), ((x23.2.1.1, (x23.2.1.2.1, (x23.2.1.2.2.1, (r24, x23.2.1.2.2.2.2)))), ()))) fun x65 =>
  some ((r12.2.1 == (0 : Int)) && (((r12.1.1.1 == x65.2.1.1) && ((r12.1.1.2.1 == x65.2.1.2.1) && ((r12.1.1.2.2.1 == x65.2.1.2.2.1) && true))) && ((r12.1.2.1 == x65.2.1.2.2.2.1) && ((r12.1.2.2.1 == x65.2.1.2.2.2.2.1) && ((r12.1.2.2.2.1 == x65.2.1.2.2.2.2.2.1) && true)))))
end Go.Proofs.Ytpajmeljfpolcaa
