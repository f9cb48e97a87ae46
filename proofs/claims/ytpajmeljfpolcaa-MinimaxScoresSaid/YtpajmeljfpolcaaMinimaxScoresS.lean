/- What functions compute, in plain Lean: MinimaxScores. No condition of its own. -/
import Derived.Test.YtpajmeljfpolcaaDen0
import Derived.Test.YtpajmeljfpolcaaSearchS
namespace Go.Proofs.Ytpajmeljfpolcaa
open Go.Den
set_option linter.unusedVariables false
set_option maxRecDepth 100000
noncomputable def law1MinimaxScores_L2 (r31 : List (Int × Int × Int × Unit)) (r : ByteArray × Int × Int × (List (Int × Int × Int × (List (Int × Int × Int × Int × Unit)) × Unit)) × (List Int) × Bool × Bool × (List (Int × Int × Int × Bool × Unit)) × Int × Int × Int × Unit) (x28 : (Int × Unit) × (((List Int) × (List Int) × (List Int) × Int × Int × Unit) × Unit)) (r30 : Int) (x32 : (Int × Unit) × ((Int × Int × Int × Unit) × Unit)) : Option (((Int × Unit) × ((Int × Int × Int × Unit) × Unit)) ⊕ ((Unit) × ((Int × Int × Int × Unit) × Unit))) :=
  bif (decide (x32.1.1 < ((r31.length : Nat) : Int))) then (req (inb x32.1.1 r31.length) (Option.bind (agree (Option.bind (ref1After r (x28.2.1.1, ((x28.2.1.2.1, (x28.2.1.2.2.1, ())), x28.2.1.2.2.2)) (getD' r31 ((x32.1.1).toNat) ((0 : Int), ((0 : Int), ((0 : Int), ()))))) fun r33 =>
  Option.bind (ref1Score r (r33.1, ((r33.2.1.1, (r33.2.1.2.1, ())), r33.2.2)) (w64 (x28.1.1 - (1 : Int)))) fun r34 =>
  some ((((law1Step r34) == r30), ()), ())) (Option.bind (ref1After r (x28.2.1.1, ((x28.2.1.2.1, (x28.2.1.2.2.1, ())), x28.2.1.2.2.2)) (getD' r31 ((x32.1.1).toNat) ((0 : Int), ((0 : Int), ((0 : Int), ()))))) fun r35 =>
  Option.bind (ref1Score r (r35.1, ((r35.2.1.1, (r35.2.1.2.1, ())), r35.2.2)) (w64 (x28.1.1 - (1 : Int)))) fun r36 =>
  some ((((law1Step r36) == r30), ()), ()))) fun x37 =>
  bif x37.1.1 then some (Sum.inr ((), ((getD' r31 ((x32.1.1).toNat) ((0 : Int), ((0 : Int), ((0 : Int), ())))), ())))
  else some (Sum.inl (((w64 (x32.1.1 + (1 : Int))), ()), (x32.2.1, ())))))
  else some (Sum.inr ((), (x32.2.1, ())))
noncomputable def law1MinimaxScores_L1 (r : ByteArray × Int × Int × (List (Int × Int × Int × (List (Int × Int × Int × Int × Unit)) × Unit)) × (List Int) × Bool × Bool × (List (Int × Int × Int × Bool × Unit)) × Int × Int × Int × Unit) (depth : Int) (r23 : (List (Int × Int × Int × Unit)) × Int × Unit) (r22 : (Int × Int × Int × Unit) × Int × Int × Unit) (x28 : (Int × Unit) × (((List Int) × (List Int) × (List Int) × Int × Int × Unit) × Unit)) : Option (((Int × Unit) × (((List Int) × (List Int) × (List Int) × Int × Int × Unit) × Unit)) ⊕ (((Unit) × (((List Int) × (List Int) × (List Int) × Int × Int × Unit) × Unit)) ⊕ Bool)) :=
  Option.bind (gopt (decide (x28.1.1 > (0 : Int))) (0 : Int) (ref1Result r (x28.2.1.1, ((x28.2.1.2.1, (x28.2.1.2.2.1, ())), x28.2.1.2.2.2)))) fun r29 =>
  bif ((decide (x28.1.1 > (0 : Int))) && (r29 == (0 : Int))) then (Option.bind (α := ((Unit) × (((List Int) × (List Int) × (List Int) × Int × Int × Unit) × Unit)) ⊕ (((Int × Unit) × (((List Int) × (List Int) × (List Int) × Int × Int × Unit) × Unit)) ⊕ (((Unit) × (((List Int) × (List Int) × (List Int) × Int × Int × Unit) × Unit)) ⊕ Bool))) (Option.bind (ref1Score r (x28.2.1.1, ((x28.2.1.2.1, (x28.2.1.2.2.1, ())), x28.2.1.2.2.2)) x28.1.1) fun r30 =>
  Option.bind (ref1Moves r (x28.2.1.1, ((x28.2.1.2.1, (x28.2.1.2.2.1, ())), x28.2.1.2.2.2))) fun r31 =>
  Option.bind (iterW (law1MinimaxScores_L2 r31 r x28 r30) (((0 : Int), ()), (((0 : Int), ((0 : Int), ((0 : Int), ()))), ()))) fun x38 =>
  req (imp (!(decide ((w64 (depth - x28.1.1)) ≥ ((r23.1.length : Nat) : Int)))) (inb (w64 (depth - x28.1.1)) r23.1.length)) (bif (((decide ((w64 (depth - x28.1.1)) ≥ ((r23.1.length : Nat) : Int))) || (!(((getD' r23.1 (((w64 (depth - x28.1.1))).toNat) ((0 : Int), ((0 : Int), ((0 : Int), ())))).1 == x38.2.1.1) && ((((getD' r23.1 (((w64 (depth - x28.1.1))).toNat) ((0 : Int), ((0 : Int), ((0 : Int), ())))).2).1 == x38.2.1.2.1) && (((((getD' r23.1 (((w64 (depth - x28.1.1))).toNat) ((0 : Int), ((0 : Int), ((0 : Int), ())))).2).2).1 == x38.2.1.2.2.1) && true))))) || ((x28.1.1 == depth) && ((!((x38.2.1.1 == r22.1.1) && ((x38.2.1.2.1 == r22.1.2.1) && ((x38.2.1.2.2.1 == r22.1.2.2.1) && true)))) || (r22.2.1 != r30)))) then some (Sum.inr (Sum.inr (Sum.inr false)))
  else Option.bind (ref1After r (x28.2.1.1, ((x28.2.1.2.1, (x28.2.1.2.2.1, ())), x28.2.1.2.2.2)) x38.2.1) fun r39 =>
  some (Sum.inl ((), ((r39.1, (r39.2.1.1, (r39.2.1.2.1, r39.2.2))), ()))))) (Sum.elim (fun x40 =>
  some (Sum.inl (((w64 (x28.1.1 - (1 : Int))), ()), ((x40.2.1.1, (x40.2.1.2.1, (x40.2.1.2.2.1, x40.2.1.2.2.2))), ())))) some))
  else some (Sum.inr (Sum.inl ((), (x28.2.1, ()))))
noncomputable def law1MinimaxScores (r : ByteArray × Int × Int × (List (Int × Int × Int × (List (Int × Int × Int × Int × Unit)) × Unit)) × (List Int) × Bool × Bool × (List (Int × Int × Int × Bool × Unit)) × Int × Int × Int × Unit) (p : (List Int) × ((List Int) × (List Int) × Unit) × Int × Int × Unit) (depth : Int) : Option (Bool) :=
  Option.bind (minimaxLine ((law1Three).1, (((law1Three).2).1, ((((law1Three).2).2).1, (((((law1Three).2).2).2).1, ((((((law1Three).2).2).2).2).1, (((((((law1Three).2).2).2).2).2).1, ((((((((law1Three).2).2).2).2).2).2).1, (((((((((law1Three).2).2).2).2).2).2).2).1, ((((((((((law1Three).2).2).2).2).2).2).2).2).1, (((((((((((law1Three).2).2).2).2).2).2).2).2).2).1, ((((((((((((law1Three).2).2).2).2).2).2).2).2).2).2).1, ()))))))))))) ((law1Near).1, (((((law1Near).2).1).1, (((((law1Near).2).1).2).1, ())), ((((law1Near).2).2).1, (((((law1Near).2).2).2).1, ())))) (3 : Int)) fun r18 =>
  req (imp (!((r18.2.1 != (0 : Int)) || (((r18.1.length : Nat) : Int) != (1 : Int)))) (inb (0 : Int) r18.1.length)) (Option.bind (gopt (!(((r18.2.1 != (0 : Int)) || (((r18.1.length : Nat) : Int) != (1 : Int))) || (!(((getD' r18.1 0 ((0 : Int), ((0 : Int), ((0 : Int), ())))).1 == (law1Put (2 : Int)).1) && ((((getD' r18.1 0 ((0 : Int), ((0 : Int), ((0 : Int), ())))).2).1 == ((law1Put (2 : Int)).2).1) && (((((getD' r18.1 0 ((0 : Int), ((0 : Int), ((0 : Int), ())))).2).2).1 == (((law1Put (2 : Int)).2).2).1) && true)))))) false (law1Scored)) fun r19 =>
  bif ((((r18.2.1 != (0 : Int)) || (((r18.1.length : Nat) : Int) != (1 : Int))) || (!(((getD' r18.1 0 ((0 : Int), ((0 : Int), ((0 : Int), ())))).1 == (law1Put (2 : Int)).1) && ((((getD' r18.1 0 ((0 : Int), ((0 : Int), ((0 : Int), ())))).2).1 == ((law1Put (2 : Int)).2).1) && (((((getD' r18.1 0 ((0 : Int), ((0 : Int), ((0 : Int), ())))).2).2).1 == (((law1Put (2 : Int)).2).2).1) && true))))) || (!r19)) then some false
  else Option.bind (law1Light r p depth) fun r20 =>
  bif (!r20) then some true
  else Option.bind (minimaxScore r p depth) fun r21 =>
  Option.bind (minimaxBest r p depth) fun r22 =>
  Option.bind (minimaxLine r p depth) fun r23 =>
  Option.bind (law1TreeError r p depth) fun r24 =>
  bif (r24 != (0 : Int)) then some (((((((r21.2.1 == r24) && (r22.2.2.1 == r24)) && (r23.2.1 == r24)) && (r21.1 == (0 : Int))) && (r22.2.1 == (0 : Int))) && ((r22.1.1 == (0 : Int)) && ((r22.1.2.1 == (0 : Int)) && ((r22.1.2.2.1 == (0 : Int)) && true)))) && (((r23.1.length : Nat) : Int) == (0 : Int)))
  else Option.bind (gopt (!(r21.2.1 != (0 : Int))) (0 : Int) (ref1Score r p depth)) fun r25 =>
  bif (((r21.2.1 != (0 : Int)) || (r21.1 != r25)) || (r23.2.1 != (0 : Int))) then some false
  else Option.bind (gopt (!(depth == (0 : Int))) (0 : Int) (ref1Result r p)) fun r26 =>
  bif ((depth == (0 : Int)) || (r26 != (0 : Int))) then (Option.bind (bif (depth == (0 : Int)) then some (((1 : Int), ()), ())
  else some (((14 : Int), ()), ())) fun x27 =>
  some ((((r22.2.2.1 == x27.1.1) && (r22.2.1 == (0 : Int))) && ((r22.1.1 == (0 : Int)) && ((r22.1.2.1 == (0 : Int)) && ((r22.1.2.2.1 == (0 : Int)) && true)))) && (((r23.1.length : Nat) : Int) == (0 : Int))))
  else agree (agree (Option.bind (α := ((Unit) × (((List Int) × (List Int) × (List Int) × Int × Int × Unit) × Unit)) ⊕ Bool) (iterW (law1MinimaxScores_L1 r depth r23 r22) ((depth, ()), ((p.1, (p.2.1.1, (p.2.1.2.1, p.2.2))), ()))) (Sum.elim (fun x41 =>
  Option.bind (gopt ((!(((r23.1.length : Nat) : Int) == depth)) && (r22.2.2.1 == (0 : Int))) (0 : Int) (ref1Result r (x41.2.1.1, ((x41.2.1.2.1, (x41.2.1.2.2.1, ())), x41.2.1.2.2.2)))) fun r42 =>
  some ((r22.2.2.1 == (0 : Int)) && ((((r23.1.length : Nat) : Int) == depth) || (r42 != (0 : Int))))) some)) (Option.bind (α := ((Unit) × (((List Int) × (List Int) × (List Int) × Int × Int × Unit) × Unit)) ⊕ Bool) (iterW (law1MinimaxScores_L1 r depth r23 r22) ((depth, ()), ((p.1, (p.2.1.1, (p.2.1.2.1, p.2.2))), ()))) (Sum.elim (fun x56 =>
  Option.bind (gopt ((!(((r23.1.length : Nat) : Int) == depth)) && (r22.2.2.1 == (0 : Int))) (0 : Int) (ref1Result r (x56.2.1.1, ((x56.2.1.2.1, (x56.2.1.2.2.1, ())), x56.2.1.2.2.2)))) fun r57 =>
  some ((r22.2.2.1 == (0 : Int)) && ((((r23.1.length : Nat) : Int) == depth) || (r57 != (0 : Int))))) some))) (agree (agree (Option.bind (α := ((Unit) × (((List Int) × (List Int) × (List Int) × Int × Int × Unit) × Unit)) ⊕ Bool) (iterW (law1MinimaxScores_L1 r depth r23 r22) ((depth, ()), ((p.1, (p.2.1.1, (p.2.1.2.1, p.2.2))), ()))) (Sum.elim (fun x71 =>
  Option.bind (gopt ((!(((r23.1.length : Nat) : Int) == depth)) && (r22.2.2.1 == (0 : Int))) (0 : Int) (ref1Result r (x71.2.1.1, ((x71.2.1.2.1, (x71.2.1.2.2.1, ())), x71.2.1.2.2.2)))) fun r72 =>
  some ((r22.2.2.1 == (0 : Int)) && ((((r23.1.length : Nat) : Int) == depth) || (r72 != (0 : Int))))) some)) (agree (Option.bind (α := ((Unit) × (((List Int) × (List Int) × (List Int) × Int × Int × Unit) × Unit)) ⊕ Bool) (iterW (law1MinimaxScores_L1 r depth r23 r22) ((depth, ()), ((p.1, (p.2.1.1, (p.2.1.2.1, p.2.2))), ()))) (Sum.elim (fun x86 =>
  Option.bind (gopt ((!(((r23.1.length : Nat) : Int) == depth)) && (r22.2.2.1 == (0 : Int))) (0 : Int) (ref1Result r (x86.2.1.1, ((x86.2.1.2.1, (x86.2.1.2.2.1, ())), x86.2.1.2.2.2)))) fun r87 =>
  some ((r22.2.2.1 == (0 : Int)) && ((((r23.1.length : Nat) : Int) == depth) || (r87 != (0 : Int))))) some)) (Option.bind (α := ((Unit) × (((List Int) × (List Int) × (List Int) × Int × Int × Unit) × Unit)) ⊕ Bool) (iterW (law1MinimaxScores_L1 r depth r23 r22) ((depth, ()), ((p.1, (p.2.1.1, (p.2.1.2.1, p.2.2))), ()))) (Sum.elim (fun x101 =>
  Option.bind (gopt ((!(((r23.1.length : Nat) : Int) == depth)) && (r22.2.2.1 == (0 : Int))) (0 : Int) (ref1Result r (x101.2.1.1, ((x101.2.1.2.1, (x101.2.1.2.2.1, ())), x101.2.1.2.2.2)))) fun r102 =>
  some ((r22.2.2.1 == (0 : Int)) && ((((r23.1.length : Nat) : Int) == depth) || (r102 != (0 : Int))))) some)))) (agree (Option.bind (α := ((Unit) × (((List Int) × (List Int) × (List Int) × Int × Int × Unit) × Unit)) ⊕ Bool) (iterW (law1MinimaxScores_L1 r depth r23 r22) ((depth, ()), ((p.1, (p.2.1.1, (p.2.1.2.1, p.2.2))), ()))) (Sum.elim (fun x116 =>
  Option.bind (gopt ((!(((r23.1.length : Nat) : Int) == depth)) && (r22.2.2.1 == (0 : Int))) (0 : Int) (ref1Result r (x116.2.1.1, ((x116.2.1.2.1, (x116.2.1.2.2.1, ())), x116.2.1.2.2.2)))) fun r117 =>
  some ((r22.2.2.1 == (0 : Int)) && ((((r23.1.length : Nat) : Int) == depth) || (r117 != (0 : Int))))) some)) (agree (Option.bind (α := ((Unit) × (((List Int) × (List Int) × (List Int) × Int × Int × Unit) × Unit)) ⊕ Bool) (iterW (law1MinimaxScores_L1 r depth r23 r22) ((depth, ()), ((p.1, (p.2.1.1, (p.2.1.2.1, p.2.2))), ()))) (Sum.elim (fun x131 =>
  Option.bind (gopt ((!(((r23.1.length : Nat) : Int) == depth)) && (r22.2.2.1 == (0 : Int))) (0 : Int) (ref1Result r (x131.2.1.1, ((x131.2.1.2.1, (x131.2.1.2.2.1, ())), x131.2.1.2.2.2)))) fun r132 =>
  some ((r22.2.2.1 == (0 : Int)) && ((((r23.1.length : Nat) : Int) == depth) || (r132 != (0 : Int))))) some)) (Option.bind (α := ((Unit) × (((List Int) × (List Int) × (List Int) × Int × Int × Unit) × Unit)) ⊕ Bool) (iterW (law1MinimaxScores_L1 r depth r23 r22) ((depth, ()), ((p.1, (p.2.1.1, (p.2.1.2.1, p.2.2))), ()))) (Sum.elim (fun x146 =>
  Option.bind (gopt ((!(((r23.1.length : Nat) : Int) == depth)) && (r22.2.2.1 == (0 : Int))) (0 : Int) (ref1Result r (x146.2.1.1, ((x146.2.1.2.1, (x146.2.1.2.2.1, ())), x146.2.1.2.2.2)))) fun r147 =>
  some ((r22.2.2.1 == (0 : Int)) && ((((r23.1.length : Nat) : Int) == depth) || (r147 != (0 : Int))))) some))))))
end Go.Proofs.Ytpajmeljfpolcaa
