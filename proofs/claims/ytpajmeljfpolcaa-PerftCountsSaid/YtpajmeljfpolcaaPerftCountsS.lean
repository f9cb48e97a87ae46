/- What functions compute, in plain Lean: PerftCounts. No condition of its own. -/
import Derived.Test.YtpajmeljfpolcaaDen0
import Derived.Test.YtpajmeljfpolcaaSearchS
namespace Go.Proofs.Ytpajmeljfpolcaa
open Go.Den
set_option linter.unusedVariables false
set_option maxRecDepth 100000
noncomputable def law1PerftCounts_L1 (r17 : (List ((Int × Int × Int × Unit) × Int × Unit)) × Int × Unit) (r22 : List (Int × Int × Int × Unit)) (r : ByteArray × Int × Int × (List (Int × Int × Int × (List (Int × Int × Int × Int × Unit)) × Unit)) × (List Int) × Bool × Bool × (List (Int × Int × Int × Bool × Unit)) × Int × Int × Int × Unit) (p : (List Int) × ((List Int) × (List Int) × Unit) × Int × Int × Unit) (depth : Int) (x23 : (Int × Unit) × (Unit)) : Option (((Int × Unit) × (Unit)) ⊕ (((Unit) × (Unit)) ⊕ Bool)) :=
  bif (decide (x23.1.1 < ((r17.1.length : Nat) : Int))) then (req (inb x23.1.1 r17.1.length) (Option.bind (req (inb x23.1.1 r22.length) (req (imp (!(!((((getD' r17.1 ((x23.1.1).toNat) (((0 : Int), ((0 : Int), ((0 : Int), ()))), ((0 : Int), ()))).1).1 == (getD' r22 ((x23.1.1).toNat) ((0 : Int), ((0 : Int), ((0 : Int), ())))).1) && (((((getD' r17.1 ((x23.1.1).toNat) (((0 : Int), ((0 : Int), ((0 : Int), ()))), ((0 : Int), ()))).1).2).1 == ((getD' r22 ((x23.1.1).toNat) ((0 : Int), ((0 : Int), ((0 : Int), ())))).2).1) && ((((((getD' r17.1 ((x23.1.1).toNat) (((0 : Int), ((0 : Int), ((0 : Int), ()))), ((0 : Int), ()))).1).2).2).1 == (((getD' r22 ((x23.1.1).toNat) ((0 : Int), ((0 : Int), ((0 : Int), ())))).2).2).1) && true))))) (inb x23.1.1 r22.length)) (bif (!((((getD' r17.1 ((x23.1.1).toNat) (((0 : Int), ((0 : Int), ((0 : Int), ()))), ((0 : Int), ()))).1).1 == (getD' r22 ((x23.1.1).toNat) ((0 : Int), ((0 : Int), ((0 : Int), ())))).1) && (((((getD' r17.1 ((x23.1.1).toNat) (((0 : Int), ((0 : Int), ((0 : Int), ()))), ((0 : Int), ()))).1).2).1 == ((getD' r22 ((x23.1.1).toNat) ((0 : Int), ((0 : Int), ((0 : Int), ())))).2).1) && ((((((getD' r17.1 ((x23.1.1).toNat) (((0 : Int), ((0 : Int), ((0 : Int), ()))), ((0 : Int), ()))).1).2).2).1 == (((getD' r22 ((x23.1.1).toNat) ((0 : Int), ((0 : Int), ((0 : Int), ())))).2).2).1) && true)))) then agree (agree (some ((true, ()), ())) (some ((true, ()), ()))) (agree (agree (some ((true, ()), ())) (agree (some ((true, ()), ())) (some ((true, ()), ())))) (agree (some ((true, ()), ())) (some ((true, ()), ()))))
  else agree (agree (Option.bind (ref1After r p (getD' r22 ((x23.1.1).toNat) ((0 : Int), ((0 : Int), ((0 : Int), ()))))) fun r24 =>
  Option.bind (ref1Count r (r24.1, ((r24.2.1.1, (r24.2.1.2.1, ())), r24.2.2)) (w64 (depth - (1 : Int)))) fun r25 =>
  some (((((getD' r17.1 ((x23.1.1).toNat) (((0 : Int), ((0 : Int), ((0 : Int), ()))), ((0 : Int), ()))).2).1 != r25), ()), ())) (Option.bind (ref1After r p (getD' r22 ((x23.1.1).toNat) ((0 : Int), ((0 : Int), ((0 : Int), ()))))) fun r26 =>
  Option.bind (ref1Count r (r26.1, ((r26.2.1.1, (r26.2.1.2.1, ())), r26.2.2)) (w64 (depth - (1 : Int)))) fun r27 =>
  some (((((getD' r17.1 ((x23.1.1).toNat) (((0 : Int), ((0 : Int), ((0 : Int), ()))), ((0 : Int), ()))).2).1 != r27), ()), ()))) (agree (agree (Option.bind (ref1After r p (getD' r22 ((x23.1.1).toNat) ((0 : Int), ((0 : Int), ((0 : Int), ()))))) fun r28 =>
  Option.bind (ref1Count r (r28.1, ((r28.2.1.1, (r28.2.1.2.1, ())), r28.2.2)) (w64 (depth - (1 : Int)))) fun r29 =>
  some (((((getD' r17.1 ((x23.1.1).toNat) (((0 : Int), ((0 : Int), ((0 : Int), ()))), ((0 : Int), ()))).2).1 != r29), ()), ())) (Option.bind (ref1After r p (getD' r22 ((x23.1.1).toNat) ((0 : Int), ((0 : Int), ((0 : Int), ()))))) fun r30 =>
  agree (Option.bind (ref1Count r (r30.1, ((r30.2.1.1, (r30.2.1.2.1, ())), r30.2.2)) (w64 (depth - (1 : Int)))) fun r31 =>
  some (((((getD' r17.1 ((x23.1.1).toNat) (((0 : Int), ((0 : Int), ((0 : Int), ()))), ((0 : Int), ()))).2).1 != r31), ()), ())) (Option.bind (ref1Count r (r30.1, ((r30.2.1.1, (r30.2.1.2.1, ())), r30.2.2)) (w64 (depth - (1 : Int)))) fun r32 =>
  some (((((getD' r17.1 ((x23.1.1).toNat) (((0 : Int), ((0 : Int), ((0 : Int), ()))), ((0 : Int), ()))).2).1 != r32), ()), ())))) (Option.bind (ref1After r p (getD' r22 ((x23.1.1).toNat) ((0 : Int), ((0 : Int), ((0 : Int), ()))))) fun r33 =>
  agree (Option.bind (ref1Count r (r33.1, ((r33.2.1.1, (r33.2.1.2.1, ())), r33.2.2)) (w64 (depth - (1 : Int)))) fun r34 =>
  some (((((getD' r17.1 ((x23.1.1).toNat) (((0 : Int), ((0 : Int), ((0 : Int), ()))), ((0 : Int), ()))).2).1 != r34), ()), ())) (Option.bind (ref1Count r (r33.1, ((r33.2.1.1, (r33.2.1.2.1, ())), r33.2.2)) (w64 (depth - (1 : Int)))) fun r35 =>
  some (((((getD' r17.1 ((x23.1.1).toNat) (((0 : Int), ((0 : Int), ((0 : Int), ()))), ((0 : Int), ()))).2).1 != r35), ()), ()))))))) fun x36 =>
  bif x36.1.1 then some (Sum.inr (Sum.inr false))
  else some (Sum.inl (((w64 (x23.1.1 + (1 : Int))), ()), ()))))
  else some (Sum.inr (Sum.inl ((), ())))
noncomputable def law1PerftCounts (r : ByteArray × Int × Int × (List (Int × Int × Int × (List (Int × Int × Int × Int × Unit)) × Unit)) × (List Int) × Bool × Bool × (List (Int × Int × Int × Bool × Unit)) × Int × Int × Int × Unit) (p : (List Int) × ((List Int) × (List Int) × Unit) × Int × Int × Unit) (depth : Int) : Option (Bool) :=
  Option.bind (perftDivide ((law1Three).1, (((law1Three).2).1, ((((law1Three).2).2).1, (((((law1Three).2).2).2).1, ((((((law1Three).2).2).2).2).1, (((((((law1Three).2).2).2).2).2).1, ((((((((law1Three).2).2).2).2).2).2).1, (((((((((law1Three).2).2).2).2).2).2).2).1, ((((((((((law1Three).2).2).2).2).2).2).2).2).1, (((((((((((law1Three).2).2).2).2).2).2).2).2).2).1, ((((((((((((law1Three).2).2).2).2).2).2).2).2).2).2).1, ()))))))))))) ((law1Near).1, (((((law1Near).2).1).1, (((((law1Near).2).1).2).1, ())), ((((law1Near).2).2).1, (((((law1Near).2).2).2).1, ())))) (1 : Int)) fun r12 =>
  req (imp (!((r12.2.1 != (0 : Int)) || (((r12.1.length : Nat) : Int) != (5 : Int)))) (inb (0 : Int) r12.1.length)) (Option.bind (gopt (!(((r12.2.1 != (0 : Int)) || (((r12.1.length : Nat) : Int) != (5 : Int))) || (!(((((getD' r12.1 0 (((0 : Int), ((0 : Int), ((0 : Int), ()))), ((0 : Int), ()))).1).1 == (law1Put (2 : Int)).1) && (((((getD' r12.1 0 (((0 : Int), ((0 : Int), ((0 : Int), ()))), ((0 : Int), ()))).1).2).1 == ((law1Put (2 : Int)).2).1) && ((((((getD' r12.1 0 (((0 : Int), ((0 : Int), ((0 : Int), ()))), ((0 : Int), ()))).1).2).2).1 == (((law1Put (2 : Int)).2).2).1) && true))) && ((((getD' r12.1 0 (((0 : Int), ((0 : Int), ((0 : Int), ()))), ((0 : Int), ()))).2).1 == (1 : Int)) && true))))) false (law1Counted)) fun r13 =>
  bif ((((r12.2.1 != (0 : Int)) || (((r12.1.length : Nat) : Int) != (5 : Int))) || (!(((((getD' r12.1 0 (((0 : Int), ((0 : Int), ((0 : Int), ()))), ((0 : Int), ()))).1).1 == (law1Put (2 : Int)).1) && (((((getD' r12.1 0 (((0 : Int), ((0 : Int), ((0 : Int), ()))), ((0 : Int), ()))).1).2).1 == ((law1Put (2 : Int)).2).1) && ((((((getD' r12.1 0 (((0 : Int), ((0 : Int), ((0 : Int), ()))), ((0 : Int), ()))).1).2).2).1 == (((law1Put (2 : Int)).2).2).1) && true))) && ((((getD' r12.1 0 (((0 : Int), ((0 : Int), ((0 : Int), ()))), ((0 : Int), ()))).2).1 == (1 : Int)) && true)))) || (!r13)) then some false
  else Option.bind (law1Light r p depth) fun r14 =>
  bif (!r14) then some true
  else Option.bind (perftCount r p depth) fun r15 =>
  Option.bind (perftTree r p depth) fun r16 =>
  Option.bind (perftDivide r p depth) fun r17 =>
  Option.bind (law1TreeError r p depth) fun r18 =>
  bif (r18 != (0 : Int)) then some ((((((r15.2.1 == r18) && (r16.2.1 == r18)) && (r17.2.1 == r18)) && (r15.1 == (0 : Int))) && (r16.1 == (0 : Int))) && (((r17.1.length : Nat) : Int) == (0 : Int)))
  else Option.bind (gopt (!((r15.2.1 != (0 : Int)) || (r16.2.1 != (0 : Int)))) (0 : Int) (ref1Count r p depth)) fun r19 =>
  Option.bind (gopt (!(((r15.2.1 != (0 : Int)) || (r16.2.1 != (0 : Int))) || (r15.1 != r19))) (0 : Int) (ref1Tree r p depth)) fun r20 =>
  bif ((((r15.2.1 != (0 : Int)) || (r16.2.1 != (0 : Int))) || (r15.1 != r19)) || (r16.1 != r20)) then some false
  else bif (depth == (0 : Int)) then some ((r17.2.1 == (1 : Int)) && (((r17.1.length : Nat) : Int) == (0 : Int)))
  else Option.bind (ref1Result r p) fun r21 =>
  bif (r21 != (0 : Int)) then some ((r17.2.1 == (0 : Int)) && (((r17.1.length : Nat) : Int) == (0 : Int)))
  else Option.bind (ref1Moves r p) fun r22 =>
  bif ((r17.2.1 != (0 : Int)) || (((r17.1.length : Nat) : Int) != ((r22.length : Nat) : Int))) then some false
  else Option.bind (α := ((Unit) × (Unit)) ⊕ Bool) (iterW (law1PerftCounts_L1 r17 r22 r p depth) (((0 : Int), ()), ())) (Sum.elim (fun x37 =>
  some true) some))
end Go.Proofs.Ytpajmeljfpolcaa
