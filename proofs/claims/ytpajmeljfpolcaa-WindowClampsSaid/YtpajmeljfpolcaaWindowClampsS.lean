/- What functions compute, in plain Lean: WindowClamps. No condition of its own. -/
import Derived.Test.YtpajmeljfpolcaaDen0
import Derived.Test.YtpajmeljfpolcaaSearchS
namespace Go.Proofs.Ytpajmeljfpolcaa
open Go.Den
set_option linter.unusedVariables false
set_option maxRecDepth 100000
noncomputable def windowScore (r : ByteArray × Int × Int × (List (Int × Int × Int × (List (Int × Int × Int × Int × Unit)) × Unit)) × (List Int) × Bool × Bool × (List (Int × Int × Int × Bool × Unit)) × Int × Int × Int × Unit) (p : (List Int) × ((List Int) × (List Int) × Unit) × Int × Int × Unit) (depth : Int) (low : Int) (high : Int) : Option (Int × Int × Int × Unit) :=
  Option.bind (perftTree r p depth) fun r3 =>
  bif (r3.2.1 != (0 : Int)) then some ((0 : Int), ((0 : Int), r3.2))
  else bif (((decide (low < (-1000 : Int))) || (decide (high > (1000 : Int)))) || (decide (low ≥ high))) then some ((0 : Int), ((0 : Int), ((4 : Int), ())))
  else Option.bind (minimaxOf r p depth) fun r4 =>
  some ((if (if r4 < high then r4 else high) > low then (if r4 < high then r4 else high) else low), (r3.1, ((0 : Int), ())))
noncomputable def windowReaches (r : ByteArray × Int × Int × (List (Int × Int × Int × (List (Int × Int × Int × Int × Unit)) × Unit)) × (List Int) × Bool × Bool × (List (Int × Int × Int × Bool × Unit)) × Int × Int × Int × Unit) (p : (List Int) × ((List Int) × (List Int) × Unit) × Int × Int × Unit) (depth : Int) (least : Int) : Option (Bool × Int × Unit) :=
  Option.bind (perftTree r p depth) fun r3 =>
  bif (r3.2.1 != (0 : Int)) then some (false, r3.2)
  else bif ((decide (least < (-999 : Int))) || (decide (least > (1000 : Int)))) then some (false, ((4 : Int), ()))
  else Option.bind (minimaxOf r p depth) fun r4 =>
  some ((decide (r4 ≥ least)), ((0 : Int), ()))
noncomputable def law1WindowClamps (r : ByteArray × Int × Int × (List (Int × Int × Int × (List (Int × Int × Int × Int × Unit)) × Unit)) × (List Int) × Bool × Bool × (List (Int × Int × Int × Bool × Unit)) × Int × Int × Int × Unit) (p : (List Int) × ((List Int) × (List Int) × Unit) × Int × Int × Unit) (depth : Int) (low : Int) (high : Int) : Option (Bool) :=
  Option.bind (windowScore ((law1Three).1, (((law1Three).2).1, ((((law1Three).2).2).1, (((((law1Three).2).2).2).1, ((((((law1Three).2).2).2).2).1, (((((((law1Three).2).2).2).2).2).1, ((((((((law1Three).2).2).2).2).2).2).1, (((((((((law1Three).2).2).2).2).2).2).2).1, ((((((((((law1Three).2).2).2).2).2).2).2).2).1, (((((((((((law1Three).2).2).2).2).2).2).2).2).2).1, ((((((((((((law1Three).2).2).2).2).2).2).2).2).2).2).1, ()))))))))))) ((law1Near).1, (((((law1Near).2).1).1, (((((law1Near).2).1).2).1, ())), ((((law1Near).2).2).1, (((((law1Near).2).2).2).1, ())))) (2 : Int) (0 : Int) (1 : Int)) fun r10 =>
  bif ((((r10.2.2.1 != (0 : Int)) || (r10.1 != (1 : Int))) || (decide (r10.2.1 < (1 : Int)))) || (decide (r10.2.1 > (26 : Int)))) then some false
  else Option.bind (windowReaches ((law1Three).1, (((law1Three).2).1, ((((law1Three).2).2).1, (((((law1Three).2).2).2).1, ((((((law1Three).2).2).2).2).1, (((((((law1Three).2).2).2).2).2).1, ((((((((law1Three).2).2).2).2).2).2).1, (((((((((law1Three).2).2).2).2).2).2).2).1, ((((((((((law1Three).2).2).2).2).2).2).2).2).1, (((((((((((law1Three).2).2).2).2).2).2).2).2).2).1, ((((((((((((law1Three).2).2).2).2).2).2).2).2).2).2).1, ()))))))))))) ((law1Near).1, (((((law1Near).2).1).1, (((((law1Near).2).1).2).1, ())), ((((law1Near).2).2).1, (((((law1Near).2).2).2).1, ())))) (1 : Int) (999 : Int)) fun r11 =>
  Option.bind (gopt (!((r11.2.1 != (0 : Int)) || (!r11.1))) false (law1Scored)) fun r12 =>
  bif (((r11.2.1 != (0 : Int)) || (!r11.1)) || (!r12)) then some false
  else Option.bind (law1Light r p depth) fun r13 =>
  bif (!r13) then some true
  else Option.bind (windowScore r p depth low high) fun r14 =>
  Option.bind (windowReaches r p depth high) fun r15 =>
  Option.bind (law1TreeError r p depth) fun r16 =>
  bif (r16 != (0 : Int)) then some (((((r14.2.2.1 == r16) && (r15.2.1 == r16)) && (r14.1 == (0 : Int))) && (r14.2.1 == (0 : Int))) && (!r15.1))
  else Option.bind (ref1Score r p depth) fun r17 =>
  Option.bind (α := ((Unit) × (Unit)) ⊕ Bool) (bif (!(ref1In high (-999 : Int) (1000 : Int))) then (bif ((r15.2.1 != (4 : Int)) || r15.1) then some (Sum.inr false)
  else some (Sum.inl ((), ())))
  else bif ((r15.2.1 != (0 : Int)) || (!(r15.1 == (decide (r17 ≥ high))))) then some (Sum.inr false)
  else some (Sum.inl ((), ()))) (Sum.elim (fun x18 =>
  bif (((decide (low < (-1000 : Int))) || (decide (high > (1000 : Int)))) || (decide (low ≥ high))) then some (((r14.2.2.1 == (4 : Int)) && (r14.1 == (0 : Int))) && (r14.2.1 == (0 : Int)))
  else Option.bind (gopt (((r14.2.2.1 == (0 : Int)) && (r14.1 == (if (if high < r17 then high else r17) > low then (if high < r17 then high else r17) else low))) && (decide (r14.2.1 ≥ (1 : Int)))) (0 : Int) (ref1Tree r p depth)) fun r19 =>
  some ((((r14.2.2.1 == (0 : Int)) && (r14.1 == (if (if high < r17 then high else r17) > low then (if high < r17 then high else r17) else low))) && (decide (r14.2.1 ≥ (1 : Int)))) && (decide (r14.2.1 ≤ r19)))) some)
end Go.Proofs.Ytpajmeljfpolcaa
