/- What functions compute, in plain Lean: PlainRuns. No condition of its own. -/
import Derived.Test.YtpajmeljfpolcaaDen0
import Derived.Test.YtpajmeljfpolcaaGameS
namespace Go.Proofs.Ytpajmeljfpolcaa
open Go.Den
set_option linter.unusedVariables false
set_option maxRecDepth 100000
noncomputable def law1PlainRuns_L2 (x9 : (Int × Unit) × (((List ((List Int) × ((List Int) × (List Int) × Unit) × Int × Int × Unit)) × Unit) × Unit)) (x12 : (Int × Int × Unit) × (Unit)) : Option (((Int × Int × Unit) × (Unit)) ⊕ ((Int × Unit) × (Unit))) :=
  bif (decide (x12.1.2.1 < ((x9.2.1.1.length : Nat) : Int))) then (req (inb x12.1.2.1 x9.2.1.1.length) (Option.bind (ref1SamePlace ((getD' x9.2.1.1 ((x12.1.2.1).toNat) ([], (([], ([], ())), ((0 : Int), ((0 : Int), ()))))).1, (((((getD' x9.2.1.1 ((x12.1.2.1).toNat) ([], (([], ([], ())), ((0 : Int), ((0 : Int), ()))))).2).1).1, (((((getD' x9.2.1.1 ((x12.1.2.1).toNat) ([], (([], ([], ())), ((0 : Int), ((0 : Int), ()))))).2).1).2).1, ())), ((((getD' x9.2.1.1 ((x12.1.2.1).toNat) ([], (([], ([], ())), ((0 : Int), ((0 : Int), ()))))).2).2).1, (((((getD' x9.2.1.1 (((w64 (((x9.2.1.1.length : Nat) : Int) - (1 : Int)))).toNat) ([], (([], ([], ())), ((0 : Int), ((0 : Int), ()))))).2).2).2).1, ())))) (getD' x9.2.1.1 (((w64 (((x9.2.1.1.length : Nat) : Int) - (1 : Int)))).toNat) ([], (([], ([], ())), ((0 : Int), ((0 : Int), ())))))) fun r13 =>
  Option.bind (bif r13 then some (((w64 (x12.1.1 + (1 : Int))), ()), ())
  else some ((x12.1.1, ()), ())) fun x14 =>
  some (Sum.inl ((x14.1.1, (w64 (x12.1.2.1 + (1 : Int))), ()), ()))))
  else some (Sum.inr ((x12.1.1, ()), ()))
noncomputable def law1PlainRuns_L1 (l : List (Int × Int × Int × Unit)) (r : ByteArray × Int × Int × (List (Int × Int × Int × (List (Int × Int × Int × Int × Unit)) × Unit)) × (List Int) × Bool × Bool × (List (Int × Int × Int × Bool × Unit)) × Int × Int × Int × Unit) (r6 : ((List Int) × ((List Int) × (List Int) × Unit) × Int × Int × Unit) × Int × Int × Unit) (x9 : (Int × Unit) × (((List ((List Int) × ((List Int) × (List Int) × Unit) × Int × Int × Unit)) × Unit) × Unit)) : Option (((Int × Unit) × (((List ((List Int) × ((List Int) × (List Int) × Unit) × Int × Int × Unit)) × Unit) × Unit)) ⊕ (((Unit) × (((List ((List Int) × ((List Int) × (List Int) × Unit) × Int × Int × Unit)) × Unit) × Unit)) ⊕ Bool)) :=
  bif (decide (x9.1.1 < ((((l.take ((if (24 : Int) < ((l.length : Nat) : Int) then (24 : Int) else ((l.length : Nat) : Int))).toNat).drop 0).length : Nat) : Int))) then (Option.bind (at? ((l.take ((if (24 : Int) < ((l.length : Nat) : Int) then (24 : Int) else ((l.length : Nat) : Int))).toNat).drop 0) x9.1.1) fun d10 =>
  req (inb (w64 (((x9.2.1.1.length : Nat) : Int) - (1 : Int))) x9.2.1.1.length) (Option.bind (req (inb (w64 (((x9.2.1.1.length : Nat) : Int) - (1 : Int))) x9.2.1.1.length) (Option.bind (ref1Result r (getD' x9.2.1.1 (((w64 (((x9.2.1.1.length : Nat) : Int) - (1 : Int)))).toNat) ([], (([], ([], ())), ((0 : Int), ((0 : Int), ())))))) fun r11 =>
  Option.bind (iterW (law1PlainRuns_L2 x9) (((0 : Int), (0 : Int), ()), ())) fun x15 =>
  bif (((r11 == (0 : Int)) && (decide (r.2.2.2.2.2.2.2.2.2.2.1 > (0 : Int)))) && (decide (x15.1.1 ≥ r.2.2.2.2.2.2.2.2.2.2.1))) then some ((true, ()), ())
  else some (((r11 != (0 : Int)), ()), ()))) fun x16 =>
  Option.bind (bif x16.1.1 then some (((14 : Int), ()), ())
  else Option.bind (ref1Allowed r (getD' x9.2.1.1 (((w64 (((x9.2.1.1.length : Nat) : Int) - (1 : Int)))).toNat) ([], (([], ([], ())), ((0 : Int), ((0 : Int), ()))))) d10) fun r17 =>
  Option.bind (bif (!r17) then some (((13 : Int), ()), ())
  else some (((0 : Int), ()), ())) fun x18 =>
  some ((x18.1.1, ()), ())) fun x19 =>
  bif (x19.1.1 != (0 : Int)) then some (Sum.inr (Sum.inr (((r6.2.2.1 == x19.1.1) && (r6.2.1 == (0 : Int))) && (((r6.1.1.length : Nat) : Int) == (0 : Int)))))
  else Option.bind (agree (Option.bind (ref1After r (getD' x9.2.1.1 (((w64 (((x9.2.1.1.length : Nat) : Int) - (1 : Int)))).toNat) ([], (([], ([], ())), ((0 : Int), ((0 : Int), ()))))) d10) fun r20 =>
  req (room (x9.2.1.1.length + ([(r20.1, ((r20.2.1.1, (r20.2.1.2.1, ())), r20.2.2))]).length) 88) (some ((), (((x9.2.1.1 ++ [(r20.1, ((r20.2.1.1, (r20.2.1.2.1, ())), r20.2.2))]), ()), ())))) (Option.bind (ref1After r (getD' x9.2.1.1 (((w64 (((x9.2.1.1.length : Nat) : Int) - (1 : Int)))).toNat) ([], (([], ([], ())), ((0 : Int), ((0 : Int), ()))))) d10) fun r21 =>
  req (room (x9.2.1.1.length + ([(r21.1, ((r21.2.1.1, (r21.2.1.2.1, ())), r21.2.2))]).length) 88) (some ((), (((x9.2.1.1 ++ [(r21.1, ((r21.2.1.1, (r21.2.1.2.1, ())), r21.2.2))]), ()), ()))))) fun x22 =>
  some (Sum.inl (((w64 (x9.1.1 + (1 : Int))), ()), ((x22.2.1.1, ()), ())))))
  else some (Sum.inr (Sum.inl ((), ((x9.2.1.1, ()), ()))))
noncomputable def law1PlainRuns_L3 (x23 : (Unit) × (((List ((List Int) × ((List Int) × (List Int) × Unit) × Int × Int × Unit)) × Unit) × Unit)) (x25 : (Int × Int × Unit) × (Unit)) : Option (((Int × Int × Unit) × (Unit)) ⊕ ((Int × Unit) × (Unit))) :=
  bif (decide (x25.1.2.1 < ((x23.2.1.1.length : Nat) : Int))) then (req (inb x25.1.2.1 x23.2.1.1.length) (Option.bind (ref1SamePlace ((getD' x23.2.1.1 ((x25.1.2.1).toNat) ([], (([], ([], ())), ((0 : Int), ((0 : Int), ()))))).1, (((((getD' x23.2.1.1 ((x25.1.2.1).toNat) ([], (([], ([], ())), ((0 : Int), ((0 : Int), ()))))).2).1).1, (((((getD' x23.2.1.1 ((x25.1.2.1).toNat) ([], (([], ([], ())), ((0 : Int), ((0 : Int), ()))))).2).1).2).1, ())), ((((getD' x23.2.1.1 ((x25.1.2.1).toNat) ([], (([], ([], ())), ((0 : Int), ((0 : Int), ()))))).2).2).1, (((((getD' x23.2.1.1 (((w64 (((x23.2.1.1.length : Nat) : Int) - (1 : Int)))).toNat) ([], (([], ([], ())), ((0 : Int), ((0 : Int), ()))))).2).2).2).1, ())))) (getD' x23.2.1.1 (((w64 (((x23.2.1.1.length : Nat) : Int) - (1 : Int)))).toNat) ([], (([], ([], ())), ((0 : Int), ((0 : Int), ())))))) fun r26 =>
  Option.bind (bif r26 then some (((w64 (x25.1.1 + (1 : Int))), ()), ())
  else some ((x25.1.1, ()), ())) fun x27 =>
  some (Sum.inl ((x27.1.1, (w64 (x25.1.2.1 + (1 : Int))), ()), ()))))
  else some (Sum.inr ((x25.1.1, ()), ()))
noncomputable def law1PlainRuns (r : ByteArray × Int × Int × (List (Int × Int × Int × (List (Int × Int × Int × Int × Unit)) × Unit)) × (List Int) × Bool × Bool × (List (Int × Int × Int × Bool × Unit)) × Int × Int × Int × Unit) (l : List (Int × Int × Int × Unit)) : Option (Bool) :=
  Option.bind (plainRun ((law1Three).1, (((law1Three).2).1, ((((law1Three).2).2).1, (((((law1Three).2).2).2).1, ((((((law1Three).2).2).2).2).1, (((((((law1Three).2).2).2).2).2).1, ((((((((law1Three).2).2).2).2).2).2).1, (((((((((law1Three).2).2).2).2).2).2).2).1, ((((((((((law1Three).2).2).2).2).2).2).2).2).1, (((((((((((law1Three).2).2).2).2).2).2).2).2).2).1, ((((((((((((law1Three).2).2).2).2).2).2).2).2).2).2).1, ()))))))))))) ([(law1Put (0 : Int)), (law1Put (3 : Int)), (law1Put (1 : Int)), (law1Put (4 : Int)), (law1Put (2 : Int))])) fun r5 =>
  bif (((r5.2.2.1 != (0 : Int)) || (r5.2.1 != (1 : Int))) || (((r5.1.1.length : Nat) : Int) != (9 : Int))) then some false
  else req (boundsI (0 : Int) (if (24 : Int) < ((l.length : Nat) : Int) then (24 : Int) else ((l.length : Nat) : Int)) l.length) (Option.bind (plainRun r ((l.take ((if (24 : Int) < ((l.length : Nat) : Int) then (24 : Int) else ((l.length : Nat) : Int))).toNat).drop 0)) fun r6 =>
  Option.bind (ref1RulesError r) fun r7 =>
  bif (r7 != (0 : Int)) then some (((r6.2.2.1 == r7) && (r6.2.1 == (0 : Int))) && (((r6.1.1.length : Nat) : Int) == (0 : Int)))
  else bif (decide (((r.2.2.2.2.1.length : Nat) : Int) > (20 : Int))) then some true
  else Option.bind (ref1Begin r) fun r8 =>
  Option.bind (α := ((Unit) × (((List ((List Int) × ((List Int) × (List Int) × Unit) × Int × Int × Unit)) × Unit) × Unit)) ⊕ Bool) (iterW (law1PlainRuns_L1 l r r6) (((0 : Int), ()), (([(r8.1, ((r8.2.1.1, (r8.2.1.2.1, ())), r8.2.2))], ()), ()))) (Sum.elim (fun x23 =>
  Option.bind (bif (r6.2.2.1 == (0 : Int)) then (req (inb (w64 (((x23.2.1.1.length : Nat) : Int) - (1 : Int))) x23.2.1.1.length) (Option.bind (ref1Result r (getD' x23.2.1.1 (((w64 (((x23.2.1.1.length : Nat) : Int) - (1 : Int)))).toNat) ([], (([], ([], ())), ((0 : Int), ((0 : Int), ())))))) fun r24 =>
  Option.bind (iterW (law1PlainRuns_L3 x23) (((0 : Int), (0 : Int), ()), ())) fun x28 =>
  bif (((r24 == (0 : Int)) && (decide (r.2.2.2.2.2.2.2.2.2.2.1 > (0 : Int)))) && (decide (x28.1.1 ≥ r.2.2.2.2.2.2.2.2.2.2.1))) then (req (imp (r6.2.1 == (3 : Int)) (inb (w64 (((x23.2.1.1.length : Nat) : Int) - (1 : Int))) x23.2.1.1.length)) (bif (r6.2.1 == (3 : Int)) then (Option.bind (ref1SamePlace (r6.1.1, ((r6.1.2.1.1, (r6.1.2.1.2.1, ())), r6.1.2.2)) (getD' x23.2.1.1 (((w64 (((x23.2.1.1.length : Nat) : Int) - (1 : Int)))).toNat) ([], (([], ([], ())), ((0 : Int), ((0 : Int), ())))))) fun r29 =>
  some ((r29, ()), ()))
  else some ((false, ()), ())))
  else req (imp (r6.2.1 == r24) (inb (w64 (((x23.2.1.1.length : Nat) : Int) - (1 : Int))) x23.2.1.1.length)) (bif (r6.2.1 == r24) then (Option.bind (ref1SamePlace (r6.1.1, ((r6.1.2.1.1, (r6.1.2.1.2.1, ())), r6.1.2.2)) (getD' x23.2.1.1 (((w64 (((x23.2.1.1.length : Nat) : Int) - (1 : Int)))).toNat) ([], (([], ([], ())), ((0 : Int), ((0 : Int), ())))))) fun r30 =>
  some ((r30, ()), ()))
  else some ((false, ()), ()))))
  else req (imp false (inb (w64 (((x23.2.1.1.length : Nat) : Int) - (1 : Int))) x23.2.1.1.length)) (some ((false, ()), ()))) fun x31 =>
  some x31.1.1) some))
end Go.Proofs.Ytpajmeljfpolcaa
