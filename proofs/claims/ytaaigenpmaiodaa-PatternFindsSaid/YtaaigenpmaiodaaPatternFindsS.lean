/- What functions compute, in plain Lean: PatternFinds. No condition of its own. -/
import Derived.Test.YtaaigenpmaiodaaDen0
import Derived.Test.YtaaigenpmaiodaaGameS
namespace Go.Proofs.Ytaaigenpmaiodaa
open Go.Den
set_option linter.unusedVariables false
set_option maxRecDepth 100000
noncomputable def patternCheck_L1 (x : Int × Int × (List Int) × Int × Unit) (r : ByteArray × Int × Int × (List (Int × Int × Int × (List (Int × Int × Int × Int × Unit)) × Unit)) × (List Int) × Bool × Bool × (List (Int × Int × Int × Bool × Unit)) × Int × Int × Int × Unit) (x3 : (Int × Unit) × (Unit)) : Option (((Int × Unit) × (Unit)) ⊕ (((Unit) × (Unit)) ⊕ Int)) :=
  bif (decide (x3.1.1 < ((x.2.2.1.length : Nat) : Int))) then (Option.bind (at? x.2.2.1 x3.1.1) fun d4 =>
  bif ((decide (d4 < (-3 : Int))) || (decide (d4 > (w64 ((2 : Int) * ((r.2.2.2.1.length : Nat) : Int)))))) then (Option.map Sum.inr (Option.map Sum.inr (bif (decide (x3.1.1 ≥ (0 : Int))) then some (4 : Int)
  else bif ((decide (x.2.2.2.1 < (-1 : Int))) || (decide (x.2.2.2.1 > (1 : Int)))) then some (4 : Int)
  else some (0 : Int))))
  else some (Sum.inl (((w64 (x3.1.1 + (1 : Int))), ()), ())))
  else some (Sum.inr (Sum.inl ((), ())))
noncomputable def patternCheck (r : ByteArray × Int × Int × (List (Int × Int × Int × (List (Int × Int × Int × Int × Unit)) × Unit)) × (List Int) × Bool × Bool × (List (Int × Int × Int × Bool × Unit)) × Int × Int × Int × Unit) (x : Int × Int × (List Int) × Int × Unit) : Option (Int) :=
  Option.bind (rulesCheck r) fun r2 =>
  bif (r2 != (0 : Int)) then some r2
  else bif ((((decide (x.1 < (1 : Int))) || (decide (x.1 > r.2.1))) || (decide (x.2.1 < (1 : Int)))) || (decide (x.2.1 > r.2.2.1))) then some (4 : Int)
  else bif (((x.2.2.1.length : Nat) : Int) != (w64 (x.1 * x.2.1))) then some (3 : Int)
  else Option.bind (α := ((Unit) × (Unit)) ⊕ Int) (iterW (patternCheck_L1 x r) (((0 : Int), ()), ())) (Sum.elim (fun x5 =>
  bif ((decide (x.2.2.2.1 < (-1 : Int))) || (decide (x.2.2.2.1 > (1 : Int)))) then some (4 : Int)
  else some (0 : Int)) some)
noncomputable def patternCheck_i (r : ByteArray × Int × Int × (List (Int × Int × Int × (List (Int × Int × Int × Int × Unit)) × Unit)) × (List Int) × Bool × Bool × (List (Int × Int × Int × Bool × Unit)) × Int × Int × Int × Unit) (x : Int × Int × (List Int) × Int × Unit) (p : (List Int) × ((List Int) × (List Int) × Unit) × Int × Int × Unit) : Option (Int) :=
  Option.bind (patternCheck r x) fun r3 =>
  bif (r3 != (0 : Int)) then some r3
  else Option.bind (placeCheck r p) fun r4 =>
  some r4
noncomputable def patternFits (want : Int) (c : Int) : Option (Bool) :=
  bif (want == (-1 : Int)) then some true
  else bif (want == (-2 : Int)) then some ((c.tmod (2 : Int)) == (1 : Int))
  else bif (want == (-3 : Int)) then req (imp (decide (c > (0 : Int))) true) (some ((decide (c > (0 : Int))) && ((c.tmod (2 : Int)) == (0 : Int))))
  else some (want == c)
noncomputable def patternAt_L1 (x : Int × Int × (List Int) × Int × Unit) (p : (List Int) × ((List Int) × (List Int) × Unit) × Int × Int × Unit) (square : Int) (r : ByteArray × Int × Int × (List (Int × Int × Int × (List (Int × Int × Int × Int × Unit)) × Unit)) × (List Int) × Bool × Bool × (List (Int × Int × Int × Bool × Unit)) × Int × Int × Int × Unit) (x1 : (Int × Unit) × (Unit)) : Option (((Int × Unit) × (Unit)) ⊕ (((Unit) × (Unit)) ⊕ Bool)) :=
  bif (decide (x1.1.1 < ((x.2.2.1.length : Nat) : Int))) then (Option.bind (at? x.2.2.1 x1.1.1) fun d2 =>
  req (x.1 != 0) (req (x.1 != 0) (Option.bind (at? p.1 (w64 ((w64 (square + (w64 ((w64 (x1.1.1.tdiv x.1)) * r.2.1)))) + (x1.1.1.tmod x.1)))) fun d3 =>
  Option.bind (patternFits d2 d3) fun r4 =>
  bif (!r4) then some (Sum.inr (Sum.inr false))
  else some (Sum.inl (((w64 (x1.1.1 + (1 : Int))), ()), ())))))
  else some (Sum.inr (Sum.inl ((), ())))
noncomputable def patternAt (r : ByteArray × Int × Int × (List (Int × Int × Int × (List (Int × Int × Int × Int × Unit)) × Unit)) × (List Int) × Bool × Bool × (List (Int × Int × Int × Bool × Unit)) × Int × Int × Int × Unit) (x : Int × Int × (List Int) × Int × Unit) (p : (List Int) × ((List Int) × (List Int) × Unit) × Int × Int × Unit) (square : Int) : Option (Bool) :=
  req (r.2.1 != 0) (req (imp (!(decide ((w64 ((square.tmod r.2.1) + x.1)) > r.2.1))) (r.2.1 != 0)) (bif (((decide ((w64 ((square.tmod r.2.1) + x.1)) > r.2.1)) || (decide ((w64 ((w64 (square.tdiv r.2.1)) + x.2.1)) > r.2.2.1))) || ((decide (x.2.2.2.1 ≥ (0 : Int))) && (x.2.2.2.1 != p.2.2.1))) then some false
  else Option.bind (α := ((Unit) × (Unit)) ⊕ Bool) (iterW (patternAt_L1 x p square r) (((0 : Int), ()), ())) (Sum.elim (fun x5 =>
  some true) some)))
noncomputable def patternAt_i (r : ByteArray × Int × Int × (List (Int × Int × Int × (List (Int × Int × Int × Int × Unit)) × Unit)) × (List Int) × Bool × Bool × (List (Int × Int × Int × Bool × Unit)) × Int × Int × Int × Unit) (x : Int × Int × (List Int) × Int × Unit) (p : (List Int) × ((List Int) × (List Int) × Unit) × Int × Int × Unit) (square : Int) : Option (Bool × Int × Unit) :=
  Option.bind (patternCheck_i r x p) fun r3 =>
  bif (r3 != (0 : Int)) then some (false, (r3, ()))
  else bif ((decide (square < (0 : Int))) || (decide (square ≥ ((p.1.length : Nat) : Int)))) then some (false, ((1 : Int), ()))
  else Option.bind (patternAt r x p square) fun r4 =>
  some (r4, ((0 : Int), ()))
noncomputable def law3Patterns : Option (Bool) :=
  Option.bind (placeBegin ((law3Tic).1, (((law3Tic).2).1, ((((law3Tic).2).2).1, (((((law3Tic).2).2).2).1, ((((((law3Tic).2).2).2).2).1, (((((((law3Tic).2).2).2).2).2).1, ((((((((law3Tic).2).2).2).2).2).2).1, (((((((((law3Tic).2).2).2).2).2).2).2).1, ((((((((((law3Tic).2).2).2).2).2).2).2).2).1, (((((((((((law3Tic).2).2).2).2).2).2).2).2).2).1, ((((((((((((law3Tic).2).2).2).2).2).2).2).2).2).2).1, ())))))))))))) fun r2 =>
  Option.bind (agree (Option.bind (patternAt_i ((law3Tic).1, (((law3Tic).2).1, ((((law3Tic).2).2).1, (((((law3Tic).2).2).2).1, ((((((law3Tic).2).2).2).2).1, (((((((law3Tic).2).2).2).2).2).1, ((((((((law3Tic).2).2).2).2).2).2).1, (((((((((law3Tic).2).2).2).2).2).2).2).1, ((((((((((law3Tic).2).2).2).2).2).2).2).2).1, (((((((((((law3Tic).2).2).2).2).2).2).2).2).2).1, ((((((((((((law3Tic).2).2).2).2).2).2).2).2).2).2).1, ()))))))))))) ((1 : Int), ((1 : Int), ([(0 : Int)], ((-1 : Int), ())))) (r2.1.1, ((r2.1.2.1.1, (r2.1.2.1.2.1, ())), r2.1.2.2)) (4 : Int)) fun r3 =>
  some ((r3.1, r3.2.1, ()), ())) (agree (agree (Option.bind (patternAt_i ((law3Tic).1, (((law3Tic).2).1, ((((law3Tic).2).2).1, (((((law3Tic).2).2).2).1, ((((((law3Tic).2).2).2).2).1, (((((((law3Tic).2).2).2).2).2).1, ((((((((law3Tic).2).2).2).2).2).2).1, (((((((((law3Tic).2).2).2).2).2).2).2).1, ((((((((((law3Tic).2).2).2).2).2).2).2).2).1, (((((((((((law3Tic).2).2).2).2).2).2).2).2).2).1, ((((((((((((law3Tic).2).2).2).2).2).2).2).2).2).2).1, ()))))))))))) ((1 : Int), ((1 : Int), ([(0 : Int)], ((-1 : Int), ())))) (r2.1.1, ((r2.1.2.1.1, (r2.1.2.1.2.1, ())), r2.1.2.2)) (4 : Int)) fun r4 =>
  some ((r4.1, r4.2.1, ()), ())) (Option.bind (patternAt_i ((law3Tic).1, (((law3Tic).2).1, ((((law3Tic).2).2).1, (((((law3Tic).2).2).2).1, ((((((law3Tic).2).2).2).2).1, (((((((law3Tic).2).2).2).2).2).1, ((((((((law3Tic).2).2).2).2).2).2).1, (((((((((law3Tic).2).2).2).2).2).2).2).1, ((((((((((law3Tic).2).2).2).2).2).2).2).2).1, (((((((((((law3Tic).2).2).2).2).2).2).2).2).2).1, ((((((((((((law3Tic).2).2).2).2).2).2).2).2).2).2).1, ()))))))))))) ((1 : Int), ((1 : Int), ([(0 : Int)], ((-1 : Int), ())))) (r2.1.1, ((r2.1.2.1.1, (r2.1.2.1.2.1, ())), r2.1.2.2)) (4 : Int)) fun r5 =>
  some ((r5.1, r5.2.1, ()), ()))) (agree (Option.bind (patternAt_i ((law3Tic).1, (((law3Tic).2).1, ((((law3Tic).2).2).1, (((((law3Tic).2).2).2).1, ((((((law3Tic).2).2).2).2).1, (((((((law3Tic).2).2).2).2).2).1, ((((((((law3Tic).2).2).2).2).2).2).1, (((((((((law3Tic).2).2).2).2).2).2).2).1, ((((((((((law3Tic).2).2).2).2).2).2).2).2).1, (((((((((((law3Tic).2).2).2).2).2).2).2).2).2).1, ((((((((((((law3Tic).2).2).2).2).2).2).2).2).2).2).1, ()))))))))))) ((1 : Int), ((1 : Int), ([(0 : Int)], ((-1 : Int), ())))) (r2.1.1, ((r2.1.2.1.1, (r2.1.2.1.2.1, ())), r2.1.2.2)) (4 : Int)) fun r6 =>
  some ((r6.1, r6.2.1, ()), ())) (Option.bind (patternAt_i ((law3Tic).1, (((law3Tic).2).1, ((((law3Tic).2).2).1, (((((law3Tic).2).2).2).1, ((((((law3Tic).2).2).2).2).1, (((((((law3Tic).2).2).2).2).2).1, ((((((((law3Tic).2).2).2).2).2).2).1, (((((((((law3Tic).2).2).2).2).2).2).2).1, ((((((((((law3Tic).2).2).2).2).2).2).2).2).1, (((((((((((law3Tic).2).2).2).2).2).2).2).2).2).1, ((((((((((((law3Tic).2).2).2).2).2).2).2).2).2).2).1, ()))))))))))) ((1 : Int), ((1 : Int), ([(0 : Int)], ((-1 : Int), ())))) (r2.1.1, ((r2.1.2.1.1, (r2.1.2.1.2.1, ())), r2.1.2.2)) (4 : Int)) fun r7 =>
  some ((r7.1, r7.2.1, ()), ()))))) fun x8 =>
  some (((r2.2.1 == (0 : Int)) && (x8.1.2.1 == (0 : Int))) && x8.1.1)
noncomputable def law3PatternFault_L1 (x : Int × Int × (List Int) × Int × Unit) (r : ByteArray × Int × Int × (List (Int × Int × Int × (List (Int × Int × Int × Int × Unit)) × Unit)) × (List Int) × Bool × Bool × (List (Int × Int × Int × Bool × Unit)) × Int × Int × Int × Unit) (x3 : (Int × Unit) × (Unit)) : Option (((Int × Unit) × (Unit)) ⊕ (((Unit) × (Unit)) ⊕ Int)) :=
  bif (decide (x3.1.1 < ((x.2.2.1.length : Nat) : Int))) then (Option.bind (at? x.2.2.1 x3.1.1) fun d4 =>
  bif ((decide (d4 < (-3 : Int))) || (decide (d4 > (w64 ((2 : Int) * ((r.2.2.2.1.length : Nat) : Int)))))) then some (Sum.inr (Sum.inr (4 : Int)))
  else some (Sum.inl (((w64 (x3.1.1 + (1 : Int))), ()), ())))
  else some (Sum.inr (Sum.inl ((), ())))
noncomputable def law3PatternFault (r : ByteArray × Int × Int × (List (Int × Int × Int × (List (Int × Int × Int × Int × Unit)) × Unit)) × (List Int) × Bool × Bool × (List (Int × Int × Int × Bool × Unit)) × Int × Int × Int × Unit) (x : Int × Int × (List Int) × Int × Unit) : Option (Int) :=
  Option.bind (rulesCheck r) fun r2 =>
  bif (r2 != (0 : Int)) then some r2
  else bif ((((decide (x.1 < (1 : Int))) || (decide (x.1 > r.2.1))) || (decide (x.2.1 < (1 : Int)))) || (decide (x.2.1 > r.2.2.1))) then some (4 : Int)
  else bif (((x.2.2.1.length : Nat) : Int) != (w64 (x.1 * x.2.1))) then some (3 : Int)
  else Option.bind (α := ((Unit) × (Unit)) ⊕ Int) (iterW (law3PatternFault_L1 x r) (((0 : Int), ()), ())) (Sum.elim (fun x5 =>
  bif ((decide (x.2.2.2.1 < (-1 : Int))) || (decide (x.2.2.2.1 > (1 : Int)))) then some (4 : Int)
  else some (0 : Int)) some)
noncomputable def patternList_L1 (p : (List Int) × ((List Int) × (List Int) × Unit) × Int × Int × Unit) (r : ByteArray × Int × Int × (List (Int × Int × Int × (List (Int × Int × Int × Int × Unit)) × Unit)) × (List Int) × Bool × Bool × (List (Int × Int × Int × Bool × Unit)) × Int × Int × Int × Unit) (x : Int × Int × (List Int) × Int × Unit) (x1 : ((List Int) × Int × Unit) × (Unit)) : Option ((((List Int) × Int × Unit) × (Unit)) ⊕ (((List Int) × Unit) × (Unit))) :=
  bif (decide (x1.1.2.1 < ((p.1.length : Nat) : Int))) then (Option.bind (patternAt r x p x1.1.2.1) fun r2 =>
  Option.bind (bif r2 then req (room (x1.1.1.length + ([x1.1.2.1]).length) 8) (some (((x1.1.1 ++ [x1.1.2.1]), ()), ()))
  else some ((x1.1.1, ()), ())) fun x3 =>
  some (Sum.inl ((x3.1.1, (w64 (x1.1.2.1 + (1 : Int))), ()), ())))
  else some (Sum.inr ((x1.1.1, ()), ()))
noncomputable def patternList (r : ByteArray × Int × Int × (List (Int × Int × Int × (List (Int × Int × Int × Int × Unit)) × Unit)) × (List Int) × Bool × Bool × (List (Int × Int × Int × Bool × Unit)) × Int × Int × Int × Unit) (x : Int × Int × (List Int) × Int × Unit) (p : (List Int) × ((List Int) × (List Int) × Unit) × Int × Int × Unit) : Option (List Int) :=
  Option.bind (iterW (patternList_L1 p r x) ((([] : List Int), (0 : Int), ()), ())) fun x4 =>
  some x4.1.1
noncomputable def patternFind_L1 (games : List (List (Int × Int × Int × Unit))) (r : ByteArray × Int × Int × (List (Int × Int × Int × (List (Int × Int × Int × Int × Unit)) × Unit)) × (List Int) × Bool × Bool × (List (Int × Int × Int × Bool × Unit)) × Int × Int × Int × Unit) (x3 : (Int × Unit) × (Unit)) : Option (((Int × Unit) × (Unit)) ⊕ (((Unit) × (Unit)) ⊕ ((List (Int × Int × Int × Unit)) × Int × Unit))) :=
  bif (decide (x3.1.1 < ((games.length : Nat) : Int))) then (Option.bind (at? games x3.1.1) fun d4 =>
  Option.bind (plainRun r d4) fun r5 =>
  bif (r5.2.2.1 != (0 : Int)) then some (Sum.inr (Sum.inr (([] : List (Int × Int × Int × Unit)), r5.2.2)))
  else some (Sum.inl (((w64 (x3.1.1 + (1 : Int))), ()), ())))
  else some (Sum.inr (Sum.inl ((), ())))
noncomputable def patternFind_L4 (r11 : List Int) (x7 : ((List (Int × Int × Int × Unit)) × Int × Unit) × (Unit)) (x10 : ((List (Int × Int × Int × Unit)) × Int × Unit) × (((List Int) × (List Int) × (List Int) × Int × Int × Unit) × Unit)) (x12 : ((List (Int × Int × Int × Unit)) × Int × Unit) × (Unit)) : Option ((((List (Int × Int × Int × Unit)) × Int × Unit) × (Unit)) ⊕ (((List (Int × Int × Int × Unit)) × Unit) × (Unit))) :=
  bif (decide (x12.1.2.1 < ((r11.length : Nat) : Int))) then req (inb x12.1.2.1 r11.length) (req (room (x12.1.1.length + ([(x7.1.2.1, (x10.1.2.1, ((getD' r11 ((x12.1.2.1).toNat) (0 : Int)), ())))]).length) 24) (some (Sum.inl (((x12.1.1 ++ [(x7.1.2.1, (x10.1.2.1, ((getD' r11 ((x12.1.2.1).toNat) (0 : Int)), ())))]), (w64 (x12.1.2.1 + (1 : Int))), ()), ()))))
  else some (Sum.inr ((x12.1.1, ()), ()))
noncomputable def patternFind_L3 (d8 : List (Int × Int × Int × Unit)) (r : ByteArray × Int × Int × (List (Int × Int × Int × (List (Int × Int × Int × Int × Unit)) × Unit)) × (List Int) × Bool × Bool × (List (Int × Int × Int × Bool × Unit)) × Int × Int × Int × Unit) (x : Int × Int × (List Int) × Int × Unit) (x7 : ((List (Int × Int × Int × Unit)) × Int × Unit) × (Unit)) (x10 : ((List (Int × Int × Int × Unit)) × Int × Unit) × (((List Int) × (List Int) × (List Int) × Int × Int × Unit) × Unit)) : Option ((((List (Int × Int × Int × Unit)) × Int × Unit) × (((List Int) × (List Int) × (List Int) × Int × Int × Unit) × Unit)) ⊕ (((List (Int × Int × Int × Unit)) × Unit) × (((List Int) × (List Int) × (List Int) × Int × Int × Unit) × Unit))) :=
  bif (decide (x10.1.2.1 < (w64 (((d8.length : Nat) : Int) + (1 : Int))))) then (Option.bind (Option.bind (patternList r x (x10.2.1.1, ((x10.2.1.2.1, (x10.2.1.2.2.1, ())), x10.2.1.2.2.2))) fun r11 =>
  Option.bind (iterW (patternFind_L4 r11 x7 x10) ((x10.1.1, (0 : Int), ()), ())) fun x13 =>
  Option.bind (bif (decide (x10.1.2.1 < ((d8.length : Nat) : Int))) then (Option.bind (at? d8 x10.1.2.1) fun d14 =>
  Option.bind (movesMake r (x10.2.1.1, ((x10.2.1.2.1, (x10.2.1.2.2.1, ())), x10.2.1.2.2.2)) d14) fun r15 =>
  some ((), ((r15.1, (r15.2.1.1, (r15.2.1.2.1, r15.2.2))), ())))
  else some ((), ((x10.2.1.1, (x10.2.1.2.1, (x10.2.1.2.2.1, x10.2.1.2.2.2))), ()))) fun x16 =>
  some ((x13.1.1, ()), ((x16.2.1.1, (x16.2.1.2.1, (x16.2.1.2.2.1, x16.2.1.2.2.2))), ()))) fun x17 =>
  some (Sum.inl ((x17.1.1, (w64 (x10.1.2.1 + (1 : Int))), ()), ((x17.2.1.1, (x17.2.1.2.1, (x17.2.1.2.2.1, x17.2.1.2.2.2))), ()))))
  else some (Sum.inr ((x10.1.1, ()), ((x10.2.1.1, (x10.2.1.2.1, (x10.2.1.2.2.1, x10.2.1.2.2.2))), ())))
noncomputable def patternFind_L2 (games : List (List (Int × Int × Int × Unit))) (r : ByteArray × Int × Int × (List (Int × Int × Int × (List (Int × Int × Int × Int × Unit)) × Unit)) × (List Int) × Bool × Bool × (List (Int × Int × Int × Bool × Unit)) × Int × Int × Int × Unit) (x : Int × Int × (List Int) × Int × Unit) (x7 : ((List (Int × Int × Int × Unit)) × Int × Unit) × (Unit)) : Option ((((List (Int × Int × Int × Unit)) × Int × Unit) × (Unit)) ⊕ (((List (Int × Int × Int × Unit)) × Unit) × (Unit))) :=
  bif (decide (x7.1.2.1 < ((games.length : Nat) : Int))) then (Option.bind (Option.bind (at? games x7.1.2.1) fun d8 =>
  Option.bind (placeBegin r) fun r9 =>
  Option.bind (iterW (patternFind_L3 d8 r x x7) ((x7.1.1, (0 : Int), ()), ((r9.1.1, (r9.1.2.1.1, (r9.1.2.1.2.1, r9.1.2.2))), ()))) fun x18 =>
  some ((x18.1.1, ()), ())) fun x19 =>
  some (Sum.inl ((x19.1.1, (w64 (x7.1.2.1 + (1 : Int))), ()), ())))
  else some (Sum.inr ((x7.1.1, ()), ()))
noncomputable def patternFind (r : ByteArray × Int × Int × (List (Int × Int × Int × (List (Int × Int × Int × Int × Unit)) × Unit)) × (List Int) × Bool × Bool × (List (Int × Int × Int × Bool × Unit)) × Int × Int × Int × Unit) (x : Int × Int × (List Int) × Int × Unit) (games : List (List (Int × Int × Int × Unit))) : Option ((List (Int × Int × Int × Unit)) × Int × Unit) :=
  Option.bind (patternCheck r x) fun r2 =>
  bif (r2 != (0 : Int)) then some (([] : List (Int × Int × Int × Unit)), (r2, ()))
  else bif (decide (((games.length : Nat) : Int) > (50 : Int))) then some (([] : List (Int × Int × Int × Unit)), ((2 : Int), ()))
  else Option.bind (α := ((Unit) × (Unit)) ⊕ ((List (Int × Int × Int × Unit)) × Int × Unit)) (iterW (patternFind_L1 games r) (((0 : Int), ()), ())) (Sum.elim (fun x6 =>
  Option.bind (iterW (patternFind_L2 games r x) ((([] : List (Int × Int × Int × Unit)), (0 : Int), ()), ())) fun x20 =>
  bif (decide (((x20.1.1.length : Nat) : Int) > (1000 : Int))) then some (([] : List (Int × Int × Int × Unit)), ((9 : Int), ()))
  else some (x20.1.1, ((0 : Int), ()))) some)
noncomputable def ref3Fits_L2 (t : Int × Int × (List Int) × Int × Unit) (p : (List Int) × ((List Int) × (List Int) × Unit) × Int × Int × Unit) (y : Int) (x1 : (Int × Unit) × (Unit)) (r : ByteArray × Int × Int × (List (Int × Int × Int × (List (Int × Int × Int × Int × Unit)) × Unit)) × (List Int) × Bool × Bool × (List (Int × Int × Int × Bool × Unit)) × Int × Int × Int × Unit) (x : Int) (x2 : (Int × Unit) × (Unit)) : Option (((Int × Unit) × (Unit)) ⊕ (((Unit) × (Unit)) ⊕ (((Unit) × (Unit)) ⊕ (((Int × Unit) × (Unit)) ⊕ (((Unit) × (Unit)) ⊕ Bool))))) :=
  bif (decide (x2.1.1 < t.1)) then (Option.bind (at? p.1 (w64 ((w64 ((w64 ((w64 (y + x1.1.1)) * r.2.1)) + x)) + x2.1.1))) fun d3 =>
  Option.bind (at? t.2.2.1 (w64 ((w64 (x1.1.1 * t.1)) + x2.1.1))) fun d4 =>
  req (imp (((d4 == (-2 : Int)) && (decide (d3 > (0 : Int)))) && (!((d4 == d3) || (d4 == (-1 : Int))))) true) (req (imp (((d4 == (-3 : Int)) && (decide (d3 > (0 : Int)))) && (!(((d4 == d3) || (d4 == (-1 : Int))) || (((d4 == (-2 : Int)) && (decide (d3 > (0 : Int)))) && ((d3.tmod (2 : Int)) == (1 : Int)))))) true) (bif (!((((d4 == d3) || (d4 == (-1 : Int))) || (((d4 == (-2 : Int)) && (decide (d3 > (0 : Int)))) && ((d3.tmod (2 : Int)) == (1 : Int)))) || (((d4 == (-3 : Int)) && (decide (d3 > (0 : Int)))) && ((d3.tmod (2 : Int)) == (0 : Int))))) then some (Sum.inr (Sum.inr (Sum.inr (Sum.inr (Sum.inr false)))))
  else some (Sum.inl (((w64 (x2.1.1 + (1 : Int))), ()), ())))))
  else some (Sum.inr (Sum.inl ((), ())))
noncomputable def ref3Fits_L1 (t : Int × Int × (List Int) × Int × Unit) (p : (List Int) × ((List Int) × (List Int) × Unit) × Int × Int × Unit) (y : Int) (r : ByteArray × Int × Int × (List (Int × Int × Int × (List (Int × Int × Int × Int × Unit)) × Unit)) × (List Int) × Bool × Bool × (List (Int × Int × Int × Bool × Unit)) × Int × Int × Int × Unit) (x : Int) (x1 : (Int × Unit) × (Unit)) : Option (((Int × Unit) × (Unit)) ⊕ (((Unit) × (Unit)) ⊕ Bool)) :=
  bif (decide (x1.1.1 < t.2.1)) then (Option.bind (α := ((Unit) × (Unit)) ⊕ (((Int × Unit) × (Unit)) ⊕ (((Unit) × (Unit)) ⊕ Bool))) (Option.bind (α := ((Unit) × (Unit)) ⊕ (((Unit) × (Unit)) ⊕ (((Int × Unit) × (Unit)) ⊕ (((Unit) × (Unit)) ⊕ Bool)))) (iterW (ref3Fits_L2 t p y x1 r x) (((0 : Int), ()), ())) (Sum.elim (fun x5 =>
  some (Sum.inl ((), ()))) some)) (Sum.elim (fun x6 =>
  some (Sum.inl (((w64 (x1.1.1 + (1 : Int))), ()), ()))) some))
  else some (Sum.inr (Sum.inl ((), ())))
noncomputable def ref3Fits (r : ByteArray × Int × Int × (List (Int × Int × Int × (List (Int × Int × Int × Int × Unit)) × Unit)) × (List Int) × Bool × Bool × (List (Int × Int × Int × Bool × Unit)) × Int × Int × Int × Unit) (t : Int × Int × (List Int) × Int × Unit) (p : (List Int) × ((List Int) × (List Int) × Unit) × Int × Int × Unit) (x : Int) (y : Int) : Option (Bool) :=
  bif ((((t.2.2.2.1 != (-1 : Int)) && (t.2.2.2.1 != p.2.2.1)) || (decide ((w64 (x + t.1)) > r.2.1))) || (decide ((w64 (y + t.2.1)) > r.2.2.1))) then some false
  else Option.bind (α := ((Unit) × (Unit)) ⊕ Bool) (iterW (ref3Fits_L1 t p y r x) (((0 : Int), ()), ())) (Sum.elim (fun x7 =>
  some true) some)
noncomputable def patternAll (r : ByteArray × Int × Int × (List (Int × Int × Int × (List (Int × Int × Int × Int × Unit)) × Unit)) × (List Int) × Bool × Bool × (List (Int × Int × Int × Bool × Unit)) × Int × Int × Int × Unit) (x : Int × Int × (List Int) × Int × Unit) (p : (List Int) × ((List Int) × (List Int) × Unit) × Int × Int × Unit) : Option ((List Int) × Int × Unit) :=
  Option.bind (patternCheck_i r x p) fun r3 =>
  bif (r3 != (0 : Int)) then some (([] : List Int), (r3, ()))
  else Option.bind (patternList r x p) fun r4 =>
  some (r4, ((0 : Int), ()))
noncomputable def law3PatternFinds_L3 (d18 : (List Int) × ((List Int) × (List Int) × Unit) × Int × Int × Unit) (r : ByteArray × Int × Int × (List (Int × Int × Int × (List (Int × Int × Int × Int × Unit)) × Unit)) × (List Int) × Bool × Bool × (List (Int × Int × Int × Bool × Unit)) × Int × Int × Int × Unit) (x : Int × Int × (List Int) × Int × Unit) (r12 : (List (Int × Int × Int × Unit)) × Int × Unit) (x16 : (Int × Int × Unit) × (Unit)) (x17 : (Int × Int × Unit) × (Unit)) (x19 : (Int × Int × Unit) × (Unit)) : Option (((Int × Int × Unit) × (Unit)) ⊕ (((Int × Unit) × (Unit)) ⊕ (((Int × Unit) × (Unit)) ⊕ (((Int × Int × Unit) × (Unit)) ⊕ (((Int × Unit) × (Unit)) ⊕ (((Int × Unit) × (Unit)) ⊕ (((Int × Int × Unit) × (Unit)) ⊕ (((Int × Unit) × (Unit)) ⊕ Bool)))))))) :=
  bif (decide (x19.1.2.1 < ((d18.1.length : Nat) : Int))) then (Option.bind (α := ((Int × Unit) × (Unit)) ⊕ (((Int × Int × Unit) × (Unit)) ⊕ (((Int × Unit) × (Unit)) ⊕ (((Int × Unit) × (Unit)) ⊕ (((Int × Int × Unit) × (Unit)) ⊕ (((Int × Unit) × (Unit)) ⊕ (((Int × Unit) × (Unit)) ⊕ (((Int × Int × Unit) × (Unit)) ⊕ (((Int × Unit) × (Unit)) ⊕ Bool))))))))) (req (r.2.1 != 0) (req (r.2.1 != 0) (Option.bind (ref3Fits r x d18 (x19.1.2.1.tmod r.2.1) (w64 (x19.1.2.1.tdiv r.2.1))) fun r20 =>
  bif (!r20) then some (Sum.inl ((x19.1.1, ()), ()))
  else req (imp (!(decide (x19.1.1 ≥ ((r12.1.length : Nat) : Int)))) (inb x19.1.1 r12.1.length)) (bif ((decide (x19.1.1 ≥ ((r12.1.length : Nat) : Int))) || (!(((getD' r12.1 ((x19.1.1).toNat) ((0 : Int), ((0 : Int), ((0 : Int), ())))).1 == x16.1.2.1) && ((((getD' r12.1 ((x19.1.1).toNat) ((0 : Int), ((0 : Int), ((0 : Int), ())))).2).1 == x17.1.2.1) && (((((getD' r12.1 ((x19.1.1).toNat) ((0 : Int), ((0 : Int), ((0 : Int), ())))).2).2).1 == x19.1.2.1) && true))))) then some (Sum.inr (Sum.inr (Sum.inr (Sum.inr (Sum.inr (Sum.inr (Sum.inr (Sum.inr (Sum.inr false)))))))))
  else some (Sum.inl (((w64 (x19.1.1 + (1 : Int))), ()), ())))))) (Sum.elim (fun x21 =>
  some (Sum.inl ((x21.1.1, (w64 (x19.1.2.1 + (1 : Int))), ()), ()))) some))
  else some (Sum.inr (Sum.inl ((x19.1.1, ()), ())))
noncomputable def law3PatternFinds_L2 (r14 : (List ((List Int) × ((List Int) × (List Int) × Unit) × Int × Int × Unit)) × Int × Unit) (x16 : (Int × Int × Unit) × (Unit)) (r : ByteArray × Int × Int × (List (Int × Int × Int × (List (Int × Int × Int × Int × Unit)) × Unit)) × (List Int) × Bool × Bool × (List (Int × Int × Int × Bool × Unit)) × Int × Int × Int × Unit) (x : Int × Int × (List Int) × Int × Unit) (r12 : (List (Int × Int × Int × Unit)) × Int × Unit) (x17 : (Int × Int × Unit) × (Unit)) : Option (((Int × Int × Unit) × (Unit)) ⊕ (((Int × Unit) × (Unit)) ⊕ (((Int × Unit) × (Unit)) ⊕ (((Int × Int × Unit) × (Unit)) ⊕ (((Int × Unit) × (Unit)) ⊕ Bool))))) :=
  bif (decide (x17.1.2.1 < (((getD' ([r14.1, ((r14.1.take 1).drop 0)]) ((x16.1.2.1).toNat) []).length : Nat) : Int))) then (Option.bind (α := ((Int × Unit) × (Unit)) ⊕ (((Int × Int × Unit) × (Unit)) ⊕ (((Int × Unit) × (Unit)) ⊕ (((Int × Unit) × (Unit)) ⊕ (((Int × Int × Unit) × (Unit)) ⊕ (((Int × Unit) × (Unit)) ⊕ Bool)))))) (Option.bind (at? (getD' ([r14.1, ((r14.1.take 1).drop 0)]) ((x16.1.2.1).toNat) []) x17.1.2.1) fun d18 =>
  Option.bind (α := ((Int × Unit) × (Unit)) ⊕ (((Int × Unit) × (Unit)) ⊕ (((Int × Int × Unit) × (Unit)) ⊕ (((Int × Unit) × (Unit)) ⊕ (((Int × Unit) × (Unit)) ⊕ (((Int × Int × Unit) × (Unit)) ⊕ (((Int × Unit) × (Unit)) ⊕ Bool))))))) (iterW (law3PatternFinds_L3 d18 r x r12 x16 x17) ((x17.1.1, (0 : Int), ()), ())) (Sum.elim (fun x22 =>
  some (Sum.inl ((x22.1.1, ()), ()))) some)) (Sum.elim (fun x23 =>
  some (Sum.inl ((x23.1.1, (w64 (x17.1.2.1 + (1 : Int))), ()), ()))) some))
  else some (Sum.inr (Sum.inl ((x17.1.1, ()), ())))
noncomputable def law3PatternFinds_L1 (r14 : (List ((List Int) × ((List Int) × (List Int) × Unit) × Int × Int × Unit)) × Int × Unit) (r : ByteArray × Int × Int × (List (Int × Int × Int × (List (Int × Int × Int × Int × Unit)) × Unit)) × (List Int) × Bool × Bool × (List (Int × Int × Int × Bool × Unit)) × Int × Int × Int × Unit) (x : Int × Int × (List Int) × Int × Unit) (r12 : (List (Int × Int × Int × Unit)) × Int × Unit) (x16 : (Int × Int × Unit) × (Unit)) : Option (((Int × Int × Unit) × (Unit)) ⊕ (((Int × Unit) × (Unit)) ⊕ Bool)) :=
  bif (decide (x16.1.2.1 < ((([r14.1, ((r14.1.take 1).drop 0)]).length : Nat) : Int))) then (Option.bind (α := ((Int × Unit) × (Unit)) ⊕ (((Int × Int × Unit) × (Unit)) ⊕ (((Int × Unit) × (Unit)) ⊕ Bool))) (req (inb x16.1.2.1 ([r14.1, ((r14.1.take 1).drop 0)]).length) (Option.bind (α := ((Int × Unit) × (Unit)) ⊕ (((Int × Unit) × (Unit)) ⊕ (((Int × Int × Unit) × (Unit)) ⊕ (((Int × Unit) × (Unit)) ⊕ Bool)))) (iterW (law3PatternFinds_L2 r14 x16 r x r12) ((x16.1.1, (0 : Int), ()), ())) (Sum.elim (fun x24 =>
  some (Sum.inl ((x24.1.1, ()), ()))) some))) (Sum.elim (fun x25 =>
  some (Sum.inl ((x25.1.1, (w64 (x16.1.2.1 + (1 : Int))), ()), ()))) some))
  else some (Sum.inr (Sum.inl ((x16.1.1, ()), ())))
noncomputable def law3PatternFinds_L4 (r14 : (List ((List Int) × ((List Int) × (List Int) × Unit) × Int × Int × Unit)) × Int × Unit) (r : ByteArray × Int × Int × (List (Int × Int × Int × (List (Int × Int × Int × Int × Unit)) × Unit)) × (List Int) × Bool × Bool × (List (Int × Int × Int × Bool × Unit)) × Int × Int × Int × Unit) (x : Int × Int × (List Int) × Int × Unit) (x31 : (Int × Int × Unit) × (Unit)) : Option (((Int × Int × Unit) × (Unit)) ⊕ ((Int × Unit) × (Unit))) :=
  bif (decide (x31.1.2.1 < ((((getD' r14.1 (((w64 (((r14.1.length : Nat) : Int) - (1 : Int)))).toNat) ([], (([], ([], ())), ((0 : Int), ((0 : Int), ()))))).1).length : Nat) : Int))) then (req (r.2.1 != 0) (req (r.2.1 != 0) (Option.bind (ref3Fits r x (getD' r14.1 (((w64 (((r14.1.length : Nat) : Int) - (1 : Int)))).toNat) ([], (([], ([], ())), ((0 : Int), ((0 : Int), ()))))) (x31.1.2.1.tmod r.2.1) (w64 (x31.1.2.1.tdiv r.2.1))) fun r32 =>
  Option.bind (bif r32 then some (((w64 (x31.1.1 + (1 : Int))), ()), ())
  else some ((x31.1.1, ()), ())) fun x33 =>
  some (Sum.inl ((x33.1.1, (w64 (x31.1.2.1 + (1 : Int))), ()), ())))))
  else some (Sum.inr ((x31.1.1, ()), ()))
noncomputable def law3PatternFinds (r : ByteArray × Int × Int × (List (Int × Int × Int × (List (Int × Int × Int × Int × Unit)) × Unit)) × (List Int) × Bool × Bool × (List (Int × Int × Int × Bool × Unit)) × Int × Int × Int × Unit) (x : Int × Int × (List Int) × Int × Unit) (l : List (Int × Int × Int × Unit)) (square : Int) : Option (Bool) :=
  Option.bind (law3Patterns) fun r9 =>
  bif (!r9) then some false
  else Option.bind (law3Cut l) fun r10 =>
  bif (law3Great r) then some true
  else Option.bind (law3PatternFault r x) fun r11 =>
  Option.bind (patternFind r x ([r10, ([] : List (Int × Int × Int × Unit))])) fun r12 =>
  Option.bind (patternCheck r x) fun r13 =>
  bif (r13 != r11) then some false
  else Option.bind (ref3Places r r10) fun r14 =>
  Option.bind (bif (r11 == (0 : Int)) then some ((r14.2.1, ()), ())
  else some ((r11, ()), ())) fun x15 =>
  bif (x15.1.1 != (0 : Int)) then some ((r12.2.1 == x15.1.1) && (((r12.1.length : Nat) : Int) == (0 : Int)))
  else req (boundsI (0 : Int) (1 : Int) r14.1.length) (Option.bind (α := ((Int × Unit) × (Unit)) ⊕ Bool) (iterW (law3PatternFinds_L1 r14 r x r12) (((0 : Int), (0 : Int), ()), ())) (Sum.elim (fun x26 =>
  req (inb (w64 (((r14.1.length : Nat) : Int) - (1 : Int))) r14.1.length) (Option.bind (patternAt_i r x (getD' r14.1 (((w64 (((r14.1.length : Nat) : Int) - (1 : Int)))).toNat) ([], (([], ([], ())), ((0 : Int), ((0 : Int), ()))))) square) fun r27 =>
  Option.bind (patternAll r x (getD' r14.1 (((w64 (((r14.1.length : Nat) : Int) - (1 : Int)))).toNat) ([], (([], ([], ())), ((0 : Int), ((0 : Int), ())))))) fun r28 =>
  Option.bind (α := ((Unit) × (Unit)) ⊕ Bool) (bif ((decide (square < (0 : Int))) || (decide (square ≥ ((((getD' r14.1 (((w64 (((r14.1.length : Nat) : Int) - (1 : Int)))).toNat) ([], (([], ([], ())), ((0 : Int), ((0 : Int), ()))))).1).length : Nat) : Int)))) then (bif ((r27.2.1 != (1 : Int)) || r27.1) then some (Sum.inr false)
  else some (Sum.inl ((), ())))
  else req (imp (!(r27.2.1 != (0 : Int))) (r.2.1 != 0)) (req (imp (!(r27.2.1 != (0 : Int))) (r.2.1 != 0)) (Option.bind (gopt (!(r27.2.1 != (0 : Int))) false (ref3Fits r x (getD' r14.1 (((w64 (((r14.1.length : Nat) : Int) - (1 : Int)))).toNat) ([], (([], ([], ())), ((0 : Int), ((0 : Int), ()))))) (square.tmod r.2.1) (w64 (square.tdiv r.2.1)))) fun r29 =>
  bif ((r27.2.1 != (0 : Int)) || (!(r27.1 == r29))) then some (Sum.inr false)
  else some (Sum.inl ((), ()))))) (Sum.elim (fun x30 =>
  Option.bind (iterW (law3PatternFinds_L4 r14 r x) (((0 : Int), (0 : Int), ()), ())) fun x34 =>
  some ((((r12.2.1 == (0 : Int)) && (x26.1.1 == ((r12.1.length : Nat) : Int))) && (r28.2.1 == (0 : Int))) && (((r28.1.length : Nat) : Int) == x34.1.1))) some))) some))
end Go.Proofs.Ytaaigenpmaiodaa
