/- What functions compute, in plain Lean: ClockStops. No condition of its own. -/
import Derived.Test.YtejmikpmkfnlgaaDen0
namespace Go.Proofs.Ytejmikpmkfnlgaa
open Go.Den
set_option linter.unusedVariables false
set_option maxRecDepth 100000
noncomputable def law3Minute_o : Option ((List (Int × Int × Unit)) × Int × Int × Unit) :=
  some ([((0 : Int), ((60000 : Int), ()))], ((1000 : Int), ((0 : Int), ())))
def law3Minute : (List (Int × Int × Unit)) × Int × Int × Unit :=
  ([((0 : Int), ((60000 : Int), ()))], ((1000 : Int), ((0 : Int), ())))
theorem law3Minute_eq : law3Minute_o = some (law3Minute) := by
  unfold law3Minute_o law3Minute
  first | rfl | simp only [cond_some]
noncomputable def clockWithin_o (n : Int) (low : Int) (high : Int) : Option (Bool) :=
  some ((decide (n ≥ low)) && (decide (n ≤ high)))
def clockWithin (n : Int) (low : Int) (high : Int) : Bool :=
  ((decide (n ≥ low)) && (decide (n ≤ high)))
theorem clockWithin_eq (n : Int) (low : Int) (high : Int) : clockWithin_o n low high = some (clockWithin n low high) := by
  unfold clockWithin_o clockWithin
  first | rfl | simp only [cond_some]
noncomputable def clockCheck_L1 (r : (List (Int × Int × Unit)) × Int × Int × Unit) (x1 : (Int × Unit) × (Unit)) : Option (((Int × Unit) × (Unit)) ⊕ (((Unit) × (Unit)) ⊕ Int)) :=
  bif (decide (x1.1.1 < ((r.1.length : Nat) : Int))) then (Option.bind (at? r.1 x1.1.1) fun d2 =>
  bif ((!(clockWithin d2.1 (0 : Int) (400 : Int))) || (!(clockWithin d2.2.1 (1 : Int) (100000000 : Int)))) then some (Sum.inr (Sum.inr (4 : Int)))
  else bif (!((d2.1 == (0 : Int)) == (x1.1.1 == (w64 (((r.1.length : Nat) : Int) - (1 : Int)))))) then some (Sum.inr (Sum.inr (3 : Int)))
  else some (Sum.inl (((w64 (x1.1.1 + (1 : Int))), ()), ())))
  else some (Sum.inr (Sum.inl ((), ())))
noncomputable def clockCheck (r : (List (Int × Int × Unit)) × Int × Int × Unit) : Option (Int) :=
  bif (!(clockWithin ((r.1.length : Nat) : Int) (1 : Int) (5 : Int))) then some (2 : Int)
  else bif ((!(clockWithin r.2.1 (0 : Int) (100000000 : Int))) || (!(clockWithin r.2.2.1 (0 : Int) (100000000 : Int)))) then some (4 : Int)
  else Option.bind (α := ((Unit) × (Unit)) ⊕ Int) (iterW (clockCheck_L1 r) (((0 : Int), ()), ())) (Sum.elim (fun x3 =>
  some (0 : Int)) some)
noncomputable def clockStart (r : (List (Int × Int × Unit)) × Int × Int × Unit) (now : Int) : Option (((Int × Int × Unit) × (Int × Int × Unit) × (Int × Int × Unit) × Int × Int × Bool × Int × Unit) × Int × Unit) :=
  Option.bind (clockCheck r) fun r3 =>
  bif (r3 != (0 : Int)) then some ((((0 : Int), ((0 : Int), ())), (((0 : Int), ((0 : Int), ())), (((0 : Int), ((0 : Int), ())), ((0 : Int), ((0 : Int), (false, ((0 : Int), ()))))))), (r3, ()))
  else bif (!(clockWithin now (0 : Int) (100000000 : Int))) then some ((((0 : Int), ((0 : Int), ())), (((0 : Int), ((0 : Int), ())), (((0 : Int), ((0 : Int), ())), ((0 : Int), ((0 : Int), (false, ((0 : Int), ()))))))), ((11 : Int), ()))
  else Option.bind (at? r.1 (0 : Int)) fun d4 =>
  some (((d4.2.1, d4.2), (((0 : Int), ((0 : Int), ())), (((0 : Int), ((0 : Int), ())), ((0 : Int), (now, (false, ((-1 : Int), ()))))))), ((0 : Int), ()))
noncomputable def law3Ticks : Option (Bool) :=
  Option.bind (clockStart ((law3Minute).1, (((law3Minute).2).1, ((((law3Minute).2).2).1, ()))) (5 : Int)) fun r2 =>
  some ((r2.2.1 == (0 : Int)) && ((r2.1.1.1 == (60000 : Int)) && ((r2.1.1.2.1 == (60000 : Int)) && true)))
noncomputable def clockValid_L1 (c : (Int × Int × Unit) × (Int × Int × Unit) × (Int × Int × Unit) × Int × Int × Bool × Int × Unit) (r : (List (Int × Int × Unit)) × Int × Int × Unit) (x3 : (Bool × Int × Unit) × (Unit)) : Option (((Bool × Int × Unit) × (Unit)) ⊕ ((Bool × Unit) × (Unit))) :=
  bif (decide (x3.1.2.1 < (2 : Int))) then req (imp x3.1.1 (inb x3.1.2.1 2)) (req (imp (x3.1.1 && (clockWithin (getD' [c.2.2.1.1, c.2.2.1.2.1] (x3.1.2.1).toNat 0) (0 : Int) (w64 (((r.1.length : Nat) : Int) - (1 : Int))))) (inb x3.1.2.1 2)) (req (imp ((x3.1.1 && (clockWithin (getD' [c.2.2.1.1, c.2.2.1.2.1] (x3.1.2.1).toNat 0) (0 : Int) (w64 (((r.1.length : Nat) : Int) - (1 : Int))))) && (clockWithin (getD' [c.2.1.1, c.2.1.2.1] (x3.1.2.1).toNat 0) (0 : Int) (400 : Int))) (inb x3.1.2.1 2)) (some (Sum.inl (((((x3.1.1 && (clockWithin (getD' [c.2.2.1.1, c.2.2.1.2.1] (x3.1.2.1).toNat 0) (0 : Int) (w64 (((r.1.length : Nat) : Int) - (1 : Int))))) && (clockWithin (getD' [c.2.1.1, c.2.1.2.1] (x3.1.2.1).toNat 0) (0 : Int) (400 : Int))) && (clockWithin (getD' [c.1.1, c.1.2.1] (x3.1.2.1).toNat 0) (0 : Int) (100000000000 : Int))), (w64 (x3.1.2.1 + (1 : Int))), ()), ())))))
  else some (Sum.inr ((x3.1.1, ()), ()))
noncomputable def clockValid (r : (List (Int × Int × Unit)) × Int × Int × Unit) (c : (Int × Int × Unit) × (Int × Int × Unit) × (Int × Int × Unit) × Int × Int × Bool × Int × Unit) : Option (Int) :=
  Option.bind (clockCheck r) fun r2 =>
  bif (r2 != (0 : Int)) then some r2
  else Option.bind (iterW (clockValid_L1 c r) (((((clockWithin c.2.2.2.1 (0 : Int) (1 : Int)) && (clockWithin c.2.2.2.2.2.2.1 (-1 : Int) (1 : Int))) && (clockWithin c.2.2.2.2.1 (0 : Int) (100000000 : Int))), (0 : Int), ()), ())) fun x4 =>
  bif (!x4.1.1) then some (4 : Int)
  else some (0 : Int)
noncomputable def clockUsed_o (r : (List (Int × Int × Unit)) × Int × Int × Unit) (c : (Int × Int × Unit) × (Int × Int × Unit) × (Int × Int × Unit) × Int × Int × Bool × Int × Unit) (now : Int) : Option (Int) :=
  bif c.2.2.2.2.2.1 then some (0 : Int)
  else some (if (w64 ((w64 (now - c.2.2.2.2.1)) - r.2.2.1)) > (0 : Int) then (w64 ((w64 (now - c.2.2.2.2.1)) - r.2.2.1)) else (0 : Int))
def clockUsed (r : (List (Int × Int × Unit)) × Int × Int × Unit) (c : (Int × Int × Unit) × (Int × Int × Unit) × (Int × Int × Unit) × Int × Int × Bool × Int × Unit) (now : Int) : Int :=
  bif c.2.2.2.2.2.1 then (0 : Int)
  else (if (w64 ((w64 (now - c.2.2.2.2.1)) - r.2.2.1)) > (0 : Int) then (w64 ((w64 (now - c.2.2.2.2.1)) - r.2.2.1)) else (0 : Int))
theorem clockUsed_eq (r : (List (Int × Int × Unit)) × Int × Int × Unit) (c : (Int × Int × Unit) × (Int × Int × Unit) × (Int × Int × Unit) × Int × Int × Bool × Int × Unit) (now : Int) : clockUsed_o r c now = some (clockUsed r c now) := by
  unfold clockUsed_o clockUsed
  first | rfl | simp only [cond_some]
noncomputable def clockLook (r : (List (Int × Int × Unit)) × Int × Int × Unit) (c : (Int × Int × Unit) × (Int × Int × Unit) × (Int × Int × Unit) × Int × Int × Bool × Int × Unit) (now : Int) : Option (((Int × Int × Unit) × (Int × Int × Unit) × (Int × Int × Unit) × Int × Int × Bool × Int × Unit) × Int × Unit) :=
  Option.bind (clockValid r c) fun r2 =>
  bif (r2 != (0 : Int)) then some ((((0 : Int), ((0 : Int), ())), (((0 : Int), ((0 : Int), ())), (((0 : Int), ((0 : Int), ())), ((0 : Int), ((0 : Int), (false, ((0 : Int), ()))))))), (r2, ()))
  else bif (!(clockWithin now c.2.2.2.2.1 (100000000 : Int))) then some ((((0 : Int), ((0 : Int), ())), (((0 : Int), ((0 : Int), ())), (((0 : Int), ((0 : Int), ())), ((0 : Int), ((0 : Int), (false, ((0 : Int), ()))))))), ((11 : Int), ()))
  else req (imp (decide (c.2.2.2.2.2.2.1 < (0 : Int))) (inb c.2.2.2.1 2)) (Option.bind (bif ((decide (c.2.2.2.2.2.2.1 < (0 : Int))) && (decide ((clockUsed r c now) > (getD' [c.1.1, c.1.2.1] (c.2.2.2.1).toNat 0)))) then req (inb c.2.2.2.1 2) (some ((), (((bif (c.2.2.2.1 == (0 : Int)) then (0 : Int) else c.1.1), ((bif (c.2.2.2.1 == (1 : Int)) then (0 : Int) else c.1.2.1), (c.2.1.1, (c.2.1.2.1, (c.2.2.1.1, (c.2.2.1.2.1, (c.2.2.2.1, (c.2.2.2.2.1, (c.2.2.2.2.2.1, (c.2.2.2.1, ())))))))))), ())))
  else some ((), ((c.1.1, (c.1.2.1, (c.2.1.1, (c.2.1.2.1, (c.2.2.1.1, (c.2.2.1.2.1, c.2.2.2)))))), ()))) fun x3 =>
  some (((x3.2.1.1, (x3.2.1.2.1, ())), ((x3.2.1.2.2.1, (x3.2.1.2.2.2.1, ())), ((x3.2.1.2.2.2.2.1, (x3.2.1.2.2.2.2.2.1, ())), x3.2.1.2.2.2.2.2.2))), ((0 : Int), ())))
noncomputable def clockReady (r : (List (Int × Int × Unit)) × Int × Int × Unit) (c : (Int × Int × Unit) × (Int × Int × Unit) × (Int × Int × Unit) × Int × Int × Bool × Int × Unit) (now : Int) (stopped : Bool) : Option (((Int × Int × Unit) × (Int × Int × Unit) × (Int × Int × Unit) × Int × Int × Bool × Int × Unit) × Int × Unit) :=
  Option.bind (clockLook r c now) fun r2 =>
  bif (r2.2.1 != (0 : Int)) then some ((((0 : Int), ((0 : Int), ())), (((0 : Int), ((0 : Int), ())), (((0 : Int), ((0 : Int), ())), ((0 : Int), ((0 : Int), (false, ((0 : Int), ()))))))), r2.2)
  else bif (decide (r2.1.2.2.2.2.2.2.1 ≥ (0 : Int))) then some ((((0 : Int), ((0 : Int), ())), (((0 : Int), ((0 : Int), ())), (((0 : Int), ((0 : Int), ())), ((0 : Int), ((0 : Int), (false, ((0 : Int), ()))))))), ((14 : Int), ()))
  else bif (!(r2.1.2.2.2.2.2.1 == stopped)) then some ((((0 : Int), ((0 : Int), ())), (((0 : Int), ((0 : Int), ())), (((0 : Int), ((0 : Int), ())), ((0 : Int), ((0 : Int), (false, ((0 : Int), ()))))))), ((10 : Int), ()))
  else some (r2.1, ((0 : Int), ()))
noncomputable def clockStop (r : (List (Int × Int × Unit)) × Int × Int × Unit) (c : (Int × Int × Unit) × (Int × Int × Unit) × (Int × Int × Unit) × Int × Int × Bool × Int × Unit) (now : Int) : Option (((Int × Int × Unit) × (Int × Int × Unit) × (Int × Int × Unit) × Int × Int × Bool × Int × Unit) × Int × Unit) :=
  Option.bind (clockReady r c now false) fun r2 =>
  bif (r2.2.1 != (0 : Int)) then some ((((0 : Int), ((0 : Int), ())), (((0 : Int), ((0 : Int), ())), (((0 : Int), ((0 : Int), ())), ((0 : Int), ((0 : Int), (false, ((0 : Int), ()))))))), r2.2)
  else req (inb r2.1.2.2.2.1 2) (req (inb r2.1.2.2.2.1 2) (some ((((bif (r2.1.2.2.2.1 == (0 : Int)) then (w64 ((getD' [r2.1.1.1, r2.1.1.2.1] (r2.1.2.2.2.1).toNat 0) - (clockUsed r r2.1 now))) else r2.1.1.1), ((bif (r2.1.2.2.2.1 == (1 : Int)) then (w64 ((getD' [r2.1.1.1, r2.1.1.2.1] (r2.1.2.2.2.1).toNat 0) - (clockUsed r r2.1 now))) else r2.1.1.2.1), ())), (r2.1.2.1, (r2.1.2.2.1, (r2.1.2.2.2.1, (now, (true, r2.1.2.2.2.2.2.2)))))), ((0 : Int), ()))))
noncomputable def ref3Ruled_L1 (r : (List (Int × Int × Unit)) × Int × Int × Unit) (x1 : (Int × Unit) × (Unit)) : Option (((Int × Unit) × (Unit)) ⊕ (((Unit) × (Unit)) ⊕ Int)) :=
  bif (decide (x1.1.1 < ((r.1.length : Nat) : Int))) then (Option.bind (at? r.1 x1.1.1) fun d2 =>
  bif ((((decide (d2.1 < (0 : Int))) || (decide (d2.1 > (400 : Int)))) || (decide (d2.2.1 ≤ (0 : Int)))) || (decide (d2.2.1 > (100000000 : Int)))) then some (Sum.inr (Sum.inr (4 : Int)))
  else bif (((decide (x1.1.1 < (w64 (((r.1.length : Nat) : Int) - (1 : Int))))) && (d2.1 == (0 : Int))) || ((x1.1.1 == (w64 (((r.1.length : Nat) : Int) - (1 : Int)))) && (d2.1 != (0 : Int)))) then some (Sum.inr (Sum.inr (3 : Int)))
  else some (Sum.inl (((w64 (x1.1.1 + (1 : Int))), ()), ())))
  else some (Sum.inr (Sum.inl ((), ())))
noncomputable def ref3Ruled (r : (List (Int × Int × Unit)) × Int × Int × Unit) : Option (Int) :=
  bif ((decide (((r.1.length : Nat) : Int) < (1 : Int))) || (decide (((r.1.length : Nat) : Int) > (5 : Int)))) then some (2 : Int)
  else bif ((((decide (r.2.1 < (0 : Int))) || (decide (r.2.2.1 < (0 : Int)))) || (decide (r.2.1 > (100000000 : Int)))) || (decide (r.2.2.1 > (100000000 : Int)))) then some (4 : Int)
  else Option.bind (α := ((Unit) × (Unit)) ⊕ Int) (iterW (ref3Ruled_L1 r) (((0 : Int), ()), ())) (Sum.elim (fun x3 =>
  some (0 : Int)) some)
noncomputable def law3Clocked_L1 (c : (Int × Int × Unit) × (Int × Int × Unit) × (Int × Int × Unit) × Int × Int × Bool × Int × Unit) (r : (List (Int × Int × Unit)) × Int × Int × Unit) (x1 : (Bool × Int × Unit) × (Unit)) : Option (((Bool × Int × Unit) × (Unit)) ⊕ ((Bool × Unit) × (Unit))) :=
  bif (decide (x1.1.2.1 < (2 : Int))) then req (imp x1.1.1 (inb x1.1.2.1 2)) (req (imp (x1.1.1 && (decide ((getD' [c.2.2.1.1, c.2.2.1.2.1] (x1.1.2.1).toNat 0) ≥ (0 : Int)))) (inb x1.1.2.1 2)) (req (imp ((x1.1.1 && (decide ((getD' [c.2.2.1.1, c.2.2.1.2.1] (x1.1.2.1).toNat 0) ≥ (0 : Int)))) && (decide ((getD' [c.2.2.1.1, c.2.2.1.2.1] (x1.1.2.1).toNat 0) < ((r.1.length : Nat) : Int)))) (inb x1.1.2.1 2)) (req (imp (((x1.1.1 && (decide ((getD' [c.2.2.1.1, c.2.2.1.2.1] (x1.1.2.1).toNat 0) ≥ (0 : Int)))) && (decide ((getD' [c.2.2.1.1, c.2.2.1.2.1] (x1.1.2.1).toNat 0) < ((r.1.length : Nat) : Int)))) && (decide ((getD' [c.2.1.1, c.2.1.2.1] (x1.1.2.1).toNat 0) ≥ (0 : Int)))) (inb x1.1.2.1 2)) (req (imp ((((x1.1.1 && (decide ((getD' [c.2.2.1.1, c.2.2.1.2.1] (x1.1.2.1).toNat 0) ≥ (0 : Int)))) && (decide ((getD' [c.2.2.1.1, c.2.2.1.2.1] (x1.1.2.1).toNat 0) < ((r.1.length : Nat) : Int)))) && (decide ((getD' [c.2.1.1, c.2.1.2.1] (x1.1.2.1).toNat 0) ≥ (0 : Int)))) && (decide ((getD' [c.2.1.1, c.2.1.2.1] (x1.1.2.1).toNat 0) ≤ (400 : Int)))) (inb x1.1.2.1 2)) (req (imp (((((x1.1.1 && (decide ((getD' [c.2.2.1.1, c.2.2.1.2.1] (x1.1.2.1).toNat 0) ≥ (0 : Int)))) && (decide ((getD' [c.2.2.1.1, c.2.2.1.2.1] (x1.1.2.1).toNat 0) < ((r.1.length : Nat) : Int)))) && (decide ((getD' [c.2.1.1, c.2.1.2.1] (x1.1.2.1).toNat 0) ≥ (0 : Int)))) && (decide ((getD' [c.2.1.1, c.2.1.2.1] (x1.1.2.1).toNat 0) ≤ (400 : Int)))) && (decide ((getD' [c.1.1, c.1.2.1] (x1.1.2.1).toNat 0) ≥ (0 : Int)))) (inb x1.1.2.1 2)) (some (Sum.inl ((((((((x1.1.1 && (decide ((getD' [c.2.2.1.1, c.2.2.1.2.1] (x1.1.2.1).toNat 0) ≥ (0 : Int)))) && (decide ((getD' [c.2.2.1.1, c.2.2.1.2.1] (x1.1.2.1).toNat 0) < ((r.1.length : Nat) : Int)))) && (decide ((getD' [c.2.1.1, c.2.1.2.1] (x1.1.2.1).toNat 0) ≥ (0 : Int)))) && (decide ((getD' [c.2.1.1, c.2.1.2.1] (x1.1.2.1).toNat 0) ≤ (400 : Int)))) && (decide ((getD' [c.1.1, c.1.2.1] (x1.1.2.1).toNat 0) ≥ (0 : Int)))) && (decide ((getD' [c.1.1, c.1.2.1] (x1.1.2.1).toNat 0) ≤ (100000000000 : Int)))), (w64 (x1.1.2.1 + (1 : Int))), ()), ()))))))))
  else some (Sum.inr ((x1.1.1, ()), ()))
noncomputable def law3Clocked (r : (List (Int × Int × Unit)) × Int × Int × Unit) (c : (Int × Int × Unit) × (Int × Int × Unit) × (Int × Int × Unit) × Int × Int × Bool × Int × Unit) : Option (Bool) :=
  Option.bind (iterW (law3Clocked_L1 c r) ((((((((c.2.2.2.1 == (0 : Int)) || (c.2.2.2.1 == (1 : Int))) && (decide (c.2.2.2.2.2.2.1 ≥ (-1 : Int)))) && (decide (c.2.2.2.2.2.2.1 ≤ (1 : Int)))) && (decide (c.2.2.2.2.1 ≥ (0 : Int)))) && (decide (c.2.2.2.2.1 ≤ (100000000 : Int)))), (0 : Int), ()), ())) fun x2 =>
  some x2.1.1
noncomputable def clockGo (r : (List (Int × Int × Unit)) × Int × Int × Unit) (c : (Int × Int × Unit) × (Int × Int × Unit) × (Int × Int × Unit) × Int × Int × Bool × Int × Unit) (now : Int) : Option (((Int × Int × Unit) × (Int × Int × Unit) × (Int × Int × Unit) × Int × Int × Bool × Int × Unit) × Int × Unit) :=
  Option.bind (clockReady r c now true) fun r2 =>
  bif (r2.2.1 != (0 : Int)) then some ((((0 : Int), ((0 : Int), ())), (((0 : Int), ((0 : Int), ())), (((0 : Int), ((0 : Int), ())), ((0 : Int), ((0 : Int), (false, ((0 : Int), ()))))))), r2.2)
  else some ((r2.1.1, (r2.1.2.1, (r2.1.2.2.1, (r2.1.2.2.2.1, (now, (false, r2.1.2.2.2.2.2.2)))))), ((0 : Int), ()))
noncomputable def ref3Spent_o (r : (List (Int × Int × Unit)) × Int × Int × Unit) (long : Int) : Option (Int) :=
  bif (decide (long ≤ r.2.2.1)) then some (0 : Int)
  else some (w64 (long - r.2.2.1))
def ref3Spent (r : (List (Int × Int × Unit)) × Int × Int × Unit) (long : Int) : Int :=
  bif (decide (long ≤ r.2.2.1)) then (0 : Int)
  else (w64 (long - r.2.2.1))
theorem ref3Spent_eq (r : (List (Int × Int × Unit)) × Int × Int × Unit) (long : Int) : ref3Spent_o r long = some (ref3Spent r long) := by
  unfold ref3Spent_o ref3Spent
  first | rfl | simp only [cond_some]
noncomputable def law3ClockStops (r : (List (Int × Int × Unit)) × Int × Int × Unit) (c : (Int × Int × Unit) × (Int × Int × Unit) × (Int × Int × Unit) × Int × Int × Bool × Int × Unit) (at' : Int) (now : Int) (then' : Int) : Option (Bool) :=
  Option.bind (law3Ticks) fun r9 =>
  bif (!r9) then some false
  else Option.bind (clockStop r c at') fun r10 =>
  Option.bind (ref3Ruled r) fun r11 =>
  Option.bind (gopt (r11 == (0 : Int)) false (law3Clocked r c)) fun r12 =>
  Option.bind (bif ((r11 == (0 : Int)) && (!r12)) then some (((4 : Int), ()), ())
  else some ((r11, ()), ())) fun x13 =>
  Option.bind (clockValid r c) fun r14 =>
  bif (r14 != x13.1.1) then some false
  else Option.bind (bif ((x13.1.1 == (0 : Int)) && ((decide (at' < c.2.2.2.2.1)) || (decide (at' > (100000000 : Int))))) then some (((11 : Int), ()), ())
  else some ((x13.1.1, ()), ())) fun x15 =>
  bif (x15.1.1 != (0 : Int)) then some ((r10.2.1 == x15.1.1) && (((r10.1.1.1 == (0 : Int)) && ((r10.1.1.2.1 == (0 : Int)) && true)) && (((r10.1.2.1.1 == (0 : Int)) && ((r10.1.2.1.2.1 == (0 : Int)) && true)) && (((r10.1.2.2.1.1 == (0 : Int)) && ((r10.1.2.2.1.2.1 == (0 : Int)) && true)) && ((r10.1.2.2.2.1 == (0 : Int)) && ((r10.1.2.2.2.2.1 == (0 : Int)) && ((r10.1.2.2.2.2.2.1 == false) && ((r10.1.2.2.2.2.2.2.1 == (0 : Int)) && true))))))))
  else bif c.2.2.2.2.2.1 then (Option.bind (clockGo r c at') fun r16 =>
  bif (decide (c.2.2.2.2.2.2.1 ≥ (0 : Int))) then some ((r10.2.1 == (14 : Int)) && (r16.2.1 == (14 : Int)))
  else some (((r10.2.1 == (10 : Int)) && (r16.2.1 == (0 : Int))) && (((r16.1.1.1 == c.1.1) && ((r16.1.1.2.1 == c.1.2.1) && true)) && (((r16.1.2.1.1 == c.2.1.1) && ((r16.1.2.1.2.1 == c.2.1.2.1) && true)) && (((r16.1.2.2.1.1 == c.2.2.1.1) && ((r16.1.2.2.1.2.1 == c.2.2.1.2.1) && true)) && ((r16.1.2.2.2.1 == c.2.2.2.1) && ((r16.1.2.2.2.2.1 == at') && ((r16.1.2.2.2.2.2.1 == false) && ((r16.1.2.2.2.2.2.2.1 == c.2.2.2.2.2.2.1) && true)))))))))
  else req (imp (!(decide (c.2.2.2.2.2.2.1 ≥ (0 : Int)))) (inb c.2.2.2.1 2)) (bif ((decide (c.2.2.2.2.2.2.1 ≥ (0 : Int))) || (decide ((ref3Spent r (w64 (at' - c.2.2.2.2.1))) > (getD' [c.1.1, c.1.2.1] (c.2.2.2.1).toNat 0)))) then some ((r10.2.1 == (14 : Int)) && (((r10.1.1.1 == (0 : Int)) && ((r10.1.1.2.1 == (0 : Int)) && true)) && (((r10.1.2.1.1 == (0 : Int)) && ((r10.1.2.1.2.1 == (0 : Int)) && true)) && (((r10.1.2.2.1.1 == (0 : Int)) && ((r10.1.2.2.1.2.1 == (0 : Int)) && true)) && ((r10.1.2.2.2.1 == (0 : Int)) && ((r10.1.2.2.2.2.1 == (0 : Int)) && ((r10.1.2.2.2.2.2.1 == false) && ((r10.1.2.2.2.2.2.2.1 == (0 : Int)) && true))))))))
  else req (inb c.2.2.2.1 2) (req (inb c.2.2.2.1 2) (bif ((((r10.2.1 != (0 : Int)) || (!(((r10.1.1.1 == (bif (c.2.2.2.1 == (0 : Int)) then (w64 ((getD' [c.1.1, c.1.2.1] (c.2.2.2.1).toNat 0) - (ref3Spent r (w64 (at' - c.2.2.2.2.1))))) else c.1.1)) && ((r10.1.1.2.1 == (bif (c.2.2.2.1 == (1 : Int)) then (w64 ((getD' [c.1.1, c.1.2.1] (c.2.2.2.1).toNat 0) - (ref3Spent r (w64 (at' - c.2.2.2.2.1))))) else c.1.2.1)) && true)) && (((r10.1.2.1.1 == c.2.1.1) && ((r10.1.2.1.2.1 == c.2.1.2.1) && true)) && (((r10.1.2.2.1.1 == c.2.2.1.1) && ((r10.1.2.2.1.2.1 == c.2.2.1.2.1) && true)) && ((r10.1.2.2.2.1 == c.2.2.2.1) && ((r10.1.2.2.2.2.1 == at') && ((r10.1.2.2.2.2.2.1 == true) && ((r10.1.2.2.2.2.2.2.1 == c.2.2.2.2.2.2.1) && true))))))))) || (decide (now < at'))) || (decide (now > (100000000 : Int)))) then some ((r10.2.1 == (0 : Int)) && (((r10.1.1.1 == (bif (c.2.2.2.1 == (0 : Int)) then (w64 ((getD' [c.1.1, c.1.2.1] (c.2.2.2.1).toNat 0) - (ref3Spent r (w64 (at' - c.2.2.2.2.1))))) else c.1.1)) && ((r10.1.1.2.1 == (bif (c.2.2.2.1 == (1 : Int)) then (w64 ((getD' [c.1.1, c.1.2.1] (c.2.2.2.1).toNat 0) - (ref3Spent r (w64 (at' - c.2.2.2.2.1))))) else c.1.2.1)) && true)) && (((r10.1.2.1.1 == c.2.1.1) && ((r10.1.2.1.2.1 == c.2.1.2.1) && true)) && (((r10.1.2.2.1.1 == c.2.2.1.1) && ((r10.1.2.2.1.2.1 == c.2.2.1.2.1) && true)) && ((r10.1.2.2.2.1 == c.2.2.2.1) && ((r10.1.2.2.2.2.1 == at') && ((r10.1.2.2.2.2.2.1 == true) && ((r10.1.2.2.2.2.2.2.1 == c.2.2.2.2.2.2.1) && true))))))))
  else Option.bind (clockLook r r10.1 now) fun r17 =>
  Option.bind (clockGo r r10.1 now) fun r18 =>
  some ((((r17.2.1 == (0 : Int)) && (((r17.1.1.1 == r10.1.1.1) && ((r17.1.1.2.1 == r10.1.1.2.1) && true)) && (((r17.1.2.1.1 == r10.1.2.1.1) && ((r17.1.2.1.2.1 == r10.1.2.1.2.1) && true)) && (((r17.1.2.2.1.1 == r10.1.2.2.1.1) && ((r17.1.2.2.1.2.1 == r10.1.2.2.1.2.1) && true)) && ((r17.1.2.2.2.1 == r10.1.2.2.2.1) && ((r17.1.2.2.2.2.1 == r10.1.2.2.2.2.1) && ((r17.1.2.2.2.2.2.1 == r10.1.2.2.2.2.2.1) && ((r17.1.2.2.2.2.2.2.1 == r10.1.2.2.2.2.2.2.1) && true)))))))) && (r18.2.1 == (0 : Int))) && (((r18.1.1.1 == (bif (c.2.2.2.1 == (0 : Int)) then (w64 ((getD' [c.1.1, c.1.2.1] (c.2.2.2.1).toNat 0) - (ref3Spent r (w64 (at' - c.2.2.2.2.1))))) else c.1.1)) && ((r18.1.1.2.1 == (bif (c.2.2.2.1 == (1 : Int)) then (w64 ((getD' [c.1.1, c.1.2.1] (c.2.2.2.1).toNat 0) - (ref3Spent r (w64 (at' - c.2.2.2.2.1))))) else c.1.2.1)) && true)) && (((r18.1.2.1.1 == c.2.1.1) && ((r18.1.2.1.2.1 == c.2.1.2.1) && true)) && (((r18.1.2.2.1.1 == c.2.2.1.1) && ((r18.1.2.2.1.2.1 == c.2.2.1.2.1) && true)) && ((r18.1.2.2.2.1 == c.2.2.2.1) && ((r18.1.2.2.2.2.1 == now) && ((r18.1.2.2.2.2.2.1 == false) && ((r18.1.2.2.2.2.2.2.1 == c.2.2.2.2.2.2.1) && true)))))))))))
end Go.Proofs.Ytejmikpmkfnlgaa
