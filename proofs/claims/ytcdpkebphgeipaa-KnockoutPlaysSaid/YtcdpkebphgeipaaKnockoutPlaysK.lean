/- Functions that can be evaluated: KnockoutPlays. No condition of its own. -/
import Derived.Test.YtcdpkebphgeipaaDenP
import Derived.Test.YtcdpkebphgeipaaKnockoutPlaysS
namespace Go.Proofs.Ytcdpkebphgeipaa
open Go.Den
set_option linter.unusedVariables false
set_option maxRecDepth 100000
def knockoutRounds_L1_c (fu : Nat) (n : Int) (x1 : (Int × Unit) × (Unit)) : Option (((Int × Unit) × (Unit)) ⊕ ((Int × Unit) × (Unit))) :=
  req (decide (0 ≤ x1.1.1)) (bif (decide ((shK .shl .i64 (1 : Int) x1.1.1) < n)) then some (Sum.inl (((w64 (x1.1.1 + (1 : Int))), ()), ()))
  else some (Sum.inr ((x1.1.1, ()), ())))
theorem knockoutRounds_L1_m (fu : Nat) (n : Int) (x1 : (Int × Unit) × (Unit)) : Le (knockoutRounds_L1_c fu n x1) (knockoutRounds_L1 n x1) := by
  unfold knockoutRounds_L1_c knockoutRounds_L1
  repeat (first | exact Le.refl _ | assumption | apply Le.cond | apply Le.req | apply Le.gopt | apply Le.map | apply Le.agree | refine Le.iter (fun _ => ?_) _ _ | refine Le.bind ?_ (Le.elim (fun _ => ?_) (fun _ => ?_)) | refine Le.bind ?_ (fun _ => ?_) | apply hself)
def knockoutRounds_c (fu : Nat) (n : Int) : Option (Int) :=
  Option.bind (iterN (knockoutRounds_L1_c fu n) fu (((0 : Int), ()), ())) fun x2 =>
  some x2.1.1
theorem knockoutRounds_m (fu : Nat) (n : Int) : Le (knockoutRounds_c fu n) (knockoutRounds n) := by
  unfold knockoutRounds_c knockoutRounds
  repeat (first | exact Le.refl _ | assumption | apply knockoutRounds_L1_m | apply Le.cond | apply Le.req | apply Le.gopt | apply Le.map | apply Le.agree | refine Le.iter (fun _ => ?_) _ _ | refine Le.bind ?_ (Le.elim (fun _ => ?_) (fun _ => ?_)) | refine Le.bind ?_ (fun _ => ?_) | apply hself)
def knockoutSeeds_L2_c (fu : Nat) (x3 : ((List Int) × Int × Unit) × (Unit)) (x4 : ((List Int) × Int × Unit) × (Unit)) : Option ((((List Int) × Int × Unit) × (Unit)) ⊕ (((List Int) × Unit) × (Unit))) :=
  bif (decide (x4.1.2.1 < ((x3.1.1.length : Nat) : Int))) then (req (inb x4.1.2.1 x3.1.1.length) (Option.bind (bif ((x4.1.2.1.tmod (2 : Int)) == (1 : Int)) then some (((w64 ((w64 ((w64 ((2 : Int) * ((x3.1.1.length : Nat) : Int))) - (1 : Int))) - (getD' x3.1.1 ((x4.1.2.1).toNat) (0 : Int)))), (getD' x3.1.1 ((x4.1.2.1).toNat) (0 : Int)), ()), ())
  else some (((getD' x3.1.1 ((x4.1.2.1).toNat) (0 : Int)), (w64 ((w64 ((w64 ((2 : Int) * ((x3.1.1.length : Nat) : Int))) - (1 : Int))) - (getD' x3.1.1 ((x4.1.2.1).toNat) (0 : Int)))), ()), ())) fun x5 =>
  req (room (x4.1.1.length + ([x5.1.1, x5.1.2.1]).length) 8) (some (Sum.inl (((x4.1.1 ++ [x5.1.1, x5.1.2.1]), (w64 (x4.1.2.1 + (1 : Int))), ()), ())))))
  else some (Sum.inr ((x4.1.1, ()), ()))
theorem knockoutSeeds_L2_m (fu : Nat) (x3 : ((List Int) × Int × Unit) × (Unit)) (x4 : ((List Int) × Int × Unit) × (Unit)) : Le (knockoutSeeds_L2_c fu x3 x4) (knockoutSeeds_L2 x3 x4) := by
  unfold knockoutSeeds_L2_c knockoutSeeds_L2
  repeat (first | exact Le.refl _ | assumption | apply Le.cond | apply Le.req | apply Le.gopt | apply Le.map | apply Le.agree | refine Le.iter (fun _ => ?_) _ _ | refine Le.bind ?_ (Le.elim (fun _ => ?_) (fun _ => ?_)) | refine Le.bind ?_ (fun _ => ?_) | apply hself)
def knockoutSeeds_L1_c (fu : Nat) (r2 : Int) (x3 : ((List Int) × Int × Unit) × (Unit)) : Option ((((List Int) × Int × Unit) × (Unit)) ⊕ (((List Int) × Unit) × (Unit))) :=
  bif (decide (x3.1.2.1 < r2)) then (Option.bind (Option.bind (iterN (knockoutSeeds_L2_c fu x3) fu (([], (0 : Int), ()), ())) fun x6 =>
  some ((x6.1.1, ()), ())) fun x7 =>
  some (Sum.inl ((x7.1.1, (w64 (x3.1.2.1 + (1 : Int))), ()), ())))
  else some (Sum.inr ((x3.1.1, ()), ()))
theorem knockoutSeeds_L1_m (fu : Nat) (r2 : Int) (x3 : ((List Int) × Int × Unit) × (Unit)) : Le (knockoutSeeds_L1_c fu r2 x3) (knockoutSeeds_L1 r2 x3) := by
  unfold knockoutSeeds_L1_c knockoutSeeds_L1
  repeat (first | exact Le.refl _ | assumption | apply knockoutSeeds_L2_m | apply Le.cond | apply Le.req | apply Le.gopt | apply Le.map | apply Le.agree | refine Le.iter (fun _ => ?_) _ _ | refine Le.bind ?_ (Le.elim (fun _ => ?_) (fun _ => ?_)) | refine Le.bind ?_ (fun _ => ?_) | apply hself)
def knockoutSeeds_L3_c (fu : Nat) (x8 : ((List Int) × Unit) × (Unit)) (n : Int) (x9 : (Int × Unit) × ((List Int) × Unit)) : Option (((Int × Unit) × ((List Int) × Unit)) ⊕ ((Unit) × ((List Int) × Unit))) :=
  bif (decide (x9.1.1 < ((x8.1.1.length : Nat) : Int))) then (req (inb x9.1.1 x9.2.1.length) (Option.bind (bif (decide ((getD' x9.2.1 ((x9.1.1).toNat) (0 : Int)) ≥ n)) then req (inb x9.1.1 x9.2.1.length) (some ((), ((x9.2.1.set ((x9.1.1).toNat) (-1 : Int)), ())))
  else some ((), (x9.2.1, ()))) fun x10 =>
  some (Sum.inl (((w64 (x9.1.1 + (1 : Int))), ()), (x10.2.1, ())))))
  else some (Sum.inr ((), (x9.2.1, ())))
theorem knockoutSeeds_L3_m (fu : Nat) (x8 : ((List Int) × Unit) × (Unit)) (n : Int) (x9 : (Int × Unit) × ((List Int) × Unit)) : Le (knockoutSeeds_L3_c fu x8 n x9) (knockoutSeeds_L3 x8 n x9) := by
  unfold knockoutSeeds_L3_c knockoutSeeds_L3
  repeat (first | exact Le.refl _ | assumption | apply Le.cond | apply Le.req | apply Le.gopt | apply Le.map | apply Le.agree | refine Le.iter (fun _ => ?_) _ _ | refine Le.bind ?_ (Le.elim (fun _ => ?_) (fun _ => ?_)) | refine Le.bind ?_ (fun _ => ?_) | apply hself)
def knockoutSeeds_c (fu : Nat) (n : Int) : Option (List Int) :=
  Option.bind (knockoutRounds_c fu n) fun r2 =>
  Option.bind (iterN (knockoutSeeds_L1_c fu r2) fu (([(0 : Int)], (0 : Int), ()), ())) fun x8 =>
  Option.bind (iterN (knockoutSeeds_L3_c fu x8 n) fu (((0 : Int), ()), (x8.1.1, ()))) fun x11 =>
  some x11.2.1
theorem knockoutSeeds_m (fu : Nat) (n : Int) : Le (knockoutSeeds_c fu n) (knockoutSeeds n) := by
  unfold knockoutSeeds_c knockoutSeeds
  repeat (first | exact Le.refl _ | assumption | apply knockoutRounds_m | apply knockoutSeeds_L1_m | apply knockoutSeeds_L3_m | apply Le.cond | apply Le.req | apply Le.gopt | apply Le.map | apply Le.agree | refine Le.iter (fun _ => ?_) _ _ | refine Le.bind ?_ (Le.elim (fun _ => ?_) (fun _ => ?_)) | refine Le.bind ?_ (fun _ => ?_) | apply hself)
def ref3Seat_Fc (fu : Nat) (self : (Int × Int × Unit) → Option (Int)) (k : Int) (at' : Int) : Option (Int) :=
  bif (k == (0 : Int)) then some (0 : Int)
  else Option.bind (self ((w64 (k - (1 : Int))), (w64 (at'.tdiv (2 : Int))), ())) fun r2 =>
  bif (((at'.tmod (2 : Int)) == (0 : Int)) == (((w64 (at'.tdiv (2 : Int))).tmod (2 : Int)) == (0 : Int))) then some r2
  else req (decide (0 ≤ k)) (some (w64 ((w64 ((shK .shl .i64 (1 : Int) k) - (1 : Int))) - r2)))
def ref3Seat_Gc (fu : Nat) (self : (Int × Int × Unit) → Option (Int)) (x : Int × Int × Unit) : Option (Int) := ref3Seat_Fc fu self x.1 x.2.1
theorem ref3Seat_Gm (fu : Nat) (self self' : (Int × Int × Unit) → Option (Int)) (hself : ∀ x, Le (self x) (self' x)) (x : Int × Int × Unit) : Le (ref3Seat_Gc fu self x) (ref3Seat_G self' x) := by
  unfold ref3Seat_Gc ref3Seat_G ref3Seat_Fc ref3Seat_F
  repeat (first | exact Le.refl _ | assumption | apply Le.cond | apply Le.req | apply Le.gopt | apply Le.map | apply Le.agree | refine Le.iter (fun _ => ?_) _ _ | refine Le.bind ?_ (Le.elim (fun _ => ?_) (fun _ => ?_)) | refine Le.bind ?_ (fun _ => ?_) | apply hself)
theorem ref3Seat_Mono : Mono ref3Seat_G := by
  intro self self' hself x
  unfold ref3Seat_G ref3Seat_F
  repeat (first | exact Le.refl _ | assumption | apply Le.cond | apply Le.req | apply Le.gopt | apply Le.map | apply Le.agree | refine Le.iter (fun _ => ?_) _ _ | refine Le.bind ?_ (Le.elim (fun _ => ?_) (fun _ => ?_)) | refine Le.bind ?_ (fun _ => ?_) | apply hself)
def ref3Seat_c (fu : Nat) (k : Int) (at' : Int) : Option (Int) := fixN (ref3Seat_Gc fu) fu (k, at', ())
theorem ref3Seat_m (fu : Nat) (k : Int) (at' : Int) : Le (ref3Seat_c fu k at') (ref3Seat k at') := Le.fix (fun self self' h x => ref3Seat_Gm fu self self' h x) ref3Seat_Mono fu _
end Go.Proofs.Ytcdpkebphgeipaa
