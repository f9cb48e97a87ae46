/- Recursions: Search. No condition of its own. -/
import Derived.Test.YticeklcmijbjfaaDenL
import Derived.Test.YticeklcmijbjfaaSearchS
namespace Go.Proofs.Yticeklcmijbjfaa
open Go.Den
set_option linter.unusedVariables false
set_option maxRecDepth 100000
theorem perftCounterWalk_L1_mono (self self' : (((ByteArray × Int × Int × (List (Int × Int × Int × (List (Int × Int × Int × Int × Unit)) × Unit)) × (List Int) × Bool × Bool × (List (Int × Int × Int × Bool × Unit)) × Int × Int × Int × Unit) × Int × Int × Unit) × ((List Int) × ((List Int) × (List Int) × Unit) × Int × Int × Unit) × Int × Unit) → Option (((ByteArray × Int × Int × (List (Int × Int × Int × (List (Int × Int × Int × Int × Unit)) × Unit)) × (List Int) × Bool × Bool × (List (Int × Int × Int × Bool × Unit)) × Int × Int × Int × Unit) × Int × Int × Unit) × Bool)) (hself : ∀ x, Le (self x) (self' x)) (r2 : List (Int × Int × Int × Unit)) (p : (List Int) × ((List Int) × (List Int) × Unit) × Int × Int × Unit) (depth : Int) (x3 : (Int × Unit) × ((ByteArray × Int × Int × (List (Int × Int × Int × (List (Int × Int × Int × Int × Unit)) × Unit)) × (List Int) × Bool × Bool × (List (Int × Int × Int × Bool × Unit)) × Int × Int × Int × Int × Int × Unit) × Unit)) : Le (perftCounterWalk_L1 r2 p self depth x3) (perftCounterWalk_L1 r2 p self' depth x3) := by
  unfold perftCounterWalk_L1
  repeat (first | exact Le.refl _ | assumption | apply hself | apply Le.cond | apply Le.req | apply Le.gopt | apply Le.map | apply Le.agreeW | refine Le.iterW (fun _ => ?_) _ | refine Le.bind ?_ (Le.elim (fun _ => ?_) (fun _ => ?_)) | refine Le.bind ?_ (fun _ => ?_))
theorem perftCounterWalk_Mono : Mono perftCounterWalk_G := by
  intro self self' hself x
  unfold perftCounterWalk_G perftCounterWalk_F
  repeat (first | exact Le.refl _ | assumption | apply perftCounterWalk_L1_mono | apply hself | apply Le.cond | apply Le.req | apply Le.gopt | apply Le.map | apply Le.agreeW | refine Le.iterW (fun _ => ?_) _ | refine Le.bind ?_ (Le.elim (fun _ => ?_) (fun _ => ?_)) | refine Le.bind ?_ (fun _ => ?_))
theorem minimaxOf_L1_mono (self self' : ((ByteArray × Int × Int × (List (Int × Int × Int × (List (Int × Int × Int × Int × Unit)) × Unit)) × (List Int) × Bool × Bool × (List (Int × Int × Int × Bool × Unit)) × Int × Int × Int × Unit) × ((List Int) × ((List Int) × (List Int) × Unit) × Int × Int × Unit) × Int × Unit) → Option (Int)) (hself : ∀ x, Le (self x) (self' x)) (r4 : List (Int × Int × Int × Unit)) (r : ByteArray × Int × Int × (List (Int × Int × Int × (List (Int × Int × Int × Int × Unit)) × Unit)) × (List Int) × Bool × Bool × (List (Int × Int × Int × Bool × Unit)) × Int × Int × Int × Unit) (p : (List Int) × ((List Int) × (List Int) × Unit) × Int × Int × Unit) (depth : Int) (x5 : (Int × Int × Unit) × ((Int × Int × Int × Unit) × Unit)) : Le (minimaxOf_L1 r4 r p self depth x5) (minimaxOf_L1 r4 r p self' depth x5) := by
  unfold minimaxOf_L1
  repeat (first | exact Le.refl _ | assumption | apply hself | apply Le.cond | apply Le.req | apply Le.gopt | apply Le.map | apply Le.agreeW | refine Le.iterW (fun _ => ?_) _ | refine Le.bind ?_ (Le.elim (fun _ => ?_) (fun _ => ?_)) | refine Le.bind ?_ (fun _ => ?_))
theorem minimaxOf_Mono : Mono minimaxOf_G := by
  intro self self' hself x
  unfold minimaxOf_G minimaxOf_F
  repeat (first | exact Le.refl _ | assumption | apply minimaxOf_L1_mono | apply hself | apply Le.cond | apply Le.req | apply Le.gopt | apply Le.map | apply Le.agreeW | refine Le.iterW (fun _ => ?_) _ | refine Le.bind ?_ (Le.elim (fun _ => ?_) (fun _ => ?_)) | refine Le.bind ?_ (fun _ => ?_))
end Go.Proofs.Yticeklcmijbjfaa
