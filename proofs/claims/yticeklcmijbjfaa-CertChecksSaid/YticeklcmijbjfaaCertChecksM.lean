/- Recursions: CertChecks. No condition of its own. -/
import Derived.Test.YticeklcmijbjfaaDenL
import Derived.Test.YticeklcmijbjfaaCertChecksS
namespace Go.Proofs.Yticeklcmijbjfaa
open Go.Den
set_option linter.unusedVariables false
set_option maxRecDepth 100000
theorem certProves_L1_mono (self self' : ((ByteArray × Int × Int × (List (Int × Int × Int × (List (Int × Int × Int × Int × Unit)) × Unit)) × (List Int) × Bool × Bool × (List (Int × Int × Int × Bool × Unit)) × Int × Int × Int × Unit) × ((List Int) × ((List Int) × (List Int) × Unit) × Int × Int × Unit) × (List ((Int × Int × Int × Unit) × (List Int) × Unit)) × Int × Unit) → Option (Int × Bool × Unit)) (hself : ∀ x, Le (self x) (self' x)) (r17 : List (Int × Int × Int × Unit)) (l : List ((Int × Int × Int × Unit) × (List Int) × Unit)) (k : Int) (r : ByteArray × Int × Int × (List (Int × Int × Int × (List (Int × Int × Int × Int × Unit)) × Unit)) × (List Int) × Bool × Bool × (List (Int × Int × Int × Bool × Unit)) × Int × Int × Int × Unit) (x14 : (((List Int) × ((List Int) × (List Int) × Unit) × Int × Int × Unit) × Unit) × (Unit)) (p : (List Int) × ((List Int) × (List Int) × Unit) × Int × Int × Unit) (x19 : (Int × Int × Unit) × (Unit)) : Le (certProves_L1 r17 l k r x14 p self x19) (certProves_L1 r17 l k r x14 p self' x19) := by
  unfold certProves_L1
  repeat (first | exact Le.refl _ | assumption | apply hself | apply Le.cond | apply Le.req | apply Le.gopt | apply Le.map | apply Le.agreeW | refine Le.iterW (fun _ => ?_) _ | refine Le.bind ?_ (Le.elim (fun _ => ?_) (fun _ => ?_)) | refine Le.bind ?_ (fun _ => ?_))
theorem certProves_Mono : Mono certProves_G := by
  intro self self' hself x
  unfold certProves_G certProves_F
  repeat (first | exact Le.refl _ | assumption | apply certProves_L1_mono | apply hself | apply Le.cond | apply Le.req | apply Le.gopt | apply Le.map | apply Le.agreeW | refine Le.iterW (fun _ => ?_) _ | refine Le.bind ?_ (Le.elim (fun _ => ?_) (fun _ => ?_)) | refine Le.bind ?_ (fun _ => ?_))
theorem certMakerNode_L1_mono (self self' : (((ByteArray × Int × Int × (List (Int × Int × Int × (List (Int × Int × Int × Int × Unit)) × Unit)) × (List Int) × Bool × Bool × (List (Int × Int × Int × Bool × Unit)) × Int × Int × Int × Unit) × (List ((Int × Int × Int × Unit) × (List Int) × Unit)) × Unit) × ((List Int) × ((List Int) × (List Int) × Unit) × Int × Int × Unit) × Int × Unit) → Option (((ByteArray × Int × Int × (List (Int × Int × Int × (List (Int × Int × Int × Int × Unit)) × Unit)) × (List Int) × Bool × Bool × (List (Int × Int × Int × Bool × Unit)) × Int × Int × Int × Unit) × (List ((Int × Int × Int × Unit) × (List Int) × Unit)) × Unit) × Bool)) (hself : ∀ x, Le (self x) (self' x)) (r8 : List (Int × Int × Int × Unit)) (x7 : (((List Int) × ((List Int) × (List Int) × Unit) × Int × Int × Unit) × Unit) × (Unit)) (depth : Int) (x9 : ((List Int) × Int × Unit) × ((ByteArray × Int × Int × (List (Int × Int × Int × (List (Int × Int × Int × Int × Unit)) × Unit)) × (List Int) × Bool × Bool × (List (Int × Int × Int × Bool × Unit)) × Int × Int × Int × (List ((Int × Int × Int × Unit) × (List Int) × Unit)) × Unit) × Unit)) : Le (certMakerNode_L1 r8 x7 self depth x9) (certMakerNode_L1 r8 x7 self' depth x9) := by
  unfold certMakerNode_L1
  repeat (first | exact Le.refl _ | assumption | apply hself | apply Le.cond | apply Le.req | apply Le.gopt | apply Le.map | apply Le.agreeW | refine Le.iterW (fun _ => ?_) _ | refine Le.bind ?_ (Le.elim (fun _ => ?_) (fun _ => ?_)) | refine Le.bind ?_ (fun _ => ?_))
theorem certMakerNode_Mono : Mono certMakerNode_G := by
  intro self self' hself x
  unfold certMakerNode_G certMakerNode_F
  repeat (first | exact Le.refl _ | assumption | apply certMakerNode_L1_mono | apply hself | apply Le.cond | apply Le.req | apply Le.gopt | apply Le.map | apply Le.agreeW | refine Le.iterW (fun _ => ?_) _ | refine Le.bind ?_ (Le.elim (fun _ => ?_) (fun _ => ?_)) | refine Le.bind ?_ (fun _ => ?_))
theorem law1Wins_L1_mono (self self' : ((List Bool) × (ByteArray × Int × Int × (List (Int × Int × Int × (List (Int × Int × Int × Int × Unit)) × Unit)) × (List Int) × Bool × Bool × (List (Int × Int × Int × Bool × Unit)) × Int × Int × Int × Unit) × ((List Int) × ((List Int) × (List Int) × Unit) × Int × Int × Unit) × (List ((Int × Int × Int × Unit) × (List Int) × Unit)) × Int × Unit) → Option ((List Bool) × Int)) (hself : ∀ x, Le (self x) (self' x)) (r15 : List (Int × Int × Int × Unit)) (r : ByteArray × Int × Int × (List (Int × Int × Int × (List (Int × Int × Int × Int × Unit)) × Unit)) × (List Int) × Bool × Bool × (List (Int × Int × Int × Bool × Unit)) × Int × Int × Int × Unit) (x12 : (((List Int) × ((List Int) × (List Int) × Unit) × Int × Int × Unit) × Unit) × (Unit)) (l : List ((Int × Int × Int × Unit) × (List Int) × Unit)) (k : Int) (p : (List Int) × ((List Int) × (List Int) × Unit) × Int × Int × Unit) (x17 : (Int × Int × Unit) × ((List Bool) × Unit)) : Le (law1Wins_L1 r15 r x12 l k self p x17) (law1Wins_L1 r15 r x12 l k self' p x17) := by
  unfold law1Wins_L1
  repeat (first | exact Le.refl _ | assumption | apply hself | apply Le.cond | apply Le.req | apply Le.gopt | apply Le.map | apply Le.agreeW | refine Le.iterW (fun _ => ?_) _ | refine Le.bind ?_ (Le.elim (fun _ => ?_) (fun _ => ?_)) | refine Le.bind ?_ (fun _ => ?_))
theorem law1Wins_Mono : Mono law1Wins_G := by
  intro self self' hself x
  unfold law1Wins_G law1Wins_F
  repeat (first | exact Le.refl _ | assumption | apply law1Wins_L1_mono | apply hself | apply Le.cond | apply Le.req | apply Le.gopt | apply Le.map | apply Le.agreeW | refine Le.iterW (fun _ => ?_) _ | refine Le.bind ?_ (Le.elim (fun _ => ?_) (fun _ => ?_)) | refine Le.bind ?_ (fun _ => ?_))
end Go.Proofs.Yticeklcmijbjfaa
