/- Recursions: Record. No condition of its own. -/
import Derived.Test.YticeklcmijbjfaaGreatDenL
import Derived.Test.YticeklcmijbjfaaGreatRecordS
namespace Go.Proofs.YticeklcmijbjfaaGreat
open Go.Den
set_option linter.unusedVariables false
set_option maxRecDepth 100000
theorem ref3Way_Mono : Mono ref3Way_G := by
  intro self self' hself x
  unfold ref3Way_G ref3Way_F
  repeat (first | exact Le.refl _ | assumption | apply hself | apply Le.cond | apply Le.req | apply Le.gopt | apply Le.map | apply Le.agreeW | refine Le.iterW (fun _ => ?_) _ | refine Le.bind ?_ (Le.elim (fun _ => ?_) (fun _ => ?_)) | refine Le.bind ?_ (fun _ => ?_))
end Go.Proofs.YticeklcmijbjfaaGreat
