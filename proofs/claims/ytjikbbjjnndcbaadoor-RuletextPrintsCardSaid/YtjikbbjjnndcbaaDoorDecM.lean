/- Recursions: Dec. No condition of its own. -/
import Derived.Test.YtjikbbjjnndcbaaDoorDenL
import Derived.Test.YtjikbbjjnndcbaaDoorDecS
namespace Go.Proofs.YtjikbbjjnndcbaaDoor
open Go.Den
set_option linter.unusedVariables false
set_option maxRecDepth 100000
theorem ref1Dec_Mono : Mono ref1Dec_G := by
  intro self self' hself x
  unfold ref1Dec_G ref1Dec_F
  repeat (first | exact Le.refl _ | assumption | apply hself | apply Le.cond | apply Le.req | apply Le.gopt | apply Le.map | apply Le.agreeW | refine Le.iterW (fun _ => ?_) _ | refine Le.bind ?_ (Le.elim (fun _ => ?_) (fun _ => ?_)) | refine Le.bind ?_ (fun _ => ?_))
end Go.Proofs.YtjikbbjjnndcbaaDoor
