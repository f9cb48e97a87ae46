/- What functions compute, in plain Lean: Search. No condition of its own. -/
import Derived.Test.YtocnfflklfeocaaDen0
import Derived.Test.YtocnfflklfeocaaCoreS
namespace Go.Proofs.Ytocnfflklfeocaa
open Go.Den
set_option linter.unusedVariables false
set_option maxRecDepth 100000
noncomputable def law1Near_o : Option ((List Int) × ((List Int) × (List Int) × Unit) × Int × Int × Unit) :=
  some ([(1 : Int), (1 : Int), (0 : Int), (2 : Int), (2 : Int), (0 : Int), (0 : Int), (0 : Int), (0 : Int)], (([(3 : Int)], ([(3 : Int)], ())), ((0 : Int), ((0 : Int), ()))))
def law1Near : (List Int) × ((List Int) × (List Int) × Unit) × Int × Int × Unit :=
  ([(1 : Int), (1 : Int), (0 : Int), (2 : Int), (2 : Int), (0 : Int), (0 : Int), (0 : Int), (0 : Int)], (([(3 : Int)], ([(3 : Int)], ())), ((0 : Int), ((0 : Int), ()))))
theorem law1Near_eq : law1Near_o = some (law1Near) := by
  unfold law1Near_o law1Near
  first | rfl | simp only [cond_some]
end Go.Proofs.Ytocnfflklfeocaa
