/- What functions compute, in plain Lean: ISort. No condition of its own. -/
import Derived.Test.YtpajmeljfpolcaaDen0
namespace Go.Proofs.Ytpajmeljfpolcaa
open Go.Den
set_option linter.unusedVariables false
set_option maxRecDepth 100000
/-- numbers, in order -/
def sortInts (xs : List Int) : List Int := xs.mergeSort fun x y => decide (x ≤ y)
end Go.Proofs.Ytpajmeljfpolcaa
