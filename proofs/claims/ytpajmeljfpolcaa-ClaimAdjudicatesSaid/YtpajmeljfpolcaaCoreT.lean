/- What the exported functions of moves give. No condition of its own. -/
import Derived.Test.YtpajmeljfpolcaaCoreB
namespace Go.Proofs.Ytpajmeljfpolcaa
open Go.Den
set_option linter.unusedVariables false
set_option linter.unusedSimpArgs false
set_option maxRecDepth 100000

def emptyP : Place := ([], ([], [], ()), 0, 0, ())
end Go.Proofs.Ytpajmeljfpolcaa
