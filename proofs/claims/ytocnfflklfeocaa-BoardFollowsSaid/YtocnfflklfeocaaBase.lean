/- What the contracts of this program share. No condition of its own. -/
import Derived.Test.YtocnfflklfeocaaProg
import Derived.Test.YtocnfflklfeocaaDenG
import Derived.Test.YtocnfflklfeocaaTabs
namespace Go.Proofs.Ytocnfflklfeocaa
theorem mixed : Try.prog.follows .mixedOrders = true := by kernel_rfl
end Go.Proofs.Ytocnfflklfeocaa
