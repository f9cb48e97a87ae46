/- What the contracts of this program share. No condition of its own. -/
import Derived.Test.YtejmikpmkfnlgaaProg
import Derived.Test.YtejmikpmkfnlgaaDenF
namespace Go.Proofs.Ytejmikpmkfnlgaa
theorem mixed : Try.prog.follows .mixedOrders = true := by kernel_rfl
end Go.Proofs.Ytejmikpmkfnlgaa
