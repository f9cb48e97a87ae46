/- What the contracts of this program share. No condition of its own. -/
import Derived.Test.YtmieohplcoeadaaProg
import Derived.Test.YtmieohplcoeadaaDenF
namespace Go.Proofs.Ytmieohplcoeadaa
theorem mixed : Try.prog.follows .mixedOrders = true := by kernel_rfl
end Go.Proofs.Ytmieohplcoeadaa
