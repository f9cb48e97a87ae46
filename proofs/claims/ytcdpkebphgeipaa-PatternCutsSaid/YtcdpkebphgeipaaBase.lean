/- What the contracts of this program share. No condition of its own. -/
import Derived.Test.YtcdpkebphgeipaaProg
import Derived.Test.YtcdpkebphgeipaaDenF
namespace Go.Proofs.Ytcdpkebphgeipaa
theorem mixed : Try.prog.follows .mixedOrders = true := by kernel_rfl
end Go.Proofs.Ytcdpkebphgeipaa
