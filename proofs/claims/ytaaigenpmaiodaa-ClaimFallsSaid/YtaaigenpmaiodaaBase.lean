/- What the contracts of this program share. No condition of its own. -/
import Derived.Test.YtaaigenpmaiodaaProg
import Derived.Test.YtaaigenpmaiodaaDenG
namespace Go.Proofs.Ytaaigenpmaiodaa
theorem mixed : Try.prog.follows .mixedOrders = true := by kernel_rfl
end Go.Proofs.Ytaaigenpmaiodaa
