/- What the contracts of this program share. No condition of its own. -/
import Derived.Test.YtpajmeljfpolcaaProg
import Derived.Test.YtpajmeljfpolcaaDenG
namespace Go.Proofs.Ytpajmeljfpolcaa
theorem mixed : Try.prog.follows .mixedOrders = true := by kernel_rfl
end Go.Proofs.Ytpajmeljfpolcaa
