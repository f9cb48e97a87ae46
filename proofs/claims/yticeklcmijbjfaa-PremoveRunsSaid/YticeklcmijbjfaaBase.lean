/- What the contracts of this program share. No condition of its own. -/
import Derived.Test.YticeklcmijbjfaaProg
import Derived.Test.YticeklcmijbjfaaDenG
namespace Go.Proofs.Yticeklcmijbjfaa
theorem mixed : Try.prog.follows .mixedOrders = true := by kernel_rfl
end Go.Proofs.Yticeklcmijbjfaa
