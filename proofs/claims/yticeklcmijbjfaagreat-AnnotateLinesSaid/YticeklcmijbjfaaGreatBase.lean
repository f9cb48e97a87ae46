/- What the contracts of this program share. No condition of its own. -/
import Derived.Test.YticeklcmijbjfaaGreatProg
import Derived.Test.YticeklcmijbjfaaGreatDenG
namespace Go.Proofs.YticeklcmijbjfaaGreat
theorem mixed : Tryz.prog.follows .mixedOrders = true := by kernel_rfl
end Go.Proofs.YticeklcmijbjfaaGreat
