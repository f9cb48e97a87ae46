/- What the contracts of this program share. No condition of its own. -/
import Derived.Test.YtjikbbjjnndcbaaDoorProg
import Derived.Test.YtjikbbjjnndcbaaDoorDenG
namespace Go.Proofs.YtjikbbjjnndcbaaDoor
theorem mixed : Tryd.prog.follows .mixedOrders = true := by kernel_rfl
end Go.Proofs.YtjikbbjjnndcbaaDoor
