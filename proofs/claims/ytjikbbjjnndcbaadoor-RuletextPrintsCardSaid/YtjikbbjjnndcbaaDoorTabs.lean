/- The package-level tables that the program reads. No condition of its own. -/
import Derived.Below
import Derived.Lib.ItoaNum
namespace Go.Den
def tabs : List (Nat × List Value) := [(1, Go.Lib.pow10Tab.map (Value.int .u64))]
def drawsUp : Bool := false
end Go.Den
