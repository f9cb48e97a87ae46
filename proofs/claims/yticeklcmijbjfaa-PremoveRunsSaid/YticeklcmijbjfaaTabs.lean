/- The package-level tables that the program reads: none; the count of draws does not sink. No condition of its own. -/
import Derived.Below
namespace Go.Den
def tabs : List (Nat × List Value) := []
def drawsUp : Bool := true
end Go.Den
