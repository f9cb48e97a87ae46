/- strconv.Itoa and strings.Join, in plain Lean. No condition of its own. -/
import Derived.Test.YtjikbbjjnndcbaaDoorDen0
import Derived.Lib.ItoaNum
import Derived.Lib.Join
namespace Go.Proofs.YtjikbbjjnndcbaaDoor
/-- strconv.Itoa -/
def itoaS (n : Int) : Option ByteArray := bif decide (-9223372036854775808 ≤ n) && decide (n ≤ 9223372036854775807) then some ⟨(Go.Lib.itoa n).toArray⟩ else none
/-- strings.Join -/
def joinS (l : List ByteArray) (sep : ByteArray) : Option ByteArray := bif Nat.ble l.length 140737488355328 && Nat.ble (Go.Lib.join (l.map (·.data.toList)) sep.data.toList).length 140737488355328 then some ⟨(Go.Lib.join (l.map (·.data.toList)) sep.data.toList).toArray⟩ else none
end Go.Proofs.YtjikbbjjnndcbaaDoor
