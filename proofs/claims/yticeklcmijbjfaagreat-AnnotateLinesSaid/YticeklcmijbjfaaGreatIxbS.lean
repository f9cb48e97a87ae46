/- strings.IndexByte, in plain Lean. No condition of its own. -/
import Derived.Test.YticeklcmijbjfaaGreatDen0
import Derived.Lib.Bytealg
namespace Go.Proofs.YticeklcmijbjfaaGreat
/-- strings.IndexByte -/
def indexByteS (s : ByteArray) (c : Int) : Int := Go.Lib.indexByte s.data.toList c.toNat.toUInt8
end Go.Proofs.YticeklcmijbjfaaGreat
