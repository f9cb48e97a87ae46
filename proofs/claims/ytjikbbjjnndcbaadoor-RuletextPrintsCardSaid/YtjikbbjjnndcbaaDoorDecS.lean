/- What functions compute, in plain Lean: Dec. No condition of its own. -/
import Derived.Test.YtjikbbjjnndcbaaDoorDen0
import Derived.Test.YtjikbbjjnndcbaaDoorStrS
namespace Go.Proofs.YtjikbbjjnndcbaaDoor
open Go.Den
set_option linter.unusedVariables false
set_option maxRecDepth 100000
noncomputable def ref1Dec_F (self : (Int × Unit) → Option (ByteArray)) (n : Int) : Option (ByteArray) :=
  bif (decide (n < (0 : Int))) then (Option.bind (self ((w64 (0 - n)), ())) fun r4 =>
  req (strRoom (ByteArray.mk #[45]) r4) (some ((ByteArray.mk #[45]) ++ r4)))
  else bif (decide (n > (9 : Int))) then (Option.bind (self ((w64 (n.tdiv (10 : Int))), ())) fun r5 =>
  Option.bind (self ((n.tmod (10 : Int)), ())) fun r6 =>
  req (strRoom r5 r6) (some (r5 ++ r6)))
  else req (boundsI n (w64 (n + (1 : Int))) (ByteArray.mk #[48, 49, 50, 51, 52, 53, 54, 55, 56, 57]).size) (some ((ByteArray.mk #[48, 49, 50, 51, 52, 53, 54, 55, 56, 57]).extract (n).toNat ((w64 (n + (1 : Int)))).toNat))
noncomputable def ref1Dec_G (self : (Int × Unit) → Option (ByteArray)) (x : Int × Unit) : Option (ByteArray) := ref1Dec_F self x.1
noncomputable def ref1Dec (n : Int) : Option (ByteArray) := fixW ref1Dec_G (n, ())
end Go.Proofs.YtjikbbjjnndcbaaDoor
