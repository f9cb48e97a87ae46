/- What functions compute, in plain Lean: EndsOf. No condition of its own. -/
import Derived.Test.YtmieohplcoeadaaDen0
import Derived.Test.YtmieohplcoeadaaCoreS
namespace Go.Proofs.Ytmieohplcoeadaa
open Go.Den
set_option linter.unusedVariables false
set_option maxRecDepth 100000
noncomputable def law1EndsOf (r : ByteArray × Int × Int × (List (Int × Int × Int × (List (Int × Int × Int × Int × Unit)) × Unit)) × (List Int) × Bool × Bool × (List (Int × Int × Int × Bool × Unit)) × Int × Int × Int × Unit) (p : (List Int) × ((List Int) × (List Int) × Unit) × Int × Int × Unit) : Option (Bool) :=
  Option.bind (endsOf ((law1Three).1, (((law1Three).2).1, ((((law1Three).2).2).1, (((((law1Three).2).2).2).1, ((((((law1Three).2).2).2).2).1, (((((((law1Three).2).2).2).2).2).1, ((((((((law1Three).2).2).2).2).2).2).1, (((((((((law1Three).2).2).2).2).2).2).2).1, ((((((((((law1Three).2).2).2).2).2).2).2).2).1, (((((((((((law1Three).2).2).2).2).2).2).2).2).2).1, ((((((((((((law1Three).2).2).2).2).2).2).2).2).2).2).1, ()))))))))))) ((law1Won).1, (((((law1Won).2).1).1, (((((law1Won).2).1).2).1, ())), ((((law1Won).2).2).1, (((((law1Won).2).2).2).1, ()))))) fun r5 =>
  bif ((r5.2.1 != (0 : Int)) || (r5.1 != (1 : Int))) then some false
  else Option.bind (endsOf r p) fun r6 =>
  Option.bind (ref1PlaceError r p) fun r7 =>
  bif (r7 != (0 : Int)) then some ((r6.2.1 == r7) && (r6.1 == (0 : Int)))
  else Option.bind (gopt ((r6.2.1 == (0 : Int)) && (!(decide (((p.1.length : Nat) : Int) > (20 : Int))))) (0 : Int) (ref1Result r p)) fun r8 =>
  some ((decide (((p.1.length : Nat) : Int) > (20 : Int))) || ((r6.2.1 == (0 : Int)) && (r6.1 == r8)))
end Go.Proofs.Ytmieohplcoeadaa
