/- What functions compute, in plain Lean: ZobKeys. No condition of its own. -/
import Derived.Test.YtmieohplcoeadaaDen0
import Derived.Test.YtmieohplcoeadaaCoreS
namespace Go.Proofs.Ytmieohplcoeadaa
open Go.Den
set_option linter.unusedVariables false
set_option maxRecDepth 100000
noncomputable def law1ZobKeys_V (zobMix' : Int → Int) (ref1Mixed' : Int → Int) (r : ByteArray × Int × Int × (List (Int × Int × Int × (List (Int × Int × Int × Int × Unit)) × Unit)) × (List Int) × Bool × Bool × (List (Int × Int × Int × Bool × Unit)) × Int × Int × Int × Unit) (p : (List Int) × ((List Int) × (List Int) × Unit) × Int × Int × Unit) (m : Int × Int × Int × Unit) (n : Int) : Option (Bool) :=
  Option.bind (zobKey ((law1Three).1, (((law1Three).2).1, ((((law1Three).2).2).1, (((((law1Three).2).2).2).1, ((((((law1Three).2).2).2).2).1, (((((((law1Three).2).2).2).2).2).1, ((((((((law1Three).2).2).2).2).2).2).1, (((((((((law1Three).2).2).2).2).2).2).2).1, ((((((((((law1Three).2).2).2).2).2).2).2).2).1, (((((((((((law1Three).2).2).2).2).2).2).2).2).2).1, ((((((((((((law1Three).2).2).2).2).2).2).2).2).2).2).1, ()))))))))))) ((law1Won).1, (((((law1Won).2).1).1, (((((law1Won).2).1).2).1, ())), ((((law1Won).2).2).1, (((((law1Won).2).2).2).1, ()))))) fun r7 =>
  Option.bind (bif (r7.2.1 != (0 : Int)) then some ((true, ()), ())
  else Option.bind (ref1Key ((law1Won).1, (((((law1Won).2).1).1, (((((law1Won).2).1).2).1, ())), ((((law1Won).2).2).1, (((((law1Won).2).2).2).1, ()))))) fun r8 =>
  some ((((r7.1 != r8) || ((zobMix' (0 : Int)) != (ref1Mixed' (0 : Int)))), ()), ())) fun x9 =>
  bif x9.1.1 then some false
  else Option.bind (zobKey r p) fun r10 =>
  Option.bind (zobChange r p m) fun r11 =>
  bif ((zobMix' n) != (ref1Mixed' n)) then some false
  else Option.bind (ref1PlaceError r p) fun r12 =>
  bif (r12 != (0 : Int)) then some ((((r10.2.1 == r12) && (r11.2.1 == r12)) && (r10.1 == (0 : Int))) && (r11.1 == (0 : Int)))
  else Option.bind (gopt (!(r10.2.1 != (0 : Int))) (0 : Int) (ref1Key p)) fun r13 =>
  bif ((r10.2.1 != (0 : Int)) || (r10.1 != r13)) then some false
  else Option.bind (ref1Allowed r p m) fun r14 =>
  bif (!r14) then some ((r11.2.1 == (13 : Int)) && (r11.1 == (0 : Int)))
  else Option.bind (bif (r11.2.1 == (0 : Int)) then (Option.bind (ref1After r p m) fun r15 =>
  Option.bind (ref1Key (r15.1, ((r15.2.1.1, (r15.2.1.2.1, ())), r15.2.2))) fun r16 =>
  some (((r11.1 == r16), ()), ()))
  else some ((false, ()), ())) fun x17 =>
  some x17.1.1
noncomputable def law1ZobKeys (r : ByteArray × Int × Int × (List (Int × Int × Int × (List (Int × Int × Int × Int × Unit)) × Unit)) × (List Int) × Bool × Bool × (List (Int × Int × Int × Bool × Unit)) × Int × Int × Int × Unit) (p : (List Int) × ((List Int) × (List Int) × Unit) × Int × Int × Unit) (m : Int × Int × Int × Unit) (n : Int) : Option (Bool) := law1ZobKeys_V zobMix ref1Mixed r p m n
end Go.Proofs.Ytmieohplcoeadaa
