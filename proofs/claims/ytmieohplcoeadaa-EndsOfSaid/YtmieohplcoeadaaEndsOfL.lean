/- The law EndsOf in plain Lean: it is true. Conditions: numbers in range. -/
import Derived.Test.YtmieohplcoeadaaEndsOfS
import Derived.Test.YtmieohplcoeadaaCoreS2
namespace Go.Proofs.Ytmieohplcoeadaa
open Go.Den
set_option linter.unusedVariables false
set_option linter.unusedSimpArgs false
set_option maxRecDepth 100000

theorem three_rng : Rng tyRules law1Three := rngB_ok _ _ (by decide +kernel)
theorem of_spec (r : Rules) (p : Place) (hr : Rng tyRules r) (hn : p.1.length ≤ 9223372036854775807) : endsOf r p = some (if placeErr r p = 0 then resultOf r p else 0, placeErr r p, ()) := by
  unfold endsOf
  rw [place_spec r p hr hn, Option.bind_some]
  by_cases c : placeErr r p = 0
  · rw [bne_f c, cond_false, if_pos c, result_spec (valid_of c), c]; rfl
  · rw [bne_t c, cond_true, if_neg c]
theorem won_ok : placeErr law1Three law1Won = 0 := by decide +kernel
theorem won_res : resultOf law1Three law1Won = 1 := by decide +kernel
theorem law1EndsOf_true (r : Rules) (p : Place) (hr : Rng tyRules r) (hp : Rng tyPlace p) : law1EndsOf r p = some true := by
  have hn : p.1.length ≤ 9223372036854775807 := hp.1.1
  unfold law1EndsOf
  have e1 := of_spec law1Three law1Won three_rng (by decide)
  rw [if_pos won_ok, won_ok, won_res] at e1
  rw [show (_ : Option (Int × Int × Unit)) = endsOf law1Three law1Won from rfl, e1]
  rw [Option.bind_some, of_spec r p hr hn, placeError_spec r p hr hn]
  simp only [Option.bind_some]
  by_cases c : placeErr r p = 0
  · rw [c, if_pos rfl, refResult_spec (valid_of c)]
    generalize decide (((p.1.length : Nat) : Int) > (20 : Int)) = b
    cases b <;> simp [gopt]
  · rw [if_neg c, bne_t c, cond_true]
    simp
end Go.Proofs.Ytmieohplcoeadaa
