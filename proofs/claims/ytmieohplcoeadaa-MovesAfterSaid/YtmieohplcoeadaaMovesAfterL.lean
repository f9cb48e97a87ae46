/- The law MovesAfter in plain Lean: it is true. Conditions: numbers in range. -/
import Derived.Test.YtmieohplcoeadaaPlaysMovesAfter
namespace Go.Proofs.Ytmieohplcoeadaa
open Go.Den
set_option linter.unusedVariables false
set_option linter.unusedSimpArgs false
set_option maxRecDepth 100000

theorem law1MovesAfter_true (r : Rules) (p : Place) (m : Mv) (hr : Rng tyRules r) (hp : Rng tyPlace p) (hm : Rng (.st (.int .i64) (.st (.int .i64) (.st (.int .i64) .nil))) m) : law1MovesAfter r p m = some true := by
  have hn : p.1.length ≤ 9223372036854775807 := hp.1.1
  unfold law1MovesAfter
  rw [law1Plays_true, Option.bind_some, Bool.not_true, cond_false, after_spec r p m hr hn, placeError_spec r p hr hn]
  simp only [Option.bind_some]
  by_cases c : placeErr r p = 0
  · have hv := valid_of c
    simp only [if_pos c]
    rw [c, allowed_spec hv]
    simp only [show ((0 : Int) == 0) = true from rfl, gopt, cond_true, Option.bind_some, Bool.true_and]
    cases ha : allowedB r p m with
    | false => rfl
    | true =>
      rw [refAfter_spec hv ha]
      have va := after_valid hv ha
      have h64 := area_len va
      have t6 := va.r0.t6
      have l0 : (afterOf r p m).2.1.1.length = r.pieces.length := va.l0
      have l1 : (afterOf r p m).2.1.2.1.length = r.pieces.length := va.l1
      have hs := same_place (afterOf r p m) (afterOf r p m) (by omega) (by omega) (by omega)
      simp only [if_true, Option.bind_some, agree_self, Bool.not_true, cond_false, show ((0 : Int) != 0) = false from rfl, show ((0 : Int) == 0) = true from rfl, cond_true]
      rw [hs]
      simp
  · simp only [if_neg c]
    rw [beq_f c]
    simp only [gopt, cond_false, Option.bind_some, Bool.false_and, bne_t c, cond_true]
    simp [emptyP]
end Go.Proofs.Ytmieohplcoeadaa
