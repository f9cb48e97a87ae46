/- What the exported functions of moves give. No condition of its own. -/
import Derived.Test.YticeklcmijbjfaaCoreB
namespace Go.Proofs.Yticeklcmijbjfaa
open Go.Den
set_option linter.unusedVariables false
set_option linter.unusedSimpArgs false
set_option maxRecDepth 100000

theorem all_spec (r : Rules) (p : Place) (hr : Rng tyRules r) (hn : p.1.length ≤ 9223372036854775807) : movesAll r p = some (if placeErr r p = 0 then movesOf r p else [], placeErr r p, ()) := by
  unfold movesAll
  rw [place_spec r p hr hn, Option.bind_some]
  by_cases c : placeErr r p = 0
  · rw [bne_f c, cond_false, if_pos c, list_spec (valid_of c), c]; rfl
  · rw [bne_t c, cond_true, if_neg c]
theorem legal_spec (r : Rules) (p : Place) (m : Mv) (hr : Rng tyRules r) (hn : p.1.length ≤ 9223372036854775807) : movesLegal r p m = some (if placeErr r p = 0 then allowedB r p m else false, placeErr r p, ()) := by
  unfold movesLegal
  rw [all_spec r p hr hn, Option.bind_some]
  by_cases c : placeErr r p = 0
  · have hv := valid_of c
    simp only [if_pos c]
    rw [index_spec _ _ (by have := movesOf_len hv; omega), Option.bind_some]
    have : decide (m ∈ movesOf r p) = allowedB r p m := by
      rw [Bool.eq_iff_iff, decide_eq_true_eq, movesOf_mem]
    rw [this]
  · simp only [if_neg c]
    rw [index_spec _ _ (by simp)]
    simp
def emptyP : Place := ([], ([], [], ()), 0, 0, ())
theorem after_spec (r : Rules) (p : Place) (m : Mv) (hr : Rng tyRules r) (hn : p.1.length ≤ 9223372036854775807) : movesAfter r p m = some (if placeErr r p = 0 then if allowedB r p m = true then (afterOf r p m, 0, ()) else (emptyP, 13, ()) else (emptyP, placeErr r p, ())) := by
  unfold movesAfter
  rw [legal_spec r p m hr hn, Option.bind_some]
  by_cases c : placeErr r p = 0
  · have hv := valid_of c
    simp only [if_pos c]
    rw [c, show ((0 : Int) != 0) = false from rfl, cond_false]
    cases ha : allowedB r p m with
    | false => rfl
    | true =>
      rw [Bool.not_true, cond_false, make_spec hv ha, Option.bind_some]
      rfl
  · simp only [if_neg c]
    rw [bne_t c, cond_true]
    rfl
end Go.Proofs.Yticeklcmijbjfaa
