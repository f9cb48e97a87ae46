/- The law MovesAll in plain Lean: it is true. Conditions: numbers in range. -/
import Derived.Test.YtmieohplcoeadaaPlaysMovesAll
namespace Go.Proofs.Ytmieohplcoeadaa
open Go.Den
set_option linter.unusedVariables false
set_option linter.unusedSimpArgs false
set_option maxRecDepth 100000

theorem law1MovesAll_true (r : Rules) (p : Place) (m : Mv) (hr : Rng tyRules r) (hp : Rng tyPlace p) (hm : Rng (.st (.int .i64) (.st (.int .i64) (.st (.int .i64) .nil))) m) : law1MovesAll r p m = some true := by
  have hn : p.1.length ≤ 9223372036854775807 := hp.1.1
  unfold law1MovesAll
  rw [law1Plays_true, Option.bind_some, Bool.not_true, cond_false, all_spec r p hr hn, legal_spec r p m hr hn, placeError_spec r p hr hn]
  simp only [Option.bind_some]
  by_cases c : placeErr r p = 0
  · have hv := valid_of c
    simp only [if_pos c]
    rw [c, allowed_spec hv, refMoves_spec hv]
    simp only [show ((0 : Int) != 0) = false from rfl, show ((0 : Int) == 0) = true from rfl, cond_false, Bool.and_self, gopt, cond_true, Option.bind_some, Bool.true_and, beq_self_eq_true]
    rw [same_moves _ _ (by have := movesOf_len hv; omega)]
    cases decide (((p.1.length : Nat) : Int) > 20) <;> simp
  · simp only [if_neg c]
    rw [bne_t c, cond_true]
    simp
end Go.Proofs.Ytmieohplcoeadaa
