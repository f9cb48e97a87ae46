/- Texts of moves: what the exported functions give. No condition of its own. -/
import Derived.Test.YtaaigenpmaiodaaTextR
namespace Go.Proofs.Ytaaigenpmaiodaa
open Go.Den
set_option linter.unusedVariables false
set_option linter.unusedSimpArgs false
set_option maxRecDepth 100000

theorem text_spec (r : Rules) (p : Place) (m : Mv) (hL : Letters r) (hr : Rng tyRules r) (hn : p.1.length ≤ 9223372036854775807) : movetextText r p m = some (if placeErr r p = 0 then if allowedB r p m = true then (moveT r p m, (0, ())) else (e0, (13, ())) else (e0, (placeErr r p, ()))) := by
  unfold movetextText
  rw [all_spec r p hr hn, Option.bind_some]
  by_cases c : placeErr r p = 0
  · have hv := valid_of c
    simp only [c, if_true]
    rw [show ((0 : Int) != 0) = false from rfl, cond_false, index_spec _ _ (by have := movesOf_len hv; omega), Option.bind_some]
    by_cases ca : allowedB r p m = true
    · rw [decide_eq_true ((movesOf_mem m).2 ca), Bool.not_true, cond_false, if_pos ca, of_spec hL hv ca]
      rfl
    · rw [decide_eq_false (fun h => ca ((movesOf_mem m).1 h)), Bool.not_false, cond_true, if_neg ca]
      rfl
  · simp only [if_neg c]
    rw [bne_t c, cond_true]
    rfl
theorem tic_begin : placeErr law3Tic (beginOf law3Tic) = 0 := by decide +kernel
theorem tic_drop : allowedB law3Tic (beginOf law3Tic) (law3Drop 4) = true := by decide +kernel
theorem tic_text : moveT law3Tic (beginOf law3Tic) (law3Drop 4) = ByteArray.mk #[83, 64, 98, 50] := by decide +kernel
theorem writes_true : law3Writes = some true := by
  have e1 : placeBegin law3Tic = some (beginOf law3Tic, 0, ()) := by rw [begin_spec _ tic_rng, if_pos tic_ok]
  have e2 := text_spec law3Tic (beginOf law3Tic) (law3Drop 4) (letters_of tic_rng) tic_rng (by decide)
  rw [if_pos tic_begin, if_pos tic_drop, tic_text] at e2
  unfold law3Writes
  simp only [agree_self, rep_eta]
  rw [e1, Option.bind_some]
  simp only [pl_eta]
  rw [e2]
  simp only [Option.bind_some, agree_self]
  simp
end Go.Proofs.Ytaaigenpmaiodaa
