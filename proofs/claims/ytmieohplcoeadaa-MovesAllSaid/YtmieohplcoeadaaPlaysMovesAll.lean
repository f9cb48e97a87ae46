/- The game of three in a row, at its beginning. No condition of its own. -/
import Derived.Test.YtmieohplcoeadaaMovesAllS
import Derived.Test.YtmieohplcoeadaaCoreB
namespace Go.Proofs.Ytmieohplcoeadaa
open Go.Den
set_option linter.unusedVariables false
set_option linter.unusedSimpArgs false
set_option maxRecDepth 100000

theorem three_rng : Rng tyRules law1Three := rngB_ok _ _ (by decide +kernel)
theorem three_ok : ruleErr law1Three = 0 := by decide +kernel
theorem begin_ok : placeErr law1Three (beginOf law1Three) = 0 := by decide +kernel
theorem begin_moves : movesOf law1Three (beginOf law1Three) = (List.range 9).map fun i : Nat => ((-1 : Int), ((i : Int), ((0 : Int), ()))) := by decide +kernel
theorem begin_4 : allowedB law1Three (beginOf law1Three) (-1, 4, 0, ()) = true := by decide +kernel
theorem begin_9 : allowedB law1Three (beginOf law1Three) (-1, 9, 0, ()) = false := by decide +kernel
theorem after_4 : afterOf law1Three (beginOf law1Three) (-1, 4, 0, ()) = ([0, 0, 0, 0, 1, 0, 0, 0, 0], ([4], [5], ()), 1, 0, ()) := by decide +kernel
theorem plays_begin : placeBegin law1Three = some (beginOf law1Three, 0, ()) := by rw [begin_spec _ three_rng, if_pos three_ok]
theorem plays_all : movesAll law1Three (beginOf law1Three) = some ((List.range 9).map (fun i : Nat => ((-1 : Int), ((i : Int), ((0 : Int), ())))), 0, ()) := by rw [all_spec _ _ three_rng (by decide), if_pos begin_ok, begin_ok, begin_moves]
theorem plays_after : movesAfter law1Three (beginOf law1Three) (law1Put 4) = some (([0, 0, 0, 0, 1, 0, 0, 0, 0], ([4], [5], ()), 1, 0, ()), 0, ()) := by
  show movesAfter law1Three (beginOf law1Three) (-1, 4, 0, ()) = _
  rw [after_spec _ _ _ three_rng (by decide), if_pos begin_ok, if_pos begin_4, after_4]
theorem plays_legal : movesLegal law1Three (beginOf law1Three) (law1Put 9) = some (false, 0, ()) := by
  show movesLegal law1Three (beginOf law1Three) (-1, 9, 0, ()) = _
  rw [legal_spec _ _ _ three_rng (by decide), if_pos begin_ok, begin_ok, begin_9]
theorem law1Plays_true : law1Plays = some true := by
  have h1 := plays_begin
  have h2 := plays_all
  have h3 := plays_after
  have h4 := plays_legal
  unfold law1Plays
  rw [h1, Option.bind_some]
  rw [h2]
  simp only [Option.bind_some, agree_self]
  rw [h3]
  simp only [Option.bind_some, agree_self]
  rw [h4]
  simp only [Option.bind_some, agree_self]
  rfl
end Go.Proofs.Ytmieohplcoeadaa
