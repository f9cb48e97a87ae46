/- What the exported searches return; three in a row. No condition of its own. -/
import Derived.Test.YticeklcmijbjfaaSearchQ
import Derived.Test.YticeklcmijbjfaaCoreB
namespace Go.Proofs.Yticeklcmijbjfaa
open Go.Den
set_option linter.unusedVariables false
set_option linter.unusedSimpArgs false
set_option maxRecDepth 100000

theorem eta_r (r : Rules) : (r.1, (r.2.1, (r.2.2.1, (r.2.2.2.1, (r.2.2.2.2.1, (r.2.2.2.2.2.1, (r.2.2.2.2.2.2.1, (r.2.2.2.2.2.2.2.1, (r.2.2.2.2.2.2.2.2.1, (r.2.2.2.2.2.2.2.2.2.1, (r.2.2.2.2.2.2.2.2.2.2.1, ()))))))))))) = r := rfl
theorem eta_p (p : Place) : (p.1, ((p.2.1.1, (p.2.1.2.1, ())), p.2.2)) = p := rfl
theorem eta_p2 (p : Place) : (p.1, ((p.2.1.1, (p.2.1.2.1, ())), (p.2.2.1, (p.2.2.2.1, ())))) = p := rfl
theorem tree_spec (r : Rules) (p : Place) (depth : Int) (hr : Rng tyRules r) (hn : p.1.length ≤ 9223372036854775807) : perftTree r p depth = some (if treeErr r p depth = 0 then ((treeN r depth.toNat p : Int), (0, ())) else (0, (treeErr r p depth, ()))) := by
  unfold perftTree
  rw [check_search r p depth hr hn]
  by_cases c : treeErr r p depth = 0
  · simp only [if_pos c, Option.bind_some]
  · simp only [if_neg c, Option.bind_some]
theorem tree_ok {r : Rules} {p : Place} {depth : Int} (c : treeErr r p depth = 0) : Valid r p ∧ 0 ≤ depth ∧ depth ≤ 12 ∧ treeN r depth.toNat p ≤ 50000 := by
  by_cases h1 : placeErr r p = 0
  · cases h2 : okDepth depth with
    | false => rw [treeErr_d h1 h2] at c; omega
    | true =>
      have hd := okDepth_iff.1 h2
      by_cases h3 : 50000 < treeN r depth.toNat p
      · rw [treeErr_b h1 h2 h3] at c; omega
      · exact ⟨valid_of h1, hd.1, hd.2, by omega⟩
  · rw [treeErr_p depth h1] at c; exact absurd c h1
theorem three_rng : Rng tyRules law1Three := rngB_ok _ _ (by decide +kernel)
theorem three_ok : ruleErr law1Three = 0 := by decide +kernel
theorem near_ok : placeErr law1Three law1Near = 0 := by decide +kernel
theorem near_res : resultOf law1Three law1Near = 0 := by decide +kernel
theorem near_moves : movesOf law1Three law1Near = [2, 5, 6, 7, 8].map fun i : Int => ((-1 : Int), (i, ((0 : Int), ()))) := by decide +kernel
theorem near_open : openMoves law1Three law1Near = [2, 5, 6, 7, 8].map fun i : Int => ((-1 : Int), (i, ((0 : Int), ()))) := by rw [open_0 near_res, near_moves]
theorem near_t1 : treeN law1Three 1 law1Near = 6 := by decide +kernel
theorem near_t2 : treeN law1Three 2 law1Near = 22 := by decide +kernel
theorem near_t3 : treeN law1Three 3 law1Near ≤ 50000 := by decide +kernel
theorem near_s1 : scoreOf law1Three 1 law1Near = 999 := by decide +kernel
theorem near_s2 : scoreOf law1Three 2 law1Near = 999 := by decide +kernel
theorem near_f1 : firstOf law1Three 0 law1Near = ((-1, (2, (0, ()))), 999) := by decide +kernel
theorem near_f2 : firstOf law1Three 1 law1Near = ((-1, (2, (0, ()))), 999) := by decide +kernel
theorem near_e1 : treeErr law1Three law1Near 1 = 0 := treeErr_0 near_ok rfl (by show ¬ 50000 < treeN law1Three 1 law1Near; rw [near_t1]; omega)
theorem near_e2 : treeErr law1Three law1Near 2 = 0 := treeErr_0 near_ok rfl (by show ¬ 50000 < treeN law1Three 2 law1Near; rw [near_t2]; omega)
theorem near_e3 : treeErr law1Three law1Near 3 = 0 := treeErr_0 near_ok rfl (by show ¬ 50000 < treeN law1Three 3 law1Near; have := near_t3; omega)
theorem near_n : law1Near.1.length ≤ 9223372036854775807 := by decide
end Go.Proofs.Yticeklcmijbjfaa
