/- What the exported searches return; three in a row. No condition of its own. -/
import Derived.Test.YtpajmeljfpolcaaSearchQ
import Derived.Test.YtpajmeljfpolcaaCoreB
namespace Go.Proofs.Ytpajmeljfpolcaa
open Go.Den
set_option linter.unusedVariables false
set_option linter.unusedSimpArgs false
set_option maxRecDepth 100000

theorem eta_r (r : Rules) : (r.1, (r.2.1, (r.2.2.1, (r.2.2.2.1, (r.2.2.2.2.1, (r.2.2.2.2.2.1, (r.2.2.2.2.2.2.1, (r.2.2.2.2.2.2.2.1, (r.2.2.2.2.2.2.2.2.1, (r.2.2.2.2.2.2.2.2.2.1, (r.2.2.2.2.2.2.2.2.2.2.1, ()))))))))))) = r := rfl
theorem eta_p (p : Place) : (p.1, ((p.2.1.1, (p.2.1.2.1, ())), p.2.2)) = p := rfl
theorem eta_p2 (p : Place) : (p.1, ((p.2.1.1, (p.2.1.2.1, ())), (p.2.2.1, (p.2.2.2.1, ())))) = p := rfl
theorem tree_spec (r : Rules) (p : Place) (depth : Int) (hr : Rng tyRules r) (hn : p.1.length ≤ 9223372036854775807) : perftTree r p depth = some (if treeErr r p depth = 0 then ((treeN r depth.toNat p : Int), (0, ())) else (0, (treeErr r p depth, ()))) := by
  unfold perftTree
  rw [check_search r p depth hr hn]
  by_cases c : treeErr r p depth = 0
  · simp only [if_pos c, Option.bind_some]
  · simp only [if_neg c, Option.bind_some]
theorem count_spec (r : Rules) (p : Place) (depth : Int) (hr : Rng tyRules r) (hn : p.1.length ≤ 9223372036854775807) : perftCount r p depth = some (if treeErr r p depth = 0 then ((countN r depth.toNat p : Int), (0, ())) else (0, (treeErr r p depth, ()))) := by
  unfold perftCount
  rw [check_search r p depth hr hn]
  by_cases c : treeErr r p depth = 0
  · simp only [if_pos c, Option.bind_some]
  · simp only [if_neg c, Option.bind_some]
theorem tree_ok {r : Rules} {p : Place} {depth : Int} (c : treeErr r p depth = 0) : Valid r p ∧ 0 ≤ depth ∧ depth ≤ 12 ∧ treeN r depth.toNat p ≤ 50000 := by
  by_cases h1 : placeErr r p = 0
  · cases h2 : okDepth depth with
    | false => rw [treeErr_d h1 h2] at c; omega
    | true =>
      have hd := okDepth_iff.1 h2
      by_cases h3 : 50000 < treeN r depth.toNat p
      · rw [treeErr_b h1 h2 h3] at c; omega
      · exact ⟨valid_of h1, hd.1, hd.2, by omega⟩
  · rw [treeErr_p depth h1] at c; exact absurd c h1
theorem score_spec (r : Rules) (p : Place) (depth : Int) (hr : Rng tyRules r) (hn : p.1.length ≤ 9223372036854775807) : minimaxScore r p depth = some (if treeErr r p depth = 0 then (scoreOf r depth.toNat p, (0, ())) else (0, (treeErr r p depth, ()))) := by
  unfold minimaxScore
  rw [tree_spec r p depth hr hn]
  by_cases c : treeErr r p depth = 0
  · obtain ⟨hv, hd0, hd1, _⟩ := tree_ok c
    obtain ⟨d, rfl⟩ := Int.eq_ofNat_of_zero_le hd0
    simp only [if_pos c, Option.bind_some]
    rw [show ((0 : Int) != 0) = false from rfl, cond_false, of_spec hv (by omega)]
    rfl
  · simp only [if_neg c, Option.bind_some]
    rw [bne_t c, cond_true]
theorem best_spec (r : Rules) (p : Place) (depth : Int) (hr : Rng tyRules r) (hn : p.1.length ≤ 9223372036854775807) : minimaxBest r p depth = some (if treeErr r p depth = 0 then if depth = 0 then (d0, (0, (1, ()))) else if resultOf r p = 0 then ((firstOf r (depth.toNat - 1) p).1, ((firstOf r (depth.toNat - 1) p).2, (0, ()))) else (d0, (0, (14, ()))) else (d0, (0, (treeErr r p depth, ())))) := by
  unfold minimaxBest
  rw [tree_spec r p depth hr hn]
  by_cases c : treeErr r p depth = 0
  · obtain ⟨hv, hd0, hd1, _⟩ := tree_ok c
    obtain ⟨d, rfl⟩ := Int.eq_ofNat_of_zero_le hd0
    simp only [if_pos c, Option.bind_some]
    rw [show ((0 : Int) != 0) = false from rfl, cond_false]
    by_cases cd : ((d : Nat) : Int) = 0
    · rw [beq_t cd, cond_true, if_pos cd]
    · rw [beq_f cd, cond_false, if_neg cd, result_spec hv, Option.bind_some]
      by_cases cr : resultOf r p = 0
      · rw [bne_f cr, cond_false, if_pos cr]
        obtain ⟨e, rfl⟩ : ∃ e, d = e + 1 := ⟨d - 1, by omega⟩
        rw [first_spec hv cr (by omega), Option.bind_some]
        rfl
      · rw [bne_t cr, cond_true, if_neg cr]
  · simp only [if_neg c, Option.bind_some]
    rw [bne_t c, cond_true]
theorem three_rng : Rng tyRules law1Three := rngB_ok _ _ (by decide +kernel)
theorem three_ok : ruleErr law1Three = 0 := by decide +kernel
theorem near_ok : placeErr law1Three law1Near = 0 := by decide +kernel
theorem near_res : resultOf law1Three law1Near = 0 := by decide +kernel
theorem near_moves : movesOf law1Three law1Near = [2, 5, 6, 7, 8].map fun i : Int => ((-1 : Int), (i, ((0 : Int), ()))) := by decide +kernel
theorem near_open : openMoves law1Three law1Near = [2, 5, 6, 7, 8].map fun i : Int => ((-1 : Int), (i, ((0 : Int), ()))) := by rw [open_0 near_res, near_moves]
theorem near_t1 : treeN law1Three 1 law1Near = 6 := by decide +kernel
theorem near_t2 : treeN law1Three 2 law1Near = 22 := by decide +kernel
theorem near_t3 : treeN law1Three 3 law1Near ≤ 50000 := by decide +kernel
theorem near_s1 : scoreOf law1Three 1 law1Near = 999 := by decide +kernel
theorem near_s2 : scoreOf law1Three 2 law1Near = 999 := by decide +kernel
theorem near_f1 : firstOf law1Three 0 law1Near = ((-1, (2, (0, ()))), 999) := by decide +kernel
theorem near_f2 : firstOf law1Three 1 law1Near = ((-1, (2, (0, ()))), 999) := by decide +kernel
theorem near_e1 : treeErr law1Three law1Near 1 = 0 := treeErr_0 near_ok rfl (by show ¬ 50000 < treeN law1Three 1 law1Near; rw [near_t1]; omega)
theorem near_e2 : treeErr law1Three law1Near 2 = 0 := treeErr_0 near_ok rfl (by show ¬ 50000 < treeN law1Three 2 law1Near; rw [near_t2]; omega)
theorem near_e3 : treeErr law1Three law1Near 3 = 0 := treeErr_0 near_ok rfl (by show ¬ 50000 < treeN law1Three 3 law1Near; have := near_t3; omega)
theorem near_n : law1Near.1.length ≤ 9223372036854775807 := by decide
theorem near_score1 : minimaxScore law1Three law1Near 1 = some (999, (0, ())) := by
  rw [score_spec _ _ _ three_rng near_n, if_pos near_e1]
  show some (scoreOf law1Three 1 law1Near, _) = _
  rw [near_s1]
theorem near_best2 : minimaxBest law1Three law1Near 2 = some ((-1, (2, (0, ()))), (999, (0, ()))) := by
  rw [best_spec _ _ _ three_rng near_n, if_pos near_e2, if_neg (by decide), if_pos near_res]
  show some ((firstOf law1Three 1 law1Near).1, ((firstOf law1Three 1 law1Near).2, _)) = _
  rw [near_f2]
theorem scored_true : law1Scored = some true := by
  unfold law1Scored
  rw [eta_r, eta_p2, near_score1, Option.bind_some, near_best2, Option.bind_some]
  rfl
end Go.Proofs.Ytpajmeljfpolcaa
