/- What the exported searches return; three in a row. No condition of its own. -/
import Derived.Test.YtaaigenpmaiodaaSearchQ
import Derived.Test.YtaaigenpmaiodaaCoreB
namespace Go.Proofs.Ytaaigenpmaiodaa
open Go.Den
set_option linter.unusedVariables false
set_option linter.unusedSimpArgs false
set_option maxRecDepth 100000

theorem eta_r (r : Rules) : (r.1, (r.2.1, (r.2.2.1, (r.2.2.2.1, (r.2.2.2.2.1, (r.2.2.2.2.2.1, (r.2.2.2.2.2.2.1, (r.2.2.2.2.2.2.2.1, (r.2.2.2.2.2.2.2.2.1, (r.2.2.2.2.2.2.2.2.2.1, (r.2.2.2.2.2.2.2.2.2.2.1, ()))))))))))) = r := rfl
theorem eta_p (p : Place) : (p.1, ((p.2.1.1, (p.2.1.2.1, ())), p.2.2)) = p := rfl
theorem eta_p2 (p : Place) : (p.1, ((p.2.1.1, (p.2.1.2.1, ())), (p.2.2.1, (p.2.2.2.1, ())))) = p := rfl
theorem tree_spec (r : Rules) (p : Place) (depth : Int) (hr : Rng tyRules r) (hn : p.1.length ≤ 9223372036854775807) : perftTree r p depth = some (if treeErr r p depth = 0 then ((treeN r depth.toNat p : Int), (0, ())) else (0, (treeErr r p depth, ()))) := by
  unfold perftTree
  rw [check_search r p depth hr hn]
  by_cases c : treeErr r p depth = 0
  · simp only [if_pos c, Option.bind_some]
  · simp only [if_neg c, Option.bind_some]
theorem tree_ok {r : Rules} {p : Place} {depth : Int} (c : treeErr r p depth = 0) : Valid r p ∧ 0 ≤ depth ∧ depth ≤ 12 ∧ treeN r depth.toNat p ≤ 50000 := by
  by_cases h1 : placeErr r p = 0
  · cases h2 : okDepth depth with
    | false => rw [treeErr_d h1 h2] at c; omega
    | true =>
      have hd := okDepth_iff.1 h2
      by_cases h3 : 50000 < treeN r depth.toNat p
      · rw [treeErr_b h1 h2 h3] at c; omega
      · exact ⟨valid_of h1, hd.1, hd.2, by omega⟩
  · rw [treeErr_p depth h1] at c; exact absurd c h1
theorem score_spec (r : Rules) (p : Place) (depth : Int) (hr : Rng tyRules r) (hn : p.1.length ≤ 9223372036854775807) : minimaxScore r p depth = some (if treeErr r p depth = 0 then (scoreOf r depth.toNat p, (0, ())) else (0, (treeErr r p depth, ()))) := by
  unfold minimaxScore
  rw [tree_spec r p depth hr hn]
  by_cases c : treeErr r p depth = 0
  · obtain ⟨hv, hd0, hd1, _⟩ := tree_ok c
    obtain ⟨d, rfl⟩ := Int.eq_ofNat_of_zero_le hd0
    simp only [if_pos c, Option.bind_some]
    rw [show ((0 : Int) != 0) = false from rfl, cond_false, of_spec hv (by omega)]
    rfl
  · simp only [if_neg c, Option.bind_some]
    rw [bne_t c, cond_true]
end Go.Proofs.Ytaaigenpmaiodaa
