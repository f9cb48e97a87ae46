/- The law ClaimAdjudicates in plain Lean: it is true. Conditions: numbers in range. -/
import Derived.Test.YtpajmeljfpolcaaClaimAdjudicatesS
import Derived.Test.YtpajmeljfpolcaaSearchR
import Derived.Test.YtpajmeljfpolcaaGameQ
namespace Go.Proofs.Ytpajmeljfpolcaa
open Go.Den
set_option linter.unusedVariables false
set_option linter.unusedSimpArgs false
set_option maxRecDepth 100000

theorem same0_refl (p : Place) : same0 p p = true := by simp [same0]
theorem times_one (p : Place) : timesOf [p] = 1 := by
  unfold timesOf
  have : lastP [p] = p := rfl
  rw [this]
  simp [same0_refl]
theorem res_one {r : Rules} (c : ruleErr r = 0) (p : Place) : gameRes r [p] = resultOf r p := by
  have hrep := (rules_valid c).repeats
  unfold gameRes
  rw [times_one]
  have : lastP [p] = p := rfl
  rw [this]
  have h : (((resultOf r p == 0) && (r.repeats != 0)) && decide (((1 : Nat) : Int) ≥ r.repeats)) = false := by
    rcases hrep with h | h
    · rw [bne_f h]; simp
    · rw [decide_eq_false (by omega)]; simp
  rw [h, cond_false]
def adj (p : Place) (n : Int) : Int := bif decide (n > 0) then 1 + p.turn else bif decide (n < 0) then 2 - p.turn else 3
theorem adjudicate_spec (r : Rules) (p : Place) (depth : Int) (hr : Rng tyRules r) (hn : p.1.length ≤ 9223372036854775807) : claimAdjudicate r p depth = some (if placeErr r p = 0 then if resultOf r p = 0 then if treeErr r p depth = 0 then (adj p (scoreOf r depth.toNat p), (0, ())) else (0, (treeErr r p depth, ())) else (resultOf r p, (0, ())) else (0, (placeErr r p, ()))) := by
  unfold claimAdjudicate
  rw [endsOf_spec r p hr hn, Option.bind_some]
  by_cases c : placeErr r p = 0
  · have hv := valid_of c
    have ht := hv.turn
    have w1 : w64 ((1 : Int) + p.2.2.1) = 1 + p.turn := w64_id (by show _ ≤ 1 + p.turn; omega) (by show 1 + p.turn ≤ _; omega)
    have w2 : w64 ((2 : Int) - p.2.2.1) = 2 - p.turn := w64_id (by show _ ≤ 2 - p.turn; omega) (by show 2 - p.turn ≤ _; omega)
    simp only [c, if_true]
    rw [bne_self_eq_false, Bool.false_or]
    by_cases cr : resultOf r p = 0
    · rw [bne_f cr, cond_false, if_pos cr, score_spec r p depth hr hn, Option.bind_some]
      by_cases ct : treeErr r p depth = 0
      · simp only [if_pos ct]
        rw [bne_self_eq_false, cond_false, w1, w2]
        unfold adj
        cases decide (scoreOf r depth.toNat p > 0)
        · cases decide (scoreOf r depth.toNat p < 0) <;> rfl
        · rfl
      · simp only [if_neg ct]
        rw [bne_t ct, cond_true]
    · rw [bne_t cr, cond_true, if_neg cr]
  · simp only [if_neg c]
    rw [bne_t c, Bool.true_or, cond_true]
theorem law3ClaimAdjudicates_true (r : Rules) (p : Place) (depth : Int) (hr : Rng tyRules r) (hp : Rng tyPlace p) (hd : Rng (.int .i64) depth) : law3ClaimAdjudicates r p depth = some true := by
  have hn : p.1.length ≤ 9223372036854775807 := hp.1.1
  unfold law3ClaimAdjudicates
  rw [claims_true, Option.bind_some, Bool.not_true, cond_false]
  cases (law3Great r || decide (depth > 3)) with
  | true => rfl
  | false =>
    rw [cond_false, adjudicate_spec r p depth hr hn, Option.bind_some, place_spec r p hr hn, Option.bind_some]
    by_cases c : placeErr r p = 0
    · have hv := valid_of c
      have ht := hv.turn
      have hr0 : ruleErr r = 0 := by
        refine Decidable.byContradiction fun h => ?_
        unfold placeErr at c
        rw [if_pos h] at c
        exact h c
      have hrep := hv.r0.repeats
      have w1 : w64 ((1 : Int) + p.2.2.1) = 1 + p.turn := w64_id (by show _ ≤ 1 + p.turn; omega) (by show 1 + p.turn ≤ _; omega)
      have w2 : w64 ((2 : Int) - p.2.2.1) = 2 - p.turn := w64_id (by show _ ≤ 2 - p.turn; omega) (by show 2 - p.turn ≤ _; omega)
      rw [bne_f c, cond_false, res3_spec hr0 hr (L := [p]) (fun q hq => by rw [List.mem_singleton.1 hq]; exact hv) (by simp) (by simp), res_one hr0, Option.bind_some, if_pos c]
      by_cases cr : resultOf r p = 0
      · rw [bne_f cr, Bool.false_and, cond_false, if_pos cr, score_spec r p depth hr hn, Option.bind_some]
        by_cases ct : treeErr r p depth = 0
        · simp only [if_pos ct]
          rw [bne_self_eq_false, cond_false, w1, w2]
          generalize scoreOf r depth.toNat p = n
          unfold adj
          by_cases n1 : n = 0
          · subst n1; rfl
          · rw [bne_t n1, cond_true]
            by_cases n2 : n > 0
            · rw [decide_eq_true n2, decide_eq_false (show ¬ n < 0 by omega)]
              simp
            · rw [decide_eq_false n2, decide_eq_true (show n < 0 by omega)]
              simp
        · simp only [if_neg ct]
          rw [bne_t ct, cond_true]
          simp
      · have : ((resultOf r p != 0) && ((r.2.2.2.2.2.2.2.2.2.2.1 == 0) || decide (r.2.2.2.2.2.2.2.2.2.2.1 > 1))) = true := by
          rw [bne_t cr, Bool.true_and]
          show ((r.repeats == 0) || decide (r.repeats > 1)) = true
          rcases hrep with h | h
          · rw [beq_t h]; rfl
          · rw [decide_eq_true (by omega)]; simp
        rw [this, cond_true, if_neg cr]
        simp
    · rw [bne_t c, cond_true, if_neg c]
      simp
end Go.Proofs.Ytpajmeljfpolcaa
