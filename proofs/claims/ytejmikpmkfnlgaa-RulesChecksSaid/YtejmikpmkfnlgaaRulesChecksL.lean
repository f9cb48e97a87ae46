/- The law RulesChecks, in plain Lean. No condition of its own. -/
import Derived.Test.YtejmikpmkfnlgaaRulesRulesChecks
namespace Go.Proofs.Ytejmikpmkfnlgaa
open Go.Den
set_option linter.unusedVariables false
set_option linter.unusedSimpArgs false
set_option maxRecDepth 100000

theorem ruleErr_zero {r : Rules} (h : ruleErr r = 0) : ((1 ≤ r.width ∧ r.width ≤ 8) ∧ 1 ≤ r.height ∧ r.height ≤ 8) ∧ ((r.start.length : Nat) : Int) = r.width * r.height := by
  unfold ruleErr at h
  split at h
  · cases h
  · split at h
    · cases h
    · rename_i _ h2
      have h2 := Decidable.not_not.1 h2
      refine ⟨h2, ?_⟩
      split at h
      · cases h
      · split at h
        · cases h
        · split at h
          · rename_i h5; exact absurd h h5
          · split at h
            · cases h
            · rename_i h6; exact Decidable.not_not.1 h6
theorem three_ok : ruleErr law1Three = 0 := by decide +kernel
theorem three_rng : Rng tyRules law1Three := rngB_ok _ _ (by decide +kernel)
def emptyR : Rules := ((ByteArray.mk #[]), ((0 : Int), ((0 : Int), ([], ([], (false, (false, ([], ((0 : Int), ((0 : Int), ((0 : Int), ())))))))))))
theorem empty_ok : ruleErr emptyR = 6 := by decide +kernel
theorem empty_rng : Rng tyRules emptyR := rngB_ok _ _ (by decide +kernel)
theorem empty_check : rulesCheck ((ByteArray.mk #[]), ((0 : Int), ((0 : Int), ([], ([], (false, (false, ([], ((0 : Int), ((0 : Int), ((0 : Int), ()))))))))))) = some 6 := by
  have := check_spec emptyR empty_rng
  rw [empty_ok] at this
  exact this
theorem a1_ok : nameOk (ByteArray.mk #[65, 49]) = true := by decide +kernel
/-- what Last gives -/
theorem last_spec (r : Rules) (hr : Rng tyRules r) (player square : Int) : rulesLast r player square = if ruleErr r ≠ 0 then some (false, ruleErr r, ()) else if ¬ (0 ≤ player ∧ player ≤ 1) then some (false, 1, ()) else
    if ¬ (0 ≤ square ∧ square ≤ r.width * r.height - 1) then some (false, 4, ()) else some (if player = 0 then w64 (square.tdiv r.width) == w64 (r.height - 1) else w64 (square.tdiv r.width) == 0, 0, ()) := by
  unfold rulesLast
  rw [check_spec r hr]
  simp only [Option.bind_some]
  by_cases c : ruleErr r = 0
  · obtain ⟨⟨hw, hh⟩, hl⟩ := ruleErr_zero c
    have h1 : r.width * r.height ≤ 8 * 8 := Int.mul_le_mul hw.2 hh.2 (by omega) (by omega)
    have h2 : 0 ≤ r.width * r.height := Int.mul_nonneg (by omega) (by omega)
    have e1 : w64 (w64 (r.2.1 * r.2.2.1) - 1) = r.width * r.height - 1 := by
      rw [show r.2.1 * r.2.2.1 = r.width * r.height from rfl, w64_id (n := r.width * r.height) (by omega) (by omega), w64_id (by omega) (by omega)]
    have e2 : (r.2.1 != 0) = true := bne_t (by show ¬ r.width = 0; omega)
    rw [c, if_neg (fun h => h rfl), e1]
    simp only [bne_self_eq_false, cond_false]
    by_cases cp : 0 ≤ player ∧ player ≤ 1
    · have e3 : (player != 0 && player != 1) = false := by
        rw [Bool.and_eq_false_iff]
        rcases (show player = 0 ∨ player = 1 by omega) with h | h
        · exact .inl (bne_f h)
        · exact .inr (bne_f h)
      rw [e3, if_neg (fun h => h cp), cond_false]
      by_cases cs : 0 ≤ square ∧ square ≤ r.width * r.height - 1
      · rw [within_iff.2 cs, if_neg (fun h => h cs)]
        unfold rulesIsLast
        by_cases c0 : player = 0
        · simp [c0, e2, req_true]
        · simp [c0, e2, req_true, beq_f c0]
      · have : rulesWithin square 0 (r.width * r.height - 1) = false := by
          rw [Bool.eq_false_iff]
          intro h
          exact cs (within_iff.1 h)
        rw [this, if_pos cs]
        rfl
    · have e3 : (player != 0 && player != 1) = true := by
        rw [Bool.and_eq_true]
        exact ⟨bne_t (by omega), bne_t (by omega)⟩
      rw [e3, if_pos cp]
      rfl
  · rw [bne_t c, if_pos c]
    rfl
theorem law1RulesChecks_true (r : Rules) (s : ByteArray) (player square : Int) (hr : Rng tyRules r) (hs : Rng .str s) (hp : Rng (.int .i64) player) (hq : Rng (.int .i64) square) : law1RulesChecks r s player square = some true := by
  unfold law1RulesChecks
  rw [empty_check]
  rw [show ((law1Three).1, (((law1Three).2).1, ((((law1Three).2).2).1, (((((law1Three).2).2).2).1, ((((((law1Three).2).2).2).2).1, (((((((law1Three).2).2).2).2).2).1, ((((((((law1Three).2).2).2).2).2).2).1, (((((((((law1Three).2).2).2).2).2).2).2).1, ((((((((((law1Three).2).2).2).2).2).2).2).2).1, (((((((((((law1Three).2).2).2).2).2).2).2).2).2).1, ((((((((((((law1Three).2).2).2).2).2).2).2).2).2).2).1, ()))))))))))) = law1Three from rfl]
  rw [check_spec _ three_rng, three_ok, last_spec _ three_rng, three_ok, if_neg (fun h => h rfl), if_neg (fun h => h (by decide)), if_neg (fun h => h (by decide))]
  have e0 : (if (0 : Int) = 0 then w64 (Int.tdiv 7 (Rules.width law1Three)) == w64 (Rules.height law1Three - 1) else w64 (Int.tdiv 7 (Rules.width law1Three)) == 0) = true := by decide +kernel
  rw [e0, name_spec _ (by decide), a1_ok, error_spec r hr, check_spec r hr, last_spec r hr]
  have hss : s.size ≤ 9223372036854775807 := hs
  rw [name_spec s hss, named_spec s hss]
  simp only [Option.bind_some, bne_self_eq_false, cond_false, gopt, Bool.not_true, Bool.or_self, Bool.not_false, cond_true, beq_self_eq_true]
  by_cases c : ruleErr r = 0
  · obtain ⟨⟨hw, hh⟩, hl⟩ := ruleErr_zero c
    have h1 : r.width * r.height ≤ 8 * 8 := Int.mul_le_mul hw.2 hh.2 (by omega) (by omega)
    have h2 : 0 ≤ r.width * r.height := Int.mul_nonneg (by omega) (by omega)
    have e2 : (r.2.1 != 0) = true := bne_t (by show ¬ r.width = 0; omega)
    have e1 : w64 (((r.2.2.2.2.1.length : Nat) : Int) - 1) = r.width * r.height - 1 := by
      rw [show ((r.2.2.2.2.1.length : Nat) : Int) = r.width * r.height from hl, w64_id (by omega) (by omega)]
    rw [c, if_neg (fun h => h rfl), e1]
    by_cases cp : 0 ≤ player ∧ player ≤ 1
    · rw [if_neg (fun h => h cp), in_eq, within_iff.2 cp]
      simp only [Bool.not_true, Bool.and_false, cond_false, Option.bind_some, beq_self_eq_true, Bool.true_and]
      by_cases cs : 0 ≤ square ∧ square ≤ r.width * r.height - 1
      · rw [if_neg (fun h => h cs), within_iff.2 cs]
        simp only [Bool.not_true, cond_false, Option.bind_some, bne_self_eq_false, e2, req_true, beq_self_eq_true, Bool.true_and]
        rcases (show player = 0 ∨ player = 1 by omega) with h | h
        · subst h
          simp
        · subst h
          simp
      · have : rulesWithin square 0 (r.width * r.height - 1) = false := by
          rw [Bool.eq_false_iff]
          intro h
          exact cs (within_iff.1 h)
        rw [if_pos cs, this]
        rfl
    · have : rulesWithin player 0 1 = false := by
        rw [Bool.eq_false_iff]
        intro h
        exact cp (within_iff.1 h)
      rw [if_pos cp, in_eq, this]
      rfl
  · rw [if_pos c]
    simp only [beq_f c, Bool.false_and, cond_false, Option.bind_some, bne_t c, cond_true, beq_self_eq_true, Bool.not_false, Bool.and_self]
end Go.Proofs.Ytejmikpmkfnlgaa
