/- The law WindowClamps in plain Lean: it is true. Conditions: numbers in range. -/
import Derived.Test.YtpajmeljfpolcaaWindowClampsS
import Derived.Test.YtpajmeljfpolcaaSearchR
namespace Go.Proofs.Ytpajmeljfpolcaa
open Go.Den
set_option linter.unusedVariables false
set_option linter.unusedSimpArgs false
set_option maxRecDepth 100000

def badW (low high : Int) : Bool := ((decide (low < (-1000 : Int))) || (decide (high > (1000 : Int)))) || (decide (low ≥ high))
def clampP (s low high : Int) : Int := if (if s < high then s else high) > low then (if s < high then s else high) else low
theorem clamp_eq (s low high : Int) : (if (if high < s then high else s) > low then (if high < s then high else s) else low) = clampP s low high := by
  have e : (if high < s then high else s) = (if s < high then s else high) := by
    by_cases h : s < high
    · rw [if_pos h, if_neg (by omega)]
    · rw [if_neg h]
      by_cases h2 : high < s
      · rw [if_pos h2]
      · rw [if_neg h2]; omega
  rw [e]
  rfl
theorem wscore_spec (r : Rules) (p : Place) (depth low high : Int) (hr : Rng tyRules r) (hn : p.1.length ≤ 9223372036854775807) : windowScore r p depth low high = some (if treeErr r p depth = 0 then bif badW low high then (0, (0, (4, ()))) else (clampP (scoreOf r depth.toNat p) low high, ((treeN r depth.toNat p : Int), (0, ()))) else (0, (0, (treeErr r p depth, ())))) := by
  unfold windowScore
  rw [tree_spec r p depth hr hn]
  by_cases c : treeErr r p depth = 0
  · obtain ⟨hv, hd0, hd1, _⟩ := tree_ok c
    obtain ⟨d, rfl⟩ := Int.eq_ofNat_of_zero_le hd0
    simp only [if_pos c, Option.bind_some]
    rw [show ((0 : Int) != 0) = false from rfl, cond_false, of_spec hv (by omega)]
    show (bif badW low high then _ else _) = _
    cases badW low high <;> rfl
  · simp only [if_neg c, Option.bind_some]
    rw [bne_t c, cond_true]
def badR (least : Int) : Bool := (decide (least < (-999 : Int))) || (decide (least > (1000 : Int)))
theorem reach_spec' (r : Rules) (p : Place) (depth least : Int) (hr : Rng tyRules r) (hn : p.1.length ≤ 9223372036854775807) : windowReaches r p depth least = some (if treeErr r p depth = 0 then bif badR least then (false, (4, ())) else (decide (scoreOf r depth.toNat p ≥ least), (0, ())) else (false, (treeErr r p depth, ()))) := by
  unfold windowReaches
  rw [tree_spec r p depth hr hn]
  by_cases c : treeErr r p depth = 0
  · obtain ⟨hv, hd0, hd1, _⟩ := tree_ok c
    obtain ⟨d, rfl⟩ := Int.eq_ofNat_of_zero_le hd0
    simp only [if_pos c, Option.bind_some]
    rw [show ((0 : Int) != 0) = false from rfl, cond_false, of_spec hv (by omega)]
    show (bif badR least then _ else _) = _
    cases badR least <;> rfl
  · simp only [if_neg c, Option.bind_some]
    rw [bne_t c, cond_true]
theorem in_bad (high : Int) : ref1In high (-999) 1000 = !badR high := by
  unfold ref1In badR
  rw [Bool.eq_iff_iff]
  simp
theorem law1WindowClamps_true (r : Rules) (p : Place) (depth low high : Int) (hr : Rng tyRules r) (hp : Rng tyPlace p) (h1 : Rng (.int .i64) depth) (h2 : Rng (.int .i64) low) (h3 : Rng (.int .i64) high) : law1WindowClamps r p depth low high = some true := by
  have hn : p.1.length ≤ 9223372036854775807 := hp.1.1
  have e1 : windowScore law1Three law1Near 2 0 1 = some (1, (22, (0, ()))) := by
    rw [wscore_spec _ _ _ _ _ three_rng near_n, if_pos near_e2]
    show some (clampP (scoreOf law1Three 2 law1Near) 0 1, (((treeN law1Three 2 law1Near : Nat) : Int), _)) = _
    rw [near_s2, near_t2]
    rfl
  have e2 : windowReaches law1Three law1Near 1 999 = some (true, (0, ())) := by
    rw [reach_spec' _ _ _ _ three_rng near_n, if_pos near_e1]
    show some (decide (scoreOf law1Three 1 law1Near ≥ 999), _) = _
    rw [near_s1]
    rfl
  unfold law1WindowClamps
  rw [eta_r, eta_p2, e1, Option.bind_some, e2, scored_true]
  simp only [Option.bind_some]
  rw [show (((((0 : Int) != 0) || ((1 : Int) != 1)) || (decide ((22 : Int) < 1))) || (decide ((22 : Int) > 26))) = false from rfl, cond_false]
  simp only [bne_self_eq_false, Bool.not_true, Bool.or_self, Bool.not_false, gopt, cond_true, Option.bind_some, cond_false]
  rw [light_spec r p depth hr hn, Option.bind_some]
  cases hli : lightB r p depth with
  | false => rfl
  | true =>
    rw [Bool.not_true, cond_false, wscore_spec r p depth low high hr hn, reach_spec' r p depth high hr hn, treeErr_spec r p depth hr hn]
    simp only [Option.bind_some]
    by_cases c : treeErr r p depth = 0
    · obtain ⟨hv, hd0, hd1, ht⟩ := tree_ok c
      obtain ⟨d, rfl⟩ := Int.eq_ofNat_of_zero_le hd0
      have hd : d ≤ 12 := by omega
      simp only [Int.toNat_natCast] at ht
      have hb : ((decide (low < -1000) || decide (high > 1000)) || decide (low ≥ high)) = badW low high := rfl
      simp only [c, if_true, bne_self_eq_false, cond_false]
      rw [rscore_spec hv hd, Option.bind_some, in_bad, Bool.not_not, Int.toNat_natCast]
      have hA : (bif badR high then (bif (((bif badR high then ((false, (4, ())) : Bool × Int × Unit) else (decide (scoreOf r d p ≥ high), (0, ()))).2.1 != (4 : Int)) || (bif badR high then ((false, (4, ())) : Bool × Int × Unit) else (decide (scoreOf r d p ≥ high), (0, ()))).1) then some (Sum.inr false) else some (Sum.inl ((), ())))
          else bif (((bif badR high then ((false, (4, ())) : Bool × Int × Unit) else (decide (scoreOf r d p ≥ high), (0, ()))).2.1 != (0 : Int)) || (!((bif badR high then ((false, (4, ())) : Bool × Int × Unit) else (decide (scoreOf r d p ≥ high), (0, ()))).1 == decide (scoreOf r d p ≥ high)))) then some (Sum.inr false) else some (Sum.inl ((), ())) : Option ((Unit × Unit) ⊕ Bool)) = some (.inl ((), ())) := by
        cases badR high <;> simp
      rw [hA, Option.bind_some]
      simp only [Sum.elim_inl]
      rw [hb, clamp_eq]
      cases badW low high with
      | true => rfl
      | false =>
        obtain ⟨t1, _⟩ := treeR_spec r d p
        rw [rtree_spec hv hd, t1 (by omega)]
        have hp1 := treeN_pos r d p
        have h1 : decide (((treeN r d p : Nat) : Int) ≥ 1) = true := decide_eq_true (by omega)
        simp only [cond_false, beq_self_eq_true, Bool.true_and, h1, gopt, cond_true, Option.bind_some]
        simp
    · simp only [if_neg c]
      rw [bne_t c, cond_true]
      simp
end Go.Proofs.Ytpajmeljfpolcaa
