/- The law PatternCuts in plain Lean: checks, and rows that are turned round. No condition of its own. -/
import Derived.Test.YtcdpkebphgeipaaPlacePPatternCuts
namespace Go.Proofs.Ytcdpkebphgeipaa
open Go.Den
set_option linter.unusedVariables false
set_option linter.unusedSimpArgs false
set_option maxRecDepth 100000

abbrev Patt := Int × Int × (List Int) × Int × Unit
theorem pieces_le {r : Rules} (h : ruleErr r = 0) : r.pieces.length ≤ 1000 := by
  by_cases c : r.pieces.length ≤ 6
  · omega
  · exfalso
    unfold ruleErr at h
    have c1 : ¬ r.pieces.length = 0 := by omega
    have c2 : 6 < r.pieces.length := by omega
    simp [c1, c2] at h
    repeat' (split at h)
    all_goals first | cases h | omega
/-! ### the check of a pattern -/
def badC (r : Rules) (x : Patt) (i : Nat) : Bool := match x.2.2.1[i]? with
  | some d => (decide (d < (-3 : Int))) || (decide (d > (w64 ((2 : Int) * ((r.2.2.2.1.length : Nat) : Int)))))
  | none => false
def pattLast (x : Patt) : Option Int := bif ((decide (x.2.2.2.1 < (-1 : Int))) || (decide (x.2.2.2.1 > (1 : Int)))) then some (4 : Int) else some (0 : Int)
def pscan (r : Rules) (x : Patt) : ((Unit × Unit) ⊕ Int) := scan (fun i => if badC r x i = true then some (.inr 4) else none) (.inl ((), ())) 0 x.2.2.1.length
theorem patt_loop (r : Rules) (x : Patt) (hn : x.2.2.1.length ≤ 9223372036854775807) : iterW (patternCheck_L1 x r) (((0 : Int), ()), ()) = some (pscan r x) := by
  refine iterW_scan x.2.2.1.length _ _ _ (fun i hi => ?_) ?_
  · unfold patternCheck_L1 badC
    simp only [show decide ((i : Int) < ((x.2.2.1.length : Nat) : Int)) = true by simp; omega, cond_true]
    rw [at?_eq _ _ (by omega) (by omega)]
    simp only [Option.bind_some, Int.toNat_natCast, List.getElem?_eq_getElem hi]
    rw [w64_id (n := (i : Int) + 1) (by omega) (by omega), show decide ((i : Int) ≥ 0) = true by simp]
    generalize (decide (x.2.2.1[i] < (-3 : Int)) || decide (x.2.2.1[i] > (w64 ((2 : Int) * ((r.2.2.2.1.length : Nat) : Int))))) = q
    cases q <;> rfl
  · unfold patternCheck_L1
    simp
theorem fault_loop (r : Rules) (x : Patt) (hn : x.2.2.1.length ≤ 9223372036854775807) : iterW (law3PatternFault_L1 x r) (((0 : Int), ()), ()) = some (pscan r x) := by
  refine iterW_scan x.2.2.1.length _ _ _ (fun i hi => ?_) ?_
  · unfold law3PatternFault_L1 badC
    simp only [show decide ((i : Int) < ((x.2.2.1.length : Nat) : Int)) = true by simp; omega, cond_true]
    rw [at?_eq _ _ (by omega) (by omega)]
    simp only [Option.bind_some, Int.toNat_natCast, List.getElem?_eq_getElem hi]
    rw [w64_id (n := (i : Int) + 1) (by omega) (by omega)]
    generalize (decide (x.2.2.1[i] < (-3 : Int)) || decide (x.2.2.1[i] > (w64 ((2 : Int) * ((r.2.2.2.1.length : Nat) : Int))))) = q
    cases q <;> rfl
  · unfold law3PatternFault_L1
    simp
/-- a pattern that is right has the size that it says -/
structure Right (r : Rules) (x : Patt) : Prop where
  ok : ruleErr r = 0
  w1 : 1 ≤ x.1
  w2 : x.1 ≤ r.width
  h1 : 1 ≤ x.2.1
  h2 : x.2.1 ≤ r.height
  len : ((x.2.2.1.length : Nat) : Int) = x.1 * x.2.1
theorem patt_some (r : Rules) (x : Patt) (hr : Rng tyRules r) (hn : x.2.2.1.length ≤ 9223372036854775807) : ∃ c, patternCheck r x = some c ∧ law3PatternFault r x = some c ∧ (c = 0 → Right r x) := by
  unfold patternCheck law3PatternFault
  rw [check_spec r hr, Option.bind_some, Option.bind_some]
  by_cases c : ruleErr r = 0
  · obtain ⟨⟨hw, hh⟩, hl⟩ := ruleErr_zero c
    rw [bne_f c, cond_false, cond_false]
    cases hb : ((((decide (x.1 < (1 : Int))) || (decide (x.1 > r.2.1))) || (decide (x.2.1 < (1 : Int)))) || (decide (x.2.1 > r.2.2.1))) with
    | true => exact ⟨4, rfl, rfl, fun h => by cases h⟩
    | false =>
      simp only [Bool.or_eq_false_iff, decide_eq_false_iff_not] at hb
      obtain ⟨⟨⟨b1, b2⟩, b3⟩, b4⟩ := hb
      have b2 : x.1 ≤ r.width := Int.not_lt.1 b2
      have b4 : x.2.1 ≤ r.height := Int.not_lt.1 b4
      have m1 : x.1 * x.2.1 ≤ 8 * 8 := Int.mul_le_mul (by omega) (by omega) (by omega) (by omega)
      have m2 : 0 ≤ x.1 * x.2.1 := Int.mul_nonneg (by omega) (by omega)
      rw [w64_id (n := x.1 * x.2.1) (by omega) (by omega), cond_false, cond_false]
      cases hl' : (((x.2.2.1.length : Nat) : Int) != x.1 * x.2.1) with
      | true => exact ⟨3, rfl, rfl, fun h => by cases h⟩
      | false =>
        have hl' := bne_eq_false_iff_eq.1 hl'
        rw [cond_false, cond_false, patt_loop r x hn, fault_loop r x hn, Option.bind_some]
        generalize pscan r x = v
        have hR : Right r x := ⟨c, by omega, b2, by omega, b4, hl'⟩
        cases v with
        | inr e => exact ⟨e, rfl, rfl, fun _ => hR⟩
        | inl u =>
          simp only [Sum.elim_inl]
          cases ((decide (x.2.2.2.1 < (-1 : Int))) || (decide (x.2.2.2.1 > (1 : Int)))) with
          | true => exact ⟨4, rfl, rfl, fun h => by cases h⟩
          | false => exact ⟨0, rfl, rfl, fun _ => hR⟩
  · rw [bne_t c, cond_true, cond_true]
    exact ⟨_, rfl, rfl, fun h => absurd h c⟩
end Go.Proofs.Ytcdpkebphgeipaa
