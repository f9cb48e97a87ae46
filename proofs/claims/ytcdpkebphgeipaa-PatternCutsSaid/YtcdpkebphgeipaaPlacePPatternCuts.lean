/- Positions in plain Lean: Check always answers. No condition of its own. -/
import Derived.Test.YtcdpkebphgeipaaRulesPPatternCuts
namespace Go.Proofs.Ytcdpkebphgeipaa
open Go.Den
set_option linter.unusedVariables false
set_option linter.unusedSimpArgs false
set_option maxRecDepth 100000

abbrev Place := (List Int) × ((List Int) × (List Int) × Unit) × Int × Int × Unit
theorem agree_self {α : Type} (x : Option α) : agree x x = x := by simp [agree]
theorem clone_ok (s : List Int) (h : s.length ≤ 1000000) : slicesClone_int s = some s := by
  unfold slicesClone_int
  have : room (([] : List Int).length + s.length) 8 = true := room_ok (by simp; omega)
  rw [this]
  cases s with
  | nil => simp [req_true, agree_self]
  | cons a l => simp [req_true]
theorem concat2 (a b : List Int) (ha : a.length ≤ 1000) (hb : b.length ≤ 1000) : slicesConcat_int [a, b] = some (a ++ b) := by
  have w1 : w64 (0 + ((a.length : Nat) : Int)) = (a.length : Int) := by rw [Int.zero_add]; exact w64_id (by omega) (by omega)
  have w2 : w64 ((a.length : Int) + ((b.length : Nat) : Int)) = ((a.length + b.length : Nat) : Int) := by rw [w64_id (by omega) (by omega)]; omega
  have w3 : w64 ((0 : Int) + 1) = 1 := by decide
  have w4 : w64 ((1 : Int) + 1) = 2 := by decide
  have g0 : at? [a, b] 0 = some a := rfl
  have g1 : at? [a, b] 1 = some b := rfl
  have l1 : iterW (slicesConcat_int_L1 [a, b]) (((0 : Int), (0 : Int), ()), ()) = some (((((a.length + b.length : Nat) : Int)), ()), ()) := by
    have s0 : slicesConcat_int_L1 [a, b] (((0 : Int), (0 : Int), ()), ()) = some (.inl ((((a.length : Nat) : Int), (1 : Int), ()), ())) := by
      unfold slicesConcat_int_L1
      simp only [g0, w1, w3, Option.bind_some]
      rw [show decide (((a.length : Nat) : Int) < 0) = false by simp]
      rfl
    have s1 : slicesConcat_int_L1 [a, b] ((((a.length : Nat) : Int), (1 : Int), ()), ()) = some (.inl ((((a.length + b.length : Nat) : Int), (2 : Int), ()), ())) := by
      unfold slicesConcat_int_L1
      simp only [g1, w2, w4, Option.bind_some]
      rw [show decide (((a.length + b.length : Nat) : Int) < 0) = false by simp; omega]
      rfl
    have s2 : slicesConcat_int_L1 [a, b] ((((a.length + b.length : Nat) : Int), (2 : Int), ()), ()) = some (.inr ((((a.length + b.length : Nat) : Int), ()), ())) := rfl
    rw [iterW_inl s0, iterW_inl s1, iterW_inr s2]
  have l2 : iterW (slicesConcat_int_L2 [a, b]) ((([] : List Int), (0 : Int), ()), ()) = some ((a ++ b, ()), ()) := by
    have s0 : slicesConcat_int_L2 [a, b] ((([] : List Int), (0 : Int), ()), ()) = some (.inl ((a, (1 : Int), ()), ())) := by
      unfold slicesConcat_int_L2
      simp only [g0, w3, Option.bind_some]
      rw [room_ok (by simp; omega)]
      rfl
    have s1 : slicesConcat_int_L2 [a, b] ((a, (1 : Int), ()), ()) = some (.inl ((a ++ b, (2 : Int), ()), ())) := by
      unfold slicesConcat_int_L2
      simp only [g1, w4, Option.bind_some]
      rw [room_ok (by omega)]
      rfl
    have s2 : slicesConcat_int_L2 [a, b] ((a ++ b, (2 : Int), ()), ()) = some (.inr ((a ++ b, ()), ())) := rfl
    rw [iterW_inl s0, iterW_inl s1, iterW_inr s2]
  unfold slicesConcat_int
  simp only [l1, Option.bind_some]
  rw [show decide (((a.length + b.length : Nat) : Int) < 0) = false by simp; omega]
  have w5 : w64 (((a.length + b.length : Nat) : Int) - 0) = ((a.length + b.length : Nat) : Int) := by rw [Int.sub_zero]; exact w64_id (by omega) (by omega)
  simp only [w5, cond_false]
  by_cases c : a.length + b.length = 0
  · rw [c]
    simp only [Int.natCast_zero, show decide ((0 : Int) > 0) = false by decide, cond_false, Option.bind_some]
    rw [l2]
    rfl
  · have c1 : decide (((a.length + b.length : Nat) : Int) > 0) = true := by simp; omega
    have c2 : decide (0 < ((a.length + b.length : Nat) : Int)) = true := by simp; omega
    have c3 : room ((((a.length + b.length : Nat) : Int)).toNat) 8 = true := room_ok (by omega)
    have c4 : ∀ l : List Int, boundsI 0 0 l.length = true := fun l => by simp [boundsI]
    simp only [c1, c2, c3, c4, cond_true, Bool.and_self, req_true, Option.bind_some, List.take_zero]
    rw [l2]
    rfl
/-- what Sound answers, of valid rules -/
theorem sound_some (r : Rules) (p : Place) (hc : ruleErr r = 0) (hp : r.pieces.length ≤ 1000) (hn : p.1.length ≤ 9223372036854775807) : ∃ c, placeSound r p = some c ∧ (c = 0 → ((p.1.length : Nat) : Int) = r.width * r.height) := by
  obtain ⟨⟨hw, hh⟩, hl⟩ := ruleErr_zero hc
  have h1 : r.width * r.height ≤ 8 * 8 := Int.mul_le_mul hw.2 hh.2 (by omega) (by omega)
  have h2 : 0 ≤ r.width * r.height := Int.mul_nonneg (by omega) (by omega)
  unfold placeSound
  rw [show r.2.1 * r.2.2.1 = r.width * r.height from rfl, w64_id (n := r.width * r.height) (by omega) (by omega)]
  cases hb : ((((((p.1.length : Nat) : Int) != r.width * r.height) || (((p.2.1.1.length : Nat) : Int) != ((r.2.2.2.1.length : Nat) : Int))) || (((p.2.1.2.1.length : Nat) : Int) != ((r.2.2.2.1.length : Nat) : Int)))) with
  | true => exact ⟨3, rfl, fun h => by cases h⟩
  | false =>
    simp only [Bool.or_eq_false_iff, bne_eq_false_iff_eq] at hb
    obtain ⟨⟨b1, b2⟩, b3⟩ := hb
    rw [cond_false, concat2 _ _ (by have : (r.2.2.2.1.length : Nat) ≤ 1000 := hp; omega) (by have : (r.2.2.2.1.length : Nat) ≤ 1000 := hp; omega), Option.bind_some]
    have hl2 : (p.2.1.1 ++ p.2.1.2.1).length ≤ 2000 := by
      have : (r.2.2.2.1.length : Nat) ≤ 1000 := hp
      simp; omega
    generalize p.2.1.1 ++ p.2.1.2.1 = l at hl2
    have i1 : ∃ b, iterW (placeSound_L1 p r l) (((0 : Int), ()), ()) = some b := by
      refine ⟨_, iterW_scan p.1.length _ (fun i => match p.1[i]? with
        | some d => if ((decide (d < (0 : Int))) || (decide (d > (w64 ((2 : Int) * ((r.2.2.2.1.length : Nat) : Int)))))) = true then some (.inr ((true, ()), ())) else none
        | none => none) (.inl ((), ())) (fun i hi => ?_) ?_⟩
      · unfold placeSound_L1
        simp only [show decide ((i : Int) < ((p.1.length : Nat) : Int)) = true by simp; omega, cond_true]
        rw [at?_eq _ _ (by omega) (by omega)]
        simp only [Option.bind_some, Int.toNat_natCast, List.getElem?_eq_getElem hi]
        rw [w64_id (n := (i : Int) + 1) (by omega) (by omega), show decide ((i : Int) ≥ 0) = true by simp]
        generalize (decide (p.1[i] < (0 : Int)) || decide (p.1[i] > (w64 ((2 : Int) * ((r.2.2.2.1.length : Nat) : Int))))) = q
        cases q <;> rfl
      · unfold placeSound_L1
        simp
    have i2 : ∃ b, iterW (placeSound_L3 l p) (((0 : Int), ()), ()) = some b := by
      refine ⟨_, iterW_scan l.length _ (fun i => if ((decide ((getD' l i (0 : Int)) < (0 : Int))) || (decide ((getD' l i (0 : Int)) > (1000 : Int)))) = true then some (.inr ((((((true || ((p.2.2.1 != (0 : Int)) && (p.2.2.1 != (1 : Int)))) || (decide (p.2.2.2.1 < (0 : Int)))) || (decide (p.2.2.2.1 > (200 : Int)))), ()), ()))) else none) (.inl ((), ())) (fun i hi => ?_) ?_⟩
      · unfold placeSound_L3
        simp only [show decide ((i : Int) < ((l.length : Nat) : Int)) = true by simp; omega, cond_true, Int.toNat_natCast, show inb (i : Int) l.length = true from inb_iff.2 ⟨by omega, by omega⟩, req_true, show decide ((i : Int) ≥ 0) = true by simp]
        rw [w64_id (n := (i : Int) + 1) (by omega) (by omega)]
        generalize (decide (getD' l i (0 : Int) < (0 : Int)) || decide (getD' l i (0 : Int) > (1000 : Int))) = q
        cases q <;> rfl
      · unfold placeSound_L3
        simp
    obtain ⟨v1, i1⟩ := i1
    obtain ⟨v2, i2⟩ := i2
    have e4 : iterW (placeSound_L4 p r l) (((0 : Int), ()), ()) = some v1 := i1
    have e6 : iterW (placeSound_L6 l p) (((0 : Int), ()), ()) = some v2 := i2
    simp only [i1, i2, e4, e6, agree_self, Option.bind_some]
    have fin : ∀ (x : Option ((Bool × Unit) × Unit)), (∃ b, x = some b) → ∃ c, (Option.bind x fun x17 => bif x17.1.1 then some (4 : Int) else some (0 : Int)) = some c ∧ (c = 0 → ((p.1.length : Nat) : Int) = r.width * r.height) := by
      rintro x ⟨⟨⟨b, _⟩, _⟩, rfl⟩
      cases b
      · exact ⟨0, rfl, fun _ => b1⟩
      · exact ⟨4, rfl, fun h => by cases h⟩
    apply fin
    cases v1 with
    | inl u => cases v2 with
      | inl u => exact ⟨_, rfl⟩
      | inr v => exact ⟨_, rfl⟩
    | inr v => exact ⟨_, rfl⟩
theorem place_some (r : Rules) (p : Place) (hr : Rng tyRules r) (hn : p.1.length ≤ 9223372036854775807) (hp : ruleErr r = 0 → r.pieces.length ≤ 1000) : ∃ c, placeCheck r p = some c ∧ (c = 0 → ruleErr r = 0 ∧ ((p.1.length : Nat) : Int) = r.width * r.height) := by
  unfold placeCheck
  rw [check_spec r hr, Option.bind_some]
  by_cases c : ruleErr r = 0
  · obtain ⟨d, h1, h2⟩ := sound_some r p c (hp c) hn
    rw [bne_f c, cond_false, h1]
    exact ⟨d, rfl, fun h => ⟨c, h2 h⟩⟩
  · rw [bne_t c, cond_true]
    exact ⟨_, rfl, fun h => absurd h c⟩
end Go.Proofs.Ytcdpkebphgeipaa
