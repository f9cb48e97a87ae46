/- Patterns in plain Lean: checks, and where they fit. No condition of its own. -/
import Derived.Test.YtaaigenpmaiodaaPatternFindsS
import Derived.Test.YtaaigenpmaiodaaGameT
namespace Go.Proofs.Ytaaigenpmaiodaa
open Go.Den
set_option linter.unusedVariables false
set_option linter.unusedSimpArgs false
set_option maxRecDepth 100000

abbrev Patt := Int × Int × (List Int) × Int × Unit
/-! ### the check of a pattern -/
def badC (r : Rules) (x : Patt) (i : Nat) : Bool := match x.2.2.1[i]? with
  | some d => (decide (d < (-3 : Int))) || (decide (d > (w64 ((2 : Int) * ((r.2.2.2.1.length : Nat) : Int)))))
  | none => false
def pattLast (x : Patt) : Option Int := bif ((decide (x.2.2.2.1 < (-1 : Int))) || (decide (x.2.2.2.1 > (1 : Int)))) then some (4 : Int) else some (0 : Int)
def pscan (r : Rules) (x : Patt) : ((Unit × Unit) ⊕ Int) := scan (fun i => if badC r x i = true then some (.inr 4) else none) (.inl ((), ())) 0 x.2.2.1.length
theorem patt_loop (r : Rules) (x : Patt) (hn : x.2.2.1.length ≤ 9223372036854775807) : iterW (patternCheck_L1 x r) (((0 : Int), ()), ()) = some (pscan r x) := by
  refine iterW_scan x.2.2.1.length _ _ _ (fun i hi => ?_) ?_
  · unfold patternCheck_L1 badC
    simp only [show decide ((i : Int) < ((x.2.2.1.length : Nat) : Int)) = true by simp; omega, cond_true]
    rw [at?_eq _ _ (by omega) (by omega)]
    simp only [Option.bind_some, Int.toNat_natCast, List.getElem?_eq_getElem hi]
    rw [w64_id (n := (i : Int) + 1) (by omega) (by omega), show decide ((i : Int) ≥ 0) = true by simp]
    generalize (decide (x.2.2.1[i] < (-3 : Int)) || decide (x.2.2.1[i] > (w64 ((2 : Int) * ((r.2.2.2.1.length : Nat) : Int))))) = q
    cases q <;> rfl
  · unfold patternCheck_L1
    simp
theorem fault_loop (r : Rules) (x : Patt) (hn : x.2.2.1.length ≤ 9223372036854775807) : iterW (law3PatternFault_L1 x r) (((0 : Int), ()), ()) = some (pscan r x) := by
  refine iterW_scan x.2.2.1.length _ _ _ (fun i hi => ?_) ?_
  · unfold law3PatternFault_L1 badC
    simp only [show decide ((i : Int) < ((x.2.2.1.length : Nat) : Int)) = true by simp; omega, cond_true]
    rw [at?_eq _ _ (by omega) (by omega)]
    simp only [Option.bind_some, Int.toNat_natCast, List.getElem?_eq_getElem hi]
    rw [w64_id (n := (i : Int) + 1) (by omega) (by omega)]
    generalize (decide (x.2.2.1[i] < (-3 : Int)) || decide (x.2.2.1[i] > (w64 ((2 : Int) * ((r.2.2.2.1.length : Nat) : Int))))) = q
    cases q <;> rfl
  · unfold law3PatternFault_L1
    simp
theorem pscan_val (r : Rules) (x : Patt) : pscan r x = .inl ((), ()) ∨ pscan r x = .inr 4 := by
  unfold pscan
  have : ∀ (k i : Nat), scan (fun i => if badC r x i = true then some (.inr (4 : Int)) else none) (.inl ((), ())) i k = (.inl ((), ()) : (Unit × Unit) ⊕ Int) ∨ scan (fun i => if badC r x i = true then some (.inr (4 : Int)) else none) (.inl ((), ())) i k = (.inr 4 : (Unit × Unit) ⊕ Int) := by
    intro k
    induction k with
    | zero => intro i; left; rfl
    | succ k ih =>
      intro i
      unfold scan
      by_cases c : badC r x i = true
      · simp only [if_pos c]; right; trivial
      · simp only [if_neg c]; exact ih (i + 1)
  exact this _ _
/-- a pattern that is right has the size that it says -/
structure Right (r : Rules) (x : Patt) : Prop where
  ok : ruleErr r = 0
  w1 : 1 ≤ x.1
  w2 : x.1 ≤ r.width
  h1 : 1 ≤ x.2.1
  h2 : x.2.1 ≤ r.height
  len : ((x.2.2.1.length : Nat) : Int) = x.1 * x.2.1
  t : -1 ≤ x.2.2.2.1 ∧ x.2.2.2.1 ≤ 1
def pattErr (r : Rules) (x : Patt) : Int := if ruleErr r = 0 then bif ((((decide (x.1 < (1 : Int))) || (decide (x.1 > r.width))) || (decide (x.2.1 < (1 : Int)))) || (decide (x.2.1 > r.height))) then 4 else bif (((x.2.2.1.length : Nat) : Int) != x.1 * x.2.1) then 3 else match pscan r x with
    | .inr e => e
    | .inl _ => bif ((decide (x.2.2.2.1 < (-1 : Int))) || (decide (x.2.2.2.1 > (1 : Int)))) then 4 else 0 else ruleErr r
theorem patt_spec (r : Rules) (x : Patt) (hr : Rng tyRules r) (hn : x.2.2.1.length ≤ 9223372036854775807) : patternCheck r x = some (pattErr r x) ∧ law3PatternFault r x = some (pattErr r x) ∧ (pattErr r x = 0 → Right r x) := by
  unfold patternCheck law3PatternFault pattErr
  rw [check_spec r hr, Option.bind_some, Option.bind_some]
  by_cases c : ruleErr r = 0
  · have hv := rules_valid c
    have w8 := hv.w8
    have h8 := hv.h8
    rw [bne_f c, cond_false, cond_false, if_pos c]
    show (bif ((((decide (x.1 < (1 : Int))) || (decide (x.1 > r.width))) || (decide (x.2.1 < (1 : Int)))) || (decide (x.2.1 > r.height))) then _ else _) = _ ∧ (bif ((((decide (x.1 < (1 : Int))) || (decide (x.1 > r.width))) || (decide (x.2.1 < (1 : Int)))) || (decide (x.2.1 > r.height))) then _ else _) = _ ∧ _
    cases hb : ((((decide (x.1 < (1 : Int))) || (decide (x.1 > r.width))) || (decide (x.2.1 < (1 : Int)))) || (decide (x.2.1 > r.height))) with
    | true => exact ⟨rfl, rfl, fun h => by cases h⟩
    | false =>
      simp only [Bool.or_eq_false_iff, decide_eq_false_iff_not] at hb
      obtain ⟨⟨⟨b1, b2⟩, b3⟩, b4⟩ := hb
      have m1 : x.1 * x.2.1 ≤ 8 * 8 := Int.mul_le_mul (by omega) (by omega) (by omega) (by omega)
      have m2 : 0 ≤ x.1 * x.2.1 := Int.mul_nonneg (by omega) (by omega)
      rw [w64_id (n := x.1 * x.2.1) (by omega) (by omega), cond_false, cond_false, cond_false]
      cases hl' : (((x.2.2.1.length : Nat) : Int) != x.1 * x.2.1) with
      | true => exact ⟨rfl, rfl, fun h => by cases h⟩
      | false =>
        have hl' := bne_eq_false_iff_eq.1 hl'
        rw [cond_false, cond_false, cond_false, patt_loop r x hn, fault_loop r x hn, Option.bind_some]
        rcases pscan_val r x with hp | hp
        · rw [hp]
          simp only [Sum.elim_inl]
          cases ht : ((decide (x.2.2.2.1 < (-1 : Int))) || (decide (x.2.2.2.1 > (1 : Int)))) with
          | true => exact ⟨rfl, rfl, fun h => by cases h⟩
          | false =>
            rw [Bool.or_eq_false_iff, decide_eq_false_iff_not, decide_eq_false_iff_not] at ht
            exact ⟨rfl, rfl, fun _ => ⟨c, by omega, by omega, by omega, by omega, hl', by omega⟩⟩
        · rw [hp]
          exact ⟨rfl, rfl, fun h => by cases h⟩
  · rw [bne_t c, cond_true, cond_true, if_neg c]
    exact ⟨rfl, rfl, fun h => absurd h c⟩
/-! ### where a pattern fits -/
def fitB (want c : Int) : Bool := (((want == c) || (want == -1)) || (((want == -2) && decide (c > 0)) && (c.tmod 2 == 1))) || (((want == -3) && decide (c > 0)) && (c.tmod 2 == 0))
theorem fits_spec' (want c : Int) (h : 0 ≤ c) : patternFits want c = some (fitB want c) := by
  unfold patternFits fitB
  by_cases h1 : want = -1
  · subst h1; simp
  · rw [beq_f h1, cond_false]
    by_cases h2 : want = -2
    · subst h2
      rw [beq_t rfl, cond_true, beq_f (show ¬ (-2 : Int) = c by omega)]
      by_cases hc : c > 0
      · rw [decide_eq_true hc]; simp
      · have : c = 0 := by omega
        subst this
        rfl
    · rw [beq_f h2, cond_false]
      by_cases h3 : want = -3
      · subst h3
        rw [beq_t rfl, cond_true, beq_f (show ¬ (-3 : Int) = c by omega)]
        have himp : ∀ b, imp b true = true := fun b => by cases b <;> rfl
        rw [himp, req_true]
        simp
      · rw [beq_f h3, cond_false]
        simp
def cellP (x : Patt) (i : Nat) : Int := x.2.2.1.getD i 0
/-- a cell of a pattern at a square does not fit -/
def offB (r : Rules) (x : Patt) (p : Place) (s : Int) (w i : Nat) : Bool := !fitB (cellP x i) (cellI p (s + ((i / w : Nat) : Int) * r.width + ((i % w : Nat) : Int)))
def atB (r : Rules) (x : Patt) (p : Place) (s : Int) : Bool := bif ((((x.2.2.2.1 != -1) && (x.2.2.2.1 != p.turn)) || (decide (s.tmod r.width + x.1 > r.width))) || (decide (s.tdiv r.width + x.2.1 > r.height))) then false else !(List.range x.2.2.1.length).any (offB r x p s x.1.toNat)
structure Sq (r : Rules) (p : Place) (s : Int) : Prop where
  s0 : 0 ≤ s
  s1 : s < ((p.1.length : Nat) : Int)
  w : 1 ≤ r.width ∧ r.width ≤ 8
  h : 1 ≤ r.height ∧ r.height ≤ 8
  len : ((p.1.length : Nat) : Int) = r.width * r.height
  c : 0 ≤ s.tmod r.width ∧ s.tmod r.width < r.width
  d : 0 ≤ s.tdiv r.width ∧ s.tdiv r.width < r.height
  e : r.width * s.tdiv r.width + s.tmod r.width = s
theorem sq_of {r : Rules} {p : Place} (h : Valid r p) {s : Int} (h0 : 0 ≤ s) (h1 : s < ((p.1.length : Nat) : Int)) : Sq r p s := by
  have v := h.r0
  have w1 := v.w1
  have w8 := v.w8
  have e1 := v.h1
  have e8 := v.h8
  have hl : ((p.1.length : Nat) : Int) = r.width * r.height := h.cells
  have d : s.tdiv r.width < r.height := by
    rw [Int.tdiv_eq_ediv_of_nonneg h0]
    exact Int.ediv_lt_of_lt_mul (by omega) (by rw [Int.mul_comm]; omega)
  exact ⟨h0, h1, ⟨w1, w8⟩, ⟨e1, e8⟩, hl, ⟨Int.tmod_nonneg r.width h0, Int.tmod_lt_of_pos s (by omega)⟩, ⟨Int.tdiv_nonneg h0 (by omega), d⟩, Int.mul_tdiv_add_tmod s r.width⟩
/-- the size of a pattern, in natural numbers -/
theorem right_nat {r : Rules} {x : Patt} (h : Right r x) : ∃ w g : Nat, x.1 = (w : Int) ∧ x.2.1 = (g : Int) ∧ 1 ≤ w ∧ w ≤ 8 ∧ 1 ≤ g ∧ g ≤ 8 ∧ x.2.2.1.length = w * g := by
  have v := rules_valid h.ok
  have w8 := v.w8
  have h8 := v.h8
  have := h.w1
  have := h.w2
  have := h.h1
  have := h.h2
  obtain ⟨w, hw⟩ := Int.eq_ofNat_of_zero_le (show 0 ≤ x.1 by omega)
  obtain ⟨g, hg⟩ := Int.eq_ofNat_of_zero_le (show 0 ≤ x.2.1 by omega)
  have hl := h.len
  rw [hw, hg] at hl
  exact ⟨w, g, hw, hg, by omega, by omega, by omega, by omega, by exact_mod_cast hl⟩
/-- inside the board -/
theorem in_board {W H X Y : Int} {w g u v : Nat} (hu : u < w) (hv : v < g) (hx : 0 ≤ X) (hy : 0 ≤ Y) (h1 : X + (w : Int) ≤ W) (h2 : Y + (g : Int) ≤ H) : 0 ≤ (Y + (v : Int)) * W + X + (u : Int) ∧ (Y + (v : Int)) * W + X + (u : Int) < W * H := by
  have a : 0 ≤ (Y + (v : Int)) * W := Int.mul_nonneg (by omega) (by omega)
  have b : (Y + (v : Int)) * W ≤ (H - 1) * W := Int.mul_le_mul_of_nonneg_right (by omega) (by omega)
  have c : (H - 1) * W + W = W * H := by rw [Int.sub_mul, Int.mul_comm H W]; omega
  omega
end Go.Proofs.Ytaaigenpmaiodaa
