/- The law RatingMoves, in plain Lean: checks and games. No condition of its own. -/
import Derived.Test.YtejmikpmkfnlgaaRatingMovesA
namespace Go.Proofs.Ytejmikpmkfnlgaa
open Go.Den
set_option linter.unusedVariables false
set_option linter.unusedSimpArgs false
set_option maxRecDepth 100000

def faultOf (l : List Int) : Int := if l.length < 1 ∨ 64 < l.length then 2 else bif l.any ratingOut then 4 else 0
theorem check_spec (l : List Int) : ratingCheck l = some (faultOf l) := by
  unfold ratingCheck faultOf
  by_cases h : l.length < 1 ∨ 64 < l.length
  · have : (decide (((l.length : Nat) : Int) < 1) || decide (((l.length : Nat) : Int) > 64)) = true := by simp only [Bool.or_eq_true, decide_eq_true_eq]; omega
    rw [this, if_pos h]
    rfl
  · have : (decide (((l.length : Nat) : Int) < 1) || decide (((l.length : Nat) : Int) > 64)) = false := by simp only [Bool.or_eq_false_iff, decide_eq_false_iff_not]; omega
    rw [this, if_neg h]
    have hL := iterW_any l ratingOut (ratingCheck_L1 l) (.inr 4) (.inl ((), ())) (fun i hi => by
      unfold ratingCheck_L1
      have h1 : (i : Int) < (l.length : Int) := by omega
      have h2 : (i : Int) ≥ 0 := by omega
      simp only [h1, decide_true, cond_true, at?_eq l (i : Int) (by omega) h1, Option.bind_some, Int.toNat_natCast, h2, w64_id (n := (i : Int) + 1) (by omega) (by omega)]
      cases ratingOut l[i] <;> rfl) (by unfold ratingCheck_L1; simp)
    rw [hL]
    cases l.any ratingOut <;> rfl
theorem clone_eq (s : List Int) (h : s.length ≤ 1000000) : slicesClone_int s = some s := by
  unfold slicesClone_int
  have hr : room (([] : List Int).length + s.length) 8 = true := room_ok (by simp; omega)
  simp only [hr, req_true, List.nil_append]
  cases s with
  | nil => simp [agree]
  | cons x s => simp
theorem same_eq (a : List Int) (h : a.length ≤ 1000000) : law3SameInts a a = some true := by
  unfold law3SameInts
  have hL := iterW_any a (fun _ => false) (law3SameInts_L1 a a) (.inr false) (.inl ((), ())) (fun i hi => by
    unfold law3SameInts_L1
    have h1 : (i : Int) < (a.length : Int) := by omega
    simp only [h1, decide_true, cond_true, at?_eq a (i : Int) (by omega) h1, Option.bind_some, bne_self_eq_false, cond_false, w64_id (n := (i : Int) + 1) (by omega) (by omega)]
    rfl) (by unfold law3SameInts_L1; simp)
  have e0 : (a.any fun _ => false) = false := by rw [List.any_eq_false]; simp
  rw [e0] at hL
  rw [hL]
  simp
/-- what two ratings and a result change, before the bounds -/
def change (first second points factor : Int) : Int := factor * (50 * points - (50 + cnt 42 (first - second) - cnt 42 (-(first - second))))
theorem change_spec {first second points factor : Int} (h1 : ratingOut first = false) (h2 : ratingOut second = false) (hp : 0 ≤ points ∧ points ≤ 2) (hf : 1 ≤ factor ∧ factor ≤ 64) :
    ratingChange first second points factor = some (change first second points factor, 0, ()) ∧ -6400 ≤ change first second points factor ∧ change first second points factor ≤ 6400 := by
  have h1' := h1
  have h2' := h2
  unfold ratingOut at h1' h2'
  simp only [Bool.or_eq_false_iff, decide_eq_false_iff_not] at h1' h2'
  have b1 := cnt_bound 42 (first - second)
  have b2 := cnt_bound 42 (-(first - second))
  have hrange : -100 ≤ 50 * points - (50 + cnt 42 (first - second) - cnt 42 (-(first - second))) ∧ 50 * points - (50 + cnt 42 (first - second) - cnt 42 (-(first - second))) ≤ 100 := by omega
  have hch : -6400 ≤ change first second points factor ∧ change first second points factor ≤ 6400 := by
    unfold change
    generalize 50 * points - (50 + cnt 42 (first - second) - cnt 42 (-(first - second))) = z at hrange ⊢
    constructor
    · have : factor * (-100) ≤ factor * z := Int.mul_le_mul_of_nonneg_left (by omega) (by omega)
      omega
    · have : factor * z ≤ factor * 100 := Int.mul_le_mul_of_nonneg_left (by omega) (by omega)
      omega
  refine ⟨?_, hch⟩
  unfold ratingChange
  have e1 : (decide (points < 0) || decide (points > 2)) = false := by simp only [Bool.or_eq_false_iff, decide_eq_false_iff_not]; omega
  have e2 : (decide (factor < 1) || decide (factor > 64)) = false := by simp only [Bool.or_eq_false_iff, decide_eq_false_iff_not]; omega
  have hch' := hch
  unfold change at hch'
  simp only [h1, h2, Bool.or_self, cond_false, e1, e2, w64_id (n := first - second) (by omega) (by omega), expect_spec, Option.bind_some, w64_id (n := 50 * points) (by omega) (by omega), w64_id (n := 50 * points - (50 + cnt 42 (first - second) - cnt 42 (-(first - second)))) (by omega) (by omega)]
  rw [w64_id (by omega) (by omega)]
  rfl
/-- a change within the bounds, as the code computes it -/
def clampC (a b d : Int) : Int :=
  (if (w64 (b + (1000000 : Int))) < (if (w64 ((1000000 : Int) - a)) < (if (w64 (b - (1000000 : Int))) > (if (w64 ((-1000000 : Int) - a)) > d then (w64 ((-1000000 : Int) - a)) else d) then (w64 (b - (1000000 : Int))) else (if (w64 ((-1000000 : Int) - a)) > d then (w64 ((-1000000 : Int) - a)) else d)) then (w64 ((1000000 : Int) - a)) else (if (w64 (b - (1000000 : Int))) > (if (w64 ((-1000000 : Int) - a)) > d then (w64 ((-1000000 : Int) - a)) else d) then (w64 (b - (1000000 : Int))) else (if (w64 ((-1000000 : Int) - a)) > d then (w64 ((-1000000 : Int) - a)) else d))) then (w64 (b + (1000000 : Int))) else (if (w64 ((1000000 : Int) - a)) < (if (w64 (b - (1000000 : Int))) > (if (w64 ((-1000000 : Int) - a)) > d then (w64 ((-1000000 : Int) - a)) else d) then (w64 (b - (1000000 : Int))) else (if (w64 ((-1000000 : Int) - a)) > d then (w64 ((-1000000 : Int) - a)) else d)) then (w64 ((1000000 : Int) - a)) else (if (w64 (b - (1000000 : Int))) > (if (w64 ((-1000000 : Int) - a)) > d then (w64 ((-1000000 : Int) - a)) else d) then (w64 (b - (1000000 : Int))) else (if (w64 ((-1000000 : Int) - a)) > d then (w64 ((-1000000 : Int) - a)) else d))))
/-- the same, with fewer words -/
def clamp (a b d : Int) : Int := if 0 < d then min d (min (1000000 - a) (b + 1000000)) else max d (max (-1000000 - a) (b - 1000000))
theorem clamp_eq {a b d : Int} (ha : -1000000 ≤ a ∧ a ≤ 1000000) (hb : -1000000 ≤ b ∧ b ≤ 1000000) (hd : -6400 ≤ d ∧ d ≤ 6400) : clampC a b d = clamp a b d := by
  unfold clampC clamp
  simp only [w64_id (n := b + 1000000) (by omega) (by omega), w64_id (n := 1000000 - a) (by omega) (by omega), w64_id (n := b - 1000000) (by omega) (by omega), w64_id (n := -1000000 - a) (by omega) (by omega)]
  omega
theorem clamp_bound {a b d : Int} (ha : -1000000 ≤ a ∧ a ≤ 1000000) (hb : -1000000 ≤ b ∧ b ≤ 1000000) (hd : -6400 ≤ d ∧ d ≤ 6400) : (-6400 ≤ clamp a b d ∧ clamp a b d ≤ 6400) ∧ (-1000000 ≤ a + clamp a b d ∧ a + clamp a b d ≤ 1000000) ∧ (-1000000 ≤ b - clamp a b d ∧ b - clamp a b d ≤ 1000000) := by
  unfold clamp
  omega
/-- the ratings after a game -/
def after (l : List Int) (i j : Nat) (d : Int) : List Int := (l.set i (getD' l i 0 + clamp (getD' l i 0) (getD' l j 0) d)).set j (getD' l j 0 - clamp (getD' l i 0) (getD' l j 0) d)
theorem fault_zero {l : List Int} (h : faultOf l = 0) : (1 ≤ l.length ∧ l.length ≤ 64) ∧ ∀ x ∈ l, ratingOut x = false := by
  unfold faultOf at h
  by_cases c : l.length < 1 ∨ 64 < l.length
  · rw [if_pos c] at h; cases h
  · rw [if_neg c] at h
    refine ⟨by omega, fun x hx => ?_⟩
    cases ha : l.any ratingOut with
    | true => rw [ha] at h; cases h
    | false =>
      rw [List.any_eq_false] at ha
      simpa using ha x hx
def badPair (n : Nat) (g : Int × Int × Int × Unit) : Prop := ¬ ((0 ≤ g.1 ∧ g.1 < (n : Int)) ∧ (0 ≤ g.2.1 ∧ g.2.1 < (n : Int)) ∧ g.1 ≠ g.2.1)
instance (n g) : Decidable (badPair n g) := by unfold badPair; infer_instance
theorem getD_eq {l : List Int} {i : Nat} (h : i < l.length) : getD' l i 0 = l[i] := by simp [getD', List.getD, List.getElem?_eq_getElem h]
theorem game_spec (l : List Int) (h0 : faultOf l = 0) (g : Int × Int × Int × Unit) (factor : Int) : ratingGame l g factor = some (
    if badPair l.length g then ([], 3, ()) else if g.2.2.1 < 0 ∨ 2 < g.2.2.1 then ([], 1, ()) else if factor < 1 ∨ 64 < factor then ([], 4, ()) else
    (after l g.1.toNat g.2.1.toNat (change (getD' l g.1.toNat 0) (getD' l g.2.1.toNat 0) g.2.2.1 factor), 0, ())) := by
  obtain ⟨hl, hin⟩ := fault_zero h0
  unfold ratingGame
  rw [check_spec, h0]
  simp only [Option.bind_some, bne_self_eq_false, cond_false]
  unfold ratingChange_i
  by_cases hb : badPair l.length g
  · have : (((((decide (g.1 < (0 : Int))) || (decide (g.1 ≥ ((l.length : Nat) : Int)))) || (decide (g.2.1 < (0 : Int)))) || (decide (g.2.1 ≥ ((l.length : Nat) : Int)))) || (g.1 == g.2.1)) = true := by
      simp only [Bool.or_eq_true, decide_eq_true_eq, beq_iff_eq]
      unfold badPair at hb
      omega
    rw [this, if_pos hb]
    simp
  · have : (((((decide (g.1 < (0 : Int))) || (decide (g.1 ≥ ((l.length : Nat) : Int)))) || (decide (g.2.1 < (0 : Int)))) || (decide (g.2.1 ≥ ((l.length : Nat) : Int)))) || (g.1 == g.2.1)) = false := by
      unfold badPair at hb
      have hb := Decidable.not_not.1 hb
      simp only [Bool.or_eq_false_iff, decide_eq_false_iff_not, beq_eq_false_iff_ne]
      omega
    rw [this, if_neg hb]
    unfold badPair at hb
    obtain ⟨g1, g2, g3⟩ := Decidable.not_not.1 hb
    have hi : g.1.toNat < l.length := by omega
    have hj : g.2.1.toNat < l.length := by omega
    have o1 := hin _ (List.getElem_mem hi)
    have o2 := hin _ (List.getElem_mem hj)
    simp only [cond_false, at?_eq l g.1 g1.1 g1.2, at?_eq l g.2.1 g2.1 g2.2, Option.bind_some]
    by_cases hp : g.2.2.1 < 0 ∨ 2 < g.2.2.1
    · have e1 : (decide (g.2.2.1 < 0) || decide (g.2.2.1 > 2)) = true := by simpa using hp
      rw [if_pos hp]
      unfold ratingChange
      simp [o1, o2, e1]
    · rw [if_neg hp]
      have e1 : (decide (g.2.2.1 < 0) || decide (g.2.2.1 > 2)) = false := by simp only [Bool.or_eq_false_iff, decide_eq_false_iff_not]; omega
      by_cases hf : factor < 1 ∨ 64 < factor
      · have e2 : (decide (factor < 1) || decide (factor > 64)) = true := by simpa using hf
        rw [if_pos hf]
        unfold ratingChange
        simp [o1, o2, e1, e2]
      · rw [if_neg hf]
        obtain ⟨c1, c2⟩ := change_spec (first := l[g.1.toNat]) (second := l[g.2.1.toNat]) (points := g.2.2.1) (factor := factor) o1 o2 (by omega) (by omega)
        have hi' : inb g.1 l.length = true := inb_iff.2 g1
        have hj' : ∀ x, inb g.2.1 (l.set g.1.toNat x).length = true := fun x => inb_iff.2 (by simpa using g2)
        have o1' := o1
        have o2' := o2
        unfold ratingOut at o1' o2'
        simp only [Bool.or_eq_false_iff, decide_eq_false_iff_not] at o1' o2'
        rw [c1]
        simp only [Option.bind_some, bne_self_eq_false, cond_false, clone_eq l (by omega), hi', req_true, hj', getD_eq hi, getD_eq hj]
        have hset : ∀ x, getD' (l.set g.1.toNat x) g.2.1.toNat 0 = l[g.2.1.toNat] := fun x => by
          rw [getD_eq (by simpa using hj), List.getElem_set_ne (by omega)]
        simp only [hset]
        have hcl := clamp_eq (a := l[g.1.toNat]) (b := l[g.2.1.toNat]) (d := change l[g.1.toNat] l[g.2.1.toNat] g.2.2.1 factor) (by omega) (by omega) c2
        have hcb := clamp_bound (a := l[g.1.toNat]) (b := l[g.2.1.toNat]) (d := change l[g.1.toNat] l[g.2.1.toNat] g.2.2.1 factor) (by omega) (by omega) c2
        unfold clampC at hcl
        rw [hcl, w64_id (by omega) (by omega), w64_id (by omega) (by omega)]
        unfold after
        rw [getD_eq hi, getD_eq hj]
end Go.Proofs.Ytejmikpmkfnlgaa
