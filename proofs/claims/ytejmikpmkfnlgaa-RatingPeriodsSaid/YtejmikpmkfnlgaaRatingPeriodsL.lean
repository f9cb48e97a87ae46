/- The law RatingPeriods, in plain Lean. No condition of its own. -/
import Derived.Test.YtejmikpmkfnlgaaRatingPeriodsA
namespace Go.Proofs.Ytejmikpmkfnlgaa
open Go.Den
set_option linter.unusedVariables false
set_option linter.unusedSimpArgs false
set_option maxRecDepth 100000

abbrev Game := Int × Int × Int × Unit
/-- what is wrong with a game -/
def err (n : Nat) (g : Game) (factor : Int) : Int := if badPair n g then 3 else if g.2.2.1 < 0 ∨ 2 < g.2.2.1 then 1 else if factor < 1 ∨ 64 < factor then 4 else 0
theorem err_zero {n : Nat} {g : Game} {factor : Int} (h : err n g factor = 0) : ((0 ≤ g.1 ∧ g.1 < (n : Int)) ∧ (0 ≤ g.2.1 ∧ g.2.1 < (n : Int)) ∧ g.1 ≠ g.2.1) ∧ (0 ≤ g.2.2.1 ∧ g.2.2.1 ≤ 2) ∧ (1 ≤ factor ∧ factor ≤ 64) := by
  unfold err at h
  by_cases a : badPair n g
  · rw [if_pos a] at h; cases h
  · rw [if_neg a] at h
    by_cases b : g.2.2.1 < 0 ∨ 2 < g.2.2.1
    · rw [if_pos b] at h; cases h
    · rw [if_neg b] at h
      by_cases c : factor < 1 ∨ 64 < factor
      · rw [if_pos c] at h; cases h
      · unfold badPair at a
        exact ⟨Decidable.not_not.1 a, by omega, by omega⟩
/-- what a game changes -/
def dif (l : List Int) (g : Game) (factor : Int) : Int := change (getD' l g.1.toNat 0) (getD' l g.2.1.toNat 0) g.2.2.1 factor
theorem change_i (l : List Int) (h0 : faultOf l = 0) (g : Game) (factor : Int) : ∃ n, ratingChange_i l g factor = some (n, err l.length g factor, ()) ∧ (err l.length g factor = 0 → n = dif l g factor) := by
  obtain ⟨hl, hin⟩ := fault_zero h0
  unfold ratingChange_i err
  by_cases hb : badPair l.length g
  · have : (((((decide (g.1 < (0 : Int))) || (decide (g.1 ≥ ((l.length : Nat) : Int)))) || (decide (g.2.1 < (0 : Int)))) || (decide (g.2.1 ≥ ((l.length : Nat) : Int)))) || (g.1 == g.2.1)) = true := by
      simp only [Bool.or_eq_true, decide_eq_true_eq, beq_iff_eq]
      unfold badPair at hb
      omega
    rw [this, if_pos hb]
    exact ⟨0, rfl, fun h => by cases h⟩
  · have : (((((decide (g.1 < (0 : Int))) || (decide (g.1 ≥ ((l.length : Nat) : Int)))) || (decide (g.2.1 < (0 : Int)))) || (decide (g.2.1 ≥ ((l.length : Nat) : Int)))) || (g.1 == g.2.1)) = false := by
      unfold badPair at hb
      have hb := Decidable.not_not.1 hb
      simp only [Bool.or_eq_false_iff, decide_eq_false_iff_not, beq_eq_false_iff_ne]
      omega
    rw [this, if_neg hb]
    unfold badPair at hb
    obtain ⟨g1, g2, g3⟩ := Decidable.not_not.1 hb
    have hi : g.1.toNat < l.length := by omega
    have hj : g.2.1.toNat < l.length := by omega
    have o1 := hin _ (List.getElem_mem hi)
    have o2 := hin _ (List.getElem_mem hj)
    simp only [cond_false, at?_eq l g.1 g1.1 g1.2, at?_eq l g.2.1 g2.1 g2.2, Option.bind_some]
    by_cases hp : g.2.2.1 < 0 ∨ 2 < g.2.2.1
    · have e1 : (decide (g.2.2.1 < 0) || decide (g.2.2.1 > 2)) = true := by simpa using hp
      rw [if_pos hp]
      unfold ratingChange
      exact ⟨0, by simp [o1, o2, e1], fun h => by cases h⟩
    · rw [if_neg hp]
      have e1 : (decide (g.2.2.1 < 0) || decide (g.2.2.1 > 2)) = false := by simp only [Bool.or_eq_false_iff, decide_eq_false_iff_not]; omega
      by_cases hf : factor < 1 ∨ 64 < factor
      · have e2 : (decide (factor < 1) || decide (factor > 64)) = true := by simpa using hf
        rw [if_pos hf]
        unfold ratingChange
        exact ⟨0, by simp [o1, o2, e1, e2], fun h => by cases h⟩
      · rw [if_neg hf]
        obtain ⟨c1, c2⟩ := change_spec (first := l[g.1.toNat]) (second := l[g.2.1.toNat]) (points := g.2.2.1) (factor := factor) o1 o2 (by omega) (by omega)
        refine ⟨_, by rw [c1]; rfl, fun _ => ?_⟩
        unfold dif
        rw [getD_eq hi, getD_eq hj]
/-- the ratings after a game -/
def upd (x : List Int) (g : Game) (d : Int) : List Int := (x.set g.1.toNat (w64 (getD' x g.1.toNat 0 + d))).set g.2.1.toNat (w64 (getD' (x.set g.1.toNat (w64 (getD' x g.1.toNat 0 + d))) g.2.1.toNat 0 - d))
theorem upd_len (x : List Int) (g : Game) (d : Int) : (upd x g d).length = x.length := by simp [upd]
/-- all games -/
def per (L : List Int) (factor : Int) : List Int → List Game → List Int ⊕ Int
  | x, [] => .inl x
  | x, g :: gs => if err L.length g factor = 0 then per L factor (upd x g (dif L g factor)) gs else .inr (err L.length g factor)
def ends {β : Type} (r : List Int ⊕ Int) (f : Int → β) : ((Unit) × ((List Int) × Unit)) ⊕ β := match r with
  | .inl x => .inl ((), (x, ()))
  | .inr e => .inr (f e)
theorem per_loop (G : List Game) (hg : G.length ≤ 1000) (L : List Int) (h0 : faultOf L = 0) (factor : Int) : ∀ (k i : Nat) (x : List Int), x.length = L.length → i + k = G.length →
    iterW (ratingPeriod_L1 G L factor) (((i : Int), ()), (x, ())) = some (ends (per L factor x (G.drop i)) fun e => ([], e, ())) := by
  intro k
  induction k with
  | zero =>
    intro i x hx hi
    rw [List.drop_eq_nil_of_le (by omega)]
    refine iterW_inr ?_
    unfold ratingPeriod_L1
    have hn : ¬ (i : Int) < (G.length : Int) := by omega
    simp [hn, per, ends]
  | succ k ih =>
    intro i x hx hi
    have hlt : i < G.length := by omega
    have h1 : (i : Int) < (G.length : Int) := by omega
    rw [List.drop_eq_getElem_cons hlt]
    obtain ⟨n, hn, hd⟩ := change_i L h0 G[i] factor
    have hs : ratingPeriod_L1 G L factor (((i : Int), ()), (x, ())) = if err L.length G[i] factor = 0 then some (.inl ((((i + 1 : Nat) : Int), ()), (upd x G[i] (dif L G[i] factor), ()))) else some (.inr (.inr ([], err L.length G[i] factor, ()))) := by
      unfold ratingPeriod_L1
      simp only [h1, decide_true, cond_true, at?_eq G (i : Int) (by omega) h1, Option.bind_some, Int.toNat_natCast, hn, w64_id (n := (i : Int) + 1) (by omega) (by omega)]
      by_cases e : err L.length G[i] factor = 0
      · obtain ⟨⟨g1, g2, g3⟩, _, _⟩ := err_zero e
        have i1 : inb G[i].1 x.length = true := inb_iff.2 (by rw [hx]; exact g1)
        have i2 : ∀ y, inb G[i].2.1 (x.set G[i].1.toNat y).length = true := fun y => inb_iff.2 (by rw [List.length_set, hx]; exact g2)
        simp only [e, if_true, bne_self_eq_false, cond_false, i1, i2, req_true, hd e]
        rfl
      · simp [e, bne_t e]
    by_cases e : err L.length G[i] factor = 0
    · rw [if_pos e] at hs
      rw [iterW_inl hs, ih (i + 1) _ (by rw [upd_len, hx]) (by omega)]
      simp only [per, if_pos e]
    · rw [if_neg e] at hs
      rw [iterW_inr hs]
      simp only [per, if_neg e, ends]
def cutI (m : Int) (n : Nat) : Nat := ((if m < ((n : Nat) : Int) then m else ((n : Nat) : Int))).toNat
theorem law_loop (games : List Game) (l : List Int) (r8 : (List Int) × Int × Unit) (factor : Int) (G : List Game) (L : List Int) (hG : (games.take (cutI 30 games.length)).drop 0 = G) (hL : (l.take (cutI 12 l.length)).drop 0 = L) (hg : G.length ≤ 1000) (h0 : faultOf L = 0) : ∀ (k i : Nat) (x : List Int), x.length = L.length → i + k = G.length →
    iterW (law3RatingPeriods_L1 games l r8 factor) (((i : Int), ()), (x, ())) = some (ends (per L factor x (G.drop i)) fun e => (r8.2.1 == e) && (((r8.1.length : Nat) : Int) == 0)) := by
  obtain ⟨hl, hin⟩ := fault_zero h0
  intro k
  induction k with
  | zero =>
    intro i x hx hi
    rw [List.drop_eq_nil_of_le (by omega)]
    refine iterW_inr ?_
    unfold law3RatingPeriods_L1
    rw [show ((if (30 : Int) < ((games.length : Nat) : Int) then (30 : Int) else ((games.length : Nat) : Int))).toNat = cutI 30 games.length from rfl, hG]
    have hn : ¬ (i : Int) < (G.length : Int) := by omega
    simp [hn, per, ends]
  | succ k ih =>
    intro i x hx hi
    have hlt : i < G.length := by omega
    have h1 : (i : Int) < (G.length : Int) := by omega
    rw [List.drop_eq_getElem_cons hlt]
    have hs : law3RatingPeriods_L1 games l r8 factor (((i : Int), ()), (x, ())) = if err L.length G[i] factor = 0 then some (.inl ((((i + 1 : Nat) : Int), ()), (upd x G[i] (dif L G[i] factor), ()))) else some (.inr (.inr ((r8.2.1 == err L.length G[i] factor) && (((r8.1.length : Nat) : Int) == 0)))) := by
      unfold law3RatingPeriods_L1
      rw [show ((if (30 : Int) < ((games.length : Nat) : Int) then (30 : Int) else ((games.length : Nat) : Int))).toNat = cutI 30 games.length from rfl, hG, show ((if (12 : Int) < ((l.length : Nat) : Int) then (12 : Int) else ((l.length : Nat) : Int))).toNat = cutI 12 l.length from rfl, hL]
      simp only [h1, decide_true, cond_true, at?_eq G (i : Int) (by omega) h1, Option.bind_some, Int.toNat_natCast, w64_id (n := (i : Int) + 1) (by omega) (by omega)]
      generalize G[i] = g
      have e1 : (((decide ((if g.2.1 < g.1 then g.2.1 else g.1) < (0 : Int))) || (decide ((if g.2.1 > g.1 then g.2.1 else g.1) ≥ ((L.length : Nat) : Int)))) || (g.1 == g.2.1)) = decide (badPair L.length g) := by
        rw [Bool.eq_iff_iff]
        simp only [Bool.or_eq_true, decide_eq_true_eq, beq_iff_eq]
        unfold badPair
        omega
      have e2 : (decide (g.2.2.1 < (0 : Int)) || decide (g.2.2.1 > (2 : Int))) = decide (g.2.2.1 < 0 ∨ 2 < g.2.2.1) := by
        rw [Bool.eq_iff_iff]
        simp
      have e3 : (decide (factor < (1 : Int)) || decide (factor > (64 : Int))) = decide (factor < 1 ∨ 64 < factor) := by
        rw [Bool.eq_iff_iff]
        simp
      rw [e1, e2, e3]
      by_cases a : badPair L.length g
      · simp [a, err]
      · by_cases b : g.2.2.1 < 0 ∨ 2 < g.2.2.1
        · simp [a, b, err]
        · by_cases c : factor < 1 ∨ 64 < factor
          · simp [a, b, c, err]
          · have e : err L.length g factor = 0 := by simp only [err, if_neg a, if_neg b, if_neg c]
            obtain ⟨⟨g1, g2, g3⟩, hp, hf⟩ := err_zero e
            have hi : g.1.toNat < L.length := by omega
            have hj : g.2.1.toNat < L.length := by omega
            have o1 := hin _ (List.getElem_mem hi)
            have o2 := hin _ (List.getElem_mem hj)
            have i1 : inb g.1 x.length = true := inb_iff.2 (by rw [hx]; exact g1)
            have i2 : ∀ y, inb g.2.1 (x.set g.1.toNat y).length = true := fun y => inb_iff.2 (by rw [List.length_set, hx]; exact g2)
            obtain ⟨c1, c2⟩ := change_spec (first := L[g.1.toNat]) (second := L[g.2.1.toNat]) (points := g.2.2.1) (factor := factor) o1 o2 hp hf
            unfold ratingOut at o1 o2
            simp only [Bool.or_eq_false_iff, decide_eq_false_iff_not] at o1 o2
            have b1 := cnt_bound 42 (L[g.1.toNat] - L[g.2.1.toNat])
            have b2 := cnt_bound 42 (-(L[g.1.toNat] - L[g.2.1.toNat]))
            have hch := c2
            unfold change at hch
            have hwd : w64 (factor * w64 (w64 (50 * g.2.2.1) - (50 + cnt 42 (L[g.1.toNat] - L[g.2.1.toNat]) - cnt 42 (-(L[g.1.toNat] - L[g.2.1.toNat]))))) = dif L g factor := by
              rw [w64_id (n := 50 * g.2.2.1) (by omega) (by omega), w64_id (n := 50 * g.2.2.1 - _) (by omega) (by omega), w64_id (by omega) (by omega)]
              unfold dif
              rw [getD_eq hi, getD_eq hj]
              rfl
            simp only [a, b, c, decide_false, cond_false, at?_eq L g.1 g1.1 g1.2, at?_eq L g.2.1 g2.1 g2.2, Option.bind_some, w64_id (n := L[g.1.toNat] - L[g.2.1.toNat]) (by omega) (by omega), hund_spec _ (show -1099511627776 < L[g.1.toNat] - L[g.2.1.toNat] ∧ L[g.1.toNat] - L[g.2.1.toNat] < 1099511627776 by omega), hwd, i1, i2, req_true, e, if_true]
            rfl
    by_cases e : err L.length G[i] factor = 0
    · rw [if_pos e] at hs
      rw [iterW_inl hs, ih (i + 1) _ (by rw [upd_len, hx]) (by omega)]
      simp only [per, if_pos e]
    · rw [if_neg e] at hs
      rw [iterW_inr hs]
      simp only [per, if_neg e, ends]
/-! ### performances -/
def ex (d : Int) : Int := 50 + cnt 42 d - cnt 42 (-d)
theorem ex_bound (d : Int) : 8 ≤ ex d ∧ ex d ≤ 92 := by
  have b1 := cnt_bound 42 d
  have b2 := cnt_bound 42 (-d)
  unfold ex
  omega
def sumE (l : List Int) (n : Int) : Int := match l with
  | [] => 0
  | o :: r => ex (n - o) + sumE r n
theorem sumE_bound (n : Int) : ∀ l : List Int, 0 ≤ sumE l n ∧ sumE l n ≤ 92 * l.length
  | [] => by simp [sumE]
  | o :: r => by
    have h1 := sumE_bound n r
    have h2 := ex_bound (n - o)
    simp only [sumE, List.length_cons]
    omega
theorem perf_inner (L : List Int) (h0 : faultOf L = 0) (r : Int) (hr : -2000000 ≤ r ∧ r ≤ 2000000) : iterW (ratingPerformance_L2 L ((r, ()), ())) ((0, 0, ()), ()) = some ((sumE L r, ()), ()) := by
  obtain ⟨hl, hin⟩ := fault_zero h0
  have key : ∀ (k i : Nat) (s : Int), 0 ≤ s ∧ s ≤ 92 * i → i + k = L.length → iterW (ratingPerformance_L2 L ((r, ()), ())) ((s, (i : Int), ()), ()) = some ((s + sumE (L.drop i) r, ()), ()) := by
    intro k
    induction k with
    | zero =>
      intro i s hs hi
      rw [List.drop_eq_nil_of_le (by omega)]
      refine iterW_inr ?_
      unfold ratingPerformance_L2
      have hn : ¬ (i : Int) < (L.length : Int) := by omega
      simp [hn, sumE]
    | succ k ih =>
      intro i s hs hi
      have hlt : i < L.length := by omega
      have h1 : (i : Int) < (L.length : Int) := by omega
      have o1 := hin _ (List.getElem_mem hlt)
      unfold ratingOut at o1
      simp only [Bool.or_eq_false_iff, decide_eq_false_iff_not] at o1
      have hb := ex_bound (r - L[i])
      rw [List.drop_eq_getElem_cons hlt, iterW_inl (y := ((s + ex (r - L[i]), ((i + 1 : Nat) : Int), ()), ())), ih (i + 1) _ (by omega) (by omega)]
      · simp only [sumE, Int.add_assoc]
      · unfold ratingPerformance_L2
        simp only [h1, decide_true, cond_true, at?_eq L (i : Int) (by omega) h1, Option.bind_some, Int.toNat_natCast, w64_id (n := r - L[i]) (by omega) (by omega), expect_spec]
        rw [show 50 + cnt 42 (r - L[i]) - cnt 42 (-(r - L[i])) = ex (r - L[i]) from rfl, w64_id (n := (i : Int) + 1) (by omega) (by omega), w64_id (n := s + ex (r - L[i])) (by omega) (by omega)]
        rfl
  have := key L.length 0 0 (by omega) (by omega)
  simpa using this
theorem gets_spec (L : List Int) (h0 : faultOf L = 0) (r : Int) (hr : -2000000 ≤ r ∧ r ≤ 2000000) : law3Gets L r = some (sumE L r) := by
  obtain ⟨hl, hin⟩ := fault_zero h0
  have key : ∀ (k i : Nat) (s : Int), 0 ≤ s ∧ s ≤ 92 * i → i + k = L.length → iterW (law3Gets_L1 L r) ((s, (i : Int), ()), ()) = some ((s + sumE (L.drop i) r, ()), ()) := by
    intro k
    induction k with
    | zero =>
      intro i s hs hi
      rw [List.drop_eq_nil_of_le (by omega)]
      refine iterW_inr ?_
      unfold law3Gets_L1
      have hn : ¬ (i : Int) < (L.length : Int) := by omega
      simp [hn, sumE]
    | succ k ih =>
      intro i s hs hi
      have hlt : i < L.length := by omega
      have h1 : (i : Int) < (L.length : Int) := by omega
      have o1 := hin _ (List.getElem_mem hlt)
      unfold ratingOut at o1
      simp only [Bool.or_eq_false_iff, decide_eq_false_iff_not] at o1
      have hb := ex_bound (r - L[i])
      rw [List.drop_eq_getElem_cons hlt, iterW_inl (y := ((s + ex (r - L[i]), ((i + 1 : Nat) : Int), ()), ())), ih (i + 1) _ (by omega) (by omega)]
      · simp only [sumE, Int.add_assoc]
      · unfold law3Gets_L1
        simp only [h1, decide_true, cond_true, at?_eq L (i : Int) (by omega) h1, Option.bind_some, Int.toNat_natCast, w64_id (n := r - L[i]) (by omega) (by omega), hund_spec _ (show -1099511627776 < r - L[i] ∧ r - L[i] < 1099511627776 by omega)]
        rw [show 50 + cnt 42 (r - L[i]) - cnt 42 (-(r - L[i])) = ex (r - L[i]) from rfl, w64_id (n := (i : Int) + 1) (by omega) (by omega), w64_id (n := s + ex (r - L[i])) (by omega) (by omega)]
        rfl
  have := key L.length 0 0 (by omega) (by omega)
  unfold law3Gets
  simp only [Int.natCast_zero, List.drop_zero, Int.zero_add] at this
  rw [this]
  rfl
def good (L : List Int) (points n : Int) : Prop := -1000000 ≤ n ∧ n ≤ 1000000 ∧ n.tmod 100 = 0 ∧ sumE L n ≤ 50 * points ∧ (n < 1000000 → 50 * points < sumE L (n + 100))
theorem perf_spec (L : List Int) (h0 : faultOf L = 0) (points : Int) (hp : 0 ≤ points ∧ points ≤ 2 * L.length) : (∃ n, ratingPerformance L points = some (n, 0, ()) ∧ good L points n) ∨ (ratingPerformance L points = some (0, 8, ()) ∧ 50 * points < sumE L (-1000000)) := by
  obtain ⟨hl, hin⟩ := fault_zero h0
  have hloop := iterW_meas (f := ratingPerformance_L1 L points) (fun x => -1000100 ≤ x.1.1 ∧ x.1.1 ≤ 1000000 ∧ x.1.1 % 100 = 0 ∧ (x.1.1 < 1000000 → 50 * points < sumE L (x.1.1 + 100))) (fun x => (x.1.1 + 1000100).toNat)
    (fun r => match r with
      | .inl _ => 50 * points < sumE L (-1000000)
      | .inr q => q.2 = (0, ()) ∧ good L points q.1) (by
    rintro ⟨⟨r, _⟩, _⟩ ⟨h1, h2, h3, h4⟩
    simp only at h1 h2 h3 h4
    unfold ratingPerformance_L1
    by_cases c : -1000000 ≤ r
    · have hin' := perf_inner L h0 r (by omega)
      have c' : r ≥ -1000000 := c
      simp only [c', decide_true, cond_true, hin', Option.bind_some, w64_id (n := 50 * points) (by omega) (by omega)]
      by_cases e : sumE L r ≤ 50 * points
      · right
        refine ⟨.inr (r, 0, ()), by simp [e], rfl, by omega, by omega, ?_, e, h4⟩
        have : (100 : Int) ∣ r := by omega
        exact Int.tmod_eq_zero_of_dvd this
      · left
        refine ⟨((r - 100, ()), ()), by simp [e, w64_id (n := r - 100) (by omega) (by omega)], ⟨by simp only; omega, by simp only; omega, by simp only; omega, fun _ => ?_⟩, by simp only; omega⟩
        simp only [Int.sub_add_cancel]
        omega
    · right
      have c' : ¬ r ≥ -1000000 := c
      have hr : r = -1000100 := by omega
      subst hr
      exact ⟨.inl ((), ()), by simp, h4 (by omega)⟩) ((1000000, ()), ()) ⟨by simp only; omega, by simp only; omega, by simp, fun h => absurd h (by simp)⟩
  obtain ⟨q, hq, hQ⟩ := hloop
  unfold ratingPerformance
  have e1 : (decide (points < 0) || decide (points > w64 (2 * ((L.length : Nat) : Int)))) = false := by
    rw [w64_id (by omega) (by omega)]
    simp only [Bool.or_eq_false_iff, decide_eq_false_iff_not]
    omega
  simp only [check_spec, h0, Option.bind_some, bne_self_eq_false, cond_false, e1, hq]
  match q, hQ with
  | .inl _, hQ => exact .inr ⟨rfl, hQ⟩
  | .inr (n, e, _), ⟨h, hg⟩ =>
    simp only [Prod.mk.injEq, and_true] at h
    subst h
    exact .inl ⟨n, rfl, hg⟩
theorem rates : law3Rates = some true := by
  unfold law3Rates
  rw [expect_spec, expect_spec]
  decide +kernel
theorem cut_len {α : Type} (m : Nat) (l : List α) : ((l.take (cutI m l.length)).drop 0).length ≤ m ∧ ((l.take (cutI m l.length)).drop 0).length ≤ l.length := by
  simp only [List.drop_zero, List.length_take]
  unfold cutI
  split <;> omega
theorem bounds_cut (m : Nat) (n : Nat) : boundsI 0 (if (m : Int) < ((n : Nat) : Int) then (m : Int) else ((n : Nat) : Int)) n = true := by
  unfold boundsI
  simp only [Bool.and_eq_true, decide_eq_true_eq]
  split <;> omega
theorem period_spec (L : List Int) (G : List Game) (hG : G.length ≤ 30) (factor : Int) : ratingPeriod L G factor = some (if faultOf L = 0 then (match per L factor L G with
    | .inl x => if faultOf x = 0 then (x, 0, ()) else ([], faultOf x, ())
    | .inr e => ([], e, ())) else ([], faultOf L, ())) := by
  unfold ratingPeriod ratingCheckAll
  have hg : ¬ ((G.length : Nat) : Int) > 256 := by omega
  simp only [check_spec, Option.bind_some]
  by_cases c : faultOf L = 0
  · obtain ⟨hl, _⟩ := fault_zero c
    have := per_loop G (by omega) L c factor G.length 0 L rfl (by omega)
    simp only [Int.natCast_zero, List.drop_zero] at this
    simp only [c, bne_self_eq_false, cond_false, hg, decide_false, Option.bind_some, clone_eq L (by omega), this, if_true]
    match per L factor L G with
    | .inr e => rfl
    | .inl x =>
      simp only [ends, Option.bind_some, Sum.elim_inl, check_spec]
      by_cases d : faultOf x = 0
      · simp [d]
      · simp [d, bne_t d]
  · simp [c, bne_t c]
theorem per_len (L : List Int) (factor : Int) : ∀ (G : List Game) (x y : List Int), per L factor x G = .inl y → y.length = x.length
  | [], x, y, h => by simp only [per, Sum.inl.injEq] at h; rw [h]
  | g :: G, x, y, h => by
    unfold per at h
    by_cases e : err L.length g factor = 0
    · rw [if_pos e] at h
      rw [per_len L factor G _ y h, upd_len]
    · rw [if_neg e] at h; cases h
theorem law3RatingPeriods_true (l : List Int) (games : List Game) (factor points : Int) (h1 : Rng (.sl (.int .i64)) l) (h2 : Rng (.sl (.st (.int .i64) (.st (.int .i64) (.st (.int .i64) .nil)))) games) (h3 : Rng (.int .i64) factor) (h4 : Rng (.int .i64) points) : law3RatingPeriods l games factor points = some true := by
  unfold law3RatingPeriods
  rw [rates]
  have hb1 := bounds_cut 12 l.length
  have hb2 := bounds_cut 30 games.length
  simp only [Int.cast_ofNat_Int] at hb1 hb2
  simp only [Option.bind_some, Bool.not_true, cond_false, hb1, hb2, req_true]
  rw [show ((if (30 : Int) < ((games.length : Nat) : Int) then (30 : Int) else ((games.length : Nat) : Int))).toNat = cutI 30 games.length from rfl, show ((if (12 : Int) < ((l.length : Nat) : Int) then (12 : Int) else ((l.length : Nat) : Int))).toNat = cutI 12 l.length from rfl]
  have hL := cut_len 12 l
  have hG := cut_len 30 games
  simp only [Int.cast_ofNat_Int] at hL hG
  generalize hLL : (l.take (cutI 12 l.length)).drop 0 = L at hL ⊢
  generalize hGG : (games.take (cutI 30 games.length)).drop 0 = G at hG ⊢
  have hlen2 : w64 (2 * ((L.length : Nat) : Int)) = 2 * ((L.length : Nat) : Int) := w64_id (by omega) (by omega)
  rw [period_spec L G hG.1 factor]
  by_cases c : faultOf L = 0
  · obtain ⟨hl, hin⟩ := fault_zero c
    simp only [c, if_true, Option.bind_some, check_spec, bne_self_eq_false, cond_false]
    generalize hr8 : (match per L factor L G with
      | .inl x => if faultOf x = 0 then (x, 0, ()) else ([], faultOf x, ())
      | .inr e => ([], e, ()) : List Int × Int × Unit) = r8
    -- the performance
    have hperf : ∃ r9, ratingPerformance L points = some r9 ∧ (bif ((decide (points < (0 : Int))) || (decide (points > (w64 ((2 : Int) * ((L.length : Nat) : Int)))))) then (bif ((r9.2.1 != (1 : Int)) || (r9.1 != (0 : Int))) then some (Sum.inr false)
        else some (Sum.inl ((), ())))
        else Option.bind (α := ((Unit) × (Unit)) ⊕ (((Unit) × (Unit)) ⊕ Bool)) (bif (r9.2.1 == (0 : Int)) then (Option.bind (gopt (!((r9.1.tmod (100 : Int)) != (0 : Int))) (0 : Int) (law3Gets L r9.1)) fun r11 =>
        Option.bind (gopt ((decide (r9.1 < (1000000 : Int))) && (!(((r9.1.tmod (100 : Int)) != (0 : Int)) || (decide (r11 > (w64 ((50 : Int) * points))))))) (0 : Int) (law3Gets L (w64 (r9.1 + (100 : Int))))) fun r12 =>
        bif ((((r9.1.tmod (100 : Int)) != (0 : Int)) || (decide (r11 > (w64 ((50 : Int) * points))))) || ((decide (r9.1 < (1000000 : Int))) && (decide (r12 ≤ (w64 ((50 : Int) * points)))))) then some (Sum.inr (Sum.inr false))
        else some (Sum.inl ((), ())))
        else Option.bind (gopt (!(r9.2.1 != (8 : Int))) (0 : Int) (law3Gets L (-1000000 : Int))) fun r13 =>
        bif ((r9.2.1 != (8 : Int)) || (decide (r13 ≤ (w64 ((50 : Int) * points))))) then some (Sum.inr (Sum.inr false))
        else some (Sum.inl ((), ()))) (Sum.elim (fun x14 =>
        some (Sum.inl ((), ()))) some)) = some (Sum.inl ((), ())) := by
      by_cases p : points < 0 ∨ 2 * ((L.length : Nat) : Int) < points
      · have e1 : (decide (points < 0) || decide (points > 2 * ((L.length : Nat) : Int))) = true := by simpa using p
        refine ⟨(0, 1, ()), ?_, ?_⟩
        · unfold ratingPerformance
          simp [check_spec, c, hlen2, e1]
        · simp [hlen2, e1]
      · have e1 : (decide (points < 0) || decide (points > 2 * ((L.length : Nat) : Int))) = false := by simp only [Bool.or_eq_false_iff, decide_eq_false_iff_not]; omega
        have hw : w64 (50 * points) = 50 * points := w64_id (by omega) (by omega)
        rcases perf_spec L c points (by omega) with ⟨n, hn, g1, g2, g3, g4, g5⟩ | ⟨hn, g⟩
        · refine ⟨_, hn, ?_⟩
          have s1 := sumE_bound n L
          simp only [hlen2, e1, cond_false, beq_self_eq_true, cond_true, g3, bne_self_eq_false, Bool.not_false, gopt, gets_spec L c n (by omega), Option.bind_some, hw, w64_id (n := n + 100) (by omega) (by omega), gets_spec L c (n + 100) (by omega), Bool.false_or]
          have e2 : decide (sumE L n > 50 * points) = false := by simp only [decide_eq_false_iff_not]; omega
          by_cases q : n < 1000000
          · have g5 := g5 q
            have e3 : decide (sumE L (n + 100) ≤ 50 * points) = false := by simp only [decide_eq_false_iff_not]; omega
            simp [q, e2, e3]
          · simp [q, e2]
        · refine ⟨_, hn, ?_⟩
          have e3 : decide (sumE L (-1000000) ≤ 50 * points) = false := by simp only [decide_eq_false_iff_not]; omega
          simp [hlen2, e1, gopt, gets_spec L c (-1000000) (by omega), hw, e3]
    obtain ⟨r9, hr9, hph⟩ := hperf
    rw [hr9]
    simp only [Option.bind_some]
    rw [hph]
    have hroom : room (([] : List Int).length + L.length) 8 = true := room_ok (by simp; omega)
    simp only [Option.bind_some, Sum.elim_inl, hroom, req_true, List.nil_append]
    have := law_loop games l r8 factor G L hGG hLL (by omega) c G.length 0 L rfl (by omega)
    simp only [Int.natCast_zero, List.drop_zero] at this
    rw [this]
    cases hp : per L factor L G with
    | inr e =>
      rw [hp] at hr8
      subst hr8
      simp [ends]
    | inl x =>
      rw [hp] at hr8
      simp only at hr8
      have hx := per_len L factor G L x hp
      simp only [ends, Option.bind_some, Sum.elim_inl]
      by_cases d : faultOf x = 0
      · rw [if_pos d] at hr8
        subst hr8
        simp [d, gopt, same_eq x (by omega)]
      · rw [if_neg d] at hr8
        subst hr8
        simp [bne_t d]
  · have hp : ratingPerformance L points = some (0, faultOf L, ()) := by
      unfold ratingPerformance
      simp [check_spec, bne_t c]
    simp only [hp, c, if_false, Option.bind_some, check_spec, bne_t c, cond_true]
    simp
    rfl
end Go.Proofs.Ytejmikpmkfnlgaa
