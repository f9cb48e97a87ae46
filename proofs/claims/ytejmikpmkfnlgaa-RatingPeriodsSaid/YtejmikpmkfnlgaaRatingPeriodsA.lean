/- The law RatingPeriods, in plain Lean: what is expected, checks. No condition of its own. -/
import Derived.Test.YtejmikpmkfnlgaaDenP
import Derived.Test.YtejmikpmkfnlgaaDenF
import Derived.Test.YtejmikpmkfnlgaaRatingPeriodsS
namespace Go.Proofs.Ytejmikpmkfnlgaa
open Go.Den
set_option linter.unusedVariables false
set_option linter.unusedSimpArgs false
set_option maxRecDepth 100000

def tbl : List Int := [4, 11, 18, 26, 33, 40, 47, 54, 62, 69, 77, 84, 92, 99, 107, 114, 122, 130, 138, 146, 154, 163, 171, 180, 189, 198, 207, 216, 226, 236, 246, 257, 268, 279, 291, 303, 316, 329, 345, 358, 375, 392]
theorem tbl_len : tbl.length = 42 := rfl
/-- how many of the first i numbers a difference reaches -/
def cnt (i : Nat) (d : Int) : Int := ((tbl.take i).countP fun t => decide (100 * t ≤ d) : Nat)
def tb (i : Nat) : Int := tbl.getD i 0
theorem tb_get {i : Nat} (h : i < 42) : tbl[i]? = some (tb i) := by
  unfold tb
  rw [List.getD_eq_getElem?_getD, List.getElem?_eq_getElem (show i < tbl.length from h)]
  rfl
theorem cnt_succ {i : Nat} (h : i < 42) (d : Int) : cnt (i + 1) d = cnt i d + (if 100 * tb i ≤ d then 1 else 0) := by
  unfold cnt
  rw [List.take_add_one, tb_get h, List.countP_append]
  simp only [Option.toList_some, List.countP_cons, List.countP_nil, decide_eq_true_eq]
  split <;> simp
theorem cnt_bound (i : Nat) (d : Int) : 0 ≤ cnt i d ∧ cnt i d ≤ 42 := by
  unfold cnt
  have h1 : (tbl.take i).countP (fun t => decide (100 * t ≤ d)) ≤ (tbl.take i).length := List.countP_le_length
  have h2 : (tbl.take i).length ≤ 42 := by rw [List.length_take, tbl_len]; omega
  omega
theorem tbl_bound {i : Nat} (h : i < 42) : 4 ≤ tb i ∧ tb i ≤ 392 := by
  have : ∀ i : Fin 42, 4 ≤ tb i.1 ∧ tb i.1 ≤ 392 := by decide +kernel
  exact this ⟨i, h⟩
theorem expect_spec (d : Int) : ratingExpect d = some (50 + cnt 42 d - cnt 42 (-d)) := by
  unfold ratingExpect
  have := iterW_states (f := ratingExpect_L1 d) 42 (fun i => ((50 + cnt i d - cnt i (-d), (i : Int), ()), ())) ((50 + cnt 42 d - cnt 42 (-d), ()), ()) (fun i hi => by
    unfold ratingExpect_L1
    have h1 : (i : Int) < 42 := by omega
    have h2 : inb (i : Int) 42 = true := inb_iff.2 ⟨by omega, by omega⟩
    have h3 : getD' tbl ((i : Int)).toNat 0 = tb i := by rw [show ((i : Int)).toNat = i by omega]; rfl
    have h3' := h3
    unfold tbl at h3'
    obtain ⟨b1, b2⟩ := tbl_bound hi
    have c1 := cnt_bound i d
    have c2 := cnt_bound i (-d)
    simp only [h1, decide_true, cond_true, h2, req_true, h3']
    simp only [cnt_succ hi, w64_id (n := 100 * tb i) (by omega) (by omega), w64_id (n := -100 * tb i) (by omega) (by omega), w64_id (n := (i : Int) + 1) (by omega) (by omega), w64_id (n := 50 + cnt i d - cnt i (-d) + 1) (by omega) (by omega), w64_id (n := 50 + cnt i d - cnt i (-d) - 1) (by omega) (by omega)]
    by_cases e1 : 100 * tb i ≤ d
    · have e2 : ¬ 100 * tb i ≤ -d := by omega
      have e3 : d ≥ 100 * tb i := e1
      simp [e1, e2, e3]
      omega
    · have e3 : ¬ d ≥ 100 * tb i := e1
      by_cases e2 : 100 * tb i ≤ -d
      · have e4 : d ≤ -100 * tb i := by omega
        simp [e1, e2, e3, e4]
        omega
      · have e4 : ¬ d ≤ -100 * tb i := by omega
        simp [e1, e2, e3, e4]) (by unfold ratingExpect_L1; simp)
  have h0 : cnt 0 d = 0 ∧ cnt 0 (-d) = 0 := ⟨rfl, rfl⟩
  simp only [h0.1, h0.2, Int.add_zero, Int.sub_zero, Int.natCast_zero] at this
  rw [show ((50 : Int), (0 : Int), ()) = ((50 : Int), ((0 : Nat) : Int), ()) from rfl]
  simp only [Int.natCast_zero]
  rw [this]
  rfl
def tab : List (List Int) := [[4, 11, 18, 26, 33, 40, 47, 54, 62, 69], [77, 84, 92, 99, 107, 114, 122, 130, 138, 146], [154, 163, 171, 180, 189, 198, 207, 216, 226, 236], [246, 257, 268, 279, 291, 303, 316, 329, 345, 358], [375, 392]]
def row5 (r : Nat) : List Int := tab.getD r []
theorem row5_len (r : Nat) (h : r < 5) : (row5 r).length ≤ 10 := by
  have : ∀ r : Fin 5, (row5 r.1).length ≤ 10 := by decide +kernel
  exact this ⟨r, h⟩
def reach (q : Int) (l : List Int) : Int := (l.countP fun t => decide (t ≤ q) : Nat)
theorem reach_bound (q : Int) (l : List Int) : 0 ≤ reach q l ∧ reach q l ≤ l.length := by
  unfold reach
  have h1 : l.countP (fun t => decide (t ≤ q)) ≤ l.length := List.countP_le_length
  omega
theorem hund_inner (d : Int) (hd : 0 ≤ d ∧ d ≤ 9223372036854775807) (r : Nat) (hr : r < 5) (m n : Int) (hn : 0 ≤ n ∧ n ≤ 100) : iterW (ref3Hundredths_L2 ((m, (r : Int), ()), ()) d) ((n, 0, ()), ()) = some ((n + reach (d.tdiv 100) (row5 r), ()), ()) := by
  have hl := row5_len r hr
  have hq : w64 (d.tdiv 100) = d.tdiv 100 := by
    rw [Int.tdiv_eq_ediv_of_nonneg hd.1]
    exact w64_id (by omega) (by omega)
  have hg : getD' tab r [] = row5 r := rfl
  unfold tab at hg
  have := iterW_states (f := ref3Hundredths_L2 ((m, (r : Int), ()), ()) d) (row5 r).length (fun j => ((n + reach (d.tdiv 100) ((row5 r).take j), (j : Int), ()), ())) ((n + reach (d.tdiv 100) (row5 r), ()), ()) (fun j hj => by
    unfold ref3Hundredths_L2
    have h1 : (j : Int) < ((row5 r).length : Int) := by omega
    have hb := reach_bound (d.tdiv 100) ((row5 r).take j)
    have hb2 : ((row5 r).take j).length ≤ 10 := by rw [List.length_take]; omega
    have hs : reach (d.tdiv 100) ((row5 r).take (j + 1)) = reach (d.tdiv 100) ((row5 r).take j) + (if (row5 r)[j] ≤ d.tdiv 100 then 1 else 0) := by
      unfold reach
      rw [List.take_succ_eq_append_getElem hj, List.countP_append]
      simp only [List.countP_cons, List.countP_nil, decide_eq_true_eq]
      split <;> simp
    simp only [hg, h1, decide_true, cond_true, at?_eq (row5 r) (j : Int) (by omega) h1, Option.bind_some, hq, Int.toNat_natCast, hs, w64_id (n := (j : Int) + 1) (by omega) (by omega), w64_id (n := n + reach (d.tdiv 100) ((row5 r).take j) + 1) (by omega) (by omega)]
    by_cases e : (row5 r)[j] ≤ d.tdiv 100
    · have e' : d.tdiv 100 ≥ (row5 r)[j] := e
      simp [e, e']
      omega
    · have e' : ¬ d.tdiv 100 ≥ (row5 r)[j] := e
      simp [e, e']) (by
    unfold ref3Hundredths_L2
    simp [hg])
  have h0 : reach (d.tdiv 100) ((row5 r).take 0) = 0 := rfl
  simp only [h0, Int.add_zero, Int.natCast_zero] at this
  exact this
def reachN (q : Int) (r : Nat) : Int := reach q ((tab.take r).flatten)
theorem reachN_succ (q : Int) {r : Nat} (h : r < 5) : reachN q (r + 1) = reachN q r + reach q (row5 r) := by
  unfold reachN reach
  have : tab[r]? = some (row5 r) := by
    unfold row5
    rw [List.getD_eq_getElem?_getD, List.getElem?_eq_getElem (show r < tab.length from h)]
    rfl
  rw [List.take_add_one, this]
  simp [List.flatten_append, List.countP_append]
theorem reachN_bound (q : Int) {r : Nat} (h : r ≤ 5) : 0 ≤ reachN q r ∧ reachN q r ≤ 42 := by
  have h1 := reach_bound q ((tab.take r).flatten)
  have : ∀ r : Fin 6, ((tab.take r.1).flatten).length ≤ 42 := by decide +kernel
  have := this ⟨r, by omega⟩
  unfold reachN
  simp only at this
  omega
theorem reach_all (d : Int) (hd : 0 ≤ d) : reachN (d.tdiv 100) 5 = cnt 42 d := by
  unfold reachN reach cnt
  rw [show (tab.take 5).flatten = tbl from rfl, show tbl.take 42 = tbl from rfl]
  congr 1
  refine List.countP_congr fun t _ => ?_
  rw [Int.tdiv_eq_ediv_of_nonneg hd]
  simp only [decide_eq_true_eq]
  omega
theorem hund_pos (d : Int) (hd : 0 ≤ d ∧ d ≤ 9223372036854775807) : iterW (ref3Hundredths_L1 d) ((0, 0, ()), ()) = some ((cnt 42 d, ()), ()) := by
  rw [← reach_all d hd.1]
  have := iterW_states (f := ref3Hundredths_L1 d) 5 (fun r => ((reachN (d.tdiv 100) r, (r : Int), ()), ())) ((reachN (d.tdiv 100) 5, ()), ()) (fun r hr => by
    have hb := reachN_bound (d.tdiv 100) (show r ≤ 5 by omega)
    have hi := hund_inner d hd r hr (reachN (d.tdiv 100) r) (reachN (d.tdiv 100) r) (by omega)
    unfold ref3Hundredths_L1
    have h1 : (r : Int) < 5 := by omega
    have h2 : inb (r : Int) 5 = true := inb_iff.2 ⟨by omega, by omega⟩
    simp only [List.length_cons, List.length_nil, Nat.zero_add, Nat.reduceAdd, Int.cast_ofNat_Int, h1, decide_true, cond_true, h2, req_true, hi, Option.bind_some, w64_id (n := (r : Int) + 1) (by omega) (by omega), reachN_succ _ hr]
    rfl) (by unfold ref3Hundredths_L1; simp)
  exact this
theorem cnt_neg (d : Int) (hd : d ≤ 0) : cnt 42 d = 0 := by
  unfold cnt
  rw [show tbl.take 42 = tbl from rfl]
  have : tbl.countP (fun t => decide (100 * t ≤ d)) = 0 := by
    rw [List.countP_eq_zero]
    intro t ht
    have : ∀ t ∈ tbl, 4 ≤ t := by decide +kernel
    have := this t ht
    simp only [decide_eq_true_eq]
    omega
  rw [this]
  rfl
theorem hund_spec (d : Int) (hd : -1099511627776 < d ∧ d < 1099511627776) : ref3Hundredths d = some (50 + cnt 42 d - cnt 42 (-d)) := by
  have pos : ∀ φ (d : Int), 0 ≤ d → d < 1099511627776 → ref3Hundredths_G φ (d, ()) = some (50 + cnt 42 d - cnt 42 (-d)) := by
    intro φ d h1 h2
    unfold ref3Hundredths_G ref3Hundredths_F
    have hn : ¬ d < 0 := by omega
    have hb := cnt_bound 42 d
    simp only [hn, decide_false, cond_false, hund_pos d ⟨h1, by omega⟩, Option.bind_some, w64_id (n := 50 + cnt 42 d) (by omega) (by omega), cnt_neg (-d) (by omega), Int.sub_zero]
  have neg : ∀ φ (d : Int), d < 0 → -1099511627776 < d → ref3Hundredths_G φ (d, ()) = (φ (-d, ())).bind fun r2 => some (w64 (100 - r2)) := by
    intro φ d h1 h2
    unfold ref3Hundredths_G ref3Hundredths_F
    simp only [h1, decide_true, cond_true, Int.zero_sub, w64_id (n := -d) (by omega) (by omega)]
  have fl : ∀ d : Int, w64 (100 - (50 + cnt 42 (-d) - cnt 42 (- -d))) = 50 + cnt 42 d - cnt 42 (-d) := by
    intro d
    have b1 := cnt_bound 42 d
    have b2 := cnt_bound 42 (-d)
    rw [Int.neg_neg, w64_id (by omega) (by omega)]
    omega
  refine fixW_fun (G := ref3Hundredths_G) (fun x => -1099511627776 < x.1 ∧ x.1 < 1099511627776) (fun x => if x.1 < 0 then 1 else 0) (fun x => 50 + cnt 42 x.1 - cnt 42 (-x.1)) ?_ ?_ (d, ()) hd
  · rintro φ ⟨d, _⟩ ⟨h1, h2⟩ hφ
    simp only at h1 h2
    by_cases c : d < 0
    · rw [neg φ d c h1]
      rcases hφ (-d, ()) ⟨by simp only; omega, by simp only; omega⟩ with e | e
      · rw [e]; exact .inl rfl
      · rw [e]; exact .inr (by simp only [Option.bind_some, fl])
    · exact .inr (pos φ d (by omega) h2)
  · rintro φ ⟨d, _⟩ ⟨h1, h2⟩ hφ
    simp only at h1 h2
    by_cases c : d < 0
    · have e := hφ (-d, ()) ⟨by simp only; omega, by simp only; omega⟩ (by simp only [c, if_true]; rw [if_neg (by omega)]; omega)
      rw [neg φ d c h1, e]
      simp only [Option.bind_some, fl]
    · exact pos φ d (by omega) h2
def faultOf (l : List Int) : Int := if l.length < 1 ∨ 64 < l.length then 2 else bif l.any ratingOut then 4 else 0
theorem check_spec (l : List Int) : ratingCheck l = some (faultOf l) := by
  unfold ratingCheck faultOf
  by_cases h : l.length < 1 ∨ 64 < l.length
  · have : (decide (((l.length : Nat) : Int) < 1) || decide (((l.length : Nat) : Int) > 64)) = true := by simp only [Bool.or_eq_true, decide_eq_true_eq]; omega
    rw [this, if_pos h]
    rfl
  · have : (decide (((l.length : Nat) : Int) < 1) || decide (((l.length : Nat) : Int) > 64)) = false := by simp only [Bool.or_eq_false_iff, decide_eq_false_iff_not]; omega
    rw [this, if_neg h]
    have hL := iterW_any l ratingOut (ratingCheck_L1 l) (.inr 4) (.inl ((), ())) (fun i hi => by
      unfold ratingCheck_L1
      have h1 : (i : Int) < (l.length : Int) := by omega
      have h2 : (i : Int) ≥ 0 := by omega
      simp only [h1, decide_true, cond_true, at?_eq l (i : Int) (by omega) h1, Option.bind_some, Int.toNat_natCast, h2, w64_id (n := (i : Int) + 1) (by omega) (by omega)]
      cases ratingOut l[i] <;> rfl) (by unfold ratingCheck_L1; simp)
    rw [hL]
    cases l.any ratingOut <;> rfl
theorem clone_eq (s : List Int) (h : s.length ≤ 1000000) : slicesClone_int s = some s := by
  unfold slicesClone_int
  have hr : room (([] : List Int).length + s.length) 8 = true := room_ok (by simp; omega)
  simp only [hr, req_true, List.nil_append]
  cases s with
  | nil => simp [agree]
  | cons x s => simp
theorem same_eq (a : List Int) (h : a.length ≤ 1000000) : law3SameInts a a = some true := by
  unfold law3SameInts
  have hL := iterW_any a (fun _ => false) (law3SameInts_L1 a a) (.inr false) (.inl ((), ())) (fun i hi => by
    unfold law3SameInts_L1
    have h1 : (i : Int) < (a.length : Int) := by omega
    simp only [h1, decide_true, cond_true, at?_eq a (i : Int) (by omega) h1, Option.bind_some, bne_self_eq_false, cond_false, w64_id (n := (i : Int) + 1) (by omega) (by omega)]
    rfl) (by unfold law3SameInts_L1; simp)
  have e0 : (a.any fun _ => false) = false := by rw [List.any_eq_false]; simp
  rw [e0] at hL
  rw [hL]
  simp
/-- what two ratings and a result change, before the bounds -/
def change (first second points factor : Int) : Int := factor * (50 * points - (50 + cnt 42 (first - second) - cnt 42 (-(first - second))))
theorem change_spec {first second points factor : Int} (h1 : ratingOut first = false) (h2 : ratingOut second = false) (hp : 0 ≤ points ∧ points ≤ 2) (hf : 1 ≤ factor ∧ factor ≤ 64) :
    ratingChange first second points factor = some (change first second points factor, 0, ()) ∧ -6400 ≤ change first second points factor ∧ change first second points factor ≤ 6400 := by
  have h1' := h1
  have h2' := h2
  unfold ratingOut at h1' h2'
  simp only [Bool.or_eq_false_iff, decide_eq_false_iff_not] at h1' h2'
  have b1 := cnt_bound 42 (first - second)
  have b2 := cnt_bound 42 (-(first - second))
  have hrange : -100 ≤ 50 * points - (50 + cnt 42 (first - second) - cnt 42 (-(first - second))) ∧ 50 * points - (50 + cnt 42 (first - second) - cnt 42 (-(first - second))) ≤ 100 := by omega
  have hch : -6400 ≤ change first second points factor ∧ change first second points factor ≤ 6400 := by
    unfold change
    generalize 50 * points - (50 + cnt 42 (first - second) - cnt 42 (-(first - second))) = z at hrange ⊢
    constructor
    · have : factor * (-100) ≤ factor * z := Int.mul_le_mul_of_nonneg_left (by omega) (by omega)
      omega
    · have : factor * z ≤ factor * 100 := Int.mul_le_mul_of_nonneg_left (by omega) (by omega)
      omega
  refine ⟨?_, hch⟩
  unfold ratingChange
  have e1 : (decide (points < 0) || decide (points > 2)) = false := by simp only [Bool.or_eq_false_iff, decide_eq_false_iff_not]; omega
  have e2 : (decide (factor < 1) || decide (factor > 64)) = false := by simp only [Bool.or_eq_false_iff, decide_eq_false_iff_not]; omega
  have hch' := hch
  unfold change at hch'
  simp only [h1, h2, Bool.or_self, cond_false, e1, e2, w64_id (n := first - second) (by omega) (by omega), expect_spec, Option.bind_some, w64_id (n := 50 * points) (by omega) (by omega), w64_id (n := 50 * points - (50 + cnt 42 (first - second) - cnt 42 (-(first - second)))) (by omega) (by omega)]
  rw [w64_id (by omega) (by omega)]
  rfl
theorem fault_zero {l : List Int} (h : faultOf l = 0) : (1 ≤ l.length ∧ l.length ≤ 64) ∧ ∀ x ∈ l, ratingOut x = false := by
  unfold faultOf at h
  by_cases c : l.length < 1 ∨ 64 < l.length
  · rw [if_pos c] at h; cases h
  · rw [if_neg c] at h
    refine ⟨by omega, fun x hx => ?_⟩
    cases ha : l.any ratingOut with
    | true => rw [ha] at h; cases h
    | false =>
      rw [List.any_eq_false] at ha
      simpa using ha x hx
def badPair (n : Nat) (g : Int × Int × Int × Unit) : Prop := ¬ ((0 ≤ g.1 ∧ g.1 < (n : Int)) ∧ (0 ≤ g.2.1 ∧ g.2.1 < (n : Int)) ∧ g.1 ≠ g.2.1)
instance (n g) : Decidable (badPair n g) := by unfold badPair; infer_instance
theorem getD_eq {l : List Int} {i : Nat} (h : i < l.length) : getD' l i 0 = l[i] := by simp [getD', List.getD, List.getElem?_eq_getElem h]
end Go.Proofs.Ytejmikpmkfnlgaa
