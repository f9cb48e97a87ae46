/- The law PatternCuts in plain Lean: rows that are turned round, and pieces that are cut. No condition of its own. -/
import Derived.Test.YtcdpkebphgeipaaPatternCutsA
namespace Go.Proofs.Ytcdpkebphgeipaa
open Go.Den
set_option linter.unusedVariables false
set_option linter.unusedSimpArgs false
set_option maxRecDepth 100000

theorem get_mapr {n : Nat} {g : Nat → Int} (k : Nat) : ((List.range n).map g)[k]? = if k < n then some (g k) else none := by
  rw [List.getElem?_map]
  by_cases h : k < n
  · rw [if_pos h, List.getElem?_range h]; rfl
  · rw [if_neg h, List.getElem?_eq_none (by simp; omega)]; rfl
theorem getD_mapr {n : Nat} {g : Nat → Int} {k : Nat} (h : k < n) : getD' ((List.range n).map g) k 0 = g k := by
  unfold getD'
  rw [List.getD_eq_getElem?_getD, get_mapr, if_pos h]
  rfl
/-- a row from lo on, of W cells, of which i at each end have been turned round -/
def rv (lo W i : Nat) (xs : List Int) : List Int := (List.range xs.length).map fun k => if lo ≤ k ∧ k < lo + W ∧ (k - lo < i ∨ W ≤ k - lo + i) then getD' xs (lo + (lo + W - 1 - k)) 0 else getD' xs k 0
theorem rv_len (lo W i : Nat) (xs : List Int) : (rv lo W i xs).length = xs.length := by simp [rv]
theorem rv_zero (lo W : Nat) (xs : List Int) : rv lo W 0 xs = xs := by
  apply List.ext_getElem?
  intro k
  unfold rv
  rw [get_mapr]
  by_cases h : k < xs.length
  · rw [if_pos h, if_neg (by omega), List.getElem?_eq_getElem h]
    simp [getD', h]
  · rw [if_neg h, List.getElem?_eq_none (by omega)]
theorem rv_get {lo W i : Nat} {xs : List Int} {k : Nat} (h : k < xs.length) : getD' (rv lo W i xs) k 0 = if lo ≤ k ∧ k < lo + W ∧ (k - lo < i ∨ W ≤ k - lo + i) then getD' xs (lo + (lo + W - 1 - k)) 0 else getD' xs k 0 := getD_mapr h
theorem rv_step {lo W i : Nat} {xs : List Int} (h : lo + W ≤ xs.length) (hi : 2 * i + 1 < W) :
    ((rv lo W i xs).set (lo + i) (getD' (rv lo W i xs) (lo + (W - 1 - i)) 0)).set (lo + (W - 1 - i)) (getD' (rv lo W i xs) (lo + i) 0) = rv lo W (i + 1) xs := by
  rw [rv_get (by omega), rv_get (by omega), if_neg (by omega), if_neg (by omega)]
  apply List.ext_getElem?
  intro k
  rw [List.getElem?_set, List.getElem?_set]
  by_cases hk : k < xs.length
  · have e : ∀ j, (rv lo W j xs)[k]? = some (if lo ≤ k ∧ k < lo + W ∧ (k - lo < j ∨ W ≤ k - lo + j) then getD' xs (lo + (lo + W - 1 - k)) 0 else getD' xs k 0) := fun j => by
      unfold rv; rw [get_mapr, if_pos hk]
    rw [e, e]
    by_cases c1 : lo + (W - 1 - i) = k
    · subst c1
      rw [if_pos rfl, if_pos (by rw [List.length_set, rv_len]; omega), if_pos (by omega)]
      congr 2
      omega
    · rw [if_neg c1]
      by_cases c2 : lo + i = k
      · subst c2
        rw [if_pos rfl, if_pos (by rw [rv_len]; omega), if_pos (by omega)]
        congr 2
        omega
      · rw [if_neg c2]
        by_cases c3 : lo ≤ k ∧ k < lo + W ∧ (k - lo < i ∨ W ≤ k - lo + i)
        · rw [if_pos c3, if_pos (by omega)]
        · rw [if_neg c3, if_neg (by omega)]
  · have e : ∀ j, (rv lo W j xs)[k]? = none := fun j => List.getElem?_eq_none (by rw [rv_len]; omega)
    rw [e, e, if_neg (by omega), if_neg (by omega)]
/-- the first y rows are turned round -/
def mv (W y : Nat) (xs : List Int) : List Int := (List.range xs.length).map fun k => if k < y * W then getD' xs (k / W * W + (W - 1 - k % W)) 0 else getD' xs k 0
theorem mv_len (W y : Nat) (xs : List Int) : (mv W y xs).length = xs.length := by simp [mv]
theorem mv_zero (W : Nat) (xs : List Int) : mv W 0 xs = xs := by
  apply List.ext_getElem?
  intro k
  unfold mv
  rw [get_mapr]
  by_cases h : k < xs.length
  · rw [if_pos h, if_neg (by omega), List.getElem?_eq_getElem h]
    simp [getD', h]
  · rw [if_neg h, List.getElem?_eq_none (by omega)]
theorem mv_get {W y : Nat} {xs : List Int} {k : Nat} (h : k < xs.length) : getD' (mv W y xs) k 0 = if k < y * W then getD' xs (k / W * W + (W - 1 - k % W)) 0 else getD' xs k 0 := getD_mapr h
theorem mv_step {W y : Nat} {xs : List Int} (h : (y + 1) * W ≤ xs.length) (hW : 0 < W) : rv (y * W) W (W / 2) (mv W y xs) = mv W (y + 1) xs := by
  have h1 : (y + 1) * W = y * W + W := Nat.succ_mul y W
  apply List.ext_getElem?
  intro k
  unfold rv
  rw [mv_len, get_mapr]
  conv => rhs; unfold mv; rw [get_mapr]
  by_cases hk : k < xs.length
  · rw [if_pos hk, if_pos hk]
    congr 1
    by_cases c : y * W ≤ k ∧ k < y * W + W
    · have hd : k / W = y := Nat.div_eq_of_lt_le (by rw [Nat.mul_comm] at c; rw [Nat.mul_comm]; exact c.1) (by rw [h1]; exact c.2)
      have hm : k % W = k - y * W := by
        have := Nat.div_add_mod k W
        rw [hd, Nat.mul_comm] at this
        omega
      rw [if_pos (show k < (y + 1) * W by omega), hd, hm]
      by_cases c2 : k - y * W < W / 2 ∨ W ≤ k - y * W + W / 2
      · rw [if_pos ⟨c.1, c.2, c2⟩, mv_get (by omega), if_neg (by omega)]
        congr 1
        omega
      · rw [if_neg (by omega), mv_get hk, if_neg (by omega)]
        congr 1
        omega
    · rw [if_neg (by omega), mv_get hk]
      by_cases c2 : k < y * W
      · rw [if_pos c2, if_pos (by omega)]
      · rw [if_neg c2, if_neg (by omega)]
  · rw [if_neg hk, if_neg hk]
theorem mv_at {W H : Nat} {xs : List Int} (hl : xs.length = W * H) (hW : 0 < W) {i : Nat} (hi : i < xs.length) : i / W * W + (W - 1 - i % W) < xs.length ∧ getD' (mv W H xs) (i / W * W + (W - 1 - i % W)) 0 = getD' xs i 0 := by
  have hm : i % W < W := Nat.mod_lt _ hW
  have hd : i / W < H := by rw [hl] at hi; exact Nat.div_lt_of_lt_mul hi
  have hle : i / W * W + W ≤ H * W := by rw [← Nat.succ_mul]; exact Nat.mul_le_mul_right _ hd
  have hlt : i / W * W + (W - 1 - i % W) < H * W := by omega
  have hlx : xs.length = H * W := by rw [hl, Nat.mul_comm]
  refine ⟨by omega, ?_⟩
  rw [mv_get (by omega), if_pos hlt]
  have e1 : (i / W * W + (W - 1 - i % W)) / W = i / W := by
    rw [Nat.add_comm, Nat.add_mul_div_right _ _ hW, Nat.div_eq_of_lt (by omega), Nat.zero_add]
  have e2 : (i / W * W + (W - 1 - i % W)) % W = W - 1 - i % W := by
    rw [Nat.add_comm, Nat.add_mul_mod_self_right, Nat.mod_eq_of_lt (by omega)]
  rw [e1, e2]
  congr 1
  have := Nat.div_add_mod i W
  rw [Nat.mul_comm] at this
  omega
theorem mirror_row (x : Patt) (W y : Nat) (hx : x.1 = (W : Int)) (hW : 1 ≤ W ∧ W ≤ 8) (hy : y ≤ 8) (xs : List Int) (hl : (y + 1) * W ≤ xs.length) (hxl : xs.length ≤ 64) : iterW (patternMirror_L2 (((y : Int), ()), (xs, ())) x) (((0 : Int), (((W - 1 : Nat) : Int)), ()), (xs, ())) = some ((), (rv (y * W) W (W / 2) xs, ())) := by
  have h1 : (y + 1) * W = y * W + W := Nat.succ_mul y W
  have hyW : y * W ≤ 64 := Nat.mul_le_mul hy hW.2
  have a1 : w64 ((y : Int) * x.1) = ((y * W : Nat) : Int) := by rw [hx, ← Int.natCast_mul]; exact w64_id (by omega) (by omega)
  have a2 : w64 (w64 ((y : Int) + 1) * x.1) = ((y * W + W : Nat) : Int) := by
    rw [w64_id (n := (y : Int) + 1) (by omega) (by omega), hx, show ((y : Int) + 1) * (W : Int) = (((y + 1) * W : Nat) : Int) by rw [Int.natCast_mul]; rfl, h1]
    exact w64_id (by omega) (by omega)
  have := iterW_states (f := patternMirror_L2 (((y : Int), ()), (xs, ())) x) (W / 2) (fun i => (((i : Int), (((W - 1 : Nat) : Int) - (i : Int)), ()), (rv (y * W) W i xs, ()))) ((), (rv (y * W) W (W / 2) xs, ())) (fun i hi => ?_) ?_
  · simp only [rv_zero] at this
    simpa using this
  · unfold patternMirror_L2
    simp only [a1, a2, Int.toNat_natCast]
    have n1 : y * W + W - y * W = W := by omega
    have j1 : ((W - 1 : Nat) : Int) - (i : Int) = ((W - 1 - i : Nat) : Int) := by omega
    simp only [n1, j1, Int.toNat_natCast]
    rw [show decide ((i : Int) < ((W - 1 - i : Nat) : Int)) = true by simp; omega, cond_true, inb_iff.2 ⟨by omega, by omega⟩, inb_iff.2 ⟨by omega, by omega⟩]
    simp only [req_true]
    rw [rv_step (by omega) (by omega), w64_id (n := (i : Int) + 1) (by omega) (by omega), w64_id (n := ((W - 1 - i : Nat) : Int) - 1) (by omega) (by omega)]
    congr 5
    omega
  · unfold patternMirror_L2
    have j1 : ((W - 1 : Nat) : Int) - ((W / 2 : Nat) : Int) = ((W - 1 - W / 2 : Nat) : Int) := by omega
    simp only [j1]
    rw [show decide (((W / 2 : Nat) : Int) < ((W - 1 - W / 2 : Nat) : Int)) = false by simp; omega, cond_false]
theorem mirror_spec (r : Rules) (x : Patt) (hr : Rng tyRules r) (hR : Right r x) (hc : patternCheck r x = some 0) : ∃ W H : Nat, x.1 = (W : Int) ∧ x.2.1 = (H : Int) ∧ (1 ≤ W ∧ W ≤ 8) ∧ (1 ≤ H ∧ H ≤ 8) ∧ x.2.2.1.length = W * H ∧ patternMirror r x = some ((x.1, (x.2.1, (mv W H x.2.2.1, x.2.2.2))), ((0 : Int), ())) := by
  obtain ⟨⟨hw, hh⟩, hl⟩ := ruleErr_zero hR.ok
  have w1 := hR.w1; have w2 := hR.w2; have h1 := hR.h1; have h2 := hR.h2
  obtain ⟨W, hW⟩ := Int.eq_ofNat_of_zero_le (show 0 ≤ x.1 by omega)
  obtain ⟨H, hH⟩ := Int.eq_ofNat_of_zero_le (show 0 ≤ x.2.1 by omega)
  have hlen : x.2.2.1.length = W * H := by
    have := hR.len
    rw [hW, hH, ← Int.natCast_mul] at this
    exact Int.ofNat.inj this
  have hWb : 1 ≤ W ∧ W ≤ 8 := by omega
  have hHb : 1 ≤ H ∧ H ≤ 8 := by omega
  have hb : W * H ≤ 64 := Nat.mul_le_mul hWb.2 hHb.2
  refine ⟨W, H, hW, hH, hWb, hHb, hlen, ?_⟩
  unfold patternMirror
  rw [hc, Option.bind_some, clone_ok _ (by omega)]
  simp only [bne_self_eq_false, cond_false, Option.bind_some]
  have := iterW_states (f := patternMirror_L1 x) H (fun y => (((y : Int), ()), (mv W y x.2.2.1, ()))) ((), (mv W H x.2.2.1, ())) (fun y hy => ?_) ?_
  · simp only [mv_zero] at this
    rw [show (((0 : Nat) : Int)) = 0 from rfl] at this
    rw [this]
    rfl
  · have hyl : (y + 1) * W ≤ x.2.2.1.length := by rw [hlen, Nat.mul_comm W H]; exact Nat.mul_le_mul_right _ hy
    have h1 : (y + 1) * W = y * W + W := Nat.succ_mul y W
    have hrow := mirror_row x W y hW hWb (by omega) (mv W y x.2.2.1) (by rw [mv_len]; exact hyl) (by rw [mv_len]; omega)
    have a1 : w64 ((y : Int) * x.1) = ((y * W : Nat) : Int) := by rw [hW, ← Int.natCast_mul]; exact w64_id (by omega) (by omega)
    have a2 : w64 (w64 ((y : Int) + 1) * x.1) = ((y * W + W : Nat) : Int) := by
      rw [w64_id (n := (y : Int) + 1) (by omega) (by omega), hW, show ((y : Int) + 1) * (W : Int) = (((y + 1) * W : Nat) : Int) by rw [Int.natCast_mul]; rfl, h1]
      exact w64_id (by omega) (by omega)
    unfold patternMirror_L1
    simp only [a1, a2, Int.toNat_natCast, mv_len]
    rw [show decide ((y : Int) < x.2.1) = true by rw [hH]; simp; omega, cond_true, show boundsI ((y * W : Nat) : Int) ((y * W + W : Nat) : Int) x.2.2.1.length = true by simp only [boundsI, Bool.and_eq_true, decide_eq_true_eq]; omega, req_true]
    rw [show y * W + W - y * W = W by omega, show ((W : Nat) : Int) - 1 = ((W - 1 : Nat) : Int) by omega, w64_id (n := ((W - 1 : Nat) : Int)) (by omega) (by omega), hrow, Option.bind_some, mv_step hyl (by omega), w64_id (n := (y : Int) + 1) (by omega) (by omega)]
    rfl
  · unfold patternMirror_L1
    rw [hH]
    simp
end Go.Proofs.Ytcdpkebphgeipaa
