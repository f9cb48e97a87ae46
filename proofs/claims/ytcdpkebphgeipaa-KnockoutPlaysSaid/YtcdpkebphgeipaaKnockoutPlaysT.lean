/- The law KnockoutPlays, in plain Lean: brackets. No condition of its own. -/
import Derived.Test.YtcdpkebphgeipaaKnockoutPlaysK
namespace Go.Proofs.Ytcdpkebphgeipaa
open Go.Den
set_option linter.unusedVariables false
set_option linter.unusedSimpArgs false
set_option maxRecDepth 100000

def rk (n : Nat) : Nat := if n ≤ 2 then 1 else if n ≤ 4 then 2 else if n ≤ 8 then 3 else if n ≤ 16 then 4 else 5
def seats : Nat → List Int
  | 1 => [0, 1]
  | 2 => [0, 3, 2, 1]
  | 3 => [0, 7, 4, 3, 2, 5, 6, 1]
  | 4 => [0, 15, 8, 7, 4, 11, 12, 3, 2, 13, 10, 5, 6, 9, 14, 1]
  | 5 => [0, 31, 16, 15, 8, 23, 24, 7, 4, 27, 20, 11, 12, 19, 28, 3, 2, 29, 18, 13, 10, 21, 26, 5, 6, 25, 22, 9, 14, 17, 30, 1]
  | _ => [0]
def bracket (n : Nat) : List Int := (seats (rk n)).map fun s => if s ≥ (n : Int) then -1 else s
theorem rounds_all : ((List.range 33).all fun n => decide (n < 2) || (decide (knockoutRounds_c 10 n = some ((rk n : Nat) : Int)) && decide (iterN (law3KnockoutPlays_L1 n) 10 ((1, ()), ()) = some ((((rk n : Nat) : Int), ()), ())))) = true := by decide +kernel
theorem seeds_all : ((List.range 33).all fun n => decide (n < 2) || decide (knockoutSeeds_c 40 n = some (bracket n))) = true := by decide +kernel
theorem seat_all : ([1, 2, 3, 4, 5].all fun k => (List.range (2 ^ k)).all fun i => decide (ref3Seat_c 8 ((k : Nat) : Int) ((i : Nat) : Int) = some ((seats k).getD i 0))) = true := by decide +kernel
def idxF : List Int → Int → Nat → Int
  | [], _, _ => -1
  | x :: r, a, i => if a = x then i else idxF r a (i + 1)
def idxL : List Int → Int → Int → Nat → Int
  | [], _, x, _ => x
  | s :: r, a, x, i => idxL r a (if s = a then (i : Int) else x) (i + 1)
theorem idx_all : ((List.range 33).all fun n => decide (n < 2) || (List.range n).all fun a => decide (idxF (bracket n) ((a : Nat) : Int) 0 = idxL (seats (rk n)) ((a : Nat) : Int) (-1) 0) && (decide (0 ≤ idxF (bracket n) ((a : Nat) : Int) 0) && decide (idxF (bracket n) ((a : Nat) : Int) 0 < 32))) = true := by decide +kernel
theorem len_all : ((List.range 33).all fun n => decide (n < 2) || (decide ((bracket n).length = 2 ^ rk n) && ((bracket n).all fun x => decide (-1 ≤ x)))) = true := by decide +kernel
theorem rk_bound (n : Nat) : 1 ≤ rk n ∧ rk n ≤ 5 := by
  unfold rk
  split
  · omega
  · split
    · omega
    · split
      · omega
      · split <;> omega
theorem rounds_spec {n : Nat} (h : 2 ≤ n ∧ n ≤ 32) : knockoutRounds n = some ((rk n : Nat) : Int) ∧ iterW (law3KnockoutPlays_L1 n) ((1, ()), ()) = some ((((rk n : Nat) : Int), ()), ()) := by
  have := rounds_all
  simp only [List.all_eq_true, List.mem_range, Bool.or_eq_true, Bool.and_eq_true, decide_eq_true_eq] at this
  have h1 := (this n (by omega)).resolve_left (by omega)
  exact ⟨knockoutRounds_m 10 _ _ h1.1, iterW_of h1.2⟩
theorem seeds_spec {n : Nat} (h : 2 ≤ n ∧ n ≤ 32) : knockoutSeeds n = some (bracket n) := by
  have := seeds_all
  simp only [List.all_eq_true, List.mem_range, Bool.or_eq_true, decide_eq_true_eq] at this
  exact knockoutSeeds_m 40 _ _ ((this n (by omega)).resolve_left (by omega))
theorem seat_spec {k i : Nat} (hk : 1 ≤ k ∧ k ≤ 5) (hi : i < 2 ^ k) : ref3Seat ((k : Nat) : Int) ((i : Nat) : Int) = some ((seats k).getD i 0) := by
  have := seat_all
  simp only [List.all_eq_true, List.mem_range, decide_eq_true_eq] at this
  exact ref3Seat_m 8 _ _ _ (this k (by
    rcases (show k = 1 ∨ k = 2 ∨ k = 3 ∨ k = 4 ∨ k = 5 by omega) with h | h | h | h | h <;> simp [h]) i hi)
theorem idx_spec {n a : Nat} (h : 2 ≤ n ∧ n ≤ 32) (ha : a < n) : idxF (bracket n) ((a : Nat) : Int) 0 = idxL (seats (rk n)) ((a : Nat) : Int) (-1) 0 ∧ 0 ≤ idxF (bracket n) ((a : Nat) : Int) 0 ∧ idxF (bracket n) ((a : Nat) : Int) 0 < 32 := by
  have := idx_all
  simp only [List.all_eq_true, List.mem_range, Bool.or_eq_true, Bool.and_eq_true, decide_eq_true_eq] at this
  exact ((this n (by omega)).resolve_left (by omega)) a ha
theorem len_spec {n : Nat} (h : 2 ≤ n ∧ n ≤ 32) : (bracket n).length = 2 ^ rk n ∧ ∀ x ∈ bracket n, -1 ≤ x := by
  have := len_all
  simp only [List.all_eq_true, List.mem_range, Bool.or_eq_true, Bool.and_eq_true, decide_eq_true_eq] at this
  exact (this n (by omega)).resolve_left (by omega)
end Go.Proofs.Ytcdpkebphgeipaa
