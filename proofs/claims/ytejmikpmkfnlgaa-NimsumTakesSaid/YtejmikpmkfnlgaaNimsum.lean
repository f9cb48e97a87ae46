/- Contracts of nimsum.Sum, nimsum.Take and what they call, for every slice of ints. -/
import Derived.Test.YtejmikpmkfnlgaaRows
import Derived.Test.YtejmikpmkfnlgaaEng
import Derived.Test.YtejmikpmkfnlgaaPl
namespace Go.Proofs.Ytejmikpmkfnlgaa
open Go.Eng Go.RowKit
set_option linter.unusedSimpArgs false
set_option linter.unusedVariables false
def xor64 (a b : Int) : Int := IntKind.i64.wrap ((BitVec.ofInt 64 a ^^^ BitVec.ofInt 64 b).toNat : Int)
def xorTo (xs : List Int) : Nat → Int
  | 0 => 0
  | i + 1 => xor64 (xorTo xs i) (xs.getD i 0)
def bad (x : Int) : Bool := (decide (x < (0))) || (decide (x > (100000000)))
def idxOf (p : Int → Bool) (xs : List Int) : Int := match first (fun i => p (xs.getD i 0)) xs.length with | some i => i | none => -1
theorem idxOf_some {p : Int → Bool} {xs : List Int} {i : Nat} (hi : i < xs.length) (hp : p (xs.getD i 0) = true) (hl : ∀ j, j < i → p (xs.getD j 0) = false) : idxOf p xs = i := by
  unfold idxOf; rw [first_some hi hp hl]
theorem idxOf_none {p : Int → Bool} {xs : List Int} (hl : ∀ j, j < xs.length → p (xs.getD j 0) = false) : idxOf p xs = -1 := by
  unfold idxOf; rw [first_none hl]
/-- the heap whose rest balances the others -/
def lower (xs : List Int) (x : Int) (i : Nat) : Bool := decide (xor64 (xs.getD i 0) x < xs.getD i 0)
def takeR (xs : List Int) : Int × Int × Int :=
  if 256 < xs.length then (0, 0, 2) else if 0 ≤ idxOf bad xs then (0, 0, 4) else
  match first (lower xs (xorTo xs xs.length)) xs.length with
  | some i => (i, xor64 (xs.getD i 0) (xorTo xs xs.length), 0)
  | none => (0, 0, 8)
theorem ret3 {a b c : Int} {r : Int × Int × Int} (h : r = (a, b, c)) : Ending.returned (.tuple #[.int .i64 a, .int .i64 b, .int .i64 c]) = .returned (.tuple #[.int .i64 r.1, .int .i64 r.2.1, .int .i64 r.2.2]) := by rw [h]

set_option maxRecDepth 100000 in
set_option maxHeartbeats 1000000 in
theorem in_any (x lo hi : Int) (w : World) : Calls Try.prog 16 #[.int .i64 x, .int .i64 lo, .int .i64 hi] w fun e w' => e = .returned (.bool ((decide (x ≥ lo)) && (decide (x ≤ hi)))) ∧ w' = w := by
  refine enter 15 Try.func16 (by kernel_rfl) ?_
  refine run (φ := []) [] 5 [0, 1, 2, 6] (m' := .n) (k' := [.code [1, 0], .code [1, 1]]) (s' := [(0, .int .i64 x), (1, .int .i64 lo), (2, .int .i64 hi), (6, .bool false)]) (by kernel_rfl) trivial ?_
  refine via (m' := .n) (k' := [.code [1, 1]]) (s' := [(6, .bool ((decide (x ≥ lo)) && (decide (x ≤ hi))))]) ?_ ?_
  · intro Q' hg'
    refine run (φ := []) [] 5 [0, 2, 6, 10] (m' := .n) (k' := [.ops [1, 0] 4, .code [1, 1]]) (s' := [(0, .int .i64 x), (2, .int .i64 hi), (6, .bool false), (10, .bool (decide (x ≥ lo)))]) (by kernel_rfl) trivial ?_
    rcases Bool.eq_false_or_eq_true (decide (x ≥ lo)) with hb1 | hb1
    · have hb1_p : x ≥ lo := (of_decide_eq_true hb1)
      refine assume [10] hb1 (by kernel_rfl) (s' := [(10, .bool true), (0, .int .i64 x), (2, .int .i64 hi), (6, .bool false)]) (by kernel_rfl) ?_
      refine run (φ := []) [] 6 [6] (m' := .n) (k' := [.code [1, 1]]) (s' := [(6, .bool (decide (x ≤ hi)))]) (by kernel_rfl) trivial ?_
      skip
      exact conv hg' (by simp only [hb1, Bool.true_and, Bool.false_and, Bool.and_true, Bool.and_false, Bool.true_or, Bool.false_or, Bool.or_true, Bool.or_false, Bool.not_true, Bool.not_false, cond_true, cond_false])
    · have hb1_p : ¬ x ≥ lo := (of_decide_eq_false hb1)
      refine assume [10] hb1 (by kernel_rfl) (s' := [(10, .bool false), (0, .int .i64 x), (2, .int .i64 hi), (6, .bool false)]) (by kernel_rfl) ?_
      refine run (φ := []) [] 6 [6] (m' := .n) (k' := [.code [1, 1]]) (s' := [(6, .bool false)]) (by kernel_rfl) trivial ?_
      skip
      exact conv hg' (by simp only [hb1, Bool.true_and, Bool.false_and, Bool.and_true, Bool.and_false, Bool.true_or, Bool.false_or, Bool.or_true, Bool.or_false, Bool.not_true, Bool.not_false, cond_true, cond_false])
  refine run (φ := []) [] 1 [6] (m' := .r) (k' := []) (s' := [(6, .bool ((decide (x ≥ lo)) && (decide (x ≤ hi))))]) (by kernel_rfl) trivial ?_
  exact ret_tmps (vs := [.bool ((decide (x ≥ lo)) && (decide (x ≤ hi)))]) (by kernel_rfl) ⟨rfl, rfl⟩
set_option maxRecDepth 100000 in
set_option maxHeartbeats 1000000 in
theorem take1_any (x : Int) (w : World) : Calls Try.prog 62 #[.int .i64 x] w fun e w' => e = .returned (.bool (bad x)) ∧ w' = w := by
  refine enter 9 Try.func62 (by kernel_rfl) ?_
  refine run (φ := []) [] 5 [0, 2] (m' := .n) (k' := [.code [1, 0], .code [1, 1]]) (s' := [(0, .int .i64 x), (2, .bool false)]) (by kernel_rfl) trivial ?_
  refine via (m' := .n) (k' := [.code [1, 1]]) (s' := [(2, .bool ((decide (x < (0))) || (decide (x > (100000000)))))]) ?_ ?_
  · intro Q' hg'
    refine run (φ := []) [] 4 [0, 2, 5] (m' := .n) (k' := [.ops [1, 0] 3, .code [1, 1]]) (s' := [(0, .int .i64 x), (2, .bool false), (5, .bool (decide (x < (0))))]) (by kernel_rfl) trivial ?_
    rcases Bool.eq_false_or_eq_true (decide (x < (0))) with hb1 | hb1
    · have hb1_p : x < (0) := (of_decide_eq_true hb1)
      refine assume [5] hb1 (by kernel_rfl) (s' := [(5, .bool true), (0, .int .i64 x), (2, .bool false)]) (by kernel_rfl) ?_
      refine run (φ := []) [] 5 [2] (m' := .n) (k' := [.code [1, 1]]) (s' := [(2, .bool true)]) (by kernel_rfl) trivial ?_
      skip
      exact conv hg' (by simp only [hb1, Bool.true_and, Bool.false_and, Bool.and_true, Bool.and_false, Bool.true_or, Bool.false_or, Bool.or_true, Bool.or_false, Bool.not_true, Bool.not_false, cond_true, cond_false])
    · have hb1_p : ¬ x < (0) := (of_decide_eq_false hb1)
      refine assume [5] hb1 (by kernel_rfl) (s' := [(5, .bool false), (0, .int .i64 x), (2, .bool false)]) (by kernel_rfl) ?_
      refine run (φ := []) [] 5 [2] (m' := .n) (k' := [.code [1, 1]]) (s' := [(2, .bool (decide (x > (100000000))))]) (by kernel_rfl) trivial ?_
      skip
      exact conv hg' (by simp only [hb1, Bool.true_and, Bool.false_and, Bool.and_true, Bool.and_false, Bool.true_or, Bool.false_or, Bool.or_true, Bool.or_false, Bool.not_true, Bool.not_false, cond_true, cond_false])
  refine run (φ := []) [] 1 [2] (m' := .r) (k' := []) (s' := [(2, .bool ((decide (x < (0))) || (decide (x > (100000000)))))]) (by kernel_rfl) trivial ?_
  exact ret_tmps (vs := [.bool ((decide (x < (0))) || (decide (x > (100000000))))]) (by kernel_rfl) ⟨rfl, rfl⟩
set_option maxRecDepth 100000 in
set_option maxHeartbeats 1000000 in
theorem sum_any (ao : Option Addr) (cap : Nat) (xs : List Int) (w : World) (hx : Ints w ao xs) (hl : xs.length ≤ 9223372036854775807) : Calls Try.prog 15 #[.slice ao xs.length cap] w fun e w' => e = .returned (.int .i64 (xorTo xs xs.length)) ∧ w' = w := by
  refine enter 17 Try.func15 (by kernel_rfl) ?_
  refine run (φ := []) [] 16 [2, 3, 6, 7, 8] (m' := .n) (k' := [.code [1, 1, 0, 1, 0], .blk 0, .code [1, 1, 1]]) (s' := [(2, .int .i64 (0)), (3, .int .i64 (0)), (6, .slice ao xs.length cap), (7, .int .i64 ((xs.length : Nat) : Int)), (8, .int .i64 (0))]) (by kernel_rfl) trivial ?_
  refine loop (α := Nat) (fun i => [(3, .int .i64 (xorTo xs i)), (6, .slice ao xs.length cap), (7, .int .i64 ((xs.length : Nat) : Int)), (8, .int .i64 ((i : Nat) : Int))]) (fun (i : Nat) (u : World) => i ≤ xs.length ∧ w = u) (fun i => xs.length - i) (by kernel_rfl) 0 (by kernel_rfl) ⟨by omega, rfl⟩ ?_
  rintro i _ K1 ⟨hi, rfl⟩ hK3
  refine run (φ := []) [] 5 [3, 6, 7, 8, 9] (m' := .n) (k' := [.code [1, 1, 0, 1, 0, 0, 1, 0], .code [1, 1, 0, 1, 0, 0, 1, 1], .lp K1, .blk 0, .code [1, 1, 1]]) (s' := [(3, .int .i64 (xorTo xs i)), (6, .slice ao xs.length cap), (7, .int .i64 ((xs.length : Nat) : Int)), (8, .int .i64 ((i : Nat) : Int)), (9, .bool (decide (((i : Nat) : Int) < ((xs.length : Nat) : Int))))]) (by kernel_rfl) trivial ?_
  rcases Bool.eq_false_or_eq_true (decide (((i : Nat) : Int) < ((xs.length : Nat) : Int))) with hb4 | hb4
  · have hb4_p : ((i : Nat) : Int) < ((xs.length : Nat) : Int) := (of_decide_eq_true hb4)
    refine assume [9] hb4 (by kernel_rfl) (s' := [(9, .bool true), (3, .int .i64 (xorTo xs i)), (6, .slice ao xs.length cap), (7, .int .i64 ((xs.length : Nat) : Int)), (8, .int .i64 ((i : Nat) : Int))]) (by kernel_rfl) ?_
    refine run (φ := [0 ≤ ((i : Nat) : Int) ∧ ((i : Nat) : Int) < ((xs.length : Nat) : Int), (ao : Option Addr).isSome = true, ∀ w', w' = w → w'.cell? ((adr ao).add i) = some (.int .i64 (xs.getD i 0)), InR .i64 (((i : Nat) : Int) + (1))]) [(11, .ld (.int .i64 (xs.getD i 0)))] 21 [3, 6, 7, 8] (m' := .n) (k' := [.lp K1, .blk 0, .code [1, 1, 1]]) (s' := [(3, .int .i64 (xor64 (xorTo xs i) (xs.getD i 0))), (6, .slice ao xs.length cap), (7, .int .i64 ((xs.length : Nat) : Int)), (8, .int .i64 (((i : Nat) : Int) + (1)))]) (by kernel_rfl) ⟨(by omega), ((hx i (by omega)).1), (by rintro _ rfl; exact (hx i (by omega)).2), (by unfold InR; omega), trivial⟩ ?_
    exact back (hK3 (i + 1) _ ⟨by omega, rfl⟩ (by omega)) (by kernel_rfl)
  · have hb4_p : ¬ ((i : Nat) : Int) < ((xs.length : Nat) : Int) := (of_decide_eq_false hb4)
    refine assume [9] hb4 (by kernel_rfl) (s' := [(9, .bool false), (3, .int .i64 (xorTo xs i)), (6, .slice ao xs.length cap), (7, .int .i64 ((xs.length : Nat) : Int)), (8, .int .i64 ((i : Nat) : Int))]) (by kernel_rfl) ?_
    obtain rfl : i = xs.length := by omega
    refine run (φ := []) [] 11 [2] (m' := .r) (k' := []) (s' := [(2, .int .i64 (xorTo xs xs.length))]) (by kernel_rfl) trivial ?_
    exact ret_tmps (vs := [.int .i64 (xorTo xs xs.length)]) (by kernel_rfl) ⟨rfl, rfl⟩
set_option maxRecDepth 100000 in
set_option maxHeartbeats 1000000 in
theorem idx_any (ao : Option Addr) (cap : Nat) (xs : List Int) (w : World) (hx : Ints w ao xs) (hl : xs.length ≤ 9223372036854775807) : Calls Try.prog 93 #[.slice ao xs.length cap, .func (.func 62) #[] #[]] w fun e w' => e = .returned (.int .i64 (idxOf bad xs)) ∧ w' = w := by
  refine enter 19 Try.func93 (by kernel_rfl) ?_
  refine run (φ := []) [] 12 [0, 1, 4, 7, 8] (m' := .n) (k' := [.code [1, 0, 1, 0], .blk 0, .code [1, 1]]) (s' := [(0, .slice ao xs.length cap), (1, .func (.func 62) #[] #[]), (4, .int .i64 (0)), (7, .int .i64 ((xs.length : Nat) : Int)), (8, .int .i64 (0))]) (by kernel_rfl) trivial ?_
  refine loop (α := Nat) (fun i => [(0, .slice ao xs.length cap), (1, .func (.func 62) #[] #[]), (7, .int .i64 ((xs.length : Nat) : Int)), (8, .int .i64 ((i : Nat) : Int))]) (fun (i : Nat) (u : World) => i ≤ xs.length ∧ (∀ j, j < i → bad (xs.getD j 0) = false) ∧ w = u) (fun i => xs.length - i) (by kernel_rfl) 0 (by kernel_rfl) ⟨by omega, fun j hj => by omega, rfl⟩ ?_
  rintro i _ K1 ⟨hi, hj, rfl⟩ hK3
  refine run (φ := []) [] 5 [0, 1, 7, 8, 9] (m' := .n) (k' := [.code [1, 0, 1, 0, 0, 1, 0], .code [1, 0, 1, 0, 0, 1, 1], .lp K1, .blk 0, .code [1, 1]]) (s' := [(0, .slice ao xs.length cap), (1, .func (.func 62) #[] #[]), (7, .int .i64 ((xs.length : Nat) : Int)), (8, .int .i64 ((i : Nat) : Int)), (9, .bool (decide (((i : Nat) : Int) < ((xs.length : Nat) : Int))))]) (by kernel_rfl) trivial ?_
  rcases Bool.eq_false_or_eq_true (decide (((i : Nat) : Int) < ((xs.length : Nat) : Int))) with hb4 | hb4
  · have hb4_p : ((i : Nat) : Int) < ((xs.length : Nat) : Int) := (of_decide_eq_true hb4)
    refine assume [9] hb4 (by kernel_rfl) (s' := [(9, .bool true), (0, .slice ao xs.length cap), (1, .func (.func 62) #[] #[]), (7, .int .i64 ((xs.length : Nat) : Int)), (8, .int .i64 ((i : Nat) : Int))]) (by kernel_rfl) ?_
    refine run (φ := [0 ≤ ((i : Nat) : Int) ∧ ((i : Nat) : Int) < ((xs.length : Nat) : Int), (ao : Option Addr).isSome = true, ∀ w', w' = w → w'.cell? ((adr ao).add i) = some (.int .i64 (xs.getD i 0)), ∀ w', w' = w → Calls Try.prog 62 #[.int .i64 (xs.getD i 0)] w' (fun e w'' => e = .returned (.bool (bad (xs.getD i 0))) ∧ w'' = w)]) [(15, .ld (.int .i64 (xs.getD i 0))), (16, .call (.bool (bad (xs.getD i 0))))] 18 [0, 1, 5, 7, 8, 16] (m' := .n) (k' := [.code [1, 0, 1, 0, 0, 1, 1, 0, 0, 1, 1], .blk 1, .code [1, 0, 1, 0, 0, 1, 1, 1], .lp K1, .blk 0, .code [1, 1]]) (s' := [(0, .slice ao xs.length cap), (1, .func (.func 62) #[] #[]), (5, .int .i64 ((i : Nat) : Int)), (7, .int .i64 ((xs.length : Nat) : Int)), (8, .int .i64 ((i : Nat) : Int)), (16, .bool (bad (xs.getD i 0)))]) (by kernel_rfl) ⟨(by omega), ((hx i (by omega)).1), (by rintro _ rfl; exact (hx i (by omega)).2), (by rintro _ rfl; exact take1_any _ _), trivial⟩ ?_
    rcases Bool.eq_false_or_eq_true (bad (xs.getD i 0)) with hb5 | hb5
    · have hb5_p : (bad (xs.getD i 0)) = true := hb5
      refine assume [16] hb5 (by kernel_rfl) (s' := [(16, .bool true), (0, .slice ao xs.length cap), (1, .func (.func 62) #[] #[]), (5, .int .i64 ((i : Nat) : Int)), (7, .int .i64 ((xs.length : Nat) : Int)), (8, .int .i64 ((i : Nat) : Int))]) (by kernel_rfl) ?_
      refine run (φ := []) [] 7 [4] (m' := .r) (k' := [.blk 1, .code [1, 0, 1, 0, 0, 1, 1, 1], .lp K1, .blk 0, .code [1, 1]]) (s' := [(4, .int .i64 ((i : Nat) : Int))]) (by kernel_rfl) trivial ?_
      exact ret_tmps (vs := [.int .i64 ((i : Nat) : Int)]) (by kernel_rfl) ⟨congrArg (fun x => Ending.returned (.int .i64 x)) (idxOf_some (by omega) hb5 hj).symm, rfl⟩
    · have hb5_p : (bad (xs.getD i 0)) = false := hb5
      refine assume [16] hb5 (by kernel_rfl) (s' := [(16, .bool false), (0, .slice ao xs.length cap), (1, .func (.func 62) #[] #[]), (5, .int .i64 ((i : Nat) : Int)), (7, .int .i64 ((xs.length : Nat) : Int)), (8, .int .i64 ((i : Nat) : Int))]) (by kernel_rfl) ?_
      refine run (φ := [InR .i64 (((i : Nat) : Int) + (1))]) [] 7 [0, 1, 7, 8] (m' := .n) (k' := [.lp K1, .blk 0, .code [1, 1]]) (s' := [(0, .slice ao xs.length cap), (1, .func (.func 62) #[] #[]), (7, .int .i64 ((xs.length : Nat) : Int)), (8, .int .i64 (((i : Nat) : Int) + (1)))]) (by kernel_rfl) ⟨(by unfold InR; omega), trivial⟩ ?_
      exact back (hK3 (i + 1) _ ⟨by omega, upto (p := fun j => bad (xs.getD j 0)) hj hb5, rfl⟩ (by omega)) (by kernel_rfl)
  · have hb4_p : ¬ ((i : Nat) : Int) < ((xs.length : Nat) : Int) := (of_decide_eq_false hb4)
    refine assume [9] hb4 (by kernel_rfl) (s' := [(9, .bool false), (0, .slice ao xs.length cap), (1, .func (.func 62) #[] #[]), (7, .int .i64 ((xs.length : Nat) : Int)), (8, .int .i64 ((i : Nat) : Int))]) (by kernel_rfl) ?_
    obtain rfl : i = xs.length := by omega
    refine run (φ := []) [] 10 [4] (m' := .r) (k' := []) (s' := [(4, .int .i64 (-1))]) (by kernel_rfl) trivial ?_
    exact ret_tmps (vs := [.int .i64 (-1)]) (by kernel_rfl) ⟨congrArg (fun x => Ending.returned (.int .i64 x)) (idxOf_none hj).symm, rfl⟩
set_option maxRecDepth 100000 in
set_option maxHeartbeats 1000000 in
theorem cont_any (ao : Option Addr) (cap : Nat) (xs : List Int) (w : World) (hx : Ints w ao xs) (hl : xs.length ≤ 9223372036854775807) : Calls Try.prog 61 #[.slice ao xs.length cap, .func (.func 62) #[] #[]] w fun e w' => e = .returned (.bool (decide (idxOf bad xs ≥ 0))) ∧ w' = w := by
  refine enter 9 Try.func61 (by kernel_rfl) ?_
  refine run (φ := [∀ w', w' = w → Calls Try.prog 93 #[.slice ao xs.length cap, .func (.func 62) #[] #[]] w' (fun e w'' => e = .returned (.int .i64 (idxOf bad xs)) ∧ w'' = w)]) [(7, .call (.int .i64 (idxOf bad xs)))] 13 [4] (m' := .r) (k' := []) (s' := [(4, .bool (decide ((idxOf bad xs) ≥ (0))))]) (by kernel_rfl) ⟨(by rintro _ rfl; exact idx_any _ _ _ _ hx hl), trivial⟩ ?_
  exact ret_tmps (vs := [.bool (decide ((idxOf bad xs) ≥ (0)))]) (by kernel_rfl) ⟨rfl, rfl⟩
set_option maxRecDepth 100000 in
set_option maxHeartbeats 1000000 in
theorem take_any (ao : Option Addr) (cap : Nat) (xs : List Int) (w : World) (hx : Ints w ao xs) (hl : xs.length ≤ 9223372036854775807) : Calls Try.prog 14 #[.slice ao xs.length cap] w fun e w' => e = .returned (.tuple #[.int .i64 (takeR xs).1, .int .i64 (takeR xs).2.1, .int .i64 (takeR xs).2.2]) ∧ w' = w := by
  refine enter 32 Try.func14 (by kernel_rfl) ?_
  refine run (φ := []) [] 13 [0, 2, 3, 4, 10] (m' := .n) (k' := [.code [1, 0, 1], .code [1, 1]]) (s' := [(0, .slice ao xs.length cap), (2, .int .i64 (0)), (3, .int .i64 (0)), (4, .int .i64 (0)), (10, .bool (decide (((xs.length : Nat) : Int) > (256))))]) (by kernel_rfl) trivial ?_
  rcases Bool.eq_false_or_eq_true (decide (((xs.length : Nat) : Int) > (256))) with hb1 | hb1
  · have hb1_p : ((xs.length : Nat) : Int) > (256) := (of_decide_eq_true hb1)
    refine assume [10] hb1 (by kernel_rfl) (s' := [(10, .bool true), (0, .slice ao xs.length cap), (2, .int .i64 (0)), (3, .int .i64 (0)), (4, .int .i64 (0))]) (by kernel_rfl) ?_
    refine run (φ := []) [] 8 [2, 3, 4] (m' := .r) (k' := [.code [1, 1]]) (s' := [(2, .int .i64 (0)), (3, .int .i64 (0)), (4, .int .i64 (2))]) (by kernel_rfl) trivial ?_
    exact ret_tmps (vs := [.int .i64 (0), .int .i64 (0), .int .i64 (2)]) (by kernel_rfl) ⟨ret3 (by unfold takeR; rw [if_pos (by omega)]), rfl⟩
  · have hb1_p : ¬ ((xs.length : Nat) : Int) > (256) := (of_decide_eq_false hb1)
    refine assume [10] hb1 (by kernel_rfl) (s' := [(10, .bool false), (0, .slice ao xs.length cap), (2, .int .i64 (0)), (3, .int .i64 (0)), (4, .int .i64 (0))]) (by kernel_rfl) ?_
    refine run (φ := [∀ w', w' = w → Calls Try.prog 61 #[.slice ao xs.length cap, .func (.func 62) #[] #[]] w' (fun e w'' => e = .returned (.bool (decide ((idxOf bad xs) ≥ (0)))) ∧ w'' = w)]) [(12, .call (.bool (decide ((idxOf bad xs) ≥ (0)))))] 8 [0, 2, 3, 4, 12] (m' := .n) (k' := [.code [1, 1, 0, 1], .code [1, 1, 1]]) (s' := [(0, .slice ao xs.length cap), (2, .int .i64 (0)), (3, .int .i64 (0)), (4, .int .i64 (0)), (12, .bool (decide ((idxOf bad xs) ≥ (0))))]) (by kernel_rfl) ⟨(by rintro _ rfl; exact cont_any _ _ _ _ hx hl), trivial⟩ ?_
    rcases Bool.eq_false_or_eq_true (decide ((idxOf bad xs) ≥ (0))) with hb2 | hb2
    · have hb2_p : (idxOf bad xs) ≥ (0) := (of_decide_eq_true hb2)
      refine assume [12] hb2 (by kernel_rfl) (s' := [(12, .bool true), (0, .slice ao xs.length cap), (2, .int .i64 (0)), (3, .int .i64 (0)), (4, .int .i64 (0))]) (by kernel_rfl) ?_
      refine run (φ := []) [] 8 [2, 3, 4] (m' := .r) (k' := [.code [1, 1, 1]]) (s' := [(2, .int .i64 (0)), (3, .int .i64 (0)), (4, .int .i64 (4))]) (by kernel_rfl) trivial ?_
      exact ret_tmps (vs := [.int .i64 (0), .int .i64 (0), .int .i64 (4)]) (by kernel_rfl) ⟨ret3 (by unfold takeR; rw [if_neg (by omega), if_pos (by omega)]), rfl⟩
    · have hb2_p : ¬ (idxOf bad xs) ≥ (0) := (of_decide_eq_false hb2)
      refine assume [12] hb2 (by kernel_rfl) (s' := [(12, .bool false), (0, .slice ao xs.length cap), (2, .int .i64 (0)), (3, .int .i64 (0)), (4, .int .i64 (0))]) (by kernel_rfl) ?_
      refine run (φ := [∀ w', w' = w → Calls Try.prog 15 #[.slice ao xs.length cap] w' (fun e w'' => e = .returned (.int .i64 (xorTo xs xs.length)) ∧ w'' = w)]) [(14, .call (.int .i64 (xorTo xs xs.length)))] 16 [2, 3, 4, 5, 15, 16, 17] (m' := .n) (k' := [.code [1, 1, 1, 1, 0, 1, 0], .blk 0, .code [1, 1, 1, 1, 1]]) (s' := [(2, .int .i64 (0)), (3, .int .i64 (0)), (4, .int .i64 (0)), (5, .int .i64 (xorTo xs xs.length)), (15, .slice ao xs.length cap), (16, .int .i64 ((xs.length : Nat) : Int)), (17, .int .i64 (0))]) (by kernel_rfl) ⟨(by rintro _ rfl; exact sum_any _ _ _ _ hx hl), trivial⟩ ?_
      refine loop (α := Nat) (fun i => [(5, .int .i64 (xorTo xs xs.length)), (15, .slice ao xs.length cap), (16, .int .i64 ((xs.length : Nat) : Int)), (17, .int .i64 ((i : Nat) : Int))]) (fun (i : Nat) (u : World) => i ≤ xs.length ∧ (∀ j, j < i → lower xs (xorTo xs xs.length) j = false) ∧ w = u) (fun i => xs.length - i) (by kernel_rfl) 0 (by kernel_rfl) ⟨by omega, fun j hj => by omega, rfl⟩ ?_
      rintro i _ K3 ⟨hi, hj, rfl⟩ hK5
      refine run (φ := []) [] 5 [5, 15, 16, 17, 18] (m' := .n) (k' := [.code [1, 1, 1, 1, 0, 1, 0, 0, 1, 0], .code [1, 1, 1, 1, 0, 1, 0, 0, 1, 1], .lp K3, .blk 0, .code [1, 1, 1, 1, 1]]) (s' := [(5, .int .i64 (xorTo xs xs.length)), (15, .slice ao xs.length cap), (16, .int .i64 ((xs.length : Nat) : Int)), (17, .int .i64 ((i : Nat) : Int)), (18, .bool (decide (((i : Nat) : Int) < ((xs.length : Nat) : Int))))]) (by kernel_rfl) trivial ?_
      rcases Bool.eq_false_or_eq_true (decide (((i : Nat) : Int) < ((xs.length : Nat) : Int))) with hb6 | hb6
      · have hb6_p : ((i : Nat) : Int) < ((xs.length : Nat) : Int) := (of_decide_eq_true hb6)
        refine assume [18] hb6 (by kernel_rfl) (s' := [(18, .bool true), (5, .int .i64 (xorTo xs xs.length)), (15, .slice ao xs.length cap), (16, .int .i64 ((xs.length : Nat) : Int)), (17, .int .i64 ((i : Nat) : Int))]) (by kernel_rfl) ?_
        refine run (φ := [0 ≤ ((i : Nat) : Int) ∧ ((i : Nat) : Int) < ((xs.length : Nat) : Int), (ao : Option Addr).isSome = true, ∀ w', w' = w → w'.cell? ((adr ao).add i) = some (.int .i64 (xs.getD i 0))]) [(21, .ld (.int .i64 (xs.getD i 0)))] 20 [5, 6, 7, 15, 16, 17, 26] (m' := .n) (k' := [.code [1, 1, 1, 1, 0, 1, 0, 0, 1, 1, 0, 0, 1, 1], .blk 1, .code [1, 1, 1, 1, 0, 1, 0, 0, 1, 1, 1], .lp K3, .blk 0, .code [1, 1, 1, 1, 1]]) (s' := [(5, .int .i64 (xorTo xs xs.length)), (6, .int .i64 ((i : Nat) : Int)), (7, .int .i64 (xs.getD i 0)), (15, .slice ao xs.length cap), (16, .int .i64 ((xs.length : Nat) : Int)), (17, .int .i64 ((i : Nat) : Int)), (26, .bool (decide ((xor64 (xs.getD i 0) (xorTo xs xs.length)) < (xs.getD i 0))))]) (by kernel_rfl) ⟨(by omega), ((hx i (by omega)).1), (by rintro _ rfl; exact (hx i (by omega)).2), trivial⟩ ?_
        rcases Bool.eq_false_or_eq_true (decide ((xor64 (xs.getD i 0) (xorTo xs xs.length)) < (xs.getD i 0))) with hb7 | hb7
        · have hb7_p : (xor64 (xs.getD i 0) (xorTo xs xs.length)) < (xs.getD i 0) := (of_decide_eq_true hb7)
          refine assume [26] hb7 (by kernel_rfl) (s' := [(26, .bool true), (5, .int .i64 (xorTo xs xs.length)), (6, .int .i64 ((i : Nat) : Int)), (7, .int .i64 (xs.getD i 0)), (15, .slice ao xs.length cap), (16, .int .i64 ((xs.length : Nat) : Int)), (17, .int .i64 ((i : Nat) : Int))]) (by kernel_rfl) ?_
          refine run (φ := []) [] 12 [2, 3, 4] (m' := .r) (k' := [.blk 1, .code [1, 1, 1, 1, 0, 1, 0, 0, 1, 1, 1], .lp K3, .blk 0, .code [1, 1, 1, 1, 1]]) (s' := [(2, .int .i64 ((i : Nat) : Int)), (3, .int .i64 (xor64 (xs.getD i 0) (xorTo xs xs.length))), (4, .int .i64 (0))]) (by kernel_rfl) trivial ?_
          exact ret_tmps (vs := [.int .i64 ((i : Nat) : Int), .int .i64 (xor64 (xs.getD i 0) (xorTo xs xs.length)), .int .i64 (0)]) (by kernel_rfl) ⟨ret3 (by unfold takeR; rw [if_neg (by omega), if_neg (by omega), first_some (by omega) hb7 hj]), rfl⟩
        · have hb7_p : ¬ (xor64 (xs.getD i 0) (xorTo xs xs.length)) < (xs.getD i 0) := (of_decide_eq_false hb7)
          refine assume [26] hb7 (by kernel_rfl) (s' := [(26, .bool false), (5, .int .i64 (xorTo xs xs.length)), (6, .int .i64 ((i : Nat) : Int)), (7, .int .i64 (xs.getD i 0)), (15, .slice ao xs.length cap), (16, .int .i64 ((xs.length : Nat) : Int)), (17, .int .i64 ((i : Nat) : Int))]) (by kernel_rfl) ?_
          refine run (φ := [InR .i64 (((i : Nat) : Int) + (1))]) [] 7 [5, 15, 16, 17] (m' := .n) (k' := [.lp K3, .blk 0, .code [1, 1, 1, 1, 1]]) (s' := [(5, .int .i64 (xorTo xs xs.length)), (15, .slice ao xs.length cap), (16, .int .i64 ((xs.length : Nat) : Int)), (17, .int .i64 (((i : Nat) : Int) + (1)))]) (by kernel_rfl) ⟨(by unfold InR; omega), trivial⟩ ?_
          exact back (hK5 (i + 1) _ ⟨by omega, upto hj hb7, rfl⟩ (by omega)) (by kernel_rfl)
      · have hb6_p : ¬ ((i : Nat) : Int) < ((xs.length : Nat) : Int) := (of_decide_eq_false hb6)
        refine assume [18] hb6 (by kernel_rfl) (s' := [(18, .bool false), (5, .int .i64 (xorTo xs xs.length)), (15, .slice ao xs.length cap), (16, .int .i64 ((xs.length : Nat) : Int)), (17, .int .i64 ((i : Nat) : Int))]) (by kernel_rfl) ?_
        obtain rfl : i = xs.length := by omega
        refine run (φ := []) [] 12 [2, 3, 4] (m' := .r) (k' := []) (s' := [(2, .int .i64 (0)), (3, .int .i64 (0)), (4, .int .i64 (8))]) (by kernel_rfl) trivial ?_
        exact ret_tmps (vs := [.int .i64 (0), .int .i64 (0), .int .i64 (8)]) (by kernel_rfl) ⟨ret3 (by unfold takeR; rw [if_neg (by omega), if_neg (by omega), first_none hj]), rfl⟩
end Go.Proofs.Ytejmikpmkfnlgaa
