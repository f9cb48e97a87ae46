/- The walk of the law NimsumTakes. -/
import Derived.Test.YtejmikpmkfnlgaaNimsum
namespace Go.Proofs.Ytejmikpmkfnlgaa
open Go.Eng Go.RowKit
set_option linter.unusedSimpArgs false
set_option linter.unusedVariables false
theorem take_14 {w : World} {b : Nat} (h : Blk w b [.int .i64 (1), .int .i64 (4)] 3) : Calls Try.prog 14 #[.slice (some ⟨b, 0, none⟩) 2 2] w fun e w' => e = .returned (.tuple #[.int .i64 (1), .int .i64 (1), .int .i64 (0)]) ∧ w' = w := by
  have h := take_any (some ⟨b, 0, none⟩) 2 [1, 4] w (h.ints [1, 4] rfl) (by decide)
  have e : takeR [1, 4] = (1, 1, 0) := by decide +kernel
  rw [e] at h; exact h
theorem sum_53 {w : World} {b : Nat} (h : Blk w b [.int .i64 (5), .int .i64 (3)] 3) : Calls Try.prog 15 #[.slice (some ⟨b, 0, none⟩) 2 2] w fun e w' => e = .returned (.int .i64 (6)) ∧ w' = w := by
  have h := sum_any (some ⟨b, 0, none⟩) 2 [5, 3] w (h.ints [5, 3] rfl) (by decide)
  have e : xorTo [5, 3] 2 = 6 := by decide +kernel
  have h2 : Calls Try.prog 15 #[.slice (some ⟨b, 0, none⟩) 2 2] w fun e w' => e = .returned (.int .i64 (xorTo [5, 3] 2)) ∧ w' = w := h
  rw [e] at h2; exact h2
def wantTo (xs : List Int) : Nat → Int
  | 0 => (bif (decide (((xs.length : Nat) : Int) > (256))) then (2) else (0))
  | i + 1 => (bif ((wantTo xs i == (0)) && (!((decide ((xs.getD i 0) ≥ (0))) && (decide ((xs.getD i 0) ≤ (100000000)))))) then (4) else (wantTo xs i))
theorem bad_eq (x : Int) : (!((decide (x ≥ (0))) && (decide (x ≤ (100000000))))) = bad x := by
  unfold bad
  rw [Bool.eq_iff_iff]
  simp only [Bool.not_eq_true', Bool.and_eq_false_iff, decide_eq_false_iff_not, Bool.or_eq_true, decide_eq_true_eq]
  omega
theorem xor64_comm (a b : Int) : xor64 a b = xor64 b a := by unfold xor64; rw [BitVec.xor_comm]
theorem wantTo_spec (xs : List Int) : ∀ i, i ≤ xs.length → ((256 < xs.length ∧ wantTo xs i = 2) ∨ (¬ 256 < xs.length ∧ ((∀ j, j < i → bad (xs.getD j 0) = false) ∧ wantTo xs i = 0 ∨ (∃ j, j < i ∧ bad (xs.getD j 0) = true) ∧ wantTo xs i = 4)))
  | 0, _ => by
    by_cases h : 256 < xs.length
    · exact .inl ⟨h, by unfold wantTo; rw [decide_eq_true (by omega)]; rfl⟩
    · exact .inr ⟨h, .inl ⟨fun j hj => by omega, by unfold wantTo; rw [decide_eq_false (by omega)]; rfl⟩⟩
  | i + 1, hi => by
    have ih := wantTo_spec xs i (by omega)
    unfold wantTo
    rw [bad_eq]
    rcases ih with ⟨h, e⟩ | ⟨h, ⟨h1, e⟩ | ⟨h1, e⟩⟩
    · exact .inl ⟨h, by rw [e]; rfl⟩
    · refine .inr ⟨h, ?_⟩
      rw [e]
      cases hb : bad (xs.getD i 0)
      · exact .inl ⟨upto (p := fun j => bad (xs.getD j 0)) h1 hb, rfl⟩
      · exact .inr ⟨⟨i, by omega, hb⟩, rfl⟩
    · refine .inr ⟨h, .inr ⟨?_, by rw [e]; rfl⟩⟩
      obtain ⟨j, hj, hb⟩ := h1
      exact ⟨j, by omega, hb⟩
theorem idx_nonneg (xs : List Int) : 0 ≤ idxOf bad xs ↔ ∃ j, j < xs.length ∧ bad (xs.getD j 0) = true := by
  unfold idxOf
  cases h : first (fun i => bad (xs.getD i 0)) xs.length with
  | none => 
    have := first_eq_none h
    simp only [Int.reduceNeg, Int.reduceLE, false_iff, not_exists, not_and]
    intro j hj hb
    rw [this j hj] at hb; cases hb
  | some i =>
    have := first_spec h
    simp only [Int.natCast_nonneg, true_iff]
    exact ⟨i, this.1, this.2⟩
/-- the errors -/
theorem law_bad (xs : List Int) (h : wantTo xs xs.length ≠ 0) : takeR xs = (0, 0, wantTo xs xs.length) := by
  unfold takeR
  rcases wantTo_spec xs xs.length (Nat.le_refl _) with ⟨h1, e⟩ | ⟨h1, ⟨h2, e⟩ | ⟨h2, e⟩⟩
  · rw [if_pos h1, e]
  · exact absurd e h
  · rw [if_neg h1, if_pos ((idx_nonneg xs).2 h2), e]
theorem law_good (xs : List Int) (h : wantTo xs xs.length = 0) : takeR xs = match first (lower xs (xorTo xs xs.length)) xs.length with
  | some i => (i, xor64 (xs.getD i 0) (xorTo xs xs.length), 0)
  | none => (0, 0, 8) := by
  unfold takeR
  rcases wantTo_spec xs xs.length (Nat.le_refl _) with ⟨h1, e⟩ | ⟨h1, ⟨h2, e⟩ | ⟨h2, e⟩⟩
  · rw [e] at h; cases h
  · have h3 : ¬ 0 ≤ idxOf bad xs := by
      rw [idx_nonneg]
      rintro ⟨j, hj, hb⟩
      rw [h2 j hj] at hb; cases hb
    rw [if_neg h1, if_neg h3]
    rfl
  · rw [e] at h; cases h
/-- what the law itself asks of a heap -/
def low (xs : List Int) (i : Nat) : Bool := decide (xor64 (xorTo xs xs.length) (xs.getD i 0) < xs.getD i 0)
theorem low_eq (xs : List Int) : low xs = lower xs (xorTo xs xs.length) := by funext i; unfold low lower; rw [xor64_comm]

set_option maxRecDepth 100000 in
set_option maxHeartbeats 1000000 in
theorem law_any (ao : Option Addr) (cap : Nat) (xs : List Int) (w : World) (hx : Ints w ao xs) (hl : xs.length ≤ 9223372036854775807) : Calls Try.prog 4 #[.slice ao xs.length cap] w fun e w' => e = .returned (.bool true) ∧ Below w.heap.size w w' := by
  have bel0 := Below.refl w.heap.size w
  refine enter 116 Try.func4 (by kernel_rfl) ?_
  refine run (φ := []) [] 7 [0, 2] (m' := .n) (k' := [.ops [1, 0, 0] 0, .code [1, 0, 1], .code [1, 1]]) (s' := [(0, .slice ao xs.length cap), (2, .bool false)]) (by kernel_rfl) trivial ?_
  refine newrow (d := some 17) [.int .i64 (1), .int .i64 (4)] 3 (fun b => .slice (some ⟨b, 0, none⟩) 2 2) (kd := .bslice 24 2 [(0, .int .i64 (1)), (1, .int .i64 (4))]) (by kernel_rfl) (by kernel_rfl) ?_
  intro b1 w2 hn3_e hn3 hn3_s hn3_c
  have hr4 := hx.chg hn3_c (by simp)
  have bel5 := hn3_c.below bel0 bel0.size (by simp)
  have bel5_s := bel5.size
  refine run (φ := [∀ w', w' = w2 → Calls Try.prog 14 #[.slice (some ⟨b1, 0, none⟩) 2 2] w' (fun e w'' => e = .returned (.tuple #[.int .i64 (1), .int .i64 (1), .int .i64 (0)]) ∧ w'' = w2)]) [(18, .call (.tuple #[.int .i64 (1), .int .i64 (1), .int .i64 (0)]))] 22 [0, 2, 32] (m' := .n) (k' := [.ops [1, 0, 1, 0] 11, .code [1, 0, 1, 1], .code [1, 1]]) (s' := [(0, .slice ao xs.length cap), (2, .bool false), (32, .bool false)]) (by kernel_rfl) ⟨(by rintro _ rfl; exact take_14 hn3), trivial⟩ ?_
  refine newrow (d := some 33) [.int .i64 (5), .int .i64 (3)] 3 (fun b => .slice (some ⟨b, 0, none⟩) 2 2) (kd := .bslice 24 2 [(0, .int .i64 (5)), (1, .int .i64 (3))]) (by kernel_rfl) (by kernel_rfl) ?_
  intro b6 w7 hn8_e hn8 hn8_s hn8_c
  have hk9 := hn3.chg hn8_c (by simp)
  have hr10 := hr4.chg hn8_c (by simp)
  have bel11 := hn8_c.below bel5 bel5.size (by simp)
  have bel11_s := bel11.size
  refine run (φ := [∀ w', w' = w7 → Calls Try.prog 15 #[.slice (some ⟨b6, 0, none⟩) 2 2] w' (fun e w'' => e = .returned (.int .i64 (6)) ∧ w'' = w7), ∀ w', w' = w7 → Calls Try.prog 14 #[.slice ao xs.length cap] w' (fun e w'' => e = .returned (.tuple #[.int .i64 (takeR xs).1, .int .i64 (takeR xs).2.1, .int .i64 (takeR xs).2.2]) ∧ w'' = w7)]) [(34, .call (.int .i64 (6))), (39, .call (.tuple #[.int .i64 (takeR xs).1, .int .i64 (takeR xs).2.1, .int .i64 (takeR xs).2.2]))] 29 [0, 2, 6, 7, 8, 9, 45] (m' := .n) (k' := [.code [1, 1, 1, 1, 0, 1], .code [1, 1, 1, 1, 1]]) (s' := [(0, .slice ao xs.length cap), (2, .bool false), (6, .int .i64 (takeR xs).1), (7, .int .i64 (takeR xs).2.1), (8, .int .i64 (takeR xs).2.2), (9, .int .i64 (0)), (45, .bool (decide (((xs.length : Nat) : Int) > (256))))]) (by kernel_rfl) ⟨(by rintro _ rfl; exact sum_53 hn8), (by rintro _ rfl; exact take_any _ _ _ _ hr10 hl), trivial⟩ ?_
  refine via (m' := .n) (k' := [.code [1, 1, 1, 1, 1]]) (s' := [(0, .slice ao xs.length cap), (2, .bool false), (6, .int .i64 (takeR xs).1), (7, .int .i64 (takeR xs).2.1), (8, .int .i64 (takeR xs).2.2), (9, .int .i64 (bif (decide (((xs.length : Nat) : Int) > (256))) then (2) else (0)))]) ?_ ?_
  · intro Q' hg'
    rcases Bool.eq_false_or_eq_true (decide (((xs.length : Nat) : Int) > (256))) with hb12 | hb12
    · have hb12_p : ((xs.length : Nat) : Int) > (256) := (of_decide_eq_true hb12)
      refine assume [45] hb12 (by kernel_rfl) (s' := [(45, .bool true), (0, .slice ao xs.length cap), (2, .bool false), (6, .int .i64 (takeR xs).1), (7, .int .i64 (takeR xs).2.1), (8, .int .i64 (takeR xs).2.2), (9, .int .i64 (0))]) (by kernel_rfl) ?_
      refine run (φ := []) [] 4 [0, 2, 6, 7, 8, 9] (m' := .n) (k' := [.code [1, 1, 1, 1, 1]]) (s' := [(0, .slice ao xs.length cap), (2, .bool false), (6, .int .i64 (takeR xs).1), (7, .int .i64 (takeR xs).2.1), (8, .int .i64 (takeR xs).2.2), (9, .int .i64 (2))]) (by kernel_rfl) trivial ?_
      exact conv hg' (by simp only [hb12, Bool.true_and, Bool.false_and, Bool.and_true, Bool.and_false, Bool.true_or, Bool.false_or, Bool.or_true, Bool.or_false, Bool.not_true, Bool.not_false, cond_true, cond_false])
    · have hb12_p : ¬ ((xs.length : Nat) : Int) > (256) := (of_decide_eq_false hb12)
      refine assume [45] hb12 (by kernel_rfl) (s' := [(45, .bool false), (0, .slice ao xs.length cap), (2, .bool false), (6, .int .i64 (takeR xs).1), (7, .int .i64 (takeR xs).2.1), (8, .int .i64 (takeR xs).2.2), (9, .int .i64 (0))]) (by kernel_rfl) ?_
      refine run (φ := []) [] 2 [0, 2, 6, 7, 8, 9] (m' := .n) (k' := [.code [1, 1, 1, 1, 1]]) (s' := [(0, .slice ao xs.length cap), (2, .bool false), (6, .int .i64 (takeR xs).1), (7, .int .i64 (takeR xs).2.1), (8, .int .i64 (takeR xs).2.2), (9, .int .i64 (0))]) (by kernel_rfl) trivial ?_
      exact conv hg' (by simp only [hb12, Bool.true_and, Bool.false_and, Bool.and_true, Bool.and_false, Bool.true_or, Bool.false_or, Bool.or_true, Bool.or_false, Bool.not_true, Bool.not_false, cond_true, cond_false])
  refine run (φ := []) [] 12 [0, 2, 6, 7, 8, 9, 10, 46, 47, 48] (m' := .n) (k' := [.code [1, 1, 1, 1, 1, 1, 0, 1, 0], .blk 0, .code [1, 1, 1, 1, 1, 1, 1]]) (s' := [(0, .slice ao xs.length cap), (2, .bool false), (6, .int .i64 (takeR xs).1), (7, .int .i64 (takeR xs).2.1), (8, .int .i64 (takeR xs).2.2), (9, .int .i64 (bif (decide (((xs.length : Nat) : Int) > (256))) then (2) else (0))), (10, .int .i64 (0)), (46, .slice ao xs.length cap), (47, .int .i64 ((xs.length : Nat) : Int)), (48, .int .i64 (0))]) (by kernel_rfl) trivial ?_
  refine loop (α := Nat) (fun i => [(0, .slice ao xs.length cap), (6, .int .i64 (takeR xs).1), (7, .int .i64 (takeR xs).2.1), (8, .int .i64 (takeR xs).2.2), (9, .int .i64 (wantTo xs i)), (10, .int .i64 (xorTo xs i)), (46, .slice ao xs.length cap), (47, .int .i64 ((xs.length : Nat) : Int)), (48, .int .i64 ((i : Nat) : Int))]) (fun (i : Nat) (u : World) => i ≤ xs.length ∧ w7 = u) (fun i => xs.length - i) (by kernel_rfl) 0 (by kernel_rfl) ⟨by omega, rfl⟩ ?_
  rintro i _ K13 ⟨hW14, rfl⟩ hK15
  refine run (φ := []) [] 5 [0, 6, 7, 8, 9, 10, 46, 47, 48, 49] (m' := .n) (k' := [.code [1, 1, 1, 1, 1, 1, 0, 1, 0, 0, 1, 0], .code [1, 1, 1, 1, 1, 1, 0, 1, 0, 0, 1, 1], .lp K13, .blk 0, .code [1, 1, 1, 1, 1, 1, 1]]) (s' := [(0, .slice ao xs.length cap), (6, .int .i64 (takeR xs).1), (7, .int .i64 (takeR xs).2.1), (8, .int .i64 (takeR xs).2.2), (9, .int .i64 (wantTo xs i)), (10, .int .i64 (xorTo xs i)), (46, .slice ao xs.length cap), (47, .int .i64 ((xs.length : Nat) : Int)), (48, .int .i64 ((i : Nat) : Int)), (49, .bool (decide (((i : Nat) : Int) < ((xs.length : Nat) : Int))))]) (by kernel_rfl) trivial ?_
  rcases Bool.eq_false_or_eq_true (decide (((i : Nat) : Int) < ((xs.length : Nat) : Int))) with hb16 | hb16
  · have hb16_p : ((i : Nat) : Int) < ((xs.length : Nat) : Int) := (of_decide_eq_true hb16)
    refine assume [49] hb16 (by kernel_rfl) (s' := [(49, .bool true), (0, .slice ao xs.length cap), (6, .int .i64 (takeR xs).1), (7, .int .i64 (takeR xs).2.1), (8, .int .i64 (takeR xs).2.2), (9, .int .i64 (wantTo xs i)), (10, .int .i64 (xorTo xs i)), (46, .slice ao xs.length cap), (47, .int .i64 ((xs.length : Nat) : Int)), (48, .int .i64 ((i : Nat) : Int))]) (by kernel_rfl) ?_
    refine run (φ := [0 ≤ ((i : Nat) : Int) ∧ ((i : Nat) : Int) < ((xs.length : Nat) : Int), (ao : Option Addr).isSome = true, ∀ w', w' = w7 → w'.cell? ((adr ao).add i) = some (.int .i64 (xs.getD i 0))]) [(51, .ld (.int .i64 (xs.getD i 0)))] 12 [0, 6, 7, 8, 9, 10, 12, 46, 47, 48] (m' := .n) (k' := [.code [1, 1, 1, 1, 1, 1, 0, 1, 0, 0, 1, 1, 0, 0, 1, 0, 0], .code [1, 1, 1, 1, 1, 1, 0, 1, 0, 0, 1, 1, 0, 0, 1, 0, 1], .code [1, 1, 1, 1, 1, 1, 0, 1, 0, 0, 1, 1, 0, 0, 1, 1], .blk 1, .code [1, 1, 1, 1, 1, 1, 0, 1, 0, 0, 1, 1, 1], .lp K13, .blk 0, .code [1, 1, 1, 1, 1, 1, 1]]) (s' := [(0, .slice ao xs.length cap), (6, .int .i64 (takeR xs).1), (7, .int .i64 (takeR xs).2.1), (8, .int .i64 (takeR xs).2.2), (9, .int .i64 (wantTo xs i)), (10, .int .i64 (xorTo xs i)), (12, .int .i64 (xs.getD i 0)), (46, .slice ao xs.length cap), (47, .int .i64 ((xs.length : Nat) : Int)), (48, .int .i64 ((i : Nat) : Int))]) (by kernel_rfl) ⟨(by omega), ((hr10 i (by omega)).1), (by rintro _ rfl; exact (hr10 i (by omega)).2), trivial⟩ ?_
    refine via (m' := .n) (k' := [.code [1, 1, 1, 1, 1, 1, 0, 1, 0, 0, 1, 1, 0, 0, 1, 0, 1], .code [1, 1, 1, 1, 1, 1, 0, 1, 0, 0, 1, 1, 0, 0, 1, 1], .blk 1, .code [1, 1, 1, 1, 1, 1, 0, 1, 0, 0, 1, 1, 1], .lp K13, .blk 0, .code [1, 1, 1, 1, 1, 1, 1]]) (s' := [(0, .slice ao xs.length cap), (6, .int .i64 (takeR xs).1), (7, .int .i64 (takeR xs).2.1), (8, .int .i64 (takeR xs).2.2), (9, .int .i64 (wantTo xs i)), (10, .int .i64 (xorTo xs i)), (12, .int .i64 (xs.getD i 0)), (46, .slice ao xs.length cap), (47, .int .i64 ((xs.length : Nat) : Int)), (48, .int .i64 ((i : Nat) : Int)), (58, .bool (((wantTo xs i) == (0)) && (!((decide ((xs.getD i 0) ≥ (0))) && (decide ((xs.getD i 0) ≤ (100000000)))))))]) ?_ ?_
    · intro Q' hg'
      refine run (φ := []) [] 4 [0, 6, 7, 8, 9, 10, 12, 46, 47, 48, 54] (m' := .n) (k' := [.ops [1, 1, 1, 1, 1, 1, 0, 1, 0, 0, 1, 1, 0, 0, 1, 0, 0] 3, .code [1, 1, 1, 1, 1, 1, 0, 1, 0, 0, 1, 1, 0, 0, 1, 0, 1], .code [1, 1, 1, 1, 1, 1, 0, 1, 0, 0, 1, 1, 0, 0, 1, 1], .blk 1, .code [1, 1, 1, 1, 1, 1, 0, 1, 0, 0, 1, 1, 1], .lp K13, .blk 0, .code [1, 1, 1, 1, 1, 1, 1]]) (s' := [(0, .slice ao xs.length cap), (6, .int .i64 (takeR xs).1), (7, .int .i64 (takeR xs).2.1), (8, .int .i64 (takeR xs).2.2), (9, .int .i64 (wantTo xs i)), (10, .int .i64 (xorTo xs i)), (12, .int .i64 (xs.getD i 0)), (46, .slice ao xs.length cap), (47, .int .i64 ((xs.length : Nat) : Int)), (48, .int .i64 ((i : Nat) : Int)), (54, .bool ((wantTo xs i) == (0)))]) (by kernel_rfl) trivial ?_
      rcases Bool.eq_false_or_eq_true ((wantTo xs i) == (0)) with hb17 | hb17
      · have hb17_p : (wantTo xs i) = (0) := (eq_of_beq hb17)
        refine assume [54] hb17 (by kernel_rfl) (s' := [(54, .bool true), (0, .slice ao xs.length cap), (6, .int .i64 (takeR xs).1), (7, .int .i64 (takeR xs).2.1), (8, .int .i64 (takeR xs).2.2), (9, .int .i64 (wantTo xs i)), (10, .int .i64 (xorTo xs i)), (12, .int .i64 (xs.getD i 0)), (46, .slice ao xs.length cap), (47, .int .i64 ((xs.length : Nat) : Int)), (48, .int .i64 ((i : Nat) : Int))]) (by kernel_rfl) ?_
        refine run (φ := [∀ w', w' = w7 → Calls Try.prog 16 #[.int .i64 (xs.getD i 0), .int .i64 (0), .int .i64 (100000000)] w' (fun e w'' => e = .returned (.bool ((decide ((xs.getD i 0) ≥ (0))) && (decide ((xs.getD i 0) ≤ (100000000))))) ∧ w'' = w7)]) [(56, .call (.bool ((decide ((xs.getD i 0) ≥ (0))) && (decide ((xs.getD i 0) ≤ (100000000))))))] 5 [0, 6, 7, 8, 9, 10, 12, 46, 47, 48, 58] (m' := .n) (k' := [.code [1, 1, 1, 1, 1, 1, 0, 1, 0, 0, 1, 1, 0, 0, 1, 0, 1], .code [1, 1, 1, 1, 1, 1, 0, 1, 0, 0, 1, 1, 0, 0, 1, 1], .blk 1, .code [1, 1, 1, 1, 1, 1, 0, 1, 0, 0, 1, 1, 1], .lp K13, .blk 0, .code [1, 1, 1, 1, 1, 1, 1]]) (s' := [(0, .slice ao xs.length cap), (6, .int .i64 (takeR xs).1), (7, .int .i64 (takeR xs).2.1), (8, .int .i64 (takeR xs).2.2), (9, .int .i64 (wantTo xs i)), (10, .int .i64 (xorTo xs i)), (12, .int .i64 (xs.getD i 0)), (46, .slice ao xs.length cap), (47, .int .i64 ((xs.length : Nat) : Int)), (48, .int .i64 ((i : Nat) : Int)), (58, .bool (!((decide ((xs.getD i 0) ≥ (0))) && (decide ((xs.getD i 0) ≤ (100000000))))))]) (by kernel_rfl) ⟨(by rintro _ rfl; exact in_any _ _ _ _), trivial⟩ ?_
        skip
        exact conv hg' (by simp only [hb17, Bool.true_and, Bool.false_and, Bool.and_true, Bool.and_false, Bool.true_or, Bool.false_or, Bool.or_true, Bool.or_false, Bool.not_true, Bool.not_false, cond_true, cond_false])
      · have hb17_p : (wantTo xs i) ≠ (0) := (ne_of_beq_false hb17)
        refine assume [54] hb17 (by kernel_rfl) (s' := [(54, .bool false), (0, .slice ao xs.length cap), (6, .int .i64 (takeR xs).1), (7, .int .i64 (takeR xs).2.1), (8, .int .i64 (takeR xs).2.2), (9, .int .i64 (wantTo xs i)), (10, .int .i64 (xorTo xs i)), (12, .int .i64 (xs.getD i 0)), (46, .slice ao xs.length cap), (47, .int .i64 ((xs.length : Nat) : Int)), (48, .int .i64 ((i : Nat) : Int))]) (by kernel_rfl) ?_
        refine run (φ := []) [] 5 [0, 6, 7, 8, 9, 10, 12, 46, 47, 48, 58] (m' := .n) (k' := [.code [1, 1, 1, 1, 1, 1, 0, 1, 0, 0, 1, 1, 0, 0, 1, 0, 1], .code [1, 1, 1, 1, 1, 1, 0, 1, 0, 0, 1, 1, 0, 0, 1, 1], .blk 1, .code [1, 1, 1, 1, 1, 1, 0, 1, 0, 0, 1, 1, 1], .lp K13, .blk 0, .code [1, 1, 1, 1, 1, 1, 1]]) (s' := [(0, .slice ao xs.length cap), (6, .int .i64 (takeR xs).1), (7, .int .i64 (takeR xs).2.1), (8, .int .i64 (takeR xs).2.2), (9, .int .i64 (wantTo xs i)), (10, .int .i64 (xorTo xs i)), (12, .int .i64 (xs.getD i 0)), (46, .slice ao xs.length cap), (47, .int .i64 ((xs.length : Nat) : Int)), (48, .int .i64 ((i : Nat) : Int)), (58, .bool false)]) (by kernel_rfl) trivial ?_
        skip
        exact conv hg' (by simp only [hb17, Bool.true_and, Bool.false_and, Bool.and_true, Bool.and_false, Bool.true_or, Bool.false_or, Bool.or_true, Bool.or_false, Bool.not_true, Bool.not_false, cond_true, cond_false])
    refine via (m' := .n) (k' := [.code [1, 1, 1, 1, 1, 1, 0, 1, 0, 0, 1, 1, 0, 0, 1, 1], .blk 1, .code [1, 1, 1, 1, 1, 1, 0, 1, 0, 0, 1, 1, 1], .lp K13, .blk 0, .code [1, 1, 1, 1, 1, 1, 1]]) (s' := [(0, .slice ao xs.length cap), (6, .int .i64 (takeR xs).1), (7, .int .i64 (takeR xs).2.1), (8, .int .i64 (takeR xs).2.2), (9, .int .i64 (bif (((wantTo xs i) == (0)) && (!((decide ((xs.getD i 0) ≥ (0))) && (decide ((xs.getD i 0) ≤ (100000000)))))) then (4) else (wantTo xs i))), (10, .int .i64 (xorTo xs i)), (12, .int .i64 (xs.getD i 0)), (46, .slice ao xs.length cap), (47, .int .i64 ((xs.length : Nat) : Int)), (48, .int .i64 ((i : Nat) : Int))]) ?_ ?_
    · intro Q' hg'
      rcases Bool.eq_false_or_eq_true (((wantTo xs i) == (0)) && (!((decide ((xs.getD i 0) ≥ (0))) && (decide ((xs.getD i 0) ≤ (100000000)))))) with hb18 | hb18
      · have hb18_p : ((wantTo xs i) = (0) ∧ (¬ (xs.getD i 0) ≥ (0) ∨ ¬ (xs.getD i 0) ≤ (100000000))) := ⟨(eq_of_beq (and_l hb18)), ((and_f (not_t (and_r hb18))).elim (fun h => .inl (of_decide_eq_false h)) (fun h => .inr (of_decide_eq_false h)))⟩
        refine assume [58] hb18 (by kernel_rfl) (s' := [(58, .bool true), (0, .slice ao xs.length cap), (6, .int .i64 (takeR xs).1), (7, .int .i64 (takeR xs).2.1), (8, .int .i64 (takeR xs).2.2), (9, .int .i64 (wantTo xs i)), (10, .int .i64 (xorTo xs i)), (12, .int .i64 (xs.getD i 0)), (46, .slice ao xs.length cap), (47, .int .i64 ((xs.length : Nat) : Int)), (48, .int .i64 ((i : Nat) : Int))]) (by kernel_rfl) ?_
        refine run (φ := []) [] 4 [0, 6, 7, 8, 9, 10, 12, 46, 47, 48] (m' := .n) (k' := [.code [1, 1, 1, 1, 1, 1, 0, 1, 0, 0, 1, 1, 0, 0, 1, 1], .blk 1, .code [1, 1, 1, 1, 1, 1, 0, 1, 0, 0, 1, 1, 1], .lp K13, .blk 0, .code [1, 1, 1, 1, 1, 1, 1]]) (s' := [(0, .slice ao xs.length cap), (6, .int .i64 (takeR xs).1), (7, .int .i64 (takeR xs).2.1), (8, .int .i64 (takeR xs).2.2), (9, .int .i64 (4)), (10, .int .i64 (xorTo xs i)), (12, .int .i64 (xs.getD i 0)), (46, .slice ao xs.length cap), (47, .int .i64 ((xs.length : Nat) : Int)), (48, .int .i64 ((i : Nat) : Int))]) (by kernel_rfl) trivial ?_
        exact conv hg' (by simp only [hb18, Bool.true_and, Bool.false_and, Bool.and_true, Bool.and_false, Bool.true_or, Bool.false_or, Bool.or_true, Bool.or_false, Bool.not_true, Bool.not_false, cond_true, cond_false])
      · have hb18_p : ((wantTo xs i) ≠ (0) ∨ ((xs.getD i 0) ≥ (0) ∧ (xs.getD i 0) ≤ (100000000))) := ((and_f hb18).elim (fun h => .inl (ne_of_beq_false h)) (fun h => .inr ⟨(of_decide_eq_true (and_l (not_f h))), (of_decide_eq_true (and_r (not_f h)))⟩))
        refine assume [58] hb18 (by kernel_rfl) (s' := [(58, .bool false), (0, .slice ao xs.length cap), (6, .int .i64 (takeR xs).1), (7, .int .i64 (takeR xs).2.1), (8, .int .i64 (takeR xs).2.2), (9, .int .i64 (wantTo xs i)), (10, .int .i64 (xorTo xs i)), (12, .int .i64 (xs.getD i 0)), (46, .slice ao xs.length cap), (47, .int .i64 ((xs.length : Nat) : Int)), (48, .int .i64 ((i : Nat) : Int))]) (by kernel_rfl) ?_
        refine run (φ := []) [] 2 [0, 6, 7, 8, 9, 10, 12, 46, 47, 48] (m' := .n) (k' := [.code [1, 1, 1, 1, 1, 1, 0, 1, 0, 0, 1, 1, 0, 0, 1, 1], .blk 1, .code [1, 1, 1, 1, 1, 1, 0, 1, 0, 0, 1, 1, 1], .lp K13, .blk 0, .code [1, 1, 1, 1, 1, 1, 1]]) (s' := [(0, .slice ao xs.length cap), (6, .int .i64 (takeR xs).1), (7, .int .i64 (takeR xs).2.1), (8, .int .i64 (takeR xs).2.2), (9, .int .i64 (wantTo xs i)), (10, .int .i64 (xorTo xs i)), (12, .int .i64 (xs.getD i 0)), (46, .slice ao xs.length cap), (47, .int .i64 ((xs.length : Nat) : Int)), (48, .int .i64 ((i : Nat) : Int))]) (by kernel_rfl) trivial ?_
        exact conv hg' (by simp only [hb18, Bool.true_and, Bool.false_and, Bool.and_true, Bool.and_false, Bool.true_or, Bool.false_or, Bool.or_true, Bool.or_false, Bool.not_true, Bool.not_false, cond_true, cond_false])
    refine run (φ := [InR .i64 (((i : Nat) : Int) + (1))]) [] 11 [0, 6, 7, 8, 9, 10, 46, 47, 48] (m' := .n) (k' := [.lp K13, .blk 0, .code [1, 1, 1, 1, 1, 1, 1]]) (s' := [(0, .slice ao xs.length cap), (6, .int .i64 (takeR xs).1), (7, .int .i64 (takeR xs).2.1), (8, .int .i64 (takeR xs).2.2), (9, .int .i64 (bif (((wantTo xs i) == (0)) && (!((decide ((xs.getD i 0) ≥ (0))) && (decide ((xs.getD i 0) ≤ (100000000)))))) then (4) else (wantTo xs i))), (10, .int .i64 (xor64 (xorTo xs i) (xs.getD i 0))), (46, .slice ao xs.length cap), (47, .int .i64 ((xs.length : Nat) : Int)), (48, .int .i64 (((i : Nat) : Int) + (1)))]) (by kernel_rfl) ⟨(by unfold InR; omega), trivial⟩ ?_
    exact back (hK15 (i + 1) _ ⟨by omega, rfl⟩ (by omega)) (by kernel_rfl)
  · have hb16_p : ¬ ((i : Nat) : Int) < ((xs.length : Nat) : Int) := (of_decide_eq_false hb16)
    refine assume [49] hb16 (by kernel_rfl) (s' := [(49, .bool false), (0, .slice ao xs.length cap), (6, .int .i64 (takeR xs).1), (7, .int .i64 (takeR xs).2.1), (8, .int .i64 (takeR xs).2.2), (9, .int .i64 (wantTo xs i)), (10, .int .i64 (xorTo xs i)), (46, .slice ao xs.length cap), (47, .int .i64 ((xs.length : Nat) : Int)), (48, .int .i64 ((i : Nat) : Int))]) (by kernel_rfl) ?_
    obtain rfl : i = xs.length := by omega
    refine run (φ := []) [] 11 [0, 6, 7, 8, 9, 10, 64] (m' := .n) (k' := [.code [1, 1, 1, 1, 1, 1, 1, 0, 1], .code [1, 1, 1, 1, 1, 1, 1, 1]]) (s' := [(0, .slice ao xs.length cap), (6, .int .i64 (takeR xs).1), (7, .int .i64 (takeR xs).2.1), (8, .int .i64 (takeR xs).2.2), (9, .int .i64 (wantTo xs xs.length)), (10, .int .i64 (xorTo xs xs.length)), (64, .bool ((wantTo xs xs.length) != (0)))]) (by kernel_rfl) trivial ?_
    rcases Bool.eq_false_or_eq_true ((wantTo xs xs.length) != (0)) with hb19 | hb19
    · have hb19_p : (wantTo xs xs.length) ≠ (0) := (ne_of_bne' hb19)
      refine assume [64] hb19 (by kernel_rfl) (s' := [(64, .bool true), (0, .slice ao xs.length cap), (6, .int .i64 (takeR xs).1), (7, .int .i64 (takeR xs).2.1), (8, .int .i64 (takeR xs).2.2), (9, .int .i64 (wantTo xs xs.length)), (10, .int .i64 (xorTo xs xs.length))]) (by kernel_rfl) ?_
      refine run (φ := []) [] 2 [0, 6, 7, 8, 9, 10] (m' := .n) (k' := [.code [1, 1, 1, 1, 1, 1, 1, 0, 1, 0, 0], .code [1, 1, 1, 1, 1, 1, 1, 0, 1, 0, 1], .code [1, 1, 1, 1, 1, 1, 1, 1]]) (s' := [(0, .slice ao xs.length cap), (6, .int .i64 (takeR xs).1), (7, .int .i64 (takeR xs).2.1), (8, .int .i64 (takeR xs).2.2), (9, .int .i64 (wantTo xs xs.length)), (10, .int .i64 (xorTo xs xs.length))]) (by kernel_rfl) trivial ?_
      refine via (m' := .n) (k' := [.code [1, 1, 1, 1, 1, 1, 1, 0, 1, 0, 1], .code [1, 1, 1, 1, 1, 1, 1, 1]]) (s' := [(0, .slice ao xs.length cap), (2, .bool (((takeR xs).2.2 == (wantTo xs xs.length)) && (((takeR xs).1 == (0)) && ((takeR xs).2.1 == (0))))), (6, .int .i64 (takeR xs).1), (7, .int .i64 (takeR xs).2.1), (8, .int .i64 (takeR xs).2.2), (10, .int .i64 (xorTo xs xs.length))]) ?_ ?_
      · intro Q' hg'
        refine run (φ := []) [] 5 [0, 6, 7, 8, 10, 68] (m' := .n) (k' := [.ops [1, 1, 1, 1, 1, 1, 1, 0, 1, 0, 0] 4, .code [1, 1, 1, 1, 1, 1, 1, 0, 1, 0, 1], .code [1, 1, 1, 1, 1, 1, 1, 1]]) (s' := [(0, .slice ao xs.length cap), (6, .int .i64 (takeR xs).1), (7, .int .i64 (takeR xs).2.1), (8, .int .i64 (takeR xs).2.2), (10, .int .i64 (xorTo xs xs.length)), (68, .bool ((takeR xs).2.2 == (wantTo xs xs.length)))]) (by kernel_rfl) trivial ?_
        rcases Bool.eq_false_or_eq_true ((takeR xs).2.2 == (wantTo xs xs.length)) with hb20 | hb20
        · have hb20_p : (takeR xs).2.2 = (wantTo xs xs.length) := (eq_of_beq hb20)
          refine assume [68] hb20 (by kernel_rfl) (s' := [(68, .bool true), (0, .slice ao xs.length cap), (6, .int .i64 (takeR xs).1), (7, .int .i64 (takeR xs).2.1), (8, .int .i64 (takeR xs).2.2), (10, .int .i64 (xorTo xs xs.length))]) (by kernel_rfl) ?_
          refine run (φ := []) [] 4 [0, 6, 7, 8, 10, 72] (m' := .n) (k' := [.ops [1, 1, 1, 1, 1, 1, 1, 0, 1, 0, 0] 8, .code [1, 1, 1, 1, 1, 1, 1, 0, 1, 0, 1], .code [1, 1, 1, 1, 1, 1, 1, 1]]) (s' := [(0, .slice ao xs.length cap), (6, .int .i64 (takeR xs).1), (7, .int .i64 (takeR xs).2.1), (8, .int .i64 (takeR xs).2.2), (10, .int .i64 (xorTo xs xs.length)), (72, .bool ((takeR xs).1 == (0)))]) (by kernel_rfl) trivial ?_
          rcases Bool.eq_false_or_eq_true ((takeR xs).1 == (0)) with hb21 | hb21
          · have hb21_p : (takeR xs).1 = (0) := (eq_of_beq hb21)
            refine assume [72] hb21 (by kernel_rfl) (s' := [(72, .bool true), (0, .slice ao xs.length cap), (6, .int .i64 (takeR xs).1), (7, .int .i64 (takeR xs).2.1), (8, .int .i64 (takeR xs).2.2), (10, .int .i64 (xorTo xs xs.length))]) (by kernel_rfl) ?_
            refine run (φ := []) [] 5 [0, 2, 6, 7, 8, 10] (m' := .n) (k' := [.code [1, 1, 1, 1, 1, 1, 1, 0, 1, 0, 1], .code [1, 1, 1, 1, 1, 1, 1, 1]]) (s' := [(0, .slice ao xs.length cap), (2, .bool ((takeR xs).2.1 == (0))), (6, .int .i64 (takeR xs).1), (7, .int .i64 (takeR xs).2.1), (8, .int .i64 (takeR xs).2.2), (10, .int .i64 (xorTo xs xs.length))]) (by kernel_rfl) trivial ?_
            skip
            exact conv hg' (by simp only [hb20, hb21, Bool.true_and, Bool.false_and, Bool.and_true, Bool.and_false, Bool.true_or, Bool.false_or, Bool.or_true, Bool.or_false, Bool.not_true, Bool.not_false, cond_true, cond_false])
          · have hb21_p : (takeR xs).1 ≠ (0) := (ne_of_beq_false hb21)
            refine assume [72] hb21 (by kernel_rfl) (s' := [(72, .bool false), (0, .slice ao xs.length cap), (6, .int .i64 (takeR xs).1), (7, .int .i64 (takeR xs).2.1), (8, .int .i64 (takeR xs).2.2), (10, .int .i64 (xorTo xs xs.length))]) (by kernel_rfl) ?_
            refine run (φ := []) [] 5 [0, 2, 6, 7, 8, 10] (m' := .n) (k' := [.code [1, 1, 1, 1, 1, 1, 1, 0, 1, 0, 1], .code [1, 1, 1, 1, 1, 1, 1, 1]]) (s' := [(0, .slice ao xs.length cap), (2, .bool false), (6, .int .i64 (takeR xs).1), (7, .int .i64 (takeR xs).2.1), (8, .int .i64 (takeR xs).2.2), (10, .int .i64 (xorTo xs xs.length))]) (by kernel_rfl) trivial ?_
            skip
            exact conv hg' (by simp only [hb20, hb21, Bool.true_and, Bool.false_and, Bool.and_true, Bool.and_false, Bool.true_or, Bool.false_or, Bool.or_true, Bool.or_false, Bool.not_true, Bool.not_false, cond_true, cond_false])
        · have hb20_p : (takeR xs).2.2 ≠ (wantTo xs xs.length) := (ne_of_beq_false hb20)
          refine assume [68] hb20 (by kernel_rfl) (s' := [(68, .bool false), (0, .slice ao xs.length cap), (6, .int .i64 (takeR xs).1), (7, .int .i64 (takeR xs).2.1), (8, .int .i64 (takeR xs).2.2), (10, .int .i64 (xorTo xs xs.length))]) (by kernel_rfl) ?_
          refine run (φ := []) [] 9 [0, 2, 6, 7, 8, 10] (m' := .n) (k' := [.code [1, 1, 1, 1, 1, 1, 1, 0, 1, 0, 1], .code [1, 1, 1, 1, 1, 1, 1, 1]]) (s' := [(0, .slice ao xs.length cap), (2, .bool false), (6, .int .i64 (takeR xs).1), (7, .int .i64 (takeR xs).2.1), (8, .int .i64 (takeR xs).2.2), (10, .int .i64 (xorTo xs xs.length))]) (by kernel_rfl) trivial ?_
          skip
          exact conv hg' (by simp only [hb20, Bool.true_and, Bool.false_and, Bool.and_true, Bool.and_false, Bool.true_or, Bool.false_or, Bool.or_true, Bool.or_false, Bool.not_true, Bool.not_false, cond_true, cond_false])
      refine run (φ := []) [] 1 [2] (m' := .r) (k' := [.code [1, 1, 1, 1, 1, 1, 1, 1]]) (s' := [(2, .bool (((takeR xs).2.2 == (wantTo xs xs.length)) && (((takeR xs).1 == (0)) && ((takeR xs).2.1 == (0)))))]) (by kernel_rfl) trivial ?_
      exact ret_tmps (vs := [.bool (((takeR xs).2.2 == (wantTo xs xs.length)) && (((takeR xs).1 == (0)) && ((takeR xs).2.1 == (0))))]) (by kernel_rfl) ⟨ret_true (by rw [law_bad xs hb19_p]; simp), bel11⟩
    · have hb19_p : (wantTo xs xs.length) = (0) := (eq_of_bne' hb19)
      refine assume [64] hb19 (by kernel_rfl) (s' := [(64, .bool false), (0, .slice ao xs.length cap), (6, .int .i64 (takeR xs).1), (7, .int .i64 (takeR xs).2.1), (8, .int .i64 (takeR xs).2.2), (9, .int .i64 (wantTo xs xs.length)), (10, .int .i64 (xorTo xs xs.length))]) (by kernel_rfl) ?_
      refine run (φ := [∀ w', w' = w7 → Calls Try.prog 15 #[.slice ao xs.length cap] w' (fun e w'' => e = .returned (.int .i64 (xorTo xs xs.length)) ∧ w'' = w7)]) [(77, .call (.int .i64 (xorTo xs xs.length)))] 10 [0, 6, 7, 8, 10, 79] (m' := .n) (k' := [.code [1, 1, 1, 1, 1, 1, 1, 1, 0, 1], .code [1, 1, 1, 1, 1, 1, 1, 1, 1]]) (s' := [(0, .slice ao xs.length cap), (6, .int .i64 (takeR xs).1), (7, .int .i64 (takeR xs).2.1), (8, .int .i64 (takeR xs).2.2), (10, .int .i64 (xorTo xs xs.length)), (79, .bool ((xorTo xs xs.length) != (xorTo xs xs.length)))]) (by kernel_rfl) ⟨(by rintro _ rfl; exact sum_any _ _ _ _ hr10 hl), trivial⟩ ?_
      rcases Bool.eq_false_or_eq_true ((xorTo xs xs.length) != (xorTo xs xs.length)) with hb22 | hb22
      · have hb22_p : (xorTo xs xs.length) ≠ (xorTo xs xs.length) := (ne_of_bne' hb22)
        refine assume [79] hb22 (by kernel_rfl) (s' := [(79, .bool true), (0, .slice ao xs.length cap), (6, .int .i64 (takeR xs).1), (7, .int .i64 (takeR xs).2.1), (8, .int .i64 (takeR xs).2.2), (10, .int .i64 (xorTo xs xs.length))]) (by kernel_rfl) ?_
        refine run (φ := []) [] 6 [2] (m' := .r) (k' := [.code [1, 1, 1, 1, 1, 1, 1, 1, 1]]) (s' := [(2, .bool false)]) (by kernel_rfl) trivial ?_
        exact ret_tmps (vs := [.bool false]) (by kernel_rfl) ⟨ret_true (by simp at hb22_p), bel11⟩
      · have hb22_p : (xorTo xs xs.length) = (xorTo xs xs.length) := (eq_of_bne' hb22)
        refine assume [79] hb22 (by kernel_rfl) (s' := [(79, .bool false), (0, .slice ao xs.length cap), (6, .int .i64 (takeR xs).1), (7, .int .i64 (takeR xs).2.1), (8, .int .i64 (takeR xs).2.2), (10, .int .i64 (xorTo xs xs.length))]) (by kernel_rfl) ?_
        refine run (φ := []) [] 10 [6, 7, 8, 10, 80, 81, 82] (m' := .n) (k' := [.code [1, 1, 1, 1, 1, 1, 1, 1, 1, 0, 1, 0], .blk 2, .code [1, 1, 1, 1, 1, 1, 1, 1, 1, 1]]) (s' := [(6, .int .i64 (takeR xs).1), (7, .int .i64 (takeR xs).2.1), (8, .int .i64 (takeR xs).2.2), (10, .int .i64 (xorTo xs xs.length)), (80, .slice ao xs.length cap), (81, .int .i64 ((xs.length : Nat) : Int)), (82, .int .i64 (0))]) (by kernel_rfl) trivial ?_
        refine loop (α := Nat) (fun j => [(6, .int .i64 (takeR xs).1), (7, .int .i64 (takeR xs).2.1), (8, .int .i64 (takeR xs).2.2), (10, .int .i64 (xorTo xs xs.length)), (80, .slice ao xs.length cap), (81, .int .i64 ((xs.length : Nat) : Int)), (82, .int .i64 ((j : Nat) : Int))]) (fun (j : Nat) (u : World) => j ≤ xs.length ∧ (∀ l, l < j → low xs l = false) ∧ w7 = u) (fun j => xs.length - j) (by kernel_rfl) 0 (by kernel_rfl) ⟨by omega, fun l hl => by omega, rfl⟩ ?_
        rintro j _ K23 ⟨hjl, hj, rfl⟩ hK25
        refine run (φ := []) [] 5 [6, 7, 8, 10, 80, 81, 82, 83] (m' := .n) (k' := [.code [1, 1, 1, 1, 1, 1, 1, 1, 1, 0, 1, 0, 0, 1, 0], .code [1, 1, 1, 1, 1, 1, 1, 1, 1, 0, 1, 0, 0, 1, 1], .lp K23, .blk 2, .code [1, 1, 1, 1, 1, 1, 1, 1, 1, 1]]) (s' := [(6, .int .i64 (takeR xs).1), (7, .int .i64 (takeR xs).2.1), (8, .int .i64 (takeR xs).2.2), (10, .int .i64 (xorTo xs xs.length)), (80, .slice ao xs.length cap), (81, .int .i64 ((xs.length : Nat) : Int)), (82, .int .i64 ((j : Nat) : Int)), (83, .bool (decide (((j : Nat) : Int) < ((xs.length : Nat) : Int))))]) (by kernel_rfl) trivial ?_
        rcases Bool.eq_false_or_eq_true (decide (((j : Nat) : Int) < ((xs.length : Nat) : Int))) with hb26 | hb26
        · have hb26_p : ((j : Nat) : Int) < ((xs.length : Nat) : Int) := (of_decide_eq_true hb26)
          refine assume [83] hb26 (by kernel_rfl) (s' := [(83, .bool true), (6, .int .i64 (takeR xs).1), (7, .int .i64 (takeR xs).2.1), (8, .int .i64 (takeR xs).2.2), (10, .int .i64 (xorTo xs xs.length)), (80, .slice ao xs.length cap), (81, .int .i64 ((xs.length : Nat) : Int)), (82, .int .i64 ((j : Nat) : Int))]) (by kernel_rfl) ?_
          refine run (φ := [0 ≤ ((j : Nat) : Int) ∧ ((j : Nat) : Int) < ((xs.length : Nat) : Int), (ao : Option Addr).isSome = true, ∀ w', w' = w7 → w'.cell? ((adr ao).add j) = some (.int .i64 (xs.getD j 0))]) [(86, .ld (.int .i64 (xs.getD j 0)))] 25 [6, 7, 8, 10, 13, 15, 80, 81, 82, 92] (m' := .n) (k' := [.code [1, 1, 1, 1, 1, 1, 1, 1, 1, 0, 1, 0, 0, 1, 1, 0, 0, 1, 1, 1], .blk 3, .code [1, 1, 1, 1, 1, 1, 1, 1, 1, 0, 1, 0, 0, 1, 1, 1], .lp K23, .blk 2, .code [1, 1, 1, 1, 1, 1, 1, 1, 1, 1]]) (s' := [(6, .int .i64 (takeR xs).1), (7, .int .i64 (takeR xs).2.1), (8, .int .i64 (takeR xs).2.2), (10, .int .i64 (xorTo xs xs.length)), (13, .int .i64 ((j : Nat) : Int)), (15, .int .i64 (xor64 (xorTo xs xs.length) (xs.getD j 0))), (80, .slice ao xs.length cap), (81, .int .i64 ((xs.length : Nat) : Int)), (82, .int .i64 ((j : Nat) : Int)), (92, .bool (decide ((xor64 (xorTo xs xs.length) (xs.getD j 0)) < (xs.getD j 0))))]) (by kernel_rfl) ⟨(by omega), ((hr10 j (by omega)).1), (by rintro _ rfl; exact (hr10 j (by omega)).2), trivial⟩ ?_
          rcases Bool.eq_false_or_eq_true (decide ((xor64 (xorTo xs xs.length) (xs.getD j 0)) < (xs.getD j 0))) with hb27 | hb27
          · have hb27_p : (xor64 (xorTo xs xs.length) (xs.getD j 0)) < (xs.getD j 0) := (of_decide_eq_true hb27)
            refine assume [92] hb27 (by kernel_rfl) (s' := [(92, .bool true), (6, .int .i64 (takeR xs).1), (7, .int .i64 (takeR xs).2.1), (8, .int .i64 (takeR xs).2.2), (10, .int .i64 (xorTo xs xs.length)), (13, .int .i64 ((j : Nat) : Int)), (15, .int .i64 (xor64 (xorTo xs xs.length) (xs.getD j 0))), (80, .slice ao xs.length cap), (81, .int .i64 ((xs.length : Nat) : Int)), (82, .int .i64 ((j : Nat) : Int))]) (by kernel_rfl) ?_
            refine run (φ := []) [] 2 [6, 7, 8, 10, 13, 15, 80, 81, 82] (m' := .n) (k' := [.code [1, 1, 1, 1, 1, 1, 1, 1, 1, 0, 1, 0, 0, 1, 1, 0, 0, 1, 1, 1, 0, 0], .code [1, 1, 1, 1, 1, 1, 1, 1, 1, 0, 1, 0, 0, 1, 1, 0, 0, 1, 1, 1, 0, 1], .blk 3, .code [1, 1, 1, 1, 1, 1, 1, 1, 1, 0, 1, 0, 0, 1, 1, 1], .lp K23, .blk 2, .code [1, 1, 1, 1, 1, 1, 1, 1, 1, 1]]) (s' := [(6, .int .i64 (takeR xs).1), (7, .int .i64 (takeR xs).2.1), (8, .int .i64 (takeR xs).2.2), (10, .int .i64 (xorTo xs xs.length)), (13, .int .i64 ((j : Nat) : Int)), (15, .int .i64 (xor64 (xorTo xs xs.length) (xs.getD j 0))), (80, .slice ao xs.length cap), (81, .int .i64 ((xs.length : Nat) : Int)), (82, .int .i64 ((j : Nat) : Int))]) (by kernel_rfl) trivial ?_
            refine via (m' := .n) (k' := [.code [1, 1, 1, 1, 1, 1, 1, 1, 1, 0, 1, 0, 0, 1, 1, 0, 0, 1, 1, 1, 0, 1], .blk 3, .code [1, 1, 1, 1, 1, 1, 1, 1, 1, 0, 1, 0, 0, 1, 1, 1], .lp K23, .blk 2, .code [1, 1, 1, 1, 1, 1, 1, 1, 1, 1]]) (s' := [(2, .bool (((takeR xs).2.2 == (0)) && (((takeR xs).1 == ((j : Nat) : Int)) && ((takeR xs).2.1 == (xor64 (xorTo xs xs.length) (xs.getD j 0)))))), (6, .int .i64 (takeR xs).1), (7, .int .i64 (takeR xs).2.1), (8, .int .i64 (takeR xs).2.2), (10, .int .i64 (xorTo xs xs.length)), (80, .slice ao xs.length cap), (81, .int .i64 ((xs.length : Nat) : Int)), (82, .int .i64 ((j : Nat) : Int))]) ?_ ?_
            · intro Q' hg'
              refine run (φ := []) [] 4 [6, 7, 8, 10, 13, 15, 80, 81, 82, 95] (m' := .n) (k' := [.ops [1, 1, 1, 1, 1, 1, 1, 1, 1, 0, 1, 0, 0, 1, 1, 0, 0, 1, 1, 1, 0, 0] 3, .code [1, 1, 1, 1, 1, 1, 1, 1, 1, 0, 1, 0, 0, 1, 1, 0, 0, 1, 1, 1, 0, 1], .blk 3, .code [1, 1, 1, 1, 1, 1, 1, 1, 1, 0, 1, 0, 0, 1, 1, 1], .lp K23, .blk 2, .code [1, 1, 1, 1, 1, 1, 1, 1, 1, 1]]) (s' := [(6, .int .i64 (takeR xs).1), (7, .int .i64 (takeR xs).2.1), (8, .int .i64 (takeR xs).2.2), (10, .int .i64 (xorTo xs xs.length)), (13, .int .i64 ((j : Nat) : Int)), (15, .int .i64 (xor64 (xorTo xs xs.length) (xs.getD j 0))), (80, .slice ao xs.length cap), (81, .int .i64 ((xs.length : Nat) : Int)), (82, .int .i64 ((j : Nat) : Int)), (95, .bool ((takeR xs).2.2 == (0)))]) (by kernel_rfl) trivial ?_
              rcases Bool.eq_false_or_eq_true ((takeR xs).2.2 == (0)) with hb28 | hb28
              · have hb28_p : (takeR xs).2.2 = (0) := (eq_of_beq hb28)
                refine assume [95] hb28 (by kernel_rfl) (s' := [(95, .bool true), (6, .int .i64 (takeR xs).1), (7, .int .i64 (takeR xs).2.1), (8, .int .i64 (takeR xs).2.2), (10, .int .i64 (xorTo xs xs.length)), (13, .int .i64 ((j : Nat) : Int)), (15, .int .i64 (xor64 (xorTo xs xs.length) (xs.getD j 0))), (80, .slice ao xs.length cap), (81, .int .i64 ((xs.length : Nat) : Int)), (82, .int .i64 ((j : Nat) : Int))]) (by kernel_rfl) ?_
                refine run (φ := []) [] 5 [6, 7, 8, 10, 15, 80, 81, 82, 100] (m' := .n) (k' := [.ops [1, 1, 1, 1, 1, 1, 1, 1, 1, 0, 1, 0, 0, 1, 1, 0, 0, 1, 1, 1, 0, 0] 8, .code [1, 1, 1, 1, 1, 1, 1, 1, 1, 0, 1, 0, 0, 1, 1, 0, 0, 1, 1, 1, 0, 1], .blk 3, .code [1, 1, 1, 1, 1, 1, 1, 1, 1, 0, 1, 0, 0, 1, 1, 1], .lp K23, .blk 2, .code [1, 1, 1, 1, 1, 1, 1, 1, 1, 1]]) (s' := [(6, .int .i64 (takeR xs).1), (7, .int .i64 (takeR xs).2.1), (8, .int .i64 (takeR xs).2.2), (10, .int .i64 (xorTo xs xs.length)), (15, .int .i64 (xor64 (xorTo xs xs.length) (xs.getD j 0))), (80, .slice ao xs.length cap), (81, .int .i64 ((xs.length : Nat) : Int)), (82, .int .i64 ((j : Nat) : Int)), (100, .bool ((takeR xs).1 == ((j : Nat) : Int)))]) (by kernel_rfl) trivial ?_
                rcases Bool.eq_false_or_eq_true ((takeR xs).1 == ((j : Nat) : Int)) with hb29 | hb29
                · have hb29_p : (takeR xs).1 = ((j : Nat) : Int) := (eq_of_beq hb29)
                  refine assume [100] hb29 (by kernel_rfl) (s' := [(100, .bool true), (6, .int .i64 (takeR xs).1), (7, .int .i64 (takeR xs).2.1), (8, .int .i64 (takeR xs).2.2), (10, .int .i64 (xorTo xs xs.length)), (15, .int .i64 (xor64 (xorTo xs xs.length) (xs.getD j 0))), (80, .slice ao xs.length cap), (81, .int .i64 ((xs.length : Nat) : Int)), (82, .int .i64 ((j : Nat) : Int))]) (by kernel_rfl) ?_
                  refine run (φ := []) [] 6 [2, 6, 7, 8, 10, 80, 81, 82] (m' := .n) (k' := [.code [1, 1, 1, 1, 1, 1, 1, 1, 1, 0, 1, 0, 0, 1, 1, 0, 0, 1, 1, 1, 0, 1], .blk 3, .code [1, 1, 1, 1, 1, 1, 1, 1, 1, 0, 1, 0, 0, 1, 1, 1], .lp K23, .blk 2, .code [1, 1, 1, 1, 1, 1, 1, 1, 1, 1]]) (s' := [(2, .bool ((takeR xs).2.1 == (xor64 (xorTo xs xs.length) (xs.getD j 0)))), (6, .int .i64 (takeR xs).1), (7, .int .i64 (takeR xs).2.1), (8, .int .i64 (takeR xs).2.2), (10, .int .i64 (xorTo xs xs.length)), (80, .slice ao xs.length cap), (81, .int .i64 ((xs.length : Nat) : Int)), (82, .int .i64 ((j : Nat) : Int))]) (by kernel_rfl) trivial ?_
                  skip
                  exact conv hg' (by simp only [hb28, hb29, Bool.true_and, Bool.false_and, Bool.and_true, Bool.and_false, Bool.true_or, Bool.false_or, Bool.or_true, Bool.or_false, Bool.not_true, Bool.not_false, cond_true, cond_false])
                · have hb29_p : (takeR xs).1 ≠ ((j : Nat) : Int) := (ne_of_beq_false hb29)
                  refine assume [100] hb29 (by kernel_rfl) (s' := [(100, .bool false), (6, .int .i64 (takeR xs).1), (7, .int .i64 (takeR xs).2.1), (8, .int .i64 (takeR xs).2.2), (10, .int .i64 (xorTo xs xs.length)), (15, .int .i64 (xor64 (xorTo xs xs.length) (xs.getD j 0))), (80, .slice ao xs.length cap), (81, .int .i64 ((xs.length : Nat) : Int)), (82, .int .i64 ((j : Nat) : Int))]) (by kernel_rfl) ?_
                  refine run (φ := []) [] 6 [2, 6, 7, 8, 10, 80, 81, 82] (m' := .n) (k' := [.code [1, 1, 1, 1, 1, 1, 1, 1, 1, 0, 1, 0, 0, 1, 1, 0, 0, 1, 1, 1, 0, 1], .blk 3, .code [1, 1, 1, 1, 1, 1, 1, 1, 1, 0, 1, 0, 0, 1, 1, 1], .lp K23, .blk 2, .code [1, 1, 1, 1, 1, 1, 1, 1, 1, 1]]) (s' := [(2, .bool false), (6, .int .i64 (takeR xs).1), (7, .int .i64 (takeR xs).2.1), (8, .int .i64 (takeR xs).2.2), (10, .int .i64 (xorTo xs xs.length)), (80, .slice ao xs.length cap), (81, .int .i64 ((xs.length : Nat) : Int)), (82, .int .i64 ((j : Nat) : Int))]) (by kernel_rfl) trivial ?_
                  skip
                  exact conv hg' (by simp only [hb28, hb29, Bool.true_and, Bool.false_and, Bool.and_true, Bool.and_false, Bool.true_or, Bool.false_or, Bool.or_true, Bool.or_false, Bool.not_true, Bool.not_false, cond_true, cond_false])
              · have hb28_p : (takeR xs).2.2 ≠ (0) := (ne_of_beq_false hb28)
                refine assume [95] hb28 (by kernel_rfl) (s' := [(95, .bool false), (6, .int .i64 (takeR xs).1), (7, .int .i64 (takeR xs).2.1), (8, .int .i64 (takeR xs).2.2), (10, .int .i64 (xorTo xs xs.length)), (13, .int .i64 ((j : Nat) : Int)), (15, .int .i64 (xor64 (xorTo xs xs.length) (xs.getD j 0))), (80, .slice ao xs.length cap), (81, .int .i64 ((xs.length : Nat) : Int)), (82, .int .i64 ((j : Nat) : Int))]) (by kernel_rfl) ?_
                refine run (φ := []) [] 11 [2, 6, 7, 8, 10, 80, 81, 82] (m' := .n) (k' := [.code [1, 1, 1, 1, 1, 1, 1, 1, 1, 0, 1, 0, 0, 1, 1, 0, 0, 1, 1, 1, 0, 1], .blk 3, .code [1, 1, 1, 1, 1, 1, 1, 1, 1, 0, 1, 0, 0, 1, 1, 1], .lp K23, .blk 2, .code [1, 1, 1, 1, 1, 1, 1, 1, 1, 1]]) (s' := [(2, .bool false), (6, .int .i64 (takeR xs).1), (7, .int .i64 (takeR xs).2.1), (8, .int .i64 (takeR xs).2.2), (10, .int .i64 (xorTo xs xs.length)), (80, .slice ao xs.length cap), (81, .int .i64 ((xs.length : Nat) : Int)), (82, .int .i64 ((j : Nat) : Int))]) (by kernel_rfl) trivial ?_
                skip
                exact conv hg' (by simp only [hb28, Bool.true_and, Bool.false_and, Bool.and_true, Bool.and_false, Bool.true_or, Bool.false_or, Bool.or_true, Bool.or_false, Bool.not_true, Bool.not_false, cond_true, cond_false])
            refine run (φ := []) [] 1 [2] (m' := .r) (k' := [.blk 3, .code [1, 1, 1, 1, 1, 1, 1, 1, 1, 0, 1, 0, 0, 1, 1, 1], .lp K23, .blk 2, .code [1, 1, 1, 1, 1, 1, 1, 1, 1, 1]]) (s' := [(2, .bool (((takeR xs).2.2 == (0)) && (((takeR xs).1 == ((j : Nat) : Int)) && ((takeR xs).2.1 == (xor64 (xorTo xs xs.length) (xs.getD j 0))))))]) (by kernel_rfl) trivial ?_
            exact ret_tmps (vs := [.bool (((takeR xs).2.2 == (0)) && (((takeR xs).1 == ((j : Nat) : Int)) && ((takeR xs).2.1 == (xor64 (xorTo xs xs.length) (xs.getD j 0)))))]) (by kernel_rfl) ⟨ret_true (by rw [law_good xs (by assumption), ← low_eq, first_some (by omega) hb27 hj]; simp [xor64_comm]), bel11⟩
          · have hb27_p : ¬ (xor64 (xorTo xs xs.length) (xs.getD j 0)) < (xs.getD j 0) := (of_decide_eq_false hb27)
            refine assume [92] hb27 (by kernel_rfl) (s' := [(92, .bool false), (6, .int .i64 (takeR xs).1), (7, .int .i64 (takeR xs).2.1), (8, .int .i64 (takeR xs).2.2), (10, .int .i64 (xorTo xs xs.length)), (13, .int .i64 ((j : Nat) : Int)), (15, .int .i64 (xor64 (xorTo xs xs.length) (xs.getD j 0))), (80, .slice ao xs.length cap), (81, .int .i64 ((xs.length : Nat) : Int)), (82, .int .i64 ((j : Nat) : Int))]) (by kernel_rfl) ?_
            refine run (φ := [InR .i64 (((j : Nat) : Int) + (1))]) [] 7 [6, 7, 8, 10, 80, 81, 82] (m' := .n) (k' := [.lp K23, .blk 2, .code [1, 1, 1, 1, 1, 1, 1, 1, 1, 1]]) (s' := [(6, .int .i64 (takeR xs).1), (7, .int .i64 (takeR xs).2.1), (8, .int .i64 (takeR xs).2.2), (10, .int .i64 (xorTo xs xs.length)), (80, .slice ao xs.length cap), (81, .int .i64 ((xs.length : Nat) : Int)), (82, .int .i64 (((j : Nat) : Int) + (1)))]) (by kernel_rfl) ⟨(by unfold InR; omega), trivial⟩ ?_
            exact back (hK25 (j + 1) _ ⟨by omega, upto hj hb27, rfl⟩ (by omega)) (by kernel_rfl)
        · have hb26_p : ¬ ((j : Nat) : Int) < ((xs.length : Nat) : Int) := (of_decide_eq_false hb26)
          refine assume [83] hb26 (by kernel_rfl) (s' := [(83, .bool false), (6, .int .i64 (takeR xs).1), (7, .int .i64 (takeR xs).2.1), (8, .int .i64 (takeR xs).2.2), (10, .int .i64 (xorTo xs xs.length)), (80, .slice ao xs.length cap), (81, .int .i64 ((xs.length : Nat) : Int)), (82, .int .i64 ((j : Nat) : Int))]) (by kernel_rfl) ?_
          obtain rfl : j = xs.length := by omega
          refine run (φ := []) [] 6 [6, 7, 8] (m' := .n) (k' := [.code [1, 1, 1, 1, 1, 1, 1, 1, 1, 1, 0], .code [1, 1, 1, 1, 1, 1, 1, 1, 1, 1, 1]]) (s' := [(6, .int .i64 (takeR xs).1), (7, .int .i64 (takeR xs).2.1), (8, .int .i64 (takeR xs).2.2)]) (by kernel_rfl) trivial ?_
          refine via (m' := .n) (k' := [.code [1, 1, 1, 1, 1, 1, 1, 1, 1, 1, 1]]) (s' := [(2, .bool (((takeR xs).2.2 == (8)) && (((takeR xs).1 == (0)) && ((takeR xs).2.1 == (0)))))]) ?_ ?_
          · intro Q' hg'
            refine run (φ := []) [] 4 [6, 7, 108] (m' := .n) (k' := [.ops [1, 1, 1, 1, 1, 1, 1, 1, 1, 1, 0] 3, .code [1, 1, 1, 1, 1, 1, 1, 1, 1, 1, 1]]) (s' := [(6, .int .i64 (takeR xs).1), (7, .int .i64 (takeR xs).2.1), (108, .bool ((takeR xs).2.2 == (8)))]) (by kernel_rfl) trivial ?_
            rcases Bool.eq_false_or_eq_true ((takeR xs).2.2 == (8)) with hb30 | hb30
            · have hb30_p : (takeR xs).2.2 = (8) := (eq_of_beq hb30)
              refine assume [108] hb30 (by kernel_rfl) (s' := [(108, .bool true), (6, .int .i64 (takeR xs).1), (7, .int .i64 (takeR xs).2.1)]) (by kernel_rfl) ?_
              refine run (φ := []) [] 4 [7, 112] (m' := .n) (k' := [.ops [1, 1, 1, 1, 1, 1, 1, 1, 1, 1, 0] 7, .code [1, 1, 1, 1, 1, 1, 1, 1, 1, 1, 1]]) (s' := [(7, .int .i64 (takeR xs).2.1), (112, .bool ((takeR xs).1 == (0)))]) (by kernel_rfl) trivial ?_
              rcases Bool.eq_false_or_eq_true ((takeR xs).1 == (0)) with hb31 | hb31
              · have hb31_p : (takeR xs).1 = (0) := (eq_of_beq hb31)
                refine assume [112] hb31 (by kernel_rfl) (s' := [(112, .bool true), (7, .int .i64 (takeR xs).2.1)]) (by kernel_rfl) ?_
                refine run (φ := []) [] 5 [2] (m' := .n) (k' := [.code [1, 1, 1, 1, 1, 1, 1, 1, 1, 1, 1]]) (s' := [(2, .bool ((takeR xs).2.1 == (0)))]) (by kernel_rfl) trivial ?_
                skip
                exact conv hg' (by simp only [hb30, hb31, Bool.true_and, Bool.false_and, Bool.and_true, Bool.and_false, Bool.true_or, Bool.false_or, Bool.or_true, Bool.or_false, Bool.not_true, Bool.not_false, cond_true, cond_false])
              · have hb31_p : (takeR xs).1 ≠ (0) := (ne_of_beq_false hb31)
                refine assume [112] hb31 (by kernel_rfl) (s' := [(112, .bool false), (7, .int .i64 (takeR xs).2.1)]) (by kernel_rfl) ?_
                refine run (φ := []) [] 5 [2] (m' := .n) (k' := [.code [1, 1, 1, 1, 1, 1, 1, 1, 1, 1, 1]]) (s' := [(2, .bool false)]) (by kernel_rfl) trivial ?_
                skip
                exact conv hg' (by simp only [hb30, hb31, Bool.true_and, Bool.false_and, Bool.and_true, Bool.and_false, Bool.true_or, Bool.false_or, Bool.or_true, Bool.or_false, Bool.not_true, Bool.not_false, cond_true, cond_false])
            · have hb30_p : (takeR xs).2.2 ≠ (8) := (ne_of_beq_false hb30)
              refine assume [108] hb30 (by kernel_rfl) (s' := [(108, .bool false), (6, .int .i64 (takeR xs).1), (7, .int .i64 (takeR xs).2.1)]) (by kernel_rfl) ?_
              refine run (φ := []) [] 9 [2] (m' := .n) (k' := [.code [1, 1, 1, 1, 1, 1, 1, 1, 1, 1, 1]]) (s' := [(2, .bool false)]) (by kernel_rfl) trivial ?_
              skip
              exact conv hg' (by simp only [hb30, Bool.true_and, Bool.false_and, Bool.and_true, Bool.and_false, Bool.true_or, Bool.false_or, Bool.or_true, Bool.or_false, Bool.not_true, Bool.not_false, cond_true, cond_false])
          refine run (φ := []) [] 1 [2] (m' := .r) (k' := []) (s' := [(2, .bool (((takeR xs).2.2 == (8)) && (((takeR xs).1 == (0)) && ((takeR xs).2.1 == (0)))))]) (by kernel_rfl) trivial ?_
          exact ret_tmps (vs := [.bool (((takeR xs).2.2 == (8)) && (((takeR xs).1 == (0)) && ((takeR xs).2.1 == (0))))]) (by kernel_rfl) ⟨ret_true (by rw [law_good xs (by assumption), ← low_eq, first_none hj]; simp), bel11⟩
end Go.Proofs.Ytejmikpmkfnlgaa
