/- Games, step by step. No condition of its own. -/
import Derived.Test.YtaaigenpmaiodaaGameQ
namespace Go.Proofs.Ytaaigenpmaiodaa
open Go.Den
set_option linter.unusedVariables false
set_option linter.unusedSimpArgs false
set_option maxRecDepth 100000

theorem step_0 {r : Rules} {s : List Place × List Mv} {m : Mv} (c : stepG r s m = 0) : gameRes r s.1 = 0 ∧ allowedB r (lastP s.1) m = true := by
  unfold stepG at c
  split at c
  · rename_i h1
    split at c
    · rename_i h2; exact ⟨h1, h2⟩
    · cases c
  · cases c
theorem gd_app1 (l l' : List Place) (j : Nat) (hj : j < l.length) : getD' (l ++ l') j dP = getD' l j dP := by simp [getD', List.getElem?_append_left hj]
theorem gd_app2 (l : List Place) (q : Place) : getD' (l ++ [q]) l.length dP = q := by simp [getD']
theorem run_pre {r : Rules} : ∀ (k : List Mv) (s s' : List Place × List Mv), runG r k s = .inl s' → s'.1.length = s.1.length + k.length ∧ ∀ j, j < s.1.length → getD' s'.1 j dP = getD' s.1 j dP
  | [], s, s', e => by cases e; exact ⟨by simp, fun _ _ => rfl⟩
  | m :: k, s, s', e => by
    unfold runG at e
    split at e
    · obtain ⟨a, b⟩ := run_pre k _ _ e
      have hn : (nextG r s m).1 = s.1 ++ [afterOf r (lastP s.1) m] := rfl
      rw [hn] at a b
      refine ⟨by rw [a]; simp; omega, fun j hj => ?_⟩
      rw [b j (by simp; omega), gd_app1 _ _ j hj]
    · cases e
theorem run_step {r : Rules} : ∀ (k : List Mv) (s s' : List Place × List Mv), 0 < s.1.length → runG r k s = .inl s' → ∀ i (hi : i < k.length),
    getD' s'.1 (s.1.length + i) dP = afterOf r (getD' s'.1 (s.1.length + i - 1) dP) k[i] ∧ allowedB r (getD' s'.1 (s.1.length + i - 1) dP) k[i] = true
  | [], s, s', h, e, i, hi => absurd hi (Nat.not_lt_zero _)
  | m :: k, s, s', h, e, i, hi => by
    unfold runG at e
    split at e
    · rename_i c
      have hn : (nextG r s m).1 = s.1 ++ [afterOf r (lastP s.1) m] := rfl
      have hnl : (nextG r s m).1.length = s.1.length + 1 := by rw [hn]; simp
      cases i with
      | zero =>
        obtain ⟨_, b⟩ := run_pre k _ _ e
        rw [hnl, hn] at b
        rw [Nat.add_zero, b _ (by omega), b _ (by omega), gd_app2, gd_app1 _ _ _ (by omega)]
        exact ⟨rfl, (step_0 c).2⟩
      | succ i =>
        have := run_step k _ _ (by omega) e i (by simpa using hi)
        rw [hnl] at this
        rw [show s.1.length + (i + 1) = s.1.length + 1 + i by omega]
        simpa using this
    · cases e
theorem cut_spec (l : List Mv) (h : l.length ≤ 1000000000) : law3Cut l = some (l.take 40) := by
  unfold law3Cut
  by_cases c : 40 < l.length
  · rw [if_pos (by omega)]
    have : boundsI 0 40 l.length = true := by simp [boundsI]; omega
    rw [this, req_true]
    rfl
  · rw [if_neg (by omega)]
    have : boundsI 0 ((l.length : Nat) : Int) l.length = true := by simp [boundsI]
    rw [this, req_true, Int.toNat_natCast, List.drop_zero, List.take_length, List.take_of_length_le (by omega)]
end Go.Proofs.Ytaaigenpmaiodaa
