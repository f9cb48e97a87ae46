/- Plain lemmas on lists and numbers that the walks use. No condition. -/
import Derived.WalkKit
namespace Go.Eng

/-- the first number below n at which p holds -/
def first (p : Nat → Bool) (n : Nat) : Option Nat := (List.range n).find? p
theorem find_range' (p : Nat → Bool) : ∀ (n s i : Nat), s ≤ i → i < s + n → p i = true → (∀ j, s ≤ j → j < i → p j = false) → (List.range' s n).find? p = some i
  | 0, s, i, h1, h2, _, _ => by omega
  | n + 1, s, i, h1, h2, h3, h4 => by
    rw [List.range'_succ, List.find?_cons]
    by_cases h : s = i
    · subst h; rw [h3]
    · rw [h4 s (Nat.le_refl _) (by omega)]
      exact find_range' p n (s + 1) i (by omega) (by omega) h3 fun j a b => h4 j (by omega) b
theorem first_some {p : Nat → Bool} {n i : Nat} (hi : i < n) (hp : p i = true) (hl : ∀ j, j < i → p j = false) : first p n = some i := by
  unfold first
  rw [List.range_eq_range']
  exact find_range' p n 0 i (Nat.zero_le _) (by omega) hp fun j _ b => hl j b
theorem first_none {p : Nat → Bool} {n : Nat} (hl : ∀ j, j < n → p j = false) : first p n = none := by
  unfold first
  rw [List.find?_eq_none]
  intro x hx
  rw [hl x (List.mem_range.1 hx)]
  simp
theorem first_spec {p : Nat → Bool} {n i : Nat} (h : first p n = some i) : i < n ∧ p i = true := by
  unfold first at h
  exact ⟨List.mem_range.1 (List.mem_of_find?_eq_some h), List.find?_some h⟩
theorem first_lt {p : Nat → Bool} {n i : Nat} (h : first p n = some i) : ∀ j, j < i → p j = false := by
  intro j hj
  cases hp : p j with
  | false => rfl
  | true =>
    exfalso
    have hmin : ∃ k, k ≤ j ∧ p k = true ∧ ∀ l, l < k → p l = false := by
      have : ∀ m, (∃ k, k ≤ m ∧ p k = true) → ∃ k, k ≤ m ∧ p k = true ∧ ∀ l, l < k → p l = false := by
        intro m
        induction m with
        | zero => rintro ⟨k, hk, hp⟩; exact ⟨k, hk, hp, fun l hl => by omega⟩
        | succ m ih =>
          rintro ⟨k, hk, hpk⟩
          by_cases he : ∃ k, k ≤ m ∧ p k = true
          · obtain ⟨k, a, b, c⟩ := ih he; exact ⟨k, by omega, b, c⟩
          · refine ⟨k, hk, hpk, fun l hl => ?_⟩
            cases hpl : p l with
            | false => rfl
            | true => exact absurd ⟨l, by omega, hpl⟩ he
      exact this j ⟨j, Nat.le_refl _, hp⟩
    obtain ⟨k, h1, h2, h3⟩ := hmin
    have := first_spec h
    have e := first_some (p := p) (n := n) (i := k) (by omega) h2 h3
    rw [h] at e
    cases e
    omega
theorem first_eq_none {p : Nat → Bool} {n : Nat} (h : first p n = none) : ∀ j, j < n → p j = false := by
  intro j hj
  unfold first at h
  rw [List.find?_eq_none] at h
  have := h j (List.mem_range.2 hj)
  simpa using this
theorem upto {p : Nat → Bool} {b : Bool} {i : Nat} (h : ∀ j, j < i → p j = b) (hi : p i = b) : ∀ j, j < i + 1 → p j = b := by
  intro j hj
  rcases Nat.lt_succ_iff_lt_or_eq.1 hj with h1 | h1
  · exact h j h1
  · rw [h1]; exact hi
theorem ne_of_bne' {α : Type} [BEq α] [LawfulBEq α] {a b : α} (h : (a != b) = true) : a ≠ b := by simpa using h
theorem eq_of_bne' {α : Type} [BEq α] [LawfulBEq α] {a b : α} (h : (a != b) = false) : a = b := by simpa using h
theorem and_l {a b : Bool} (h : (a && b) = true) : a = true := (Bool.and_eq_true_iff.1 h).1
theorem and_r {a b : Bool} (h : (a && b) = true) : b = true := (Bool.and_eq_true_iff.1 h).2
theorem and_f {a b : Bool} (h : (a && b) = false) : a = false ∨ b = false := Bool.and_eq_false_iff.1 h
theorem or_t {a b : Bool} (h : (a || b) = true) : a = true ∨ b = true := Bool.or_eq_true_iff.1 h
theorem or_l {a b : Bool} (h : (a || b) = false) : a = false := (Bool.or_eq_false_iff.1 h).1
theorem or_r {a b : Bool} (h : (a || b) = false) : b = false := (Bool.or_eq_false_iff.1 h).2
theorem not_t {a : Bool} (h : (!a) = true) : a = false := by simpa using h
theorem not_f {a : Bool} (h : (!a) = false) : a = true := by simpa using h
theorem cond_is {c a b x : Bool} (h : (bif c then a else b) = x) : (c = true ∧ a = x) ∨ (c = false ∧ b = x) := by cases c <;> simp_all
theorem ret_true {b : Bool} (h : b = true) : Ending.returned (.bool b) = Ending.returned (.bool true) := by rw [h]
end Go.Eng
