/- Counting, and which types of pieces can become another one, in plain Lean. No condition of its own. -/
import Derived.Test.YtaaigenpmaiodaaGameQ
namespace Go.Proofs.Ytaaigenpmaiodaa
open Go.Den
set_option linter.unusedVariables false
set_option linter.unusedSimpArgs false
set_option maxRecDepth 100000

theorem count_eq_imp {A : Type} (p q : A → Bool) : ∀ l : List A, (∀ x ∈ l, p x = true → q x = true) → l.countP q ≤ l.countP p → ∀ x ∈ l, p x = q x
  | [], _, _, x, hx => absurd hx List.not_mem_nil
  | a :: l, h, hc, x, hx => by
    have hm : l.countP p ≤ l.countP q := List.countP_mono_left (fun y hy hp => h y (List.mem_cons_of_mem _ hy) hp)
    have ha := h a List.mem_cons_self
    rw [List.countP_cons, List.countP_cons] at hc
    have e : p a = q a := by
      cases e1 : p a with
      | true => rw [ha e1]
      | false =>
        cases e2 : q a with
        | false => rfl
        | true => rw [e1, e2] at hc; simp at hc; omega
    rcases List.mem_cons.1 hx with e' | e'
    · rw [e']; exact e
    · refine count_eq_imp p q l (fun y hy => h y (List.mem_cons_of_mem _ hy)) ?_ x e'
      rw [e] at hc
      omega

def bec (pr : Nat → Nat) (g : Nat) : Nat → Nat → Bool
  | 0, _ => false
  | m + 1, k => k == g || (decide (0 < pr k) && bec pr g m (pr k - 1))
theorem bec_succ (pr : Nat → Nat) (g : Nat) : ∀ m k, bec pr g m k = true → bec pr g (m + 1) k = true
  | 0, k, h => by simp [bec] at h
  | m + 1, k, h => by
    unfold bec at h ⊢
    rw [Bool.or_eq_true, Bool.and_eq_true] at h ⊢
    rcases h with h | ⟨h1, h2⟩
    · exact .inl h
    · exact .inr ⟨h1, bec_succ pr g m _ h2⟩
theorem bec_mono (pr : Nat → Nat) (g : Nat) {m m' : Nat} (h : m ≤ m') {k : Nat} (hb : bec pr g m k = true) : bec pr g m' k = true := by
  induction h with
  | refl => exact hb
  | step _ ih => exact bec_succ pr g _ _ ih
theorem bec_stable (pr : Nat → Nat) (g n : Nat) (hp : ∀ k, k < n → pr k ≤ n) (m k : Nat) (hk : k < n) (h : bec pr g m k = true) : bec pr g (n + 1) k = true := by
  have st : ∀ s, (∀ k, k < n → bec pr g (s + 1) k = bec pr g s k) → ∀ m, s ≤ m → ∀ k, k < n → bec pr g m k = bec pr g s k := by
    intro s hs m hm
    induction hm with
    | refl => intro k _; rfl
    | step hm ih =>
      rename_i m
      intro k hk
      rw [← hs k hk]
      unfold bec
      by_cases c : 0 < pr k
      · have := hp k hk
        rw [ih (pr k - 1) (by omega)]
      · rw [decide_eq_false c, Bool.false_and, Bool.false_and]
  have gr : ∀ t, (∃ s, s < t ∧ ∀ k, k < n → bec pr g (s + 1) k = bec pr g s k) ∨ t ≤ (List.range n).countP (bec pr g t) := by
    intro t
    induction t with
    | zero => exact .inr (by omega)
    | succ t ih =>
      rcases ih with ⟨s, h1, h2⟩ | h1
      · exact .inl ⟨s, by omega, h2⟩
      · by_cases c : (List.range n).countP (bec pr g (t + 1)) ≤ (List.range n).countP (bec pr g t)
        · have := count_eq_imp (bec pr g t) (bec pr g (t + 1)) (List.range n) (fun x _ hx => bec_succ pr g t x hx) c
          exact .inl ⟨t, by omega, fun k hk => (this k (List.mem_range.2 hk)).symm⟩
        · exact .inr (by omega)
  by_cases c : m ≤ n + 1
  · exact bec_mono pr g c h
  · rcases gr (n + 1) with ⟨s, h1, h2⟩ | h1
    · rw [st s h2 m (by omega) k hk] at h
      exact bec_mono pr g (by omega) h
    · have : (List.range n).countP (bec pr g (n + 1)) ≤ (List.range n).length := List.countP_le_length
      rw [List.length_range] at this
      omega

def passG (pr : Nat → Nat) (f : Nat → Bool) (k : Nat) : Nat → Bool := fun j => if j = k then (f k || (decide (0 < pr k) && f (pr k - 1))) else f j
def passL (pr : Nat → Nat) (l : List Nat) (f : Nat → Bool) : Nat → Bool := l.foldl (passG pr) f
theorem passG_ge (pr : Nat → Nat) (f : Nat → Bool) (k j : Nat) (h : f j = true) : passG pr f k j = true := by
  unfold passG
  split
  · rename_i e; subst e; rw [h]; rfl
  · exact h
theorem passL_ge (pr : Nat → Nat) : ∀ (l : List Nat) (f : Nat → Bool) (j : Nat), f j = true → passL pr l f j = true
  | [], f, j, h => h
  | a :: l, f, j, h => passL_ge pr l _ j (passG_ge pr f a j h)
theorem passL_hit (pr : Nat → Nat) : ∀ (l : List Nat) (f : Nat → Bool) (k : Nat), k ∈ l → 0 < pr k → f (pr k - 1) = true → passL pr l f k = true
  | [], f, k, hk, _, _ => absurd hk List.not_mem_nil
  | a :: l, f, k, hk, hp, h => by
    show passL pr l (passG pr f a) k = true
    by_cases e : k = a
    · subst e
      refine passL_ge pr l _ k ?_
      unfold passG
      rw [if_pos rfl, h, decide_eq_true hp]
      simp
    · exact passL_hit pr l _ k ((List.mem_cons.1 hk).resolve_left e) hp (passG_ge pr f a _ h)
theorem passL_sound (pr : Nat → Nat) (Q : Nat → Prop) (hq : ∀ k, 0 < pr k → Q (pr k - 1) → Q k) : ∀ (l : List Nat) (f : Nat → Bool), (∀ j, f j = true → Q j) → ∀ j, passL pr l f j = true → Q j
  | [], f, h, j, hj => h j hj
  | a :: l, f, h, j, hj => by
    refine passL_sound pr Q hq l (passG pr f a) (fun i hi => ?_) j hj
    unfold passG at hi
    split at hi
    · rename_i e; subst e
      rw [Bool.or_eq_true, Bool.and_eq_true, decide_eq_true_eq] at hi
      rcases hi with hi | ⟨h1, h2⟩
      · exact h _ hi
      · exact hq _ h1 (h _ h2)
    · exact h _ hi
def closN (pr : Nat → Nat) (n g : Nat) : Nat → Nat → Bool
  | 0 => fun j => j == g
  | t + 1 => passL pr (List.range n) (closN pr n g t)
theorem clos_eq (pr : Nat → Nat) (n g : Nat) (hp : ∀ k, k < n → pr k ≤ n) (k : Nat) (hk : k < n) : closN pr n g n k = bec pr g (n + 1) k := by
  rw [Bool.eq_iff_iff]
  constructor
  · intro h
    have : ∀ t j, closN pr n g t j = true → ∃ m, bec pr g m j = true := by
      intro t
      induction t with
      | zero =>
        intro j h
        have h : (j == g) = true := h
        exact ⟨1, by unfold bec; rw [h]; rfl⟩
      | succ t ih =>
        intro j h
        refine passL_sound pr (fun j => ∃ m, bec pr g m j = true) (fun k hk ⟨m, hm⟩ => ⟨m + 1, ?_⟩) (List.range n) _ ih j h
        unfold bec
        rw [hm, decide_eq_true hk]
        simp
    obtain ⟨m, hm⟩ := this _ _ h
    exact bec_stable pr g n hp m k hk hm
  · have : ∀ t k, k < n → bec pr g (t + 1) k = true → closN pr n g t k = true := by
      intro t
      induction t with
      | zero =>
        intro k hk h
        unfold bec at h
        rw [Bool.or_eq_true] at h
        rcases h with h | h
        · exact h
        · simp [bec] at h
      | succ t ih =>
        intro k hk h
        unfold bec at h
        rw [Bool.or_eq_true, Bool.and_eq_true, decide_eq_true_eq] at h
        rcases h with h | ⟨h1, h2⟩
        · have : ∀ t, closN pr n g t k = true := by
            intro t
            induction t with
            | zero => exact h
            | succ t ih => exact passL_ge pr _ _ _ ih
          exact this _
        · have := hp k hk
          exact passL_hit pr _ _ k (List.mem_range.2 hk) h1 (ih _ (by omega) h2)
    exact this n k hk

def sumN (f : Nat → Int) : Nat → Int
  | 0 => 0
  | n + 1 => sumN f n + f n
theorem sumN_congr {f g : Nat → Int} : ∀ n, (∀ i, i < n → f i = g i) → sumN f n = sumN g n
  | 0, _ => rfl
  | n + 1, h => by unfold sumN; rw [sumN_congr n (fun i hi => h i (by omega)), h n (by omega)]
theorem sumN_add (f g : Nat → Int) : ∀ n, sumN (fun i => f i + g i) n = sumN f n + sumN g n
  | 0 => rfl
  | n + 1 => by unfold sumN; rw [sumN_add f g n]; omega
theorem sumN_rng (f : Nat → Int) (B : Int) : ∀ n, (∀ i, i < n → 0 ≤ f i ∧ f i ≤ B) → 0 ≤ sumN f n ∧ sumN f n ≤ n * B
  | 0, _ => by simp [sumN]
  | n + 1, h => by
    have h1 := sumN_rng f B n (fun i hi => h i (by omega))
    have h2 := h n (by omega)
    unfold sumN
    rw [show ((n + 1 : Nat) : Int) * B = (n : Int) * B + B by rw [Int.natCast_add, Int.add_mul]; simp]
    omega
theorem sumN_pos (f : Nat → Int) : ∀ n, (∀ i, i < n → 0 ≤ f i) → (0 < sumN f n ↔ ∃ i, i < n ∧ 0 < f i)
  | 0, _ => by simp [sumN]
  | n + 1, h => by
    have h1 := sumN_pos f n (fun i hi => h i (by omega))
    have h2 := h n (by omega)
    have h3 : 0 ≤ sumN f n := by
      clear h1 h2
      induction n with
      | zero => simp [sumN]
      | succ n ih =>
        have := ih (fun i hi => h i (by omega))
        have := h n (by omega)
        unfold sumN
        omega
    unfold sumN
    constructor
    · intro hp
      by_cases c : 0 < f n
      · exact ⟨n, by omega, c⟩
      · obtain ⟨i, hi, hf⟩ := h1.1 (by omega)
        exact ⟨i, by omega, hf⟩
    · rintro ⟨i, hi, hf⟩
      by_cases c : i = n
      · subst c; omega
      · have := h1.2 ⟨i, by omega, hf⟩
        omega
/-- elements counted by their class -/
theorem sumN_class {A : Type} (q : A → Bool) (k : A → Nat) (n : Nat) : ∀ l : List A, (∀ x ∈ l, q x = true → k x < n) → sumN (fun j => ((l.countP (fun x => q x && (k x == j)) : Nat) : Int)) n = ((l.countP q : Nat) : Int)
  | [], _ => by
    have : ∀ n, sumN (fun j => (0 : Int)) n = 0 := fun n => by
      induction n with
      | zero => rfl
      | succ n ih => unfold sumN; rw [ih]; rfl
    exact this n
  | a :: l, h => by
    have ih := sumN_class q k n l (fun x hx => h x (List.mem_cons_of_mem _ hx))
    rw [List.countP_cons, Int.natCast_add, ← ih, sumN_congr (g := fun j => ((l.countP (fun x => q x && (k x == j)) : Nat) : Int) + (if (q a && (k a == j)) = true then 1 else 0)) n (fun j hj => by
      show ((_ : Nat) : Int) = _
      rw [List.countP_cons, Int.natCast_add]
      split <;> rfl), sumN_add]
    congr 1
    have one : ∀ n m, m < n → sumN (fun j => if m = j then (1 : Int) else 0) n = 1 := by
      intro n
      induction n with
      | zero => intro m hm; omega
      | succ n ih =>
        intro m hm
        unfold sumN
        by_cases c : m = n
        · subst c
          have z : ∀ t, t ≤ m → sumN (fun j => if m = j then (1 : Int) else 0) t = 0 := by
            intro t
            induction t with
            | zero => intro _; rfl
            | succ t ih => intro ht; unfold sumN; rw [ih (by omega), if_neg (by omega)]; rfl
          rw [z m (Nat.le_refl _), if_pos rfl]
          rfl
        · rw [ih m (by omega), if_neg c]
          rfl
    cases hq : q a with
    | false =>
      have : ∀ n, sumN (fun j => if (false && (k a == j)) = true then (1 : Int) else 0) n = 0 := fun n => by
        induction n with
        | zero => rfl
        | succ n ih => unfold sumN; rw [ih]; rfl
      rw [this]
      rfl
    | true =>
      have := one n (k a) (h a List.mem_cons_self hq)
      simp only [Bool.true_and, beq_iff_eq, if_true]
      exact this

/-! six values as a function -/
def tup {A : Type} (f : Nat → A) : A × A × A × A × A × A × Unit := (f 0, f 1, f 2, f 3, f 4, f 5, ())
theorem tup_get {A : Type} (f : Nat → A) (d : A) (k : Nat) (h : k < 6) : getD' [f 0, f 1, f 2, f 3, f 4, f 5] k d = f k := by
  obtain rfl | rfl | rfl | rfl | rfl | rfl : k = 0 ∨ k = 1 ∨ k = 2 ∨ k = 3 ∨ k = 4 ∨ k = 5 := by omega
  all_goals rfl
theorem tup_set {A : Type} (f : Nat → A) (v : A) (k : Nat) (h : k < 6) : ((bif ((k : Int) == (0 : Int)) then v else f 0), (bif ((k : Int) == (1 : Int)) then v else f 1), (bif ((k : Int) == (2 : Int)) then v else f 2), (bif ((k : Int) == (3 : Int)) then v else f 3), (bif ((k : Int) == (4 : Int)) then v else f 4), (bif ((k : Int) == (5 : Int)) then v else f 5), ()) = tup (fun j => if j = k then v else f j) := by
  obtain rfl | rfl | rfl | rfl | rfl | rfl : k = 0 ∨ k = 1 ∨ k = 2 ∨ k = 3 ∨ k = 4 ∨ k = 5 := by omega
  all_goals rfl
end Go.Proofs.Ytaaigenpmaiodaa
