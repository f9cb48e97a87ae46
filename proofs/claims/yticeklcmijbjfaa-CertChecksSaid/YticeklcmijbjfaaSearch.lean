/- Search in plain Lean: trees, counts, scores. No condition of its own. -/
import Derived.Test.YticeklcmijbjfaaCoreB
namespace Go.Proofs.Yticeklcmijbjfaa
open Go.Den
set_option linter.unusedVariables false
set_option linter.unusedSimpArgs false
set_option maxRecDepth 100000

/-- the moves of a valid position that is not over -/
def openMoves (r : Rules) (p : Place) : List Mv := if resultOf r p = 0 then movesOf r p else []
theorem endsMoves_spec {r : Rules} {p : Place} (h : Valid r p) : endsMoves r p = some (openMoves r p) := by
  unfold endsMoves openMoves
  rw [result_spec h, Option.bind_some]
  by_cases c : resultOf r p = 0
  · rw [bne_f c, cond_false, if_pos c, list_spec h]; rfl
  · rw [bne_t c, cond_true, if_neg c]
theorem open_allowed {r : Rules} {p : Place} {m : Mv} (hm : m ∈ openMoves r p) : allowedB r p m = true := by
  unfold openMoves at hm
  split at hm
  · exact (movesOf_mem m).1 hm
  · cases hm
theorem open_len {r : Rules} {p : Place} (h : Valid r p) : (openMoves r p).length ≤ 100000 := by
  unfold openMoves
  split
  · exact movesOf_len h
  · simp
/-- how many sequences of at most d moves -/
def treeN (r : Rules) : Nat → Place → Nat
  | 0, _ => 1
  | d + 1, p => 1 + ((openMoves r p).map fun m => treeN r d (afterOf r p m)).sum
/-- how many sequences of exactly d moves -/
def countN (r : Rules) : Nat → Place → Nat
  | 0, _ => 1
  | d + 1, p => ((openMoves r p).map fun m => countN r d (afterOf r p m)).sum
theorem sum_le {A : Type} {f g : A → Nat} : ∀ {l : List A}, (∀ x ∈ l, f x ≤ g x) → (l.map f).sum ≤ (l.map g).sum
  | [], _ => Nat.le_refl _
  | x :: l, h => by
    have := sum_le (l := l) fun y hy => h y (List.mem_cons_of_mem _ hy)
    have := h x List.mem_cons_self
    simp only [List.map_cons, List.sum_cons]
    omega
theorem treeN_pos (r : Rules) : ∀ (d : Nat) (p : Place), 1 ≤ treeN r d p
  | 0, _ => Nat.le_refl _
  | d + 1, p => by unfold treeN; omega
theorem countN_le (r : Rules) : ∀ (d : Nat) (p : Place), countN r d p ≤ treeN r d p
  | 0, _ => Nat.le_refl _
  | d + 1, p => by
    unfold countN treeN
    have := sum_le (l := openMoves r p) fun m _ => countN_le r d (afterOf r p m)
    omega
/-- the walk: how many positions were seen, how many at the end; none: too many -/
def walkS (r : Rules) : Nat → Place → Int × Int → (Int × Int) × Bool
  | 0, p, s => if s.1 + 1 > 50000 then ((s.1 + 1, s.2), false) else ((s.1 + 1, s.2 + 1), true)
  | d + 1, p, s => if s.1 + 1 > 50000 then ((s.1 + 1, s.2), false) else
    scanL (fun acc m => bif (walkS r d (afterOf r p m) acc).2 then .inl (walkS r d (afterOf r p m) acc).1 else .inr ((walkS r d (afterOf r p m) acc).1, false)) (fun acc => (acc, true)) (openMoves r p) (s.1 + 1, s.2)
theorem walkS_spec (r : Rules) : ∀ (d : Nat) (p : Place) (n l : Int), (n + treeN r d p ≤ 50000 → walkS r d p (n, l) = ((n + treeN r d p, l + countN r d p), true)) ∧ (50000 < n + treeN r d p → (walkS r d p (n, l)).2 = false)
  | 0, p, n, l => by
    unfold walkS treeN countN
    constructor
    · intro h; rw [if_neg (by simp at h ⊢; omega)]; rfl
    · intro h; rw [if_pos (by simp at h ⊢; omega)]
  | d + 1, p, n, l => by
    have ih := walkS_spec r d
    have key : ∀ (ms : List Mv) (n l : Int), (n + ((ms.map fun m => treeN r d (afterOf r p m)).sum : Nat) ≤ 50000 → scanL (fun acc m => bif (walkS r d (afterOf r p m) acc).2 then .inl (walkS r d (afterOf r p m) acc).1 else .inr ((walkS r d (afterOf r p m) acc).1, false)) (fun acc => (acc, true)) ms (n, l) = ((n + ((ms.map fun m => treeN r d (afterOf r p m)).sum : Nat), l + ((ms.map fun m => countN r d (afterOf r p m)).sum : Nat)), true))
        ∧ (50000 < n + ((ms.map fun m => treeN r d (afterOf r p m)).sum : Nat) → n ≤ 50000 → (scanL (fun acc m => bif (walkS r d (afterOf r p m) acc).2 then .inl (walkS r d (afterOf r p m) acc).1 else .inr ((walkS r d (afterOf r p m) acc).1, false)) (fun acc => (acc, true)) ms (n, l)).2 = false) := by
      intro ms
      induction ms with
      | nil => intro n l; simp [scanL] <;> omega
      | cons m ms ih2 =>
        intro n l
        simp only [List.map_cons, List.sum_cons]
        have hp := treeN_pos r d (afterOf r p m)
        obtain ⟨a1, a2⟩ := ih (afterOf r p m) n l
        constructor
        · intro h
          unfold scanL
          rw [a1 (by omega)]
          simp only [cond_true]
          rw [(ih2 _ _).1 (by omega)]
          congr 2
          · push_cast; omega
          · push_cast; omega
        · intro h hn
          unfold scanL
          by_cases c : n + (treeN r d (afterOf r p m) : Int) ≤ 50000
          · rw [a1 c]
            simp only [cond_true]
            exact (ih2 _ _).2 (by omega) c
          · rw [a2 (by omega)]
            rfl
    unfold walkS treeN countN
    by_cases c : n + 1 > 50000
    · rw [if_pos c]
      exact ⟨fun h => by push_cast at h; omega, fun _ => rfl⟩
    · rw [if_neg c]
      obtain ⟨k1, k2⟩ := key (openMoves r p) (n + 1) l
      constructor
      · intro h
        rw [k1 (by push_cast at h; omega)]
        congr 2
        push_cast
        omega
      · intro h
        exact k2 (by push_cast at h; omega) (by omega)
/-- what the reference counts -/
def treeR (r : Rules) : Nat → Place → Int
  | 0, _ => 1
  | d + 1, p => scanL (fun acc m => bif decide (acc + treeR r d (afterOf r p m) > 50000) then .inr (acc + treeR r d (afterOf r p m)) else .inl (acc + treeR r d (afterOf r p m))) id (openMoves r p) 1
theorem treeR_spec (r : Rules) : ∀ (d : Nat) (p : Place), ((treeN r d p : Int) ≤ 50000 → treeR r d p = treeN r d p) ∧ (50000 < (treeN r d p : Int) → 50000 < treeR r d p) ∧ 1 ≤ treeR r d p ∧ treeR r d p ≤ 50000 * (d + 1)
  | 0, p => by unfold treeR treeN; simp
  | d + 1, p => by
    have ih := treeR_spec r d
    have key : ∀ (ms : List Mv) (n : Int), 1 ≤ n → n ≤ 50000 →
        (n + ((ms.map fun m => treeN r d (afterOf r p m)).sum : Nat) ≤ 50000 → scanL (fun acc m => bif decide (acc + treeR r d (afterOf r p m) > 50000) then .inr (acc + treeR r d (afterOf r p m)) else .inl (acc + treeR r d (afterOf r p m))) id ms n = n + ((ms.map fun m => treeN r d (afterOf r p m)).sum : Nat))
        ∧ (50000 < n + ((ms.map fun m => treeN r d (afterOf r p m)).sum : Nat) → 50000 < scanL (fun acc m => bif decide (acc + treeR r d (afterOf r p m) > 50000) then .inr (acc + treeR r d (afterOf r p m)) else .inl (acc + treeR r d (afterOf r p m))) id ms n)
        ∧ 1 ≤ scanL (fun acc m => bif decide (acc + treeR r d (afterOf r p m) > 50000) then .inr (acc + treeR r d (afterOf r p m)) else .inl (acc + treeR r d (afterOf r p m))) id ms n
        ∧ scanL (fun acc m => bif decide (acc + treeR r d (afterOf r p m) > 50000) then .inr (acc + treeR r d (afterOf r p m)) else .inl (acc + treeR r d (afterOf r p m))) id ms n ≤ 50000 * (((d + 1 : Nat) : Int) + 1) := by
      intro ms
      induction ms with
      | nil => intro n h1 h2; simp [scanL] <;> omega
      | cons m ms ih2 =>
        intro n h1 h2
        simp only [List.map_cons, List.sum_cons]
        have hp := treeN_pos r d (afterOf r p m)
        obtain ⟨a1, a2, a3, a4⟩ := ih (afterOf r p m)
        unfold scanL
        by_cases c : n + treeR r d (afterOf r p m) > 50000
        · rw [decide_eq_true c]
          simp only [cond_true]
          refine ⟨fun h => ?_, fun _ => c, by omega, by push_cast; omega⟩
          rw [a1 (by omega)] at c
          omega
        · rw [decide_eq_false c]
          simp only [cond_false]
          have ht : (treeN r d (afterOf r p m) : Int) ≤ 50000 := by
            refine Decidable.byContradiction fun h => ?_
            have := a2 (by omega)
            omega
          rw [a1 ht] at c ⊢
          obtain ⟨b1, b2, b3, b4⟩ := ih2 (n + treeN r d (afterOf r p m)) (by omega) (by omega)
          refine ⟨fun h => ?_, fun h => b2 (by omega), b3, b4⟩
          rw [b1 (by omega)]
          push_cast
          omega
    unfold treeR treeN
    obtain ⟨k1, k2, k3, k4⟩ := key (openMoves r p) 1 (by omega) (by omega)
    refine ⟨fun h => ?_, fun h => k2 (by push_cast at h; omega), k3, k4⟩
    rw [k1 (by push_cast at h; omega)]
    push_cast
    omega
/-- what is left of a limit -/
def fitsR (r : Rules) : Nat → Place → Int → Int
  | 0, _, l => l - 1
  | d + 1, p, l => if l - 1 < 0 then l - 1 else scanL (fun acc m => bif decide (fitsR r d (afterOf r p m) acc < 0) then .inr (-1) else .inl (fitsR r d (afterOf r p m) acc)) id (openMoves r p) (l - 1)
theorem fitsR_spec (r : Rules) : ∀ (d : Nat) (p : Place) (l : Int), 0 ≤ l → ((treeN r d p : Int) ≤ l → fitsR r d p l = l - treeN r d p) ∧ (l < (treeN r d p : Int) → fitsR r d p l = -1)
  | 0, p, l, hl => by unfold fitsR treeN; simp; omega
  | d + 1, p, l, hl => by
    have ih := fitsR_spec r d
    have key : ∀ (ms : List Mv) (n : Int), 0 ≤ n →
        (((ms.map fun m => treeN r d (afterOf r p m)).sum : Nat) ≤ n → scanL (fun acc m => bif decide (fitsR r d (afterOf r p m) acc < 0) then .inr (-1) else .inl (fitsR r d (afterOf r p m) acc)) id ms n = n - ((ms.map fun m => treeN r d (afterOf r p m)).sum : Nat))
        ∧ (n < ((ms.map fun m => treeN r d (afterOf r p m)).sum : Nat) → scanL (fun acc m => bif decide (fitsR r d (afterOf r p m) acc < 0) then .inr (-1) else .inl (fitsR r d (afterOf r p m) acc)) id ms n = -1) := by
      intro ms
      induction ms with
      | nil => intro n h1; simp [scanL] <;> omega
      | cons m ms ih2 =>
        intro n h1
        simp only [List.map_cons, List.sum_cons]
        obtain ⟨a1, a2⟩ := ih (afterOf r p m) n h1
        unfold scanL
        by_cases c : (treeN r d (afterOf r p m) : Int) ≤ n
        · rw [a1 c, decide_eq_false (by omega)]
          simp only [cond_false]
          obtain ⟨b1, b2⟩ := ih2 (n - treeN r d (afterOf r p m)) (by omega)
          refine ⟨fun h => ?_, fun h => b2 (by omega)⟩
          rw [b1 (by omega)]
          push_cast
          omega
        · rw [a2 (by omega)]
          refine ⟨fun h => by omega, fun _ => rfl⟩
    unfold fitsR treeN
    by_cases c : l - 1 < 0
    · rw [if_pos c]
      have : l = 0 := by omega
      subst this
      exact ⟨fun h => by push_cast at h; omega, fun _ => rfl⟩
    · rw [if_neg c]
      obtain ⟨k1, k2⟩ := key (openMoves r p) (l - 1) (by omega)
      refine ⟨fun h => ?_, fun h => k2 (by push_cast at h; omega)⟩
      rw [k1 (by push_cast at h; omega)]
      push_cast
      omega
end Go.Proofs.Yticeklcmijbjfaa
