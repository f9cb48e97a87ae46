/- Certificates: the indices of the replies. No condition of its own. -/
import Derived.Test.YticeklcmijbjfaaCertB
namespace Go.Proofs.Yticeklcmijbjfaa
open Go.Den
set_option linter.unusedVariables false
set_option linter.unusedSimpArgs false
set_option maxRecDepth 100000

def allF (ok : Nat → Bool) : Nat → Nat → Bool
  | _, 0 => true
  | i, m + 1 => ok i && allF ok (i + 1) m
def foldF {A : Type} (g : Nat → A → A) : Nat → Nat → A → A
  | _, 0, a => a
  | i, m + 1, a => foldF g (i + 1) m (g i a)
theorem allF_iff {ok : Nat → Bool} : ∀ {m i : Nat}, allF ok i m = true ↔ ∀ j, i ≤ j → j < i + m → ok j = true
  | 0, i => ⟨fun _ j h1 h2 => by omega, fun _ => rfl⟩
  | m + 1, i => by
    rw [allF, Bool.and_eq_true, allF_iff]
    constructor
    · rintro ⟨h1, h2⟩ j h3 h4
      by_cases e : i = j
      · rw [← e]; exact h1
      · exact h2 j (by omega) (by omega)
    · intro h
      exact ⟨h i (by omega) (by omega), fun j h1 h2 => h j (by omega) (by omega)⟩
theorem foldF_congr {A : Type} {g h : Nat → A → A} : ∀ (m i : Nat) (a : A), (∀ j, i ≤ j → j < i + m → ∀ a, g j a = h j a) → foldF g i m a = foldF h i m a
  | 0, _, _, _ => rfl
  | m + 1, i, a, hh => by rw [foldF, foldF, hh i (by omega) (by omega), foldF_congr m (i + 1) _ fun j h1 h2 => hh j (by omega) (by omega)]
theorem foldF_inv {A : Type} {g : Nat → A → A} (P : A → Prop) (hg : ∀ i a, P a → P (g i a)) : ∀ (m i : Nat) (a : A), P a → P (foldF g i m a)
  | 0, _, _, h => h
  | m + 1, i, a, h => foldF_inv P hg m (i + 1) _ (hg i a h)
/-- a loop that may leave early -/
theorem iter_ex {T R A : Type} (n : Nat) (f : T → Option (T ⊕ R)) (st : Nat → A → T) (ok : Nat → Bool) (g : Nat → A → A) (fin : A → R) (bad : R) (I : A → Prop)
    (hs : ∀ i, i < n → ∀ a, I a → f (st i a) = some (bif ok i then .inl (st (i + 1) (g i a)) else .inr bad)) (hI : ∀ i a, I a → I (g i a)) (he : ∀ a, I a → f (st n a) = some (.inr (fin a))) :
    ∀ (m i : Nat) (a : A), i + m = n → I a → iterW f (st i a) = some (bif allF ok i m then fin (foldF g i m a) else bad)
  | 0, i, a, hi, ha => by
    have e : i = n := by omega
    subst e
    exact iterW_inr (he a ha)
  | m + 1, i, a, hi, ha => by
    have h := hs i (by omega) a ha
    rw [allF, foldF]
    cases ho : ok i with
    | false =>
      rw [ho, cond_false] at h
      rw [iterW_inr h]; rfl
    | true =>
      rw [ho, cond_true] at h
      rw [iterW_inl h, iter_ex n f st ok g fin bad I hs hI he m (i + 1) (g i a) (by omega) (hI i a ha), Bool.true_and]
def incA (a : List Int) (k : Int) : List Int := a.set k.toNat (w64 (getD' a k.toNat 0 + 1))
def okK (n i k : Int) : Bool := (k == -1) || (decide (i < k) && decide (k < n))
def incR (n i k : Int) (a : List Int) : List Int := bif decide (k > i) && decide (k < n) then incA a k else a
theorem incR_len (n i k : Int) (a : List Int) : (incR n i k a).length = a.length := by
  unfold incR incA
  cases (decide (k > i) && decide (k < n)) <;> simp
def repN (l : List CNode) (i : Nat) : List Int := reps l (i : Int)
/-- what the replies of a node name -/
def nameI (l : List CNode) (i : Nat) (a : List Int) : List Int := foldF (fun j a => incR (l.length : Int) (i : Int) ((repN l i).getD j 0) a) 0 (repN l i).length a
def named (l : List CNode) : List Int := foldF (fun i a => nameI l i a) 0 l.length (List.replicate l.length 0)
def formI (l : List CNode) (i : Nat) : Bool := allF (fun j => okK (l.length : Int) (i : Int) ((repN l i).getD j 0)) 0 (repN l i).length
def formB (l : List CNode) : Bool := allF (formI l) 0 l.length
theorem nameI_len (l : List CNode) (i : Nat) (a : List Int) : (nameI l i a).length = a.length :=
  foldF_inv (fun b : List Int => b.length = a.length) (fun j b hb => by rw [incR_len]; exact hb) _ _ _ rfl
theorem named_len (l : List CNode) : (named l).length = l.length :=
  foldF_inv (fun b : List Int => b.length = l.length) (fun i b hb => by rw [nameI_len]; exact hb) _ _ _ (List.length_replicate ..)
theorem repN_get {l : List CNode} {i : Nat} (hi : i < l.length) : repN l i = l[i].2.1 := by
  unfold repN
  exact reps_get (nd := l[i]) (by rw [Int.toNat_natCast]; exact List.getElem?_eq_getElem hi)
theorem formB_form {l : List CNode} (h : formB l = true) : FormL l := by
  intro k hk j hj
  by_cases hkl : k.toNat < l.length
  · have h1 := allF_iff.1 h k.toNat (by omega) (by omega)
    unfold formI at h1
    have hr : repN l k.toNat = reps l k := by unfold repN; rw [show ((k.toNat : Nat) : Int) = k by omega]
    rw [hr] at h1
    obtain ⟨t, ht, e⟩ := List.mem_iff_getElem.1 hj
    have h2 := allF_iff.1 h1 t (by omega) (by omega)
    rw [List.getD_eq_getElem?_getD, List.getElem?_eq_getElem ht, Option.getD_some, e] at h2
    unfold okK at h2
    simp only [Bool.or_eq_true, beq_iff_eq, Bool.and_eq_true, decide_eq_true_eq] at h2
    rcases h2 with h2 | h2
    · exact .inl h2
    · exact .inr ⟨by omega, by omega⟩
  · unfold reps at hj
    rw [List.getD_eq_getElem?_getD, List.getElem?_eq_none (by omega)] at hj
    cases hj
/-! how often a node is named -/
def cs (l : List CNode) (x : Nat) : Nat → Nat → Nat
  | _, 0 => 0
  | i, m + 1 => (if i < x then (repN l i).count (x : Int) else 0) + cs l x (i + 1) m
theorem cs_one {l : List CNode} {x : Nat} : ∀ {m i a : Nat}, i ≤ a → a < i + m → a < x → (repN l a).count (x : Int) ≤ cs l x i m
  | 0, i, a, h1, h2, _ => by omega
  | m + 1, i, a, h1, h2, h3 => by
    rw [cs]
    by_cases e : i = a
    · subst e; rw [if_pos h3]; omega
    · have := cs_one (l := l) (x := x) (m := m) (i := i + 1) (a := a) (by omega) (by omega) h3
      omega
theorem cs_two {l : List CNode} {x : Nat} : ∀ {m i a b : Nat}, i ≤ a → a < b → b < i + m → b < x → (repN l a).count (x : Int) + (repN l b).count (x : Int) ≤ cs l x i m
  | 0, i, a, b, h1, h2, h3, _ => by omega
  | m + 1, i, a, b, h1, h2, h3, h4 => by
    rw [cs]
    by_cases e : i = a
    · subst e
      rw [if_pos (by omega)]
      have := cs_one (l := l) (x := x) (m := m) (i := i + 1) (a := b) (by omega) (by omega) h4
      omega
    · have := cs_two (l := l) (x := x) (m := m) (i := i + 1) (a := a) (b := b) (by omega) h2 (by omega) h4
      omega
theorem tree_of {l : List CNode} (hF : FormL l) (h : ∀ x : Nat, 0 < x → x < l.length → cs l x 0 l.length = 1) : TreeL l := by
  have hin : ∀ a x : Int, 0 ≤ a → a < x → x ∈ reps l a → a.toNat < l.length ∧ x.toNat < l.length := fun a x ha hax hx => by
    have h1 := hF a ha x hx
    omega
  have hrn : ∀ a : Int, 0 ≤ a → reps l a = repN l a.toNat := fun a ha => by unfold repN; rw [show ((a.toNat : Nat) : Int) = a by omega]
  have hcx : ∀ x : Int, 0 ≤ x → ((x.toNat : Nat) : Int) = x := fun x hx => by omega
  constructor
  · intro a a' x ha ha' hax hax' hx hx'
    obtain ⟨i1, i2⟩ := hin a x ha hax hx
    obtain ⟨i3, i4⟩ := hin a' x ha' hax' hx'
    have h1 := h x.toNat (by omega) i2
    rw [hrn a ha] at hx
    rw [hrn a' ha'] at hx'
    have c1 : 0 < (repN l a.toNat).count x := List.count_pos_iff.2 hx
    have c2 : 0 < (repN l a'.toNat).count x := List.count_pos_iff.2 hx'
    rw [← hcx x (by omega)] at c1 c2
    rcases Nat.lt_trichotomy a.toNat a'.toNat with h2 | h2 | h2
    · have := cs_two (l := l) (x := x.toNat) (m := l.length) (i := 0) (a := a.toNat) (b := a'.toNat) (by omega) h2 (by omega) (by omega)
      omega
    · omega
    · have := cs_two (l := l) (x := x.toNat) (m := l.length) (i := 0) (a := a'.toNat) (b := a.toNat) (by omega) h2 (by omega) (by omega)
      omega
  · intro a x ha hax
    by_cases hx : x ∈ reps l a
    · obtain ⟨i1, i2⟩ := hin a x ha hax hx
      have h1 := h x.toNat (by omega) i2
      have := cs_one (l := l) (x := x.toNat) (m := l.length) (i := 0) (a := a.toNat) (by omega) (by omega) (by omega)
      rw [hrn a ha, ← hcx x (by omega)]
      omega
    · rw [List.count_eq_zero_of_not_mem hx]; omega
theorem inner_count {l : List CNode} {i : Nat} {B : Int} (hB : B ≤ 4611686018427387904) : ∀ (m j : Nat) (a : List Int), j + m = (repN l i).length → a.length = l.length → (∀ x : Nat, x < l.length → 0 ≤ a.getD x 0 ∧ a.getD x 0 + (m : Int) ≤ B) →
    ∀ x : Nat, x < l.length → (foldF (fun j a => incR (l.length : Int) (i : Int) ((repN l i).getD j 0) a) j m a).getD x 0 = a.getD x 0 + ((if i < x then ((repN l i).drop j).count (x : Int) else 0 : Nat) : Int)
  | 0, j, a, hj, hl, ha, x, hx => by
    rw [foldF, List.drop_of_length_le (by omega)]
    simp
  | m + 1, j, a, hj, hl, ha, x, hx => by
    have hjl : j < (repN l i).length := by omega
    have hdrop : (repN l i).drop j = (repN l i)[j] :: (repN l i).drop (j + 1) := List.drop_eq_getElem_cons hjl
    have hgj : (repN l i).getD j 0 = (repN l i)[j] := by rw [List.getD_eq_getElem?_getD, List.getElem?_eq_getElem hjl, Option.getD_some]
    rw [foldF, hgj]
    have hget : ∀ y : Nat, y < l.length → (incR (l.length : Int) (i : Int) (repN l i)[j] a).getD y 0 = a.getD y 0 + (if (i < y ∧ (repN l i)[j] = (y : Int)) then 1 else 0) := fun y hy => by
      unfold incR
      by_cases hc : (i : Int) < (repN l i)[j] ∧ (repN l i)[j] < (l.length : Int)
      · rw [decide_eq_true (show (repN l i)[j] > (i : Int) from hc.1), decide_eq_true hc.2, Bool.and_self, cond_true]
        unfold incA
        have hb := ha (repN l i)[j].toNat (by omega)
        have hgd : getD' a (repN l i)[j].toNat 0 = a.getD (repN l i)[j].toNat 0 := rfl
        rw [hgd, w64_id (by omega) (by omega)]
        simp only [List.getD_eq_getElem?_getD, List.getElem?_set]
        by_cases e : (repN l i)[j].toNat = y
        · rw [if_pos e, if_pos (by omega), Option.getD_some, if_pos (by omega), e]
        · rw [if_neg e, if_neg (by omega)]
          omega
      · have : (decide ((repN l i)[j] > (i : Int)) && decide ((repN l i)[j] < (l.length : Int))) = false := by
          rw [Bool.and_eq_false_iff, decide_eq_false_iff_not, decide_eq_false_iff_not]
          omega
        rw [this, cond_false, if_neg (by omega)]
        omega
    rw [inner_count hB m (j + 1) _ (by omega) (by rw [incR_len]; exact hl) (fun y hy => by
      have h1 := ha y hy
      rw [hget y hy]
      split <;> omega) x hx, hget x hx, hdrop, List.count_cons]
    by_cases h1 : i < x
    · rw [if_pos h1, if_pos h1]
      by_cases h2 : (repN l i)[j] = (x : Int)
      · rw [if_pos ⟨h1, h2⟩, beq_t h2]; simp; omega
      · rw [if_neg (by omega), beq_f h2]; simp
    · rw [if_neg h1, if_neg h1, if_neg (by omega)]
      simp
theorem outer_count {l : List CNode} {L : Int} (hL : ∀ i : Nat, ((repN l i).length : Int) ≤ L) (hL0 : 0 ≤ L) : ∀ (m i : Nat) (a : List Int), a.length = l.length → (∀ x : Nat, x < l.length → 0 ≤ a.getD x 0 ∧ a.getD x 0 + (m : Int) * L ≤ 4611686018427387904) →
    ∀ x : Nat, x < l.length → (foldF (fun i a => nameI l i a) i m a).getD x 0 = a.getD x 0 + ((cs l x i m : Nat) : Int)
  | 0, i, a, hl, ha, x, hx => by simp [foldF, cs]
  | m + 1, i, a, hl, ha, x, hx => by
    have hmL : ((m + 1 : Nat) : Int) * L = (m : Int) * L + L := by
      rw [Int.natCast_add, Int.add_mul]; simp
    have hin := hL i
    have hm0 : 0 ≤ (m : Int) * L := Int.mul_nonneg (by omega) hL0
    have hstep : ∀ y : Nat, y < l.length → (nameI l i a).getD y 0 = a.getD y 0 + ((if i < y then (repN l i).count (y : Int) else 0 : Nat) : Int) := fun y hy => by
      have := inner_count (l := l) (i := i) (B := 4611686018427387904) (Int.le_refl _) (repN l i).length 0 a (by omega) hl (fun z hz => by have := ha z hz; omega) y hy
      rw [List.drop_zero] at this
      exact this
    rw [foldF, outer_count hL hL0 m (i + 1) _ (by rw [nameI_len]; exact hl) (fun y hy => by
      have h1 := ha y hy
      have h2 : (repN l i).count (y : Int) ≤ (repN l i).length := List.count_le_length
      rw [hstep y hy]
      split <;> omega) x hx, hstep x hx, cs]
    omega
/-- the replies are right, and each node but the first is named once -/
def shapeB (l : List CNode) : Bool := formB l && ((named l).drop 1).all (fun n => n == 1)
theorem shape_tree {l : List CNode} (h : shapeB l = true) (hn : l.length ≤ 200) (hL : ∀ nd ∈ l, nd.2.1.length < 140737488355328) : FormL l ∧ TreeL l := by
  unfold shapeB at h
  rw [Bool.and_eq_true, List.all_eq_true] at h
  have hF := formB_form h.1
  refine ⟨hF, tree_of hF fun x h0 hx => ?_⟩
  have hLr : ∀ i : Nat, ((repN l i).length : Int) ≤ 140737488355328 := fun i => by
    by_cases hi : i < l.length
    · rw [repN_get hi]
      have := hL l[i] (List.getElem_mem hi)
      omega
    · unfold repN reps
      rw [List.getD_eq_getElem?_getD, List.getElem?_eq_none (by omega)]
      simp
  have hc := outer_count hLr (by omega) l.length 0 (List.replicate l.length 0) (by simp) (fun y hy => by
    rw [List.getD_eq_getElem?_getD, List.getElem?_replicate, if_pos hy, Option.getD_some]
    have : ((l.length : Nat) : Int) * 140737488355328 ≤ 200 * 140737488355328 := Int.mul_le_mul_of_nonneg_right (by omega) (by omega)
    omega) x hx
  have hnl := named_len l
  have h1 : (named l).getD x 0 = 1 := by
    have hm : (named l)[x]'(by omega) ∈ (named l).drop 1 := by
      refine List.mem_of_getElem? (i := x - 1) ?_
      rw [List.getElem?_drop, show 1 + (x - 1) = x by omega, List.getElem?_eq_getElem (by omega)]
    have := h.2 _ hm
    rw [List.getD_eq_getElem?_getD, List.getElem?_eq_getElem (by omega), Option.getD_some]
    simpa using this
  have hz : (List.replicate l.length (0 : Int)).getD x 0 = 0 := by
    rw [List.getD_eq_getElem?_getD, List.getElem?_replicate, if_pos hx, Option.getD_some]
  unfold named at h1
  rw [hc, hz] at h1
  omega
end Go.Proofs.Yticeklcmijbjfaa
