/- Numbers in order, each once; the orbit of a square. No condition of its own. -/
import Derived.Test.YtpajmeljfpolcaaSymmMapsS
import Derived.Test.YtpajmeljfpolcaaDenL
import Derived.Test.YtpajmeljfpolcaaDenF
namespace Go.Proofs.Ytpajmeljfpolcaa
open Go.Den
set_option linter.unusedVariables false
set_option linter.unusedSimpArgs false
set_option maxRecDepth 100000

/-- each once, of a list in which equals are neighbours -/
def idd1 (a : Int) : List Int → List Int
  | [] => []
  | x :: xs => if x = a then idd1 a xs else x :: idd1 x xs
def idd : List Int → List Int
  | [] => []
  | x :: xs => x :: idd1 x xs
theorem idd1_snoc (y : Int) : ∀ (l : List Int) (a : Int), idd1 a (l ++ [y]) = idd1 a l ++ (if (a :: l).getLast (by simp) = y then [] else [y])
  | [], a => by simp only [List.nil_append, idd1, List.getLast_singleton]; by_cases h : y = a <;> simp [h, eq_comm]
  | x :: xs, a => by
    simp only [List.cons_append, idd1]
    by_cases h : x = a
    · subst h
      rw [if_pos rfl, if_pos rfl, idd1_snoc y xs x]
      congr 2
    · rw [if_neg h, if_neg h, idd1_snoc y xs x, List.cons_append]
      congr 2
theorem idd_snoc {l : List Int} (hl : l ≠ []) (y : Int) : idd (l ++ [y]) = idd l ++ (if l.getLast hl = y then [] else [y]) := by
  cases l with
  | nil => exact absurd rfl hl
  | cons x xs => simp only [List.cons_append, idd, idd1_snoc]
theorem idd1_mem (z : Int) : ∀ (l : List Int) (a : Int), z ∈ a :: idd1 a l ↔ z ∈ a :: l
  | [], a => by simp [idd1]
  | x :: xs, a => by
    simp only [idd1]
    by_cases h : x = a
    · subst h; rw [if_pos rfl, idd1_mem z xs x]; simp
    · rw [if_neg h, List.mem_cons, idd1_mem z xs x, ← List.mem_cons]
theorem idd_mem (z : Int) (l : List Int) : z ∈ idd l ↔ z ∈ l := by
  cases l with
  | nil => simp [idd]
  | cons x xs => exact idd1_mem z xs x
theorem idd1_lt : ∀ (l : List Int) (a : Int), (a :: l).Pairwise (fun x y => x ≤ y) → (a :: idd1 a l).Pairwise (fun x y => x < y)
  | [], a, h => by simp [idd1]
  | x :: xs, a, h => by
    simp only [idd1]
    rw [List.pairwise_cons] at h
    by_cases e : x = a
    · subst e; rw [if_pos rfl]; exact idd1_lt xs x h.2
    · rw [if_neg e, List.pairwise_cons]
      refine ⟨fun z hz => ?_, idd1_lt xs x h.2⟩
      have hz' := (idd1_mem z xs x).1 hz
      have h1 := h.1 x (by simp)
      rcases List.mem_cons.1 hz' with rfl | hz2
      · omega
      · have h2 := (List.pairwise_cons.1 h.2).1 z hz2
        omega
theorem idd_lt {l : List Int} (h : l.Pairwise (fun x y => x ≤ y)) : (idd l).Pairwise (fun x y => x < y) := by
  cases l with
  | nil => simp [idd]
  | cons x xs => exact idd1_lt xs x h
theorem isort_pw (l : List Int) : (sortInts l).Pairwise (fun x y => x ≤ y) := by
  unfold sortInts
  refine List.Pairwise.imp (R := fun a b => decide (a ≤ b) = true) (fun h => by simpa using h) (List.pairwise_mergeSort (le := fun x y : Int => decide (x ≤ y)) ?_ ?_ l)
  · intro a b c h1 h2
    simp only [decide_eq_true_eq] at *
    omega
  · intro a b
    simp only [Bool.or_eq_true, decide_eq_true_eq]
    omega
theorem isort_mem (z : Int) (l : List Int) : z ∈ sortInts l ↔ z ∈ l := (List.mergeSort_perm l _).mem_iff
theorem isort_len (l : List Int) : (sortInts l).length = l.length := List.length_mergeSort l
/-- two lists in strict order with the same numbers are the same -/
theorem ilt_unique : ∀ {l m : List Int}, l.Pairwise (fun x y => x < y) → m.Pairwise (fun x y => x < y) → (∀ z, z ∈ l ↔ z ∈ m) → l = m
  | [], [], _, _, _ => rfl
  | [], y :: m, _, _, h => by have := (h y).2 (by simp); simp at this
  | x :: l, [], _, _, h => by have := (h x).1 (by simp); simp at this
  | x :: l, y :: m, hl, hm, h => by
    rw [List.pairwise_cons] at hl hm
    have e : x = y := by
      rcases List.mem_cons.1 ((h x).1 (by simp)) with e | e
      · exact e
      · rcases List.mem_cons.1 ((h y).2 (by simp)) with e2 | e2
        · exact e2.symm
        · have a := hm.1 x e
          have b := hl.1 y e2
          omega
    subst e
    congr 1
    refine ilt_unique hl.2 hm.2 fun z => ⟨fun hz => ?_, fun hz => ?_⟩
    · rcases List.mem_cons.1 ((h z).1 (by simp [hz])) with e | e
      · subst e; have := hl.1 z hz; omega
      · exact e
    · rcases List.mem_cons.1 ((h z).2 (by simp [hz])) with e | e
      · subst e; have := hm.1 z hz; omega
      · exact e

/-! ### compacting -/
theorem iget_take {xs : List Int} {j : Nat} (h : j < xs.length) : xs.take (j + 1) = xs.take j ++ [getD' xs j (0 : Int)] := by
  rw [List.take_succ_eq_append_getElem h]
  simp [getD', h]
theorem idd_take {xs : List Int} {j : Nat} (h : j < xs.length) (hj : 1 ≤ j) : idd (xs.take (j + 1)) = idd (xs.take j) ++ (if getD' xs (j - 1) (0 : Int) = getD' xs j (0 : Int) then [] else [getD' xs j (0 : Int)]) := by
  have hne : xs.take j ≠ [] := by
    intro e
    have := congrArg List.length e
    rw [List.length_take] at this
    simp only [List.length_nil] at this
    omega
  rw [iget_take h, idd_snoc hne]
  have : (xs.take j).getLast hne = getD' xs (j - 1) (0 : Int) := by
    rw [List.getLast_eq_getElem]
    simp only [List.getElem_take, List.length_take, getD']
    rw [List.getD_eq_getElem?_getD, List.getElem?_eq_getElem (by omega)]
    simp only [Option.getD_some]
    congr 1
    omega
  rw [this]
theorem icompact5 (xs : List Int) (k0 : Nat) (hk0 : 1 ≤ k0) (hk1 : k0 < xs.length) (hx : xs.length ≤ 1000000) (hd : idd (xs.take (k0 + 1)) = xs.take k0) :
    ∃ r, iterW (symmOrbit_L3 (((k0 : Int), ()), (xs, ()))) (((k0 : Int), (1 : Int), ()), (xs, ())) = some r ∧ (∃ k : Nat, r.1.1 = (k : Int) ∧ k ≤ xs.length ∧ r.2.1.length = xs.length ∧ r.2.1.take k = idd xs) := by
  refine iterW_meas (fun x => ∃ (k k2 : Nat), x.1.1 = (k : Int) ∧ x.1.2.1 = (k2 : Int) ∧ 1 ≤ k2 ∧ k0 + k2 ≤ xs.length ∧ k0 ≤ k ∧ k + 1 ≤ k0 + k2 ∧ x.2.1.length = xs.length ∧ (∀ j, k0 + k2 ≤ j + 1 → getD' x.2.1 j (0 : Int) = getD' xs j (0 : Int)) ∧ x.2.1.take k = idd (xs.take (k0 + k2))) (fun x => xs.length - x.1.2.1.toNat) _ ?_ _ ⟨k0, 1, rfl, rfl, by omega, by omega, by omega, by omega, rfl, fun _ _ => rfl, by rw [hd]⟩
  rintro ⟨⟨k, k2, ⟨⟩⟩, ys, ⟨⟩⟩ ⟨K, K2, e1, e2, h1, h2, h3, h4, h5, h6, h7⟩
  simp only at e1 e2 h5 h6 h7
  subst e1 e2
  unfold symmOrbit_L3
  simp only [Int.toNat_natCast]
  by_cases hlt : K2 < xs.length - k0
  · left
    have c1 : decide ((K2 : Int) < ((xs.length - k0 : Nat) : Int)) = true := by simp; omega
    have c2 : inb (K2 : Int) (xs.length - k0) = true := inb_iff.2 ⟨by omega, by omega⟩
    have w1 : w64 ((K2 : Int) - 1) = ((K2 - 1 : Nat) : Int) := by rw [w64_id (by omega) (by omega)]; omega
    have c3 : inb ((K2 - 1 : Nat) : Int) (xs.length - k0) = true := inb_iff.2 ⟨by omega, by omega⟩
    have w2 : w64 ((K2 : Int) + 1) = ((K2 + 1 : Nat) : Int) := by rw [w64_id (by omega) (by omega)]; omega
    have w3 : w64 ((K : Int) + 1) = ((K + 1 : Nat) : Int) := by rw [w64_id (by omega) (by omega)]; omega
    have c4 : inb (K : Int) ys.length = true := inb_iff.2 ⟨by omega, by omega⟩
    have g1 : getD' ys (k0 + K2) (0 : Int) = getD' xs (k0 + K2) (0 : Int) := h6 _ (by omega)
    have g2 : getD' ys (k0 + (K2 - 1)) (0 : Int) = getD' xs (k0 + (K2 - 1)) (0 : Int) := h6 _ (by omega)
    have hdd := idd_take (xs := xs) (j := k0 + K2) (by omega) (by omega)
    simp only [c1, cond_true, c2, req_true, w1, Int.toNat_natCast, c3, w2, w3, c4, g1, g2]
    by_cases he : getD' xs (k0 + K2) (0 : Int) = getD' xs (k0 + (K2 - 1)) (0 : Int)
    · refine ⟨(((K : Int), ((K2 + 1 : Nat) : Int), ()), (ys, ())), by simp [he], ⟨K, K2 + 1, rfl, rfl, by omega, by omega, by omega, by omega, h5, fun j hj => h6 j (by omega), ?_⟩, by simp; omega⟩
      rw [show k0 + (K2 + 1) = k0 + K2 + 1 by omega, hdd, if_pos (by rw [he]; congr 1; omega), List.append_nil]
      exact h7
    · refine ⟨((((K + 1 : Nat) : Int), ((K2 + 1 : Nat) : Int), ()), (ys.set K (getD' xs (k0 + K2) (0 : Int)), ())), by simp only [bne_t he, cond_true, Option.bind_some], ⟨K + 1, K2 + 1, rfl, rfl, by omega, by omega, by omega, by omega, by simp [h5], fun j hj => ?_, ?_⟩, by simp; omega⟩
      · rw [← h6 j (by omega)]
        simp only [getD']
        simp only [List.getD_eq_getElem?_getD]
        rw [List.getElem?_set_ne (by omega)]
      · rw [show k0 + (K2 + 1) = k0 + K2 + 1 by omega, hdd, if_neg (by intro e; apply he; rw [← e]; congr 1; omega), ← h7]
        rw [List.take_succ_eq_append_getElem (by simp; omega)]
        simp [List.take_set_of_le]
  · right
    have c1 : decide ((K2 : Int) < ((xs.length - k0 : Nat) : Int)) = false := by simp; omega
    refine ⟨(((K : Int), ()), (ys, ())), by simp only [c1, cond_false], K, rfl, by omega, h5, ?_⟩
    rw [h7, show k0 + K2 = xs.length by omega, List.take_length]
theorem icompact4 (xs : List Int) (hx : xs.length ≤ 1000000) (h2 : 2 ≤ xs.length) :
    (Option.bind (α := ((Unit) × ((List Int) × Unit)) ⊕ (((List Int) × Int × Unit) × (Unit))) (iterW symmOrbit_L2 (((1 : Int), ()), (xs, ()))) (Sum.elim (fun x23 => some ((x23.2.1, (0 : Int), ()), ())) some)) = some ((idd xs, (0 : Int), ()), ()) := by
  obtain ⟨r, hr, hq⟩ := iterW_meas (f := symmOrbit_L2) (fun x => ∃ k : Nat, x = (((k : Int), ()), (xs, ())) ∧ 1 ≤ k ∧ k ≤ xs.length ∧ idd (xs.take k) = xs.take k) (fun x => xs.length - x.1.1.toNat) (fun r => r = .inl ((), (xs, ())) ∧ idd xs = xs ∨ r = .inr ((idd xs, (0 : Int), ()), ())) (by
    rintro x ⟨k, rfl, h1, h3, h4⟩
    unfold symmOrbit_L2
    simp only [Int.toNat_natCast]
    by_cases hlt : k < xs.length
    · have c1 : decide ((k : Int) < ((xs.length : Nat) : Int)) = true := by simp; omega
      have c2 : inb (k : Int) xs.length = true := inb_iff.2 ⟨by omega, by omega⟩
      have w1 : w64 ((k : Int) - 1) = ((k - 1 : Nat) : Int) := by rw [w64_id (by omega) (by omega)]; omega
      have c3 : inb ((k - 1 : Nat) : Int) xs.length = true := inb_iff.2 ⟨by omega, by omega⟩
      have w2 : w64 ((k : Int) + 1) = ((k + 1 : Nat) : Int) := by rw [w64_id (by omega) (by omega)]; omega
      have c4 : boundsI (k : Int) ((xs.length : Nat) : Int) xs.length = true := by simp [boundsI]; omega
      have hdd := idd_take hlt h1
      simp only [c1, cond_true, c2, req_true, w1, Int.toNat_natCast, c3, c4]
      by_cases he : getD' xs k (0 : Int) = getD' xs (k - 1) (0 : Int)
      · right
        rw [if_pos he.symm, List.append_nil, h4] at hdd
        obtain ⟨r, hr, K, e1, e2, e3, e4⟩ := icompact5 xs k h1 hlt hx hdd
        obtain ⟨⟨k', ⟨⟩⟩, ys, ⟨⟩⟩ := r
        simp only at e1 e3 e4
        subst e1
        refine ⟨.inr ((idd xs, (0 : Int), ()), ()), ?_, .inr rfl⟩
        rw [hr]
        have c5 : boundsI (K : Int) ((ys.length : Nat) : Int) ys.length = true := by simp [boundsI]; omega
        have c6 : ∀ l : List Int, K ≤ l.length → boundsI 0 (K : Int) l.length = true := fun l hl => by simp [boundsI]; omega
        simp only [he, beq_self_eq_true, cond_true, Option.bind_some, c5, req_true, Int.toNat_natCast]
        rw [c6 _ (by simp; omega), req_true, Option.bind_some, Sum.elim_inr, List.take_append_of_le_length (by simp; omega), List.take_take, Nat.min_self, e4]
      · left
        refine ⟨((((k + 1 : Nat) : Int), ()), (xs, ())), ?_, ⟨k + 1, rfl, by omega, by omega, ?_⟩, by simp; omega⟩
        · simp only [beq_f he, cond_false, Option.bind_some, Sum.elim_inl, w2]
        · rw [hdd, if_neg (fun e => he e.symm), h4, ← iget_take hlt]
    · right
      have c1 : decide ((k : Int) < ((xs.length : Nat) : Int)) = false := by simp; omega
      refine ⟨.inl ((), (xs, ())), by simp only [c1, cond_false], .inl ⟨rfl, ?_⟩⟩
      have : k = xs.length := by omega
      rw [this, List.take_length] at h4
      exact h4) (((1 : Int), ()), (xs, ())) ⟨1, rfl, by omega, by omega, by
        cases xs with
        | nil => rfl
        | cons x l => rfl⟩
  rw [hr]
  rcases hq with ⟨rfl, e⟩ | rfl
  · rw [e]; rfl
  · rfl
end Go.Proofs.Ytpajmeljfpolcaa
