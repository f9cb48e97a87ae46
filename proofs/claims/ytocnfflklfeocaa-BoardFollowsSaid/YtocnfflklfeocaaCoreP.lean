/- Moves in order, each once: what sorting and compacting a list of moves gives. No condition of its own. -/
import Derived.Test.YtocnfflklfeocaaCoreS
import Derived.Test.YtocnfflklfeocaaDenL
namespace Go.Proofs.Ytocnfflklfeocaa
open Go.Den
set_option linter.unusedVariables false
set_option linter.unusedSimpArgs false
set_option maxRecDepth 100000

theorem lt_iff (x y : Mv) : mvLt x y = true ↔ x.1 < y.1 ∨ x.1 = y.1 ∧ (x.2.1 < y.2.1 ∨ x.2.1 = y.2.1 ∧ x.2.2.1 < y.2.2.1) := by simp [mvLt]
theorem lt_f (x y : Mv) : mvLt x y = false ↔ ¬ (x.1 < y.1 ∨ x.1 = y.1 ∧ (x.2.1 < y.2.1 ∨ x.2.1 = y.2.1 ∧ x.2.2.1 < y.2.2.1)) := by rw [← lt_iff, Bool.not_eq_true]
theorem mv_eq {x y : Mv} (h1 : x.1 = y.1) (h2 : x.2.1 = y.2.1) (h3 : x.2.2.1 = y.2.2.1) : x = y := by
  obtain ⟨a, b, c, ⟨⟩⟩ := x
  obtain ⟨a', b', c', ⟨⟩⟩ := y
  simp only at h1 h2 h3
  subst h1 h2 h3
  rfl
theorem mv_beq (x y : Mv) : ((x.1 == y.1) && ((x.2.1 == y.2.1) && ((x.2.2.1 == y.2.2.1) && true))) = decide (x = y) := by
  rw [Bool.eq_iff_iff]
  simp only [Bool.and_eq_true, beq_iff_eq, decide_eq_true_eq, and_true]
  constructor
  · rintro ⟨h1, h2, h3⟩; exact mv_eq h1 h2 h3
  · rintro rfl; exact ⟨rfl, rfl, rfl⟩

/-- each once, of a list in which equals are neighbours -/
def dd1 (a : Mv) : List Mv → List Mv
  | [] => []
  | x :: xs => if x = a then dd1 a xs else x :: dd1 x xs
def dd : List Mv → List Mv
  | [] => []
  | x :: xs => x :: dd1 x xs
theorem dd1_snoc (y : Mv) : ∀ (l : List Mv) (a : Mv), dd1 a (l ++ [y]) = dd1 a l ++ (if (a :: l).getLast (by simp) = y then [] else [y])
  | [], a => by simp only [List.nil_append, dd1, List.getLast_singleton]; by_cases h : y = a <;> simp [h, eq_comm]
  | x :: xs, a => by
    simp only [List.cons_append, dd1]
    by_cases h : x = a
    · subst h
      rw [if_pos rfl, if_pos rfl, dd1_snoc y xs x]
      congr 2
    · rw [if_neg h, if_neg h, dd1_snoc y xs x, List.cons_append]
      congr 2
theorem dd_snoc {l : List Mv} (hl : l ≠ []) (y : Mv) : dd (l ++ [y]) = dd l ++ (if l.getLast hl = y then [] else [y]) := by
  cases l with
  | nil => exact absurd rfl hl
  | cons x xs => simp only [List.cons_append, dd, dd1_snoc]
theorem dd1_mem (z : Mv) : ∀ (l : List Mv) (a : Mv), z ∈ a :: dd1 a l ↔ z ∈ a :: l
  | [], a => by simp [dd1]
  | x :: xs, a => by
    simp only [dd1]
    by_cases h : x = a
    · subst h; rw [if_pos rfl, dd1_mem z xs x]; simp
    · rw [if_neg h, List.mem_cons, dd1_mem z xs x, ← List.mem_cons]
theorem dd_mem (z : Mv) (l : List Mv) : z ∈ dd l ↔ z ∈ l := by
  cases l with
  | nil => simp [dd]
  | cons x xs => exact dd1_mem z xs x
theorem dd1_lt : ∀ (l : List Mv) (a : Mv), (a :: l).Pairwise (fun x y => (!mvLt y x) = true) → (a :: dd1 a l).Pairwise (fun x y => mvLt x y = true)
  | [], a, h => by simp [dd1]
  | x :: xs, a, h => by
    simp only [dd1]
    rw [List.pairwise_cons] at h
    by_cases e : x = a
    · subst e; rw [if_pos rfl]; exact dd1_lt xs x h.2
    · rw [if_neg e, List.pairwise_cons]
      refine ⟨fun z hz => ?_, dd1_lt xs x h.2⟩
      have hz' := (dd1_mem z xs x).1 hz
      have h1 := h.1 x (by simp)
      have hax : mvLt a x = true := by
        rw [Bool.not_eq_true', lt_f] at h1
        rw [lt_iff]
        by_cases c1 : a.1 = x.1
        · by_cases c2 : a.2.1 = x.2.1
          · by_cases c3 : a.2.2.1 = x.2.2.1
            · exact absurd (mv_eq c1 c2 c3).symm e
            · omega
          · omega
        · omega
      rcases List.mem_cons.1 hz' with rfl | hz2
      · exact hax
      · have h2 := (List.pairwise_cons.1 h.2).1 z hz2
        rw [Bool.not_eq_true', lt_f] at h2
        rw [lt_iff] at hax ⊢
        omega
theorem dd_lt {l : List Mv} (h : l.Pairwise (fun x y => (!mvLt y x) = true)) : (dd l).Pairwise (fun x y => mvLt x y = true) := by
  cases l with
  | nil => simp [dd]
  | cons x xs => exact dd1_lt xs x h
theorem sort_pw (l : List Mv) : (sortMoves l).Pairwise (fun x y => (!mvLt y x) = true) := by
  unfold sortMoves
  apply List.pairwise_mergeSort
  · intro a b c h1 h2
    rw [Bool.not_eq_true', lt_f] at *
    omega
  · intro a b
    rw [Bool.or_eq_true, Bool.not_eq_true', Bool.not_eq_true', lt_f, lt_f]
    omega
theorem sort_mem (z : Mv) (l : List Mv) : z ∈ sortMoves l ↔ z ∈ l := (List.mergeSort_perm l _).mem_iff
theorem sort_len (l : List Mv) : (sortMoves l).length = l.length := List.length_mergeSort l
theorem lt_irrefl (x : Mv) : mvLt x x = false := by rw [lt_f]; omega
/-- two lists in strict order with the same moves are the same -/
theorem lt_unique : ∀ {l m : List Mv}, l.Pairwise (fun x y => mvLt x y = true) → m.Pairwise (fun x y => mvLt x y = true) → (∀ z, z ∈ l ↔ z ∈ m) → l = m
  | [], [], _, _, _ => rfl
  | [], y :: m, _, _, h => by have := (h y).2 (by simp); simp at this
  | x :: l, [], _, _, h => by have := (h x).1 (by simp); simp at this
  | x :: l, y :: m, hl, hm, h => by
    rw [List.pairwise_cons] at hl hm
    have e : x = y := by
      rcases List.mem_cons.1 ((h x).1 (by simp)) with e | e
      · exact e
      · rcases List.mem_cons.1 ((h y).2 (by simp)) with e2 | e2
        · exact e2.symm
        · have a := hm.1 x e
          have b := hl.1 y e2
          rw [lt_iff] at a b
          omega
    subst e
    congr 1
    refine lt_unique hl.2 hm.2 fun z => ⟨fun hz => ?_, fun hz => ?_⟩
    · rcases List.mem_cons.1 ((h z).1 (by simp [hz])) with e | e
      · subst e; have := hl.1 z hz; rw [lt_irrefl] at this; cases this
      · exact e
    · rcases List.mem_cons.1 ((h z).2 (by simp [hz])) with e | e
      · subst e; have := hm.1 z hz; rw [lt_irrefl] at this; cases this
      · exact e

/-! ### compacting -/
abbrev d0 : Mv := ((0 : Int), ((0 : Int), ((0 : Int), ())))
theorem get_take {xs : List Mv} {j : Nat} (h : j < xs.length) : xs.take (j + 1) = xs.take j ++ [getD' xs j d0] := by
  rw [List.take_succ_eq_append_getElem h]
  simp [getD', h]
theorem dd_take {xs : List Mv} {j : Nat} (h : j < xs.length) (hj : 1 ≤ j) : dd (xs.take (j + 1)) = dd (xs.take j) ++ (if getD' xs (j - 1) d0 = getD' xs j d0 then [] else [getD' xs j d0]) := by
  have hne : xs.take j ≠ [] := by
    intro e
    have := congrArg List.length e
    rw [List.length_take] at this
    simp only [List.length_nil] at this
    omega
  rw [get_take h, dd_snoc hne]
  have : (xs.take j).getLast hne = getD' xs (j - 1) d0 := by
    rw [List.getLast_eq_getElem]
    simp only [List.getElem_take, List.length_take, getD']
    rw [List.getD_eq_getElem?_getD, List.getElem?_eq_getElem (by omega)]
    simp only [Option.getD_some]
    congr 1
    omega
  rw [this]
theorem compact5 (xs : List Mv) (k0 : Nat) (hk0 : 1 ≤ k0) (hk1 : k0 < xs.length) (hx : xs.length ≤ 1000000) (hd : dd (xs.take (k0 + 1)) = xs.take k0) :
    ∃ r, iterW (movesList_L5 (((k0 : Int), ()), (xs, ()))) (((k0 : Int), (1 : Int), ()), (xs, ())) = some r ∧ (∃ k : Nat, r.1.1 = (k : Int) ∧ k ≤ xs.length ∧ r.2.1.length = xs.length ∧ r.2.1.take k = dd xs) := by
  refine iterW_meas (fun x => ∃ (k k2 : Nat), x.1.1 = (k : Int) ∧ x.1.2.1 = (k2 : Int) ∧ 1 ≤ k2 ∧ k0 + k2 ≤ xs.length ∧ k0 ≤ k ∧ k + 1 ≤ k0 + k2 ∧ x.2.1.length = xs.length ∧ (∀ j, k0 + k2 ≤ j + 1 → getD' x.2.1 j d0 = getD' xs j d0) ∧ x.2.1.take k = dd (xs.take (k0 + k2))) (fun x => xs.length - x.1.2.1.toNat) _ ?_ _ ⟨k0, 1, rfl, rfl, by omega, by omega, by omega, by omega, rfl, fun _ _ => rfl, by rw [hd]⟩
  rintro ⟨⟨k, k2, ⟨⟩⟩, ys, ⟨⟩⟩ ⟨K, K2, e1, e2, h1, h2, h3, h4, h5, h6, h7⟩
  simp only at e1 e2 h5 h6 h7
  subst e1 e2
  unfold movesList_L5
  simp only [Int.toNat_natCast]
  by_cases hlt : K2 < xs.length - k0
  · left
    have c1 : decide ((K2 : Int) < ((xs.length - k0 : Nat) : Int)) = true := by simp; omega
    have c2 : inb (K2 : Int) (xs.length - k0) = true := inb_iff.2 ⟨by omega, by omega⟩
    have w1 : w64 ((K2 : Int) - 1) = ((K2 - 1 : Nat) : Int) := by rw [w64_id (by omega) (by omega)]; omega
    have c3 : inb ((K2 - 1 : Nat) : Int) (xs.length - k0) = true := inb_iff.2 ⟨by omega, by omega⟩
    have w2 : w64 ((K2 : Int) + 1) = ((K2 + 1 : Nat) : Int) := by rw [w64_id (by omega) (by omega)]; omega
    have w3 : w64 ((K : Int) + 1) = ((K + 1 : Nat) : Int) := by rw [w64_id (by omega) (by omega)]; omega
    have c4 : inb (K : Int) ys.length = true := inb_iff.2 ⟨by omega, by omega⟩
    have g1 : getD' ys (k0 + K2) d0 = getD' xs (k0 + K2) d0 := h6 _ (by omega)
    have g2 : getD' ys (k0 + (K2 - 1)) d0 = getD' xs (k0 + (K2 - 1)) d0 := h6 _ (by omega)
    have hdd := dd_take (xs := xs) (j := k0 + K2) (by omega) (by omega)
    simp only [c1, cond_true, c2, req_true, w1, Int.toNat_natCast, c3, w2, w3, c4, mv_beq, g1, g2]
    by_cases he : getD' xs (k0 + K2) d0 = getD' xs (k0 + (K2 - 1)) d0
    · refine ⟨(((K : Int), ((K2 + 1 : Nat) : Int), ()), (ys, ())), by simp [he], ⟨K, K2 + 1, rfl, rfl, by omega, by omega, by omega, by omega, h5, fun j hj => h6 j (by omega), ?_⟩, by simp; omega⟩
      rw [show k0 + (K2 + 1) = k0 + K2 + 1 by omega, hdd, if_pos (by rw [he]; congr 1; omega), List.append_nil]
      exact h7
    · refine ⟨((((K + 1 : Nat) : Int), ((K2 + 1 : Nat) : Int), ()), (ys.set K (getD' xs (k0 + K2) d0), ())), by simp [he], ⟨K + 1, K2 + 1, rfl, rfl, by omega, by omega, by omega, by omega, by simp [h5], fun j hj => ?_, ?_⟩, by simp; omega⟩
      · rw [← h6 j (by omega)]
        simp only [getD']
        simp only [List.getD_eq_getElem?_getD]
        rw [List.getElem?_set_ne (by omega)]
      · rw [show k0 + (K2 + 1) = k0 + K2 + 1 by omega, hdd, if_neg (by intro e; apply he; rw [← e]; congr 1; omega), ← h7]
        rw [List.take_succ_eq_append_getElem (by simp; omega)]
        simp [List.take_set_of_le]
  · right
    have c1 : decide ((K2 : Int) < ((xs.length - k0 : Nat) : Int)) = false := by simp; omega
    refine ⟨(((K : Int), ()), (ys, ())), by simp only [c1, cond_false], K, rfl, by omega, h5, ?_⟩
    rw [h7, show k0 + K2 = xs.length by omega, List.take_length]
theorem compact4 (xs : List Mv) (hx : xs.length ≤ 1000000) (h2 : 2 ≤ xs.length) :
    (Option.bind (α := ((Unit) × ((List Mv) × Unit)) ⊕ (((List Mv) × Unit) × (Unit))) (iterW movesList_L4 (((1 : Int), ()), (xs, ()))) (Sum.elim (fun x23 => some ((x23.2.1, ()), ())) some)) = some ((dd xs, ()), ()) := by
  obtain ⟨r, hr, hq⟩ := iterW_meas (f := movesList_L4) (fun x => ∃ k : Nat, x = (((k : Int), ()), (xs, ())) ∧ 1 ≤ k ∧ k ≤ xs.length ∧ dd (xs.take k) = xs.take k) (fun x => xs.length - x.1.1.toNat) (fun r => r = .inl ((), (xs, ())) ∧ dd xs = xs ∨ r = .inr ((dd xs, ()), ())) (by
    rintro x ⟨k, rfl, h1, h3, h4⟩
    unfold movesList_L4
    simp only [Int.toNat_natCast]
    by_cases hlt : k < xs.length
    · have c1 : decide ((k : Int) < ((xs.length : Nat) : Int)) = true := by simp; omega
      have c2 : inb (k : Int) xs.length = true := inb_iff.2 ⟨by omega, by omega⟩
      have w1 : w64 ((k : Int) - 1) = ((k - 1 : Nat) : Int) := by rw [w64_id (by omega) (by omega)]; omega
      have c3 : inb ((k - 1 : Nat) : Int) xs.length = true := inb_iff.2 ⟨by omega, by omega⟩
      have w2 : w64 ((k : Int) + 1) = ((k + 1 : Nat) : Int) := by rw [w64_id (by omega) (by omega)]; omega
      have c4 : boundsI (k : Int) ((xs.length : Nat) : Int) xs.length = true := by simp [boundsI]; omega
      have hdd := dd_take hlt h1
      simp only [c1, cond_true, c2, req_true, w1, Int.toNat_natCast, c3, c4, mv_beq]
      by_cases he : getD' xs k d0 = getD' xs (k - 1) d0
      · right
        rw [if_pos he.symm, List.append_nil, h4] at hdd
        obtain ⟨r, hr, K, e1, e2, e3, e4⟩ := compact5 xs k h1 hlt hx hdd
        obtain ⟨⟨k', ⟨⟩⟩, ys, ⟨⟩⟩ := r
        simp only at e1 e3 e4
        subst e1
        refine ⟨.inr ((dd xs, ()), ()), ?_, .inr rfl⟩
        rw [hr]
        have c5 : boundsI (K : Int) ((ys.length : Nat) : Int) ys.length = true := by simp [boundsI]; omega
        have c6 : ∀ l : List Mv, K ≤ l.length → boundsI 0 (K : Int) l.length = true := fun l hl => by simp [boundsI]; omega
        simp only [he, decide_true, cond_true, Option.bind_some, c5, req_true, Int.toNat_natCast]
        rw [c6 _ (by simp; omega), req_true, Option.bind_some, Sum.elim_inr, List.take_append_of_le_length (by simp; omega), List.take_take, Nat.min_self, e4]
      · left
        refine ⟨((((k + 1 : Nat) : Int), ()), (xs, ())), ?_, ⟨k + 1, rfl, by omega, by omega, ?_⟩, by simp; omega⟩
        · simp only [he, decide_false, cond_false, Option.bind_some, Sum.elim_inl, w2]
        · rw [hdd, if_neg (fun e => he e.symm), h4, ← get_take hlt]
    · right
      have c1 : decide ((k : Int) < ((xs.length : Nat) : Int)) = false := by simp; omega
      refine ⟨.inl ((), (xs, ())), by simp only [c1, cond_false], .inl ⟨rfl, ?_⟩⟩
      have : k = xs.length := by omega
      rw [this, List.take_length] at h4
      exact h4) (((1 : Int), ()), (xs, ())) ⟨1, rfl, by omega, by omega, by
        cases xs with
        | nil => rfl
        | cons x l => rfl⟩
  rw [hr]
  rcases hq with ⟨rfl, e⟩ | rfl
  · rw [e]; rfl
  · rfl
end Go.Proofs.Ytocnfflklfeocaa
