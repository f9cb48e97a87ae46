/- The reference's moves; they are the program's. No condition of its own. -/
import Derived.Test.YticeklcmijbjfaaGreatCoreN
namespace Go.Proofs.YticeklcmijbjfaaGreat
open Go.Den
set_option linter.unusedVariables false
set_option linter.unusedSimpArgs false
set_option maxRecDepth 100000

theorem iter_appO {A R : Type} (n B : Nat) (c : Int) (f : (((List A) × Int × Unit) × Unit) → Option ((((List A) × Int × Unit) × Unit) ⊕ R)) (F : Nat → List A) (fin : List A → R) (a0 : List A) (hF : ∀ i, i < n → (F i).length ≤ B)
    (hs : ∀ i, i < n → ∀ a : List A, a.length ≤ a0.length + i * B → f ((a, c + (i : Int), ()), ()) = some (.inl ((a ++ F i, c + (i : Int) + 1, ()), ()))) (he : ∀ a, f ((a, c + (n : Int), ()), ()) = some (.inr (fin a))) :
    iterW f ((a0, c, ()), ()) = some (fin (a0 ++ (List.range n).flatMap F)) := by
  have hl : ∀ i, i ≤ n → (a0 ++ (List.range i).flatMap F).length ≤ a0.length + i * B := fun i hi => by
    have := flatMap_len F B (List.range i) (fun x hx => hF x (by rw [List.mem_range] at hx; omega))
    rw [List.length_range] at this
    rw [List.length_append]
    omega
  have := iterW_states (f := f) n (fun i => ((a0 ++ (List.range i).flatMap F, c + (i : Int), ()), ())) (fin (a0 ++ (List.range n).flatMap F)) (fun i hi => by
    rw [hs i hi _ (hl i (by omega)), List.range_succ, List.flatMap_append, ← List.append_assoc]
    simp [Int.add_assoc]) (he _)
  simpa using this

def mvOk (r : Rules) (p : Place) (m : Mv) : Bool := decide ((-1 ≤ m.1 ∧ m.1 < ((p.1.length : Nat) : Int)) ∧ (0 ≤ m.2.1 ∧ m.2.1 < ((p.1.length : Nat) : Int)) ∧ (0 ≤ m.2.2.1 ∧ m.2.2.1 < ((r.pieces.length : Nat) : Int)))
def goOk (r : Rules) (p : Place) (m : Mv) : Bool := mineB p (cellI p m.1) && ((becomes r p (kindOf (cellI p m.1)) m.2.1 == m.2.2.1) && (pieceI r (kindOf (cellI p m.1))).2.2.2.1.any (fun w => decide (m.2.1 ∈ wayS r p m.1 w)))
def allowedB (r : Rules) (p : Place) (m : Mv) : Bool := mvOk r p m && (bif m.1 == -1 then decide (handI p m.2.2.1 > 0) && putOk r p m.2.1 else goOk r p m)
def colFrom (p : Place) (W x0 : Int) : Nat → Nat → Bool
  | _, 0 => true
  | i, n + 1 => (cellI p (x0 + (i : Int) * W) != 0) && colFrom p W x0 (i + 1) n
theorem colFrom_any (p : Place) (W x0 : Int) : ∀ n i, colFrom p W x0 i n = !((List.range n).any fun j => cellI p (x0 + ((i + j : Nat) : Int) * W) == 0)
  | 0, i => rfl
  | n + 1, i => by
    rw [colFrom, colFrom_any p W x0 n (i + 1), List.range_succ_eq_map, List.any_cons, List.any_map, Bool.not_or]
    have e : ((fun j => cellI p (x0 + ((i + j : Nat) : Int) * W) == 0) ∘ Nat.succ) = fun j => cellI p (x0 + ((i + 1 + j : Nat) : Int) * W) == 0 := by
      funext j
      simp only [Function.comp]
      rw [show i + j.succ = i + 1 + j by omega]
    rw [e]
    rfl
theorem colFrom_colF (p : Place) (W x0 : Int) (y : Nat) : colFrom p W x0 0 y = colF p W x0 y := by
  rw [colFrom_any, colF_any]
  simp
def at3 (r : Rules) (p : Place) (i j k : Nat) : List Mv := bif allowedB r p ((i : Int) - 1, ((j : Int), ((k : Int), ()))) then [((i : Int) - 1, ((j : Int), ((k : Int), ())))] else []
def at2 (r : Rules) (p : Place) (i j : Nat) : List Mv := (List.range r.2.2.2.1.length).flatMap (at3 r p i j)
def at1 (r : Rules) (p : Place) (i : Nat) : List Mv := (List.range p.1.length).flatMap (at2 r p i)
/-- the moves of a valid position -/
def movesOf (r : Rules) (p : Place) : List Mv := (List.range (p.1.length + 1)).flatMap (at1 r p)
theorem at3_len (r : Rules) (p : Place) (i j k : Nat) : (at3 r p i j k).length ≤ 1 := by unfold at3; cases allowedB r p ((i : Int) - 1, ((j : Int), ((k : Int), ()))) <;> simp
theorem at2_len {r : Rules} {p : Place} (h : Valid r p) (i j : Nat) : (at2 r p i j).length ≤ 6 := Nat.le_trans (fm_len1 _ _ (at3_len r p i j)) h.r0.t6
theorem at1_len {r : Rules} {p : Place} (h : Valid r p) (i : Nat) : (at1 r p i).length ≤ 384 := by
  refine Nat.le_trans (flatMap_len _ 6 _ fun j _ => at2_len h i j) ?_
  have := area_len h
  rw [List.length_range]; omega
theorem pw_range (n : Nat) (F : Nat → List Mv) (h1 : ∀ i, i < n → (F i).Pairwise (fun x y => mvLt x y = true)) (h2 : ∀ i j, i < j → ∀ x ∈ F i, ∀ y ∈ F j, mvLt x y = true) : ((List.range n).flatMap F).Pairwise (fun x y => mvLt x y = true) := by
  rw [List.pairwise_flatMap]
  exact ⟨fun i hi => h1 i (List.mem_range.1 hi), List.pairwise_lt_range.imp fun hij => h2 _ _ hij⟩
theorem at3_mem {r : Rules} {p : Place} {i j k : Nat} {x : Mv} (h : x ∈ at3 r p i j k) : x = ((i : Int) - 1, ((j : Int), ((k : Int), ()))) ∧ allowedB r p x = true := by
  unfold at3 at h
  cases hb : allowedB r p ((i : Int) - 1, ((j : Int), ((k : Int), ()))) with
  | false => simp [hb] at h
  | true =>
    rw [hb, cond_true, List.mem_singleton] at h
    rw [h]; exact ⟨rfl, hb⟩
theorem at2_mem {r : Rules} {p : Place} {i j : Nat} {x : Mv} (h : x ∈ at2 r p i j) : x.1 = (i : Int) - 1 ∧ x.2.1 = (j : Int) ∧ allowedB r p x = true := by
  obtain ⟨k, _, hk⟩ := List.mem_flatMap.1 h
  obtain ⟨e, h2⟩ := at3_mem hk
  refine ⟨by rw [e], by rw [e], h2⟩
theorem at1_mem {r : Rules} {p : Place} {i : Nat} {x : Mv} (h : x ∈ at1 r p i) : x.1 = (i : Int) - 1 ∧ allowedB r p x = true := by
  obtain ⟨j, _, hj⟩ := List.mem_flatMap.1 h
  obtain ⟨h1, _, h3⟩ := at2_mem hj
  exact ⟨h1, h3⟩
theorem movesOf_mem {r : Rules} {p : Place} (x : Mv) : x ∈ movesOf r p ↔ allowedB r p x = true := by
  constructor
  · intro h
    obtain ⟨i, _, hi⟩ := List.mem_flatMap.1 h
    exact (at1_mem hi).2
  · intro h
    have hok : mvOk r p x = true := by unfold allowedB at h; simp only [Bool.and_eq_true] at h; exact h.1
    unfold mvOk at hok
    rw [decide_eq_true_eq] at hok
    obtain ⟨⟨a1, a2⟩, ⟨b1, b2⟩, c1, c2⟩ := hok
    have c2' : x.2.2.1 < ((r.2.2.2.1.length : Nat) : Int) := c2
    have e : (((((x.1 + 1).toNat : Nat) : Int) - 1, (((x.2.1.toNat : Nat) : Int), (((x.2.2.1.toNat : Nat) : Int), ()))) : Mv) = x := mv_eq (by show (((x.1 + 1).toNat : Nat) : Int) - 1 = x.1; omega) (by show ((x.2.1.toNat : Nat) : Int) = x.2.1; omega) (by show ((x.2.2.1.toNat : Nat) : Int) = x.2.2.1; omega)
    refine List.mem_flatMap.2 ⟨(x.1 + 1).toNat, List.mem_range.2 (by omega), List.mem_flatMap.2 ⟨x.2.1.toNat, List.mem_range.2 (by omega), List.mem_flatMap.2 ⟨x.2.2.1.toNat, List.mem_range.2 (by omega), ?_⟩⟩⟩
    unfold at3
    rw [e, h, cond_true, List.mem_singleton]
theorem movesOf_lt (r : Rules) (p : Place) : (movesOf r p).Pairwise (fun x y => mvLt x y = true) := by
  refine pw_range _ _ (fun i _ => pw_range _ _ (fun j _ => pw_range _ _ (fun k _ => ?_) fun k k' hk x hx y hy => ?_) fun j j' hj x hx y hy => ?_) fun i i' hi x hx y hy => ?_
  · unfold at3
    cases allowedB r p ((i : Int) - 1, ((j : Int), ((k : Int), ()))) <;> simp
  · obtain ⟨ex, _⟩ := at3_mem hx
    obtain ⟨ey, _⟩ := at3_mem hy
    have e1 : x.1 = (i : Int) - 1 := by rw [ex]
    have e2 : x.2.1 = (j : Int) := by rw [ex]
    have e3 : x.2.2.1 = (k : Int) := by rw [ex]
    have f1 : y.1 = (i : Int) - 1 := by rw [ey]
    have f2 : y.2.1 = (j : Int) := by rw [ey]
    have f3 : y.2.2.1 = (k' : Int) := by rw [ey]
    rw [lt_iff]; omega
  · obtain ⟨e1, e2, _⟩ := at2_mem hx
    obtain ⟨f1, f2, _⟩ := at2_mem hy
    rw [lt_iff]; omega
  · obtain ⟨e1, _⟩ := at1_mem hx
    obtain ⟨f1, _⟩ := at1_mem hy
    rw [lt_iff]; omega
theorem raw_mem {r : Rules} {p : Place} (h : Valid r p) (x : Mv) : x ∈ movesRaw r p ↔ allowedB r p x = true := by
  have hr := h.r0
  have hlen : ((p.1.length : Nat) : Int) = r.width * r.height := h.cells
  have hh := hand_len h
  unfold movesRaw
  rw [List.mem_append]
  constructor
  · rintro (hx | hx)
    · obtain ⟨s, hs, hx⟩ := List.mem_flatMap.1 hx
      rw [List.mem_range] at hs
      unfold putsAt at hx
      cases hp : putOk r p (s : Int) with
      | false => simp [hp] at hx
      | true =>
        rw [hp, cond_true] at hx
        obtain ⟨k, hk, hx⟩ := List.mem_flatMap.1 hx
        rw [List.mem_range] at hk
        cases hd : decide (handI p (k : Int) > 0) with
        | false => simp [hd] at hx
        | true =>
          rw [hd, cond_true, List.mem_singleton] at hx
          have hok : mvOk r p x = true := by
            unfold mvOk
            rw [decide_eq_true_eq, hx]
            simp only
            omega
          unfold allowedB
          rw [hok, Bool.true_and, hx]
          simp only [beq_t rfl, cond_true, hd, hp, Bool.and_self]
    · obtain ⟨s, hs, hx⟩ := List.mem_flatMap.1 hx
      rw [List.mem_range] at hs
      unfold goAt at hx
      cases hm : mineB p (cellI p (s : Int)) with
      | false => simp [hm] at hx
      | true =>
        have hcp : cellI p (s : Int) > 0 := by unfold mineB at hm; simp at hm; exact hm.1
        have hk := kind_rng h hcp
        obtain ⟨hpa, hmem⟩ := at_piece (r := r) hk.2.1 hk.2.2
        rw [hm, cond_true] at hx
        obtain ⟨w, hw, hx⟩ := List.mem_flatMap.1 hx
        obtain ⟨t, ht, hx⟩ := List.mem_map.1 hx
        have htr : 0 ≤ t ∧ t < r.width * r.height := way_mem_rng hr ht
        have hpr := hr.prom _ hmem
        have hbr : 0 ≤ becomes r p (kindOf (cellI p (s : Int))) t ∧ becomes r p (kindOf (cellI p (s : Int))) t < ((r.pieces.length : Nat) : Int) := by
          unfold becomes
          cases hb : (decide ((pieceI r (kindOf (cellI p (s : Int)))).2.2.1 > 0) && lastB r p.turn t) with
          | false => exact hk.2
          | true =>
            simp only [Bool.and_eq_true, decide_eq_true_eq] at hb
            rw [cond_true]; omega
        have hok : mvOk r p x = true := by
          unfold mvOk
          rw [decide_eq_true_eq, ← hx]
          simp only
          omega
        unfold allowedB goOk
        rw [hok, Bool.true_and, ← hx]
        simp only
        rw [beq_f (by omega), cond_false, hm, Bool.true_and, beq_t rfl, Bool.true_and, List.any_eq_true]
        exact ⟨w, hw, by simpa using ht⟩
  · intro hx
    unfold allowedB at hx
    rw [Bool.and_eq_true] at hx
    obtain ⟨hok, hx⟩ := hx
    unfold mvOk at hok
    rw [decide_eq_true_eq] at hok
    obtain ⟨⟨a1, a2⟩, ⟨b1, b2⟩, c1, c2⟩ := hok
    by_cases hm : x.1 = -1
    · rw [beq_t hm, cond_true, Bool.and_eq_true] at hx
      left
      have e1 : ((x.2.1.toNat : Nat) : Int) = x.2.1 := by omega
      have e2 : ((x.2.2.1.toNat : Nat) : Int) = x.2.2.1 := by omega
      refine List.mem_flatMap.2 ⟨x.2.1.toNat, List.mem_range.2 (by omega), ?_⟩
      unfold putsAt
      rw [e1, hx.2, cond_true]
      refine List.mem_flatMap.2 ⟨x.2.2.1.toNat, List.mem_range.2 (by omega), ?_⟩
      rw [e2, hx.1, cond_true, List.mem_singleton]
      exact mv_eq hm rfl rfl
    · rw [beq_f hm, cond_false] at hx
      unfold goOk at hx
      simp only [Bool.and_eq_true, beq_iff_eq, List.any_eq_true, decide_eq_true_eq] at hx
      obtain ⟨h1, h2, w, hw, ht⟩ := hx
      right
      have e1 : ((x.1.toNat : Nat) : Int) = x.1 := by omega
      refine List.mem_flatMap.2 ⟨x.1.toNat, List.mem_range.2 (by omega), ?_⟩
      unfold goAt
      rw [e1, h1, cond_true]
      refine List.mem_flatMap.2 ⟨w, hw, List.mem_map.2 ⟨x.2.1, ht, ?_⟩⟩
      exact mv_eq rfl rfl h2
/-- THE PROGRAM's MOVES ARE THE REFERENCE's -/
theorem list_spec {r : Rules} {p : Place} (h : Valid r p) : movesList r p = some (movesOf r p) := by
  rw [list_dd h]
  congr 1
  refine lt_unique (dd_lt (sort_pw _)) (movesOf_lt r p) fun z => ?_
  rw [dd_mem, sort_mem, raw_mem h, movesOf_mem]
end Go.Proofs.YticeklcmijbjfaaGreat
