/- The position after a move, as the program and the reference compute it. No condition of its own. -/
import Derived.Test.YtocnfflklfeocaaCoreS2
namespace Go.Proofs.Ytocnfflklfeocaa
open Go.Den
set_option linter.unusedVariables false
set_option linter.unusedSimpArgs false
set_option maxRecDepth 100000

def pieceV (p : Place) (m : Mv) : Int := 2 * m.2.2.1 + p.turn + 1
def cellsA (p : Place) (m : Mv) : List Int := (bif decide (m.1 ≥ 0) then p.1.set m.1.toNat 0 else p.1).set m.2.1.toNat (pieceV p m)
def handD (m : Mv) (h : List Int) : List Int := bif decide (m.1 ≥ 0) then h else h.set m.2.2.1.toNat (h.getD m.2.2.1.toNat 0 - 1)
def handK (r : Rules) (c : Int) (h : List Int) : List Int := bif decide (c > 0) && r.keeps then h.set (kindOf c).toNat (if 1000 < h.getD (kindOf c).toNat 0 + 1 then 1000 else h.getD (kindOf c).toNat 0 + 1) else h
def handA (r : Rules) (p : Place) (m : Mv) (h : List Int) : List Int := handK r (cellI p m.2.1) (handD m h)
def quietA (p : Place) (m : Mv) : Int := bif decide (cellI p m.2.1 > 0) || decide (m.1 < 0) then 0 else if 200 < p.quiet + 1 then 200 else p.quiet + 1
/-- the position after a move -/
def afterOf (r : Rules) (p : Place) (m : Mv) : Place := (cellsA p m, ((bif p.turn == 0 then handA r p m p.2.1.1 else p.2.1.1), (bif p.turn == 0 then p.2.1.2.1 else handA r p m p.2.1.2.1), ()), 1 - p.turn, quietA p m, ())
theorem copy_spec {r : Rules} {p : Place} (h : Valid r p) : placeCopy p = some p := by
  have h64 := area_len h
  have ht := h.r0.t6
  have a0 : p.2.1.1.length = r.pieces.length := h.l0
  have a1 : p.2.1.2.1.length = r.pieces.length := h.l1
  unfold placeCopy
  rw [clone_ok p.1 (by omega), clone_ok p.2.1.1 (by omega), clone_ok p.2.1.2.1 (by omega)]
  simp only [Option.bind_some, agree_self]
theorem allowed_rng {r : Rules} {p : Place} {m : Mv} (ha : allowedB r p m = true) : (-1 ≤ m.1 ∧ m.1 < ((p.1.length : Nat) : Int)) ∧ (0 ≤ m.2.1 ∧ m.2.1 < ((p.1.length : Nat) : Int)) ∧ (0 ≤ m.2.2.1 ∧ m.2.2.1 < ((r.pieces.length : Nat) : Int)) := by
  unfold allowedB mvOk at ha
  rw [Bool.and_eq_true, decide_eq_true_eq] at ha
  exact ha.1
theorem allowed_put {r : Rules} {p : Place} {m : Mv} (ha : allowedB r p m = true) (hm : m.1 = -1) : handI p m.2.2.1 > 0 ∧ cellI p m.2.1 = 0 := by
  unfold allowedB putOk at ha
  rw [beq_t hm, cond_true] at ha
  simp only [Bool.and_eq_true, decide_eq_true_eq, beq_iff_eq] at ha
  exact ⟨ha.2.1, ha.2.2.1⟩
theorem handD_len (m : Mv) (h : List Int) : (handD m h).length = h.length := by unfold handD; cases decide (m.1 ≥ 0) <;> simp
theorem handK_len (r : Rules) (c : Int) (h : List Int) : (handK r c h).length = h.length := by unfold handK; cases (decide (c > 0) && r.keeps) <;> simp
theorem getD_rng {l : List Int} {b : Int} (hb : 0 ≤ b) (h : ∀ c ∈ l, 0 ≤ c ∧ c ≤ b) (i : Nat) : 0 ≤ l.getD i 0 ∧ l.getD i 0 ≤ b := by
  rw [List.getD_eq_getElem?_getD]
  cases e : l[i]? with
  | none => simp; exact hb
  | some c => exact h c (List.mem_of_getElem? e)
theorem handD_rng {r : Rules} {p : Place} {m : Mv} (h : Valid r p) (ha : allowedB r p m = true) : ∀ c ∈ handD m (handOf p), 0 ≤ c ∧ c ≤ 1000 := by
  have hr := hand_rng h
  unfold handD
  cases hd : decide (m.1 ≥ 0) with
  | true => exact hr
  | false =>
    intro c hc
    rw [cond_false] at hc
    have hm : m.1 = -1 := by have := (allowed_rng ha).1.1; simp at hd; omega
    have hp := (allowed_put ha hm).1
    have hg := getD_rng (by omega) hr m.2.2.1.toNat
    rcases List.mem_or_eq_of_mem_set hc with h1 | h1
    · exact hr c h1
    · unfold handI at hp; omega
theorem handK_rng {r : Rules} {c : Int} {h : List Int} (hh : ∀ x ∈ h, 0 ≤ x ∧ x ≤ 1000) : ∀ x ∈ handK r c h, 0 ≤ x ∧ x ≤ 1000 := by
  unfold handK
  cases (decide (c > 0) && r.keeps) with
  | false => exact hh
  | true =>
    intro x hx
    have hg := getD_rng (by omega) hh (kindOf c).toNat
    rcases List.mem_or_eq_of_mem_set hx with h1 | h1
    · exact hh x h1
    · rw [h1]; split <;> omega
theorem make_hand {r : Rules} {p : Place} {m : Mv} (hv : Valid r p) (ha : allowedB r p m = true) (l : List Int) (hl : l = handOf p) :
    (decide (m.1 ≥ 0) = false → inb m.2.2.1 l.length = true ∧ w64 (getD' l m.2.2.1.toNat 0 - 1) = l.getD m.2.2.1.toNat 0 - 1) ∧
    (decide (cellI p m.2.1 > 0) = true → inb (kindOf (cellI p m.2.1)) (handD m l).length = true ∧ w64 (getD' (handD m l) (kindOf (cellI p m.2.1)).toNat 0 + 1) = (handD m l).getD (kindOf (cellI p m.2.1)).toNat 0 + 1) := by
  subst hl
  have hr := hand_rng hv
  have hl := hand_len hv
  obtain ⟨r1, r2, r3⟩ := allowed_rng ha
  refine ⟨fun _ => ⟨inb_iff.2 ⟨r3.1, by rw [hl]; exact r3.2⟩, ?_⟩, fun hc => ⟨?_, ?_⟩⟩
  · have := getD_rng (by omega) hr m.2.2.1.toNat
    exact w64_id (by show _ ≤ (handOf p).getD m.2.2.1.toNat 0 - 1; omega) (by show (handOf p).getD m.2.2.1.toNat 0 - 1 ≤ _; omega)
  · have hk := kind_rng hv (of_decide_eq_true hc)
    exact inb_iff.2 ⟨hk.2.1, by rw [handD_len, hl]; exact hk.2.2⟩
  · have := getD_rng (by omega) (handD_rng hv ha) (kindOf (cellI p m.2.1)).toNat
    exact w64_id (by show _ ≤ (handD m (handOf p)).getD (kindOf (cellI p m.2.1)).toNat 0 + 1; omega) (by show (handD m (handOf p)).getD (kindOf (cellI p m.2.1)).toNat 0 + 1 ≤ _; omega)
theorem make_spec {r : Rules} {p : Place} {m : Mv} (h : Valid r p) (ha : allowedB r p m = true) : movesMake r p m = some (afterOf r p m) := by
  obtain ⟨r1, r2, r3⟩ := allowed_rng ha
  have ht6 := h.r0.t6
  have hq := h.quiet
  have htn := h.turn
  have h64 := area_len h
  have hto : inb m.2.1 p.1.length = true := inb_iff.2 r2
  have wv : w64 (w64 (w64 (2 * m.2.2.1) + p.2.2.1) + 1) = pieceV p m := by
    unfold pieceV
    rw [show p.2.2.1 = p.turn from rfl, w64_id (n := 2 * m.2.2.1) (by omega) (by omega), w64_id (n := 2 * m.2.2.1 + p.turn) (by omega) (by omega), w64_id (by omega) (by omega)]
  have wq : w64 (p.2.2.2.1 + 1) = p.quiet + 1 := w64_id (by show _ ≤ p.quiet + 1; omega) (by show p.quiet + 1 ≤ _; omega)
  have wt : w64 (1 - p.2.2.1) = 1 - p.turn := (turn_w h).1
  have hcell : getD' p.1 m.2.1.toNat 0 = cellI p m.2.1 := rfl
  have hin : inb p.2.2.1 2 = true := inb_iff.2 (by show 0 ≤ p.turn ∧ p.turn < ((2 : Nat) : Int); omega)
  have wk : decide (cellI p m.2.1 > 0) = true → w64 ((w64 (cellI p m.2.1 - 1)).tdiv 2) = kindOf (cellI p m.2.1) := fun hc => (kind_rng h (of_decide_eq_true hc)).1
  have hho : handOf p = if p.turn = 0 then p.2.1.1 else p.2.1.2.1 := handOf_eq h
  have hneg : decide (m.1 < 0) = !decide (m.1 ≥ 0) := by
    rw [Bool.eq_iff_iff]
    simp only [decide_eq_true_eq, Bool.not_eq_true', decide_eq_false_iff_not]
    omega
  unfold movesMake afterOf
  rw [copy_spec h, Option.bind_some]
  simp only [hcell, hto, req_true, wv, wq, wt, hin, hneg]
  rcases htn with e | e
  · have e' : p.2.2.1 = 0 := e
    rw [if_pos e] at hho
    obtain ⟨k1, k2⟩ := make_hand h ha p.2.1.1 hho.symm
    simp only [e', e, show ((0 : Int) == 0) = true from rfl, cond_true]
    unfold handA cellsA quietA handK
    simp only [hneg]
    cases hd : decide (m.1 ≥ 0) with
    | true =>
      have hf : inb m.1 p.1.length = true := inb_iff.2 ⟨of_decide_eq_true hd, r1.2⟩
      have hD : handD m p.2.1.1 = p.2.1.1 := by unfold handD; rw [hd]; rfl
      rw [hD] at k2 ⊢
      simp only [cond_true, hf, req_true, Option.bind_some, List.length_set, hto]
      cases hc : decide (cellI p m.2.1 > 0) with
      | false => rfl
      | true =>
        obtain ⟨k3, k4⟩ := k2 hc
        cases hk : r.2.2.2.2.2.2.1 with
        | false => rw [show r.keeps = false from hk]; rfl
        | true =>
          rw [show r.keeps = true from hk]
          simp only [Bool.true_and, cond_true, wk hc, k3, req_true, k4, Option.bind_some]
          rfl
    | false =>
      obtain ⟨k5, k6⟩ := k1 hd
      have hD : handD m p.2.1.1 = p.2.1.1.set m.2.2.1.toNat (p.2.1.1.getD m.2.2.1.toNat 0 - 1) := by unfold handD; rw [hd]; rfl
      have hz : decide (cellI p m.2.1 > 0) = false := by
        have := (allowed_put ha (by simp at hd; omega)).2
        rw [this]; rfl
      rw [hD]
      simp only [cond_false, k5, k6, req_true, Option.bind_some, hz, Bool.false_and, hto]
      rfl
  · have e' : p.2.2.1 = 1 := e
    rw [if_neg (by omega)] at hho
    obtain ⟨k1, k2⟩ := make_hand h ha p.2.1.2.1 hho.symm
    simp only [e', e, show ((1 : Int) == 0) = false from rfl, cond_false]
    unfold handA cellsA quietA handK
    simp only [hneg]
    cases hd : decide (m.1 ≥ 0) with
    | true =>
      have hf : inb m.1 p.1.length = true := inb_iff.2 ⟨of_decide_eq_true hd, r1.2⟩
      have hD : handD m p.2.1.2.1 = p.2.1.2.1 := by unfold handD; rw [hd]; rfl
      rw [hD] at k2 ⊢
      simp only [cond_true, hf, req_true, Option.bind_some, List.length_set, hto]
      cases hc : decide (cellI p m.2.1 > 0) with
      | false => rfl
      | true =>
        obtain ⟨k3, k4⟩ := k2 hc
        cases hk : r.2.2.2.2.2.2.1 with
        | false => rw [show r.keeps = false from hk]; rfl
        | true =>
          rw [show r.keeps = true from hk]
          simp only [Bool.true_and, cond_true, wk hc, k3, req_true, k4, Option.bind_some]
          rfl
    | false =>
      obtain ⟨k5, k6⟩ := k1 hd
      have hD : handD m p.2.1.2.1 = p.2.1.2.1.set m.2.2.1.toNat (p.2.1.2.1.getD m.2.2.1.toNat 0 - 1) := by unfold handD; rw [hd]; rfl
      have hz : decide (cellI p m.2.1 > 0) = false := by
        have := (allowed_put ha (by simp at hd; omega)).2
        rw [this]; rfl
      rw [hD]
      simp only [cond_false, k5, k6, req_true, Option.bind_some, hz, Bool.false_and, hto]
      rfl
theorem after_valid {r : Rules} {p : Place} {m : Mv} (h : Valid r p) (ha : allowedB r p m = true) : Valid r (afterOf r p m) := by
  obtain ⟨r1, r2, r3⟩ := allowed_rng ha
  have htn := h.turn
  have hq := h.quiet
  have hK := handK_rng (r := r) (c := cellI p m.2.1) (handD_rng h ha)
  have hho := handOf_eq h
  refine ⟨h.r0, ?_, ?_, ?_, ?_, ?_, ?_, ?_, ?_⟩
  · show ((((bif decide (m.1 ≥ 0) then p.1.set m.1.toNat 0 else p.1).set m.2.1.toNat (pieceV p m)).length : Nat) : Int) = _
    have : ((bif decide (m.1 ≥ 0) then p.1.set m.1.toNat 0 else p.1).set m.2.1.toNat (pieceV p m)).length = p.1.length := by cases decide (m.1 ≥ 0) <;> simp
    rw [this]; exact h.cells
  · show (bif p.turn == 0 then handA r p m p.2.1.1 else p.2.1.1).length = _
    cases (p.turn == 0)
    · exact h.l0
    · rw [cond_true]; unfold handA; rw [handK_len, handD_len]; exact h.l0
  · show (bif p.turn == 0 then p.2.1.2.1 else handA r p m p.2.1.2.1).length = _
    cases (p.turn == 0)
    · rw [cond_false]; unfold handA; rw [handK_len, handD_len]; exact h.l1
    · exact h.l1
  · intro c hc
    have hc : c ∈ (bif decide (m.1 ≥ 0) then p.1.set m.1.toNat 0 else p.1).set m.2.1.toNat (pieceV p m) := hc
    rcases List.mem_or_eq_of_mem_set hc with h1 | h1
    · cases hd : decide (m.1 ≥ 0) with
      | false => rw [hd, cond_false] at h1; exact h.cell c h1
      | true =>
        rw [hd, cond_true] at h1
        rcases List.mem_or_eq_of_mem_set h1 with h2 | h2
        · exact h.cell c h2
        · have := h.r0.t1; omega
    · rw [h1]; unfold pieceV; omega
  · intro c hc
    have hc : c ∈ (bif p.turn == 0 then handA r p m p.2.1.1 else p.2.1.1) := hc
    rcases htn with e | e
    · rw [beq_t e, cond_true] at hc
      rw [if_pos e] at hho
      have hc : c ∈ handK r (cellI p m.2.1) (handD m p.h0) := hc
      rw [← hho] at hc
      exact hK c hc
    · rw [beq_f (by omega), cond_false] at hc; exact h.hand0 c hc
  · intro c hc
    have hc : c ∈ (bif p.turn == 0 then p.2.1.2.1 else handA r p m p.2.1.2.1) := hc
    rcases htn with e | e
    · rw [beq_t e, cond_true] at hc; exact h.hand1 c hc
    · rw [beq_f (by omega), cond_false] at hc
      rw [if_neg (by omega)] at hho
      have hc : c ∈ handK r (cellI p m.2.1) (handD m p.h1) := hc
      rw [← hho] at hc
      exact hK c hc
  · show 1 - p.turn = 0 ∨ 1 - p.turn = 1
    omega
  · show 0 ≤ quietA p m ∧ quietA p m ≤ 200
    unfold quietA
    cases (decide (cellI p m.2.1 > 0) || decide (m.1 < 0))
    · rw [cond_false]; split <;> omega
    · simp
/-! ### the reference -/
def newC (p : Place) (m : Mv) (i : Nat) : Int := bif ((i : Int) == m.2.1) then pieceV p m else bif ((i : Int) == m.1) then 0 else p.1.getD i 0
theorem newC_list {p : Place} {m : Mv} (h1 : -1 ≤ m.1) (h2 : 0 ≤ m.2.1 ∧ m.2.1 < ((p.1.length : Nat) : Int)) : (List.range p.1.length).map (newC p m) = cellsA p m := by
  have hl : (cellsA p m).length = p.1.length := by unfold cellsA; cases decide (m.1 ≥ 0) <;> simp
  apply List.ext_getElem?
  intro i
  by_cases hi : i < p.1.length
  · rw [List.getElem?_map, List.getElem?_range hi, Option.map_some]
    unfold newC cellsA
    have hg : p.1[i]? = some (p.1.getD i 0) := by rw [List.getD_eq_getElem?_getD, List.getElem?_eq_getElem hi]; rfl
    have hl2 : (bif decide (m.1 ≥ 0) then p.1.set m.1.toNat 0 else p.1).length = p.1.length := by cases decide (m.1 ≥ 0) <;> simp
    rw [List.getElem?_set]
    by_cases e : (i : Int) = m.2.1
    · rw [beq_t e, cond_true, if_pos (by omega), if_pos (by rw [hl2]; omega)]
    · rw [beq_f e, cond_false, if_neg (by omega)]
      by_cases c : m.1 ≥ 0
      · rw [show decide (m.1 ≥ 0) = true by simp; omega, cond_true, List.getElem?_set]
        by_cases e2 : (i : Int) = m.1
        · rw [beq_t e2, cond_true, if_pos (by omega), if_pos (by omega)]
        · rw [beq_f e2, cond_false, if_neg (by omega), hg]
      · rw [show decide (m.1 ≥ 0) = false by simp; omega, cond_false, beq_f (by omega), cond_false, hg]
  · rw [List.getElem?_eq_none (by simp; omega), List.getElem?_eq_none (by rw [hl]; omega)]
def newH (r : Rules) (p : Place) (m : Mv) (h : List Int) (i : Nat) : Int :=
  let n := bif (m.1 == -1) && ((i : Int) == m.2.2.1) then h.getD i 0 - 1 else h.getD i 0
  bif ((r.keeps && decide (cellI p m.2.1 > 0)) && ((i : Int) == kindOf (cellI p m.2.1))) && decide (n < 1000) then n + 1 else n
theorem newH_list {r : Rules} {p : Place} {m : Mv} (hv : Valid r p) (ha : allowedB r p m = true) (l : List Int) (hl : l = handOf p) : (List.range l.length).map (newH r p m l) = handA r p m l := by
  obtain ⟨r1, r2, r3⟩ := allowed_rng ha
  have hlen : (handA r p m l).length = l.length := by unfold handA; rw [handK_len, handD_len]
  have hDr : ∀ c ∈ handD m l, 0 ≤ c ∧ c ≤ 1000 := by rw [hl]; exact handD_rng hv ha
  have hDl := handD_len m l
  have hgD : ∀ (xs : List Int) (i : Nat), i < xs.length → xs[i]? = some (xs.getD i 0) := fun xs i hi => by rw [List.getD_eq_getElem?_getD, List.getElem?_eq_getElem hi]; rfl
  have hd : ∀ i, i < l.length → (handD m l).getD i 0 = bif (m.1 == -1) && ((i : Int) == m.2.2.1) then l.getD i 0 - 1 else l.getD i 0 := fun i hi => by
    by_cases c : m.1 ≥ 0
    · have : handD m l = l := by unfold handD; rw [show decide (m.1 ≥ 0) = true by simp; omega]; rfl
      rw [this, beq_f (by omega), Bool.false_and, cond_false]
    · have : handD m l = l.set m.2.2.1.toNat (l.getD m.2.2.1.toNat 0 - 1) := by unfold handD; rw [show decide (m.1 ≥ 0) = false by simp; omega]; rfl
      rw [this, beq_t (by omega), Bool.true_and, List.getD_eq_getElem?_getD, List.getElem?_set]
      by_cases e : (i : Int) = m.2.2.1
      · rw [beq_t e, cond_true, if_pos (by omega), if_pos (by omega), show m.2.2.1.toNat = i by omega]; rfl
      · rw [beq_f e, cond_false, if_neg (by omega), ← List.getD_eq_getElem?_getD]
  apply List.ext_getElem?
  intro i
  by_cases hi : i < l.length
  · rw [List.getElem?_map, List.getElem?_range hi, Option.map_some]
    unfold newH
    simp only
    rw [← hd i hi]
    have hb := getD_rng (by omega) hDr i
    unfold handA
    obtain ⟨D0, hD0⟩ : ∃ D0, handD m l = D0 := ⟨_, rfl⟩
    rw [hD0] at hb hDl ⊢
    unfold handK
    cases hc : decide (cellI p m.2.1 > 0) with
    | false => simp only [Bool.and_false, Bool.false_and, cond_false]; exact (hgD D0 i (by omega)).symm
    | true =>
      have hk := kind_rng hv (of_decide_eq_true hc)
      cases hkp : r.keeps with
      | false => simp only [Bool.and_false, Bool.false_and, cond_false]; exact (hgD D0 i (by omega)).symm
      | true =>
        simp only [Bool.true_and, cond_true]
        rw [List.getElem?_set]
        by_cases e : (i : Int) = kindOf (cellI p m.2.1)
        · have ei : (kindOf (cellI p m.2.1)).toNat = i := by omega
          rw [beq_t e, Bool.true_and, if_pos ei, ei, if_pos (by omega)]
          by_cases c : D0.getD i 0 < 1000
          · rw [show decide (D0.getD i 0 < 1000) = true by simp; simpa using c, cond_true, if_neg (by omega)]
          · rw [show decide (D0.getD i 0 < 1000) = false by simp; simpa using c, cond_false, if_pos (by omega)]
            congr 1; omega
        · rw [beq_f e, Bool.false_and, cond_false, if_neg (by omega), hgD D0 i (by omega)]
  · rw [List.getElem?_eq_none (by simp; omega), List.getElem?_eq_none (by rw [hlen]; omega)]
theorem map_succ {A : Type} (F : Nat → A) (i : Nat) : (List.range (i + 1)).map F = (List.range i).map F ++ [F i] := by rw [List.range_succ, List.map_append]; rfl
theorem refAfter_spec {r : Rules} {p : Place} {m : Mv} (h : Valid r p) (ha : allowedB r p m = true) : ref1After r p m = some (afterOf r p m) := by
  obtain ⟨r1, r2, r3⟩ := allowed_rng ha
  have ht6 := h.r0.t6
  have hq := h.quiet
  have htn := h.turn
  have h64 := area_len h
  have a0 : p.2.1.1.length = r.pieces.length := h.l0
  have a1 : p.2.1.2.1.length = r.pieces.length := h.l1
  have hat := at_cell (p := p) (s := m.2.1) r2.1 r2.2
  have wv : w64 (w64 (w64 (2 * m.2.2.1) + p.2.2.1) + 1) = pieceV p m := by
    unfold pieceV
    rw [show p.2.2.1 = p.turn from rfl, w64_id (n := 2 * m.2.2.1) (by omega) (by omega), w64_id (n := 2 * m.2.2.1 + p.turn) (by omega) (by omega), w64_id (by omega) (by omega)]
  have wq : w64 (p.2.2.2.1 + 1) = p.quiet + 1 := w64_id (by show _ ≤ p.quiet + 1; omega) (by show p.quiet + 1 ≤ _; omega)
  have wt : w64 (1 - p.2.2.1) = 1 - p.turn := (turn_w h).1
  unfold ref1After
  rw [hat, Option.bind_some, wq, wt]
  have hL1 := iterW_states (f := ref1After_L1 p m) p.1.length (fun i => (((i : Int), ()), (((List.range i).map (newC p m), (([] : List Int), (([] : List Int), (1 - p.turn, (p.quiet + 1, ()))))), ()))) ((), ((cellsA p m, (([] : List Int), (([] : List Int), (1 - p.turn, (p.quiet + 1, ()))))), ())) (fun i hi => by
    unfold ref1After_L1
    simp only [show decide ((i : Int) < ((p.1.length : Nat) : Int)) = true by simp; omega, cond_true]
    rw [at_cell (p := p) (s := (i : Int)) (by omega) (by show (i : Int) < ((p.1.length : Nat) : Int); omega), Option.bind_some, wv, w64_id (n := (i : Int) + 1) (by omega) (by omega), map_succ]
    have e : (bif ((i : Int) == m.2.1) then some ((pieceV p m, ()), ()) else Option.bind (bif ((i : Int) == m.1) then some (((0 : Int), ()), ()) else some ((cellI p (i : Int), ()), ())) fun x5 => some ((x5.1.1, ()), ())) = some ((newC p m i, ()), ()) := by
      unfold newC
      rw [show p.1.getD i 0 = cellI p (i : Int) from rfl]
      cases ((i : Int) == m.2.1) <;> cases ((i : Int) == m.1) <;> rfl
    rw [e, Option.bind_some]
    have hroom : room (((List.range i).map (newC p m)).length + [newC p m i].length) 8 = true := room_ok (by simp; omega)
    simp only [hroom, req_true]
    rfl) (by
    unfold ref1After_L1
    simp only [show decide (((p.1.length : Nat) : Int) < ((p.1.length : Nat) : Int)) = false by simp, cond_false]
    rw [newC_list r1.1 r2])
  have hL1' : iterW (ref1After_L1 p m) (((0 : Int), ()), ((([] : List Int), (([] : List Int), (([] : List Int), (1 - p.turn, (p.quiet + 1, ()))))), ())) = _ := hL1
  rw [hL1', Option.bind_some]
  have hng : decide (m.1 < 0) = (m.1 == -1) := by
    by_cases c : m.1 = -1
    · rw [beq_t c, c]; rfl
    · rw [beq_f c]; simp; omega
  have kg : decide (cellI p m.2.1 > 0) = true → w64 ((w64 (cellI p m.2.1 - 1)).tdiv 2) = kindOf (cellI p m.2.1) := fun hc => (kind_rng h (of_decide_eq_true hc)).1
  -- one hand
  have hL3 : ∀ (o : Nat) (l : List Int) (c : List Int) (q0 q1 : List Int) (x8 : (Int × Unit) × (((List Int) × (List Int) × (List Int) × Int × Int × Unit) × Unit)), o < 2 → x8.1.1 = (o : Int) → l = getD' [p.2.1.1, p.2.1.2.1] o [] → l.length ≤ 6 → (∀ x ∈ l, 0 ≤ x ∧ x ≤ 1000) → (o = 0 → q0 = []) → (o = 1 → q1 = []) →
      iterW (ref1After_L3 p x8 m r (cellI p m.2.1)) (((0 : Int), ()), ((c, (q0, (q1, (1 - p.turn, (p.quiet + 1, ()))))), ())) = some ((), ((c, ((if o = 0 then (List.range l.length).map (fun i => bif ((o : Int) == p.turn) then newH r p m l i else l.getD i 0) else q0), ((if o = 0 then q1 else (List.range l.length).map (fun i => bif ((o : Int) == p.turn) then newH r p m l i else l.getD i 0)), (1 - p.turn, (p.quiet + 1, ()))))), ())) := by
    intro o l c q0 q1 x8 ho hx8 hl hl6 hlr z0 z1
    have := iterW_states (f := ref1After_L3 p x8 m r (cellI p m.2.1)) l.length (fun i => (((i : Int), ()), ((c, ((if o = 0 then (List.range i).map (fun i => bif ((o : Int) == p.turn) then newH r p m l i else l.getD i 0) else q0), ((if o = 0 then q1 else (List.range i).map (fun i => bif ((o : Int) == p.turn) then newH r p m l i else l.getD i 0)), (1 - p.turn, (p.quiet + 1, ()))))), ()))) ((), ((c, ((if o = 0 then (List.range l.length).map (fun i => bif ((o : Int) == p.turn) then newH r p m l i else l.getD i 0) else q0), ((if o = 0 then q1 else (List.range l.length).map (fun i => bif ((o : Int) == p.turn) then newH r p m l i else l.getD i 0)), (1 - p.turn, (p.quiet + 1, ()))))), ())) (fun i hi => by
      unfold ref1After_L3
      rw [hx8]
      simp only [Int.toNat_natCast, ← hl]
      simp only [show decide ((i : Int) < ((l.length : Nat) : Int)) = true by simp; omega, cond_true]
      have hatl : at? l (i : Int) = some (l.getD i 0) := by
        rw [at?_eq l _ (by omega) (by omega), List.getD_eq_getElem?_getD, List.getElem?_eq_getElem hi]; rfl
      have hgr := getD_rng (by omega) hlr i
      rw [hatl, Option.bind_some, show p.2.2.1 = p.turn from rfl, w64_id (n := l.getD i 0 - 1) (by omega) (by omega), w64_id (n := (i : Int) + 1) (by omega) (by omega)]
      have e1 : (bif ((((o : Int) == p.turn) && (m.1 == (-1 : Int))) && ((i : Int) == m.2.2.1)) then some ((l.getD i 0 - 1, ()), ()) else some ((l.getD i 0, ()), ())) = some (((bif ((((o : Int) == p.turn) && (m.1 == (-1 : Int))) && ((i : Int) == m.2.2.1)) then l.getD i 0 - 1 else l.getD i 0), ()), ()) := by
        cases ((((o : Int) == p.turn) && (m.1 == (-1 : Int))) && ((i : Int) == m.2.2.1)) <;> rfl
      rw [e1, Option.bind_some]
      simp only [show ∀ b, imp b true = true from fun b => by cases b <;> rfl, req_true]
      obtain ⟨n, hn⟩ : ∃ n, (bif ((((o : Int) == p.turn) && (m.1 == (-1 : Int))) && ((i : Int) == m.2.2.1)) then l.getD i 0 - 1 else l.getD i 0) = n := ⟨_, rfl⟩
      have hnr : -1 ≤ n ∧ n ≤ 1000 := by
        rw [← hn]
        cases ((((o : Int) == p.turn) && (m.1 == (-1 : Int))) && ((i : Int) == m.2.2.1))
        · rw [cond_false]; omega
        · rw [cond_true]; omega
      rw [hn, w64_id (n := n + 1) (by omega) (by omega)]
      have e2 : (bif ((((((o : Int) == p.turn) && r.2.2.2.2.2.2.1) && (decide (cellI p m.2.1 > (0 : Int)))) && ((i : Int) == (w64 ((w64 (cellI p m.2.1 - (1 : Int))).tdiv (2 : Int))))) && (decide (n < (1000 : Int)))) then some ((n + 1, ()), ()) else some ((n, ()), ())) = some (((bif ((o : Int) == p.turn) then newH r p m l i else l.getD i 0), ()), ()) := by
        unfold newH
        rw [show r.2.2.2.2.2.2.1 = r.keeps from rfl]
        cases hot : ((o : Int) == p.turn) with
        | false =>
          rw [hot] at hn
          simp only [Bool.false_and, cond_false] at hn ⊢
          rw [hn]
        | true =>
          rw [hot] at hn
          simp only [Bool.true_and, cond_true] at hn ⊢
          rw [hn]
          cases hc : decide (cellI p m.2.1 > 0) with
          | false => simp
          | true =>
            rw [kg hc]
            cases r.keeps <;> cases ((i : Int) == kindOf (cellI p m.2.1)) <;> cases decide (n < 1000) <;> rfl
      rw [e2, Option.bind_some]
      have ho2 : inb (o : Int) 2 = true := inb_iff.2 ⟨by omega, by omega⟩
      have hroom : ∀ (F : Nat → Int) (z : Int), room (((List.range i).map F).length + [z].length) 8 = true := fun F z => room_ok (by simp; omega)
      simp only [ho2, req_true]
      rcases (show o = 0 ∨ o = 1 by omega) with rfl | rfl
      · simp only [↓reduceIte, show (((0 : Nat) : Int) == 0) = true from rfl, cond_true, hroom, req_true, Option.bind_some, map_succ]
        rfl
      · simp only [if_neg (show ¬ (1 : Nat) = 0 by omega), show (((1 : Nat) : Int) == 0) = false from rfl, cond_false, hroom, req_true, Option.bind_some, map_succ]
        rfl) (by
      unfold ref1After_L3
      rw [hx8]
      simp only [Int.toNat_natCast, ← hl]
      simp only [show decide (((l.length : Nat) : Int) < ((l.length : Nat) : Int)) = false by simp, cond_false])
    rcases (show o = 0 ∨ o = 1 by omega) with rfl | rfl
    · rw [z0 rfl]; simpa using this
    · rw [z1 rfl]; simpa using this
  have hsame : ∀ l : List Int, (List.range l.length).map (fun i => l.getD i 0) = l := fun l => by
    apply List.ext_getElem
    · simp
    · intro i h1 h2
      simp [List.getD_eq_getElem?_getD, h2]
  have hho := handOf_eq h
  have hfin : ∀ (o : Nat) (l : List Int), l = getD' [p.2.1.1, p.2.1.2.1] o [] → o < 2 → (List.range l.length).map (fun i => bif ((o : Int) == p.turn) then newH r p m l i else l.getD i 0) = bif ((o : Int) == p.turn) then handA r p m l else l := fun o l hl ho => by
    cases hot : ((o : Int) == p.turn) with
    | false => simp only [cond_false]; exact hsame l
    | true =>
      simp only [cond_true]
      refine newH_list h ha l ?_
      rw [hl]; unfold handOf
      rw [beq_iff_eq] at hot
      rw [show p.2.2.1 = (o : Int) from hot.symm]
      rfl
  have hL2 : iterW (ref1After_L2 p m r (cellI p m.2.1)) (((0 : Int), ()), ((cellsA p m, (([] : List Int), (([] : List Int), (1 - p.turn, (p.quiet + 1, ()))))), ())) = some ((), ((cellsA p m, ((bif p.turn == 0 then handA r p m p.2.1.1 else p.2.1.1), ((bif p.turn == 0 then p.2.1.2.1 else handA r p m p.2.1.2.1), (1 - p.turn, (p.quiet + 1, ()))))), ())) := by
    rw [iterW_inl (y := (((1 : Int), ()), ((cellsA p m, ((bif p.turn == 0 then handA r p m p.2.1.1 else p.2.1.1), (([] : List Int), (1 - p.turn, (p.quiet + 1, ()))))), ()))) (by
      unfold ref1After_L2
      simp only [show decide ((0 : Int) < 2) = true from rfl, cond_true, show inb (0 : Int) 2 = true from rfl, req_true]
      rw [hL3 0 p.2.1.1 (cellsA p m) [] [] _ (by omega) rfl rfl (by omega) h.hand0 (fun _ => rfl) (fun h => by omega), Option.bind_some]
      simp only [↓reduceIte]
      rw [hfin 0 p.2.1.1 rfl (by omega)]
      have : (((0 : Nat) : Int) == p.turn) = (p.turn == 0) := by rw [Bool.eq_iff_iff, beq_iff_eq, beq_iff_eq]; omega
      rw [this]
      rfl)]
    rw [iterW_inl (y := (((2 : Int), ()), ((cellsA p m, ((bif p.turn == 0 then handA r p m p.2.1.1 else p.2.1.1), ((bif p.turn == 0 then p.2.1.2.1 else handA r p m p.2.1.2.1), (1 - p.turn, (p.quiet + 1, ()))))), ()))) (by
      unfold ref1After_L2
      simp only [show decide ((1 : Int) < 2) = true from rfl, cond_true, show inb (1 : Int) 2 = true from rfl, req_true]
      rw [hL3 1 p.2.1.2.1 (cellsA p m) _ [] _ (by omega) rfl rfl (by omega) h.hand1 (fun h => by omega) (fun _ => rfl), Option.bind_some]
      simp only [if_neg (show ¬ (1 : Nat) = 0 by omega)]
      rw [hfin 1 p.2.1.2.1 rfl (by omega)]
      have : (((1 : Nat) : Int) == p.turn) = !(p.turn == 0) := by
        rcases htn with e | e <;> rw [e] <;> rfl
      rw [this]
      cases (p.turn == 0) <;> rfl)]
    exact iterW_inr rfl
  simp only
  rw [hL2, Option.bind_some]
  unfold afterOf quietA
  rw [hng]
  simp only
  by_cases c : p.quiet + 1 > 200
  · rw [show decide (p.quiet + 1 > 200) = true by simp; omega, if_pos (by omega)]
    cases (decide (cellI p m.2.1 > 0) || m.1 == -1) <;> rfl
  · rw [show decide (p.quiet + 1 > 200) = false by simp; omega, if_neg (by omega)]
    cases (decide (cellI p m.2.1 > 0) || m.1 == -1) <;> rfl
end Go.Proofs.Ytocnfflklfeocaa
