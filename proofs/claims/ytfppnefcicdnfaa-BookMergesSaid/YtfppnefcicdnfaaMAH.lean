/- Several texts in one: The position after a move, as the program and the reference compute it. No condition of its own.; Comparisons, beginnings, and what the exported functions of moves give. No condition of its own.; Games by the rules, in plain Lean: what Play, Run and Repeats compute. No condition of its own.; What the exported functions of moves give. No condition of its own.; Games: what claims and the reference compute; three in a row. No condition of its own.; Books of openings: their order, their check, the search by halves, an entry in its place. No condition of its own.; Books of openings: an entry is added. No condition of its own.; Games, step by step. No condition of its own.; Keys of positions, as the program and the reference compute them. No condition of its own.; Books of openings: the first moves of a game are added. No condition of its own.; Books of openings: their union, and what the reference makes of it. No condition of its own.; Books of openings: what the reference makes of two books. No condition of its own.; Proved: the law of books that are merged. No condition of its own. -/
import Derived.Test.YtfppnefcicdnfaaMAG
import Derived.Test.YtfppnefcicdnfaaMAF
namespace Go.Proofs.Ytfppnefcicdnfaa
open Go.Den
set_option linter.unusedVariables false
set_option linter.unusedSimpArgs false
set_option maxRecDepth 100000

def pieceV (p : Place) (m : Mv) : Int := 2 * m.2.2.1 + p.turn + 1
def cellsA (p : Place) (m : Mv) : List Int := (bif decide (m.1 ≥ 0) then p.1.set m.1.toNat 0 else p.1).set m.2.1.toNat (pieceV p m)
def handD (m : Mv) (h : List Int) : List Int := bif decide (m.1 ≥ 0) then h else h.set m.2.2.1.toNat (h.getD m.2.2.1.toNat 0 - 1)
def handK (r : Rules) (c : Int) (h : List Int) : List Int := bif decide (c > 0) && r.keeps then h.set (kindOf c).toNat (if 1000 < h.getD (kindOf c).toNat 0 + 1 then 1000 else h.getD (kindOf c).toNat 0 + 1) else h
def handA (r : Rules) (p : Place) (m : Mv) (h : List Int) : List Int := handK r (cellI p m.2.1) (handD m h)
def quietA (p : Place) (m : Mv) : Int := bif decide (cellI p m.2.1 > 0) || decide (m.1 < 0) then 0 else if 200 < p.quiet + 1 then 200 else p.quiet + 1
/-- the position after a move -/
def afterOf (r : Rules) (p : Place) (m : Mv) : Place := (cellsA p m, ((bif p.turn == 0 then handA r p m p.2.1.1 else p.2.1.1), (bif p.turn == 0 then p.2.1.2.1 else handA r p m p.2.1.2.1), ()), 1 - p.turn, quietA p m, ())
theorem copy_spec {r : Rules} {p : Place} (h : Valid r p) : placeCopy p = some p := by
  have h64 := area_len h
  have ht := h.r0.t6
  have a0 : p.2.1.1.length = r.pieces.length := h.l0
  have a1 : p.2.1.2.1.length = r.pieces.length := h.l1
  unfold placeCopy
  rw [clone_ok p.1 (by omega), clone_ok p.2.1.1 (by omega), clone_ok p.2.1.2.1 (by omega)]
  simp only [Option.bind_some, agree_self]
theorem allowed_rng {r : Rules} {p : Place} {m : Mv} (ha : allowedB r p m = true) : (-1 ≤ m.1 ∧ m.1 < ((p.1.length : Nat) : Int)) ∧ (0 ≤ m.2.1 ∧ m.2.1 < ((p.1.length : Nat) : Int)) ∧ (0 ≤ m.2.2.1 ∧ m.2.2.1 < ((r.pieces.length : Nat) : Int)) := by
  unfold allowedB mvOk at ha
  rw [Bool.and_eq_true, decide_eq_true_eq] at ha
  exact ha.1
theorem allowed_put {r : Rules} {p : Place} {m : Mv} (ha : allowedB r p m = true) (hm : m.1 = -1) : handI p m.2.2.1 > 0 ∧ cellI p m.2.1 = 0 := by
  unfold allowedB putOk at ha
  rw [beq_t hm, cond_true] at ha
  simp only [Bool.and_eq_true, decide_eq_true_eq, beq_iff_eq] at ha
  exact ⟨ha.2.1, ha.2.2.1⟩
theorem handD_len (m : Mv) (h : List Int) : (handD m h).length = h.length := by unfold handD; cases decide (m.1 ≥ 0) <;> simp
theorem handK_len (r : Rules) (c : Int) (h : List Int) : (handK r c h).length = h.length := by unfold handK; cases (decide (c > 0) && r.keeps) <;> simp
theorem getD_rng {l : List Int} {b : Int} (hb : 0 ≤ b) (h : ∀ c ∈ l, 0 ≤ c ∧ c ≤ b) (i : Nat) : 0 ≤ l.getD i 0 ∧ l.getD i 0 ≤ b := by
  rw [List.getD_eq_getElem?_getD]
  cases e : l[i]? with
  | none => simp; exact hb
  | some c => exact h c (List.mem_of_getElem? e)
theorem handD_rng {r : Rules} {p : Place} {m : Mv} (h : Valid r p) (ha : allowedB r p m = true) : ∀ c ∈ handD m (handOf p), 0 ≤ c ∧ c ≤ 1000 := by
  have hr := hand_rng h
  unfold handD
  cases hd : decide (m.1 ≥ 0) with
  | true => exact hr
  | false =>
    intro c hc
    rw [cond_false] at hc
    have hm : m.1 = -1 := by have := (allowed_rng ha).1.1; simp at hd; omega
    have hp := (allowed_put ha hm).1
    have hg := getD_rng (by omega) hr m.2.2.1.toNat
    rcases List.mem_or_eq_of_mem_set hc with h1 | h1
    · exact hr c h1
    · unfold handI at hp; omega
theorem handK_rng {r : Rules} {c : Int} {h : List Int} (hh : ∀ x ∈ h, 0 ≤ x ∧ x ≤ 1000) : ∀ x ∈ handK r c h, 0 ≤ x ∧ x ≤ 1000 := by
  unfold handK
  cases (decide (c > 0) && r.keeps) with
  | false => exact hh
  | true =>
    intro x hx
    have hg := getD_rng (by omega) hh (kindOf c).toNat
    rcases List.mem_or_eq_of_mem_set hx with h1 | h1
    · exact hh x h1
    · rw [h1]; split <;> omega
theorem make_hand {r : Rules} {p : Place} {m : Mv} (hv : Valid r p) (ha : allowedB r p m = true) (l : List Int) (hl : l = handOf p) :
    (decide (m.1 ≥ 0) = false → inb m.2.2.1 l.length = true ∧ w64 (getD' l m.2.2.1.toNat 0 - 1) = l.getD m.2.2.1.toNat 0 - 1) ∧
    (decide (cellI p m.2.1 > 0) = true → inb (kindOf (cellI p m.2.1)) (handD m l).length = true ∧ w64 (getD' (handD m l) (kindOf (cellI p m.2.1)).toNat 0 + 1) = (handD m l).getD (kindOf (cellI p m.2.1)).toNat 0 + 1) := by
  subst hl
  have hr := hand_rng hv
  have hl := hand_len hv
  obtain ⟨r1, r2, r3⟩ := allowed_rng ha
  refine ⟨fun _ => ⟨inb_iff.2 ⟨r3.1, by rw [hl]; exact r3.2⟩, ?_⟩, fun hc => ⟨?_, ?_⟩⟩
  · have := getD_rng (by omega) hr m.2.2.1.toNat
    exact w64_id (by show _ ≤ (handOf p).getD m.2.2.1.toNat 0 - 1; omega) (by show (handOf p).getD m.2.2.1.toNat 0 - 1 ≤ _; omega)
  · have hk := kind_rng hv (of_decide_eq_true hc)
    exact inb_iff.2 ⟨hk.2.1, by rw [handD_len, hl]; exact hk.2.2⟩
  · have := getD_rng (by omega) (handD_rng hv ha) (kindOf (cellI p m.2.1)).toNat
    exact w64_id (by show _ ≤ (handD m (handOf p)).getD (kindOf (cellI p m.2.1)).toNat 0 + 1; omega) (by show (handD m (handOf p)).getD (kindOf (cellI p m.2.1)).toNat 0 + 1 ≤ _; omega)
theorem make_spec {r : Rules} {p : Place} {m : Mv} (h : Valid r p) (ha : allowedB r p m = true) : movesMake r p m = some (afterOf r p m) := by
  obtain ⟨r1, r2, r3⟩ := allowed_rng ha
  have ht6 := h.r0.t6
  have hq := h.quiet
  have htn := h.turn
  have h64 := area_len h
  have hto : inb m.2.1 p.1.length = true := inb_iff.2 r2
  have wv : w64 (w64 (w64 (2 * m.2.2.1) + p.2.2.1) + 1) = pieceV p m := by
    unfold pieceV
    rw [show p.2.2.1 = p.turn from rfl, w64_id (n := 2 * m.2.2.1) (by omega) (by omega), w64_id (n := 2 * m.2.2.1 + p.turn) (by omega) (by omega), w64_id (by omega) (by omega)]
  have wq : w64 (p.2.2.2.1 + 1) = p.quiet + 1 := w64_id (by show _ ≤ p.quiet + 1; omega) (by show p.quiet + 1 ≤ _; omega)
  have wt : w64 (1 - p.2.2.1) = 1 - p.turn := (turn_w h).1
  have hcell : getD' p.1 m.2.1.toNat 0 = cellI p m.2.1 := rfl
  have hin : inb p.2.2.1 2 = true := inb_iff.2 (by show 0 ≤ p.turn ∧ p.turn < ((2 : Nat) : Int); omega)
  have wk : decide (cellI p m.2.1 > 0) = true → w64 ((w64 (cellI p m.2.1 - 1)).tdiv 2) = kindOf (cellI p m.2.1) := fun hc => (kind_rng h (of_decide_eq_true hc)).1
  have hho : handOf p = if p.turn = 0 then p.2.1.1 else p.2.1.2.1 := handOf_eq h
  have hneg : decide (m.1 < 0) = !decide (m.1 ≥ 0) := by
    rw [Bool.eq_iff_iff]
    simp only [decide_eq_true_eq, Bool.not_eq_true', decide_eq_false_iff_not]
    omega
  unfold movesMake afterOf
  rw [copy_spec h, Option.bind_some]
  simp only [hcell, hto, req_true, wv, wq, wt, hin, hneg]
  rcases htn with e | e
  · have e' : p.2.2.1 = 0 := e
    rw [if_pos e] at hho
    obtain ⟨k1, k2⟩ := make_hand h ha p.2.1.1 hho.symm
    simp only [e', e, show ((0 : Int) == 0) = true from rfl, cond_true]
    unfold handA cellsA quietA handK
    simp only [hneg]
    cases hd : decide (m.1 ≥ 0) with
    | true =>
      have hf : inb m.1 p.1.length = true := inb_iff.2 ⟨of_decide_eq_true hd, r1.2⟩
      have hD : handD m p.2.1.1 = p.2.1.1 := by unfold handD; rw [hd]; rfl
      rw [hD] at k2 ⊢
      simp only [cond_true, hf, req_true, Option.bind_some, List.length_set, hto]
      cases hc : decide (cellI p m.2.1 > 0) with
      | false => rfl
      | true =>
        obtain ⟨k3, k4⟩ := k2 hc
        cases hk : r.2.2.2.2.2.2.1 with
        | false => rw [show r.keeps = false from hk]; rfl
        | true =>
          rw [show r.keeps = true from hk]
          simp only [Bool.true_and, cond_true, wk hc, k3, req_true, k4, Option.bind_some]
          rfl
    | false =>
      obtain ⟨k5, k6⟩ := k1 hd
      have hD : handD m p.2.1.1 = p.2.1.1.set m.2.2.1.toNat (p.2.1.1.getD m.2.2.1.toNat 0 - 1) := by unfold handD; rw [hd]; rfl
      have hz : decide (cellI p m.2.1 > 0) = false := by
        have := (allowed_put ha (by simp at hd; omega)).2
        rw [this]; rfl
      rw [hD]
      simp only [cond_false, k5, k6, req_true, Option.bind_some, hz, Bool.false_and, hto]
      rfl
  · have e' : p.2.2.1 = 1 := e
    rw [if_neg (by omega)] at hho
    obtain ⟨k1, k2⟩ := make_hand h ha p.2.1.2.1 hho.symm
    simp only [e', e, show ((1 : Int) == 0) = false from rfl, cond_false]
    unfold handA cellsA quietA handK
    simp only [hneg]
    cases hd : decide (m.1 ≥ 0) with
    | true =>
      have hf : inb m.1 p.1.length = true := inb_iff.2 ⟨of_decide_eq_true hd, r1.2⟩
      have hD : handD m p.2.1.2.1 = p.2.1.2.1 := by unfold handD; rw [hd]; rfl
      rw [hD] at k2 ⊢
      simp only [cond_true, hf, req_true, Option.bind_some, List.length_set, hto]
      cases hc : decide (cellI p m.2.1 > 0) with
      | false => rfl
      | true =>
        obtain ⟨k3, k4⟩ := k2 hc
        cases hk : r.2.2.2.2.2.2.1 with
        | false => rw [show r.keeps = false from hk]; rfl
        | true =>
          rw [show r.keeps = true from hk]
          simp only [Bool.true_and, cond_true, wk hc, k3, req_true, k4, Option.bind_some]
          rfl
    | false =>
      obtain ⟨k5, k6⟩ := k1 hd
      have hD : handD m p.2.1.2.1 = p.2.1.2.1.set m.2.2.1.toNat (p.2.1.2.1.getD m.2.2.1.toNat 0 - 1) := by unfold handD; rw [hd]; rfl
      have hz : decide (cellI p m.2.1 > 0) = false := by
        have := (allowed_put ha (by simp at hd; omega)).2
        rw [this]; rfl
      rw [hD]
      simp only [cond_false, k5, k6, req_true, Option.bind_some, hz, Bool.false_and, hto]
      rfl
theorem after_valid {r : Rules} {p : Place} {m : Mv} (h : Valid r p) (ha : allowedB r p m = true) : Valid r (afterOf r p m) := by
  obtain ⟨r1, r2, r3⟩ := allowed_rng ha
  have htn := h.turn
  have hq := h.quiet
  have hK := handK_rng (r := r) (c := cellI p m.2.1) (handD_rng h ha)
  have hho := handOf_eq h
  refine ⟨h.r0, ?_, ?_, ?_, ?_, ?_, ?_, ?_, ?_⟩
  · show ((((bif decide (m.1 ≥ 0) then p.1.set m.1.toNat 0 else p.1).set m.2.1.toNat (pieceV p m)).length : Nat) : Int) = _
    have : ((bif decide (m.1 ≥ 0) then p.1.set m.1.toNat 0 else p.1).set m.2.1.toNat (pieceV p m)).length = p.1.length := by cases decide (m.1 ≥ 0) <;> simp
    rw [this]; exact h.cells
  · show (bif p.turn == 0 then handA r p m p.2.1.1 else p.2.1.1).length = _
    cases (p.turn == 0)
    · exact h.l0
    · rw [cond_true]; unfold handA; rw [handK_len, handD_len]; exact h.l0
  · show (bif p.turn == 0 then p.2.1.2.1 else handA r p m p.2.1.2.1).length = _
    cases (p.turn == 0)
    · rw [cond_false]; unfold handA; rw [handK_len, handD_len]; exact h.l1
    · exact h.l1
  · intro c hc
    have hc : c ∈ (bif decide (m.1 ≥ 0) then p.1.set m.1.toNat 0 else p.1).set m.2.1.toNat (pieceV p m) := hc
    rcases List.mem_or_eq_of_mem_set hc with h1 | h1
    · cases hd : decide (m.1 ≥ 0) with
      | false => rw [hd, cond_false] at h1; exact h.cell c h1
      | true =>
        rw [hd, cond_true] at h1
        rcases List.mem_or_eq_of_mem_set h1 with h2 | h2
        · exact h.cell c h2
        · have := h.r0.t1; omega
    · rw [h1]; unfold pieceV; omega
  · intro c hc
    have hc : c ∈ (bif p.turn == 0 then handA r p m p.2.1.1 else p.2.1.1) := hc
    rcases htn with e | e
    · rw [beq_t e, cond_true] at hc
      rw [if_pos e] at hho
      have hc : c ∈ handK r (cellI p m.2.1) (handD m p.h0) := hc
      rw [← hho] at hc
      exact hK c hc
    · rw [beq_f (by omega), cond_false] at hc; exact h.hand0 c hc
  · intro c hc
    have hc : c ∈ (bif p.turn == 0 then p.2.1.2.1 else handA r p m p.2.1.2.1) := hc
    rcases htn with e | e
    · rw [beq_t e, cond_true] at hc; exact h.hand1 c hc
    · rw [beq_f (by omega), cond_false] at hc
      rw [if_neg (by omega)] at hho
      have hc : c ∈ handK r (cellI p m.2.1) (handD m p.h1) := hc
      rw [← hho] at hc
      exact hK c hc
  · show 1 - p.turn = 0 ∨ 1 - p.turn = 1
    omega
  · show 0 ≤ quietA p m ∧ quietA p m ≤ 200
    unfold quietA
    cases (decide (cellI p m.2.1 > 0) || decide (m.1 < 0))
    · rw [cond_false]; split <;> omega
    · simp
/-! ### the reference -/
def newC (p : Place) (m : Mv) (i : Nat) : Int := bif ((i : Int) == m.2.1) then pieceV p m else bif ((i : Int) == m.1) then 0 else p.1.getD i 0
theorem newC_list {p : Place} {m : Mv} (h1 : -1 ≤ m.1) (h2 : 0 ≤ m.2.1 ∧ m.2.1 < ((p.1.length : Nat) : Int)) : (List.range p.1.length).map (newC p m) = cellsA p m := by
  have hl : (cellsA p m).length = p.1.length := by unfold cellsA; cases decide (m.1 ≥ 0) <;> simp
  apply List.ext_getElem?
  intro i
  by_cases hi : i < p.1.length
  · rw [List.getElem?_map, List.getElem?_range hi, Option.map_some]
    unfold newC cellsA
    have hg : p.1[i]? = some (p.1.getD i 0) := by rw [List.getD_eq_getElem?_getD, List.getElem?_eq_getElem hi]; rfl
    have hl2 : (bif decide (m.1 ≥ 0) then p.1.set m.1.toNat 0 else p.1).length = p.1.length := by cases decide (m.1 ≥ 0) <;> simp
    rw [List.getElem?_set]
    by_cases e : (i : Int) = m.2.1
    · rw [beq_t e, cond_true, if_pos (by omega), if_pos (by rw [hl2]; omega)]
    · rw [beq_f e, cond_false, if_neg (by omega)]
      by_cases c : m.1 ≥ 0
      · rw [show decide (m.1 ≥ 0) = true by simp; omega, cond_true, List.getElem?_set]
        by_cases e2 : (i : Int) = m.1
        · rw [beq_t e2, cond_true, if_pos (by omega), if_pos (by omega)]
        · rw [beq_f e2, cond_false, if_neg (by omega), hg]
      · rw [show decide (m.1 ≥ 0) = false by simp; omega, cond_false, beq_f (by omega), cond_false, hg]
  · rw [List.getElem?_eq_none (by simp; omega), List.getElem?_eq_none (by rw [hl]; omega)]
def newH (r : Rules) (p : Place) (m : Mv) (h : List Int) (i : Nat) : Int :=
  let n := bif (m.1 == -1) && ((i : Int) == m.2.2.1) then h.getD i 0 - 1 else h.getD i 0
  bif ((r.keeps && decide (cellI p m.2.1 > 0)) && ((i : Int) == kindOf (cellI p m.2.1))) && decide (n < 1000) then n + 1 else n
theorem newH_list {r : Rules} {p : Place} {m : Mv} (hv : Valid r p) (ha : allowedB r p m = true) (l : List Int) (hl : l = handOf p) : (List.range l.length).map (newH r p m l) = handA r p m l := by
  obtain ⟨r1, r2, r3⟩ := allowed_rng ha
  have hlen : (handA r p m l).length = l.length := by unfold handA; rw [handK_len, handD_len]
  have hDr : ∀ c ∈ handD m l, 0 ≤ c ∧ c ≤ 1000 := by rw [hl]; exact handD_rng hv ha
  have hDl := handD_len m l
  have hgD : ∀ (xs : List Int) (i : Nat), i < xs.length → xs[i]? = some (xs.getD i 0) := fun xs i hi => by rw [List.getD_eq_getElem?_getD, List.getElem?_eq_getElem hi]; rfl
  have hd : ∀ i, i < l.length → (handD m l).getD i 0 = bif (m.1 == -1) && ((i : Int) == m.2.2.1) then l.getD i 0 - 1 else l.getD i 0 := fun i hi => by
    by_cases c : m.1 ≥ 0
    · have : handD m l = l := by unfold handD; rw [show decide (m.1 ≥ 0) = true by simp; omega]; rfl
      rw [this, beq_f (by omega), Bool.false_and, cond_false]
    · have : handD m l = l.set m.2.2.1.toNat (l.getD m.2.2.1.toNat 0 - 1) := by unfold handD; rw [show decide (m.1 ≥ 0) = false by simp; omega]; rfl
      rw [this, beq_t (by omega), Bool.true_and, List.getD_eq_getElem?_getD, List.getElem?_set]
      by_cases e : (i : Int) = m.2.2.1
      · rw [beq_t e, cond_true, if_pos (by omega), if_pos (by omega), show m.2.2.1.toNat = i by omega]; rfl
      · rw [beq_f e, cond_false, if_neg (by omega), ← List.getD_eq_getElem?_getD]
  apply List.ext_getElem?
  intro i
  by_cases hi : i < l.length
  · rw [List.getElem?_map, List.getElem?_range hi, Option.map_some]
    unfold newH
    simp only
    rw [← hd i hi]
    have hb := getD_rng (by omega) hDr i
    unfold handA
    obtain ⟨D0, hD0⟩ : ∃ D0, handD m l = D0 := ⟨_, rfl⟩
    rw [hD0] at hb hDl ⊢
    unfold handK
    cases hc : decide (cellI p m.2.1 > 0) with
    | false => simp only [Bool.and_false, Bool.false_and, cond_false]; exact (hgD D0 i (by omega)).symm
    | true =>
      have hk := kind_rng hv (of_decide_eq_true hc)
      cases hkp : r.keeps with
      | false => simp only [Bool.and_false, Bool.false_and, cond_false]; exact (hgD D0 i (by omega)).symm
      | true =>
        simp only [Bool.true_and, cond_true]
        rw [List.getElem?_set]
        by_cases e : (i : Int) = kindOf (cellI p m.2.1)
        · have ei : (kindOf (cellI p m.2.1)).toNat = i := by omega
          rw [beq_t e, Bool.true_and, if_pos ei, ei, if_pos (by omega)]
          by_cases c : D0.getD i 0 < 1000
          · rw [show decide (D0.getD i 0 < 1000) = true by simp; simpa using c, cond_true, if_neg (by omega)]
          · rw [show decide (D0.getD i 0 < 1000) = false by simp; simpa using c, cond_false, if_pos (by omega)]
            congr 1; omega
        · rw [beq_f e, Bool.false_and, cond_false, if_neg (by omega), hgD D0 i (by omega)]
  · rw [List.getElem?_eq_none (by simp; omega), List.getElem?_eq_none (by rw [hlen]; omega)]
theorem map_succ {A : Type} (F : Nat → A) (i : Nat) : (List.range (i + 1)).map F = (List.range i).map F ++ [F i] := by rw [List.range_succ, List.map_append]; rfl
theorem refAfter_spec {r : Rules} {p : Place} {m : Mv} (h : Valid r p) (ha : allowedB r p m = true) : ref1After r p m = some (afterOf r p m) := by
  obtain ⟨r1, r2, r3⟩ := allowed_rng ha
  have ht6 := h.r0.t6
  have hq := h.quiet
  have htn := h.turn
  have h64 := area_len h
  have a0 : p.2.1.1.length = r.pieces.length := h.l0
  have a1 : p.2.1.2.1.length = r.pieces.length := h.l1
  have hat := at_cell (p := p) (s := m.2.1) r2.1 r2.2
  have wv : w64 (w64 (w64 (2 * m.2.2.1) + p.2.2.1) + 1) = pieceV p m := by
    unfold pieceV
    rw [show p.2.2.1 = p.turn from rfl, w64_id (n := 2 * m.2.2.1) (by omega) (by omega), w64_id (n := 2 * m.2.2.1 + p.turn) (by omega) (by omega), w64_id (by omega) (by omega)]
  have wq : w64 (p.2.2.2.1 + 1) = p.quiet + 1 := w64_id (by show _ ≤ p.quiet + 1; omega) (by show p.quiet + 1 ≤ _; omega)
  have wt : w64 (1 - p.2.2.1) = 1 - p.turn := (turn_w h).1
  unfold ref1After
  rw [hat, Option.bind_some, wq, wt]
  have hL1 := iterW_states (f := ref1After_L1 p m) p.1.length (fun i => (((i : Int), ()), (((List.range i).map (newC p m), (([] : List Int), (([] : List Int), (1 - p.turn, (p.quiet + 1, ()))))), ()))) ((), ((cellsA p m, (([] : List Int), (([] : List Int), (1 - p.turn, (p.quiet + 1, ()))))), ())) (fun i hi => by
    unfold ref1After_L1
    simp only [show decide ((i : Int) < ((p.1.length : Nat) : Int)) = true by simp; omega, cond_true]
    rw [at_cell (p := p) (s := (i : Int)) (by omega) (by show (i : Int) < ((p.1.length : Nat) : Int); omega), Option.bind_some, wv, w64_id (n := (i : Int) + 1) (by omega) (by omega), map_succ]
    have e : (bif ((i : Int) == m.2.1) then some ((pieceV p m, ()), ()) else Option.bind (bif ((i : Int) == m.1) then some (((0 : Int), ()), ()) else some ((cellI p (i : Int), ()), ())) fun x5 => some ((x5.1.1, ()), ())) = some ((newC p m i, ()), ()) := by
      unfold newC
      rw [show p.1.getD i 0 = cellI p (i : Int) from rfl]
      cases ((i : Int) == m.2.1) <;> cases ((i : Int) == m.1) <;> rfl
    rw [e, Option.bind_some]
    have hroom : room (((List.range i).map (newC p m)).length + [newC p m i].length) 8 = true := room_ok (by simp; omega)
    simp only [hroom, req_true]
    rfl) (by
    unfold ref1After_L1
    simp only [show decide (((p.1.length : Nat) : Int) < ((p.1.length : Nat) : Int)) = false by simp, cond_false]
    rw [newC_list r1.1 r2])
  have hL1' : iterW (ref1After_L1 p m) (((0 : Int), ()), ((([] : List Int), (([] : List Int), (([] : List Int), (1 - p.turn, (p.quiet + 1, ()))))), ())) = _ := hL1
  rw [hL1', Option.bind_some]
  have hng : decide (m.1 < 0) = (m.1 == -1) := by
    by_cases c : m.1 = -1
    · rw [beq_t c, c]; rfl
    · rw [beq_f c]; simp; omega
  have kg : decide (cellI p m.2.1 > 0) = true → w64 ((w64 (cellI p m.2.1 - 1)).tdiv 2) = kindOf (cellI p m.2.1) := fun hc => (kind_rng h (of_decide_eq_true hc)).1
  -- one hand
  have hL3 : ∀ (o : Nat) (l : List Int) (c : List Int) (q0 q1 : List Int) (x8 : (Int × Unit) × (((List Int) × (List Int) × (List Int) × Int × Int × Unit) × Unit)), o < 2 → x8.1.1 = (o : Int) → l = getD' [p.2.1.1, p.2.1.2.1] o [] → l.length ≤ 6 → (∀ x ∈ l, 0 ≤ x ∧ x ≤ 1000) → (o = 0 → q0 = []) → (o = 1 → q1 = []) →
      iterW (ref1After_L3 p x8 m r (cellI p m.2.1)) (((0 : Int), ()), ((c, (q0, (q1, (1 - p.turn, (p.quiet + 1, ()))))), ())) = some ((), ((c, ((if o = 0 then (List.range l.length).map (fun i => bif ((o : Int) == p.turn) then newH r p m l i else l.getD i 0) else q0), ((if o = 0 then q1 else (List.range l.length).map (fun i => bif ((o : Int) == p.turn) then newH r p m l i else l.getD i 0)), (1 - p.turn, (p.quiet + 1, ()))))), ())) := by
    intro o l c q0 q1 x8 ho hx8 hl hl6 hlr z0 z1
    have := iterW_states (f := ref1After_L3 p x8 m r (cellI p m.2.1)) l.length (fun i => (((i : Int), ()), ((c, ((if o = 0 then (List.range i).map (fun i => bif ((o : Int) == p.turn) then newH r p m l i else l.getD i 0) else q0), ((if o = 0 then q1 else (List.range i).map (fun i => bif ((o : Int) == p.turn) then newH r p m l i else l.getD i 0)), (1 - p.turn, (p.quiet + 1, ()))))), ()))) ((), ((c, ((if o = 0 then (List.range l.length).map (fun i => bif ((o : Int) == p.turn) then newH r p m l i else l.getD i 0) else q0), ((if o = 0 then q1 else (List.range l.length).map (fun i => bif ((o : Int) == p.turn) then newH r p m l i else l.getD i 0)), (1 - p.turn, (p.quiet + 1, ()))))), ())) (fun i hi => by
      unfold ref1After_L3
      rw [hx8]
      simp only [Int.toNat_natCast, ← hl]
      simp only [show decide ((i : Int) < ((l.length : Nat) : Int)) = true by simp; omega, cond_true]
      have hatl : at? l (i : Int) = some (l.getD i 0) := by
        rw [at?_eq l _ (by omega) (by omega), List.getD_eq_getElem?_getD, List.getElem?_eq_getElem hi]; rfl
      have hgr := getD_rng (by omega) hlr i
      rw [hatl, Option.bind_some, show p.2.2.1 = p.turn from rfl, w64_id (n := l.getD i 0 - 1) (by omega) (by omega), w64_id (n := (i : Int) + 1) (by omega) (by omega)]
      have e1 : (bif ((((o : Int) == p.turn) && (m.1 == (-1 : Int))) && ((i : Int) == m.2.2.1)) then some ((l.getD i 0 - 1, ()), ()) else some ((l.getD i 0, ()), ())) = some (((bif ((((o : Int) == p.turn) && (m.1 == (-1 : Int))) && ((i : Int) == m.2.2.1)) then l.getD i 0 - 1 else l.getD i 0), ()), ()) := by
        cases ((((o : Int) == p.turn) && (m.1 == (-1 : Int))) && ((i : Int) == m.2.2.1)) <;> rfl
      rw [e1, Option.bind_some]
      simp only [show ∀ b, imp b true = true from fun b => by cases b <;> rfl, req_true]
      obtain ⟨n, hn⟩ : ∃ n, (bif ((((o : Int) == p.turn) && (m.1 == (-1 : Int))) && ((i : Int) == m.2.2.1)) then l.getD i 0 - 1 else l.getD i 0) = n := ⟨_, rfl⟩
      have hnr : -1 ≤ n ∧ n ≤ 1000 := by
        rw [← hn]
        cases ((((o : Int) == p.turn) && (m.1 == (-1 : Int))) && ((i : Int) == m.2.2.1))
        · rw [cond_false]; omega
        · rw [cond_true]; omega
      rw [hn, w64_id (n := n + 1) (by omega) (by omega)]
      have e2 : (bif ((((((o : Int) == p.turn) && r.2.2.2.2.2.2.1) && (decide (cellI p m.2.1 > (0 : Int)))) && ((i : Int) == (w64 ((w64 (cellI p m.2.1 - (1 : Int))).tdiv (2 : Int))))) && (decide (n < (1000 : Int)))) then some ((n + 1, ()), ()) else some ((n, ()), ())) = some (((bif ((o : Int) == p.turn) then newH r p m l i else l.getD i 0), ()), ()) := by
        unfold newH
        rw [show r.2.2.2.2.2.2.1 = r.keeps from rfl]
        cases hot : ((o : Int) == p.turn) with
        | false =>
          rw [hot] at hn
          simp only [Bool.false_and, cond_false] at hn ⊢
          rw [hn]
        | true =>
          rw [hot] at hn
          simp only [Bool.true_and, cond_true] at hn ⊢
          rw [hn]
          cases hc : decide (cellI p m.2.1 > 0) with
          | false => simp
          | true =>
            rw [kg hc]
            cases r.keeps <;> cases ((i : Int) == kindOf (cellI p m.2.1)) <;> cases decide (n < 1000) <;> rfl
      rw [e2, Option.bind_some]
      have ho2 : inb (o : Int) 2 = true := inb_iff.2 ⟨by omega, by omega⟩
      have hroom : ∀ (F : Nat → Int) (z : Int), room (((List.range i).map F).length + [z].length) 8 = true := fun F z => room_ok (by simp; omega)
      simp only [ho2, req_true]
      rcases (show o = 0 ∨ o = 1 by omega) with rfl | rfl
      · simp only [↓reduceIte, show (((0 : Nat) : Int) == 0) = true from rfl, cond_true, hroom, req_true, Option.bind_some, map_succ]
        rfl
      · simp only [if_neg (show ¬ (1 : Nat) = 0 by omega), show (((1 : Nat) : Int) == 0) = false from rfl, cond_false, hroom, req_true, Option.bind_some, map_succ]
        rfl) (by
      unfold ref1After_L3
      rw [hx8]
      simp only [Int.toNat_natCast, ← hl]
      simp only [show decide (((l.length : Nat) : Int) < ((l.length : Nat) : Int)) = false by simp, cond_false])
    rcases (show o = 0 ∨ o = 1 by omega) with rfl | rfl
    · rw [z0 rfl]; simpa using this
    · rw [z1 rfl]; simpa using this
  have hsame : ∀ l : List Int, (List.range l.length).map (fun i => l.getD i 0) = l := fun l => by
    apply List.ext_getElem
    · simp
    · intro i h1 h2
      simp [List.getD_eq_getElem?_getD, h2]
  have hho := handOf_eq h
  have hfin : ∀ (o : Nat) (l : List Int), l = getD' [p.2.1.1, p.2.1.2.1] o [] → o < 2 → (List.range l.length).map (fun i => bif ((o : Int) == p.turn) then newH r p m l i else l.getD i 0) = bif ((o : Int) == p.turn) then handA r p m l else l := fun o l hl ho => by
    cases hot : ((o : Int) == p.turn) with
    | false => simp only [cond_false]; exact hsame l
    | true =>
      simp only [cond_true]
      refine newH_list h ha l ?_
      rw [hl]; unfold handOf
      rw [beq_iff_eq] at hot
      rw [show p.2.2.1 = (o : Int) from hot.symm]
      rfl
  have hL2 : iterW (ref1After_L2 p m r (cellI p m.2.1)) (((0 : Int), ()), ((cellsA p m, (([] : List Int), (([] : List Int), (1 - p.turn, (p.quiet + 1, ()))))), ())) = some ((), ((cellsA p m, ((bif p.turn == 0 then handA r p m p.2.1.1 else p.2.1.1), ((bif p.turn == 0 then p.2.1.2.1 else handA r p m p.2.1.2.1), (1 - p.turn, (p.quiet + 1, ()))))), ())) := by
    rw [iterW_inl (y := (((1 : Int), ()), ((cellsA p m, ((bif p.turn == 0 then handA r p m p.2.1.1 else p.2.1.1), (([] : List Int), (1 - p.turn, (p.quiet + 1, ()))))), ()))) (by
      unfold ref1After_L2
      simp only [show decide ((0 : Int) < 2) = true from rfl, cond_true, show inb (0 : Int) 2 = true from rfl, req_true]
      rw [hL3 0 p.2.1.1 (cellsA p m) [] [] _ (by omega) rfl rfl (by omega) h.hand0 (fun _ => rfl) (fun h => by omega), Option.bind_some]
      simp only [↓reduceIte]
      rw [hfin 0 p.2.1.1 rfl (by omega)]
      have : (((0 : Nat) : Int) == p.turn) = (p.turn == 0) := by rw [Bool.eq_iff_iff, beq_iff_eq, beq_iff_eq]; omega
      rw [this]
      rfl)]
    rw [iterW_inl (y := (((2 : Int), ()), ((cellsA p m, ((bif p.turn == 0 then handA r p m p.2.1.1 else p.2.1.1), ((bif p.turn == 0 then p.2.1.2.1 else handA r p m p.2.1.2.1), (1 - p.turn, (p.quiet + 1, ()))))), ()))) (by
      unfold ref1After_L2
      simp only [show decide ((1 : Int) < 2) = true from rfl, cond_true, show inb (1 : Int) 2 = true from rfl, req_true]
      rw [hL3 1 p.2.1.2.1 (cellsA p m) _ [] _ (by omega) rfl rfl (by omega) h.hand1 (fun h => by omega) (fun _ => rfl), Option.bind_some]
      simp only [if_neg (show ¬ (1 : Nat) = 0 by omega)]
      rw [hfin 1 p.2.1.2.1 rfl (by omega)]
      have : (((1 : Nat) : Int) == p.turn) = !(p.turn == 0) := by
        rcases htn with e | e <;> rw [e] <;> rfl
      rw [this]
      cases (p.turn == 0) <;> rfl)]
    exact iterW_inr rfl
  simp only
  rw [hL2, Option.bind_some]
  unfold afterOf quietA
  rw [hng]
  simp only
  by_cases c : p.quiet + 1 > 200
  · rw [show decide (p.quiet + 1 > 200) = true by simp; omega, if_pos (by omega)]
    cases (decide (cellI p m.2.1 > 0) || m.1 == -1) <;> rfl
  · rw [show decide (p.quiet + 1 > 200) = false by simp; omega, if_neg (by omega)]
    cases (decide (cellI p m.2.1 > 0) || m.1 == -1) <;> rfl
end Go.Proofs.Ytfppnefcicdnfaa
namespace Go.Proofs.Ytfppnefcicdnfaa
open Go.Den
set_option linter.unusedVariables false
set_option linter.unusedSimpArgs false
set_option maxRecDepth 100000

theorem place_eta (p q : Place) (h1 : p.1 = q.1) (h2 : p.2.1.1 = q.2.1.1) (h3 : p.2.1.2.1 = q.2.1.2.1) (h4 : p.2.2.1 = q.2.2.1) (h5 : p.2.2.2.1 = q.2.2.2.1) : p = q := by
  obtain ⟨a, ⟨b, c, ⟨⟩⟩, d, e, ⟨⟩⟩ := p
  obtain ⟨a', ⟨b', c', ⟨⟩⟩, d', e', ⟨⟩⟩ := q
  simp only at h1 h2 h3 h4 h5
  subst h1 h2 h3 h4 h5
  rfl
def handsOf (r : Rules) : List Int := r.2.2.2.1.map fun x => x.2.1
def beginOf (r : Rules) : Place := (r.2.2.2.2.1, (handsOf r, handsOf r, ()), 0, 0, ())
theorem begin_valid {r : Rules} (h : VR0 r) : Valid r (beginOf r) := by
  have hh : ∀ c ∈ handsOf r, 0 ≤ c ∧ c ≤ 1000 := fun c hc => by
    obtain ⟨x, hx, rfl⟩ := List.mem_map.1 hc
    have := h.hand x hx
    omega
  have hl : (handsOf r).length = r.pieces.length := by unfold handsOf; simp
  exact ⟨h, h.start, hl, hl, h.startC, hh, hh, .inl rfl, by show (0 : Int) ≤ 0 ∧ (0 : Int) ≤ 200; omega⟩
theorem map_take {A B : Type} (l : List A) (f : A → B) (i : Nat) (hi : i < l.length) : (l.take (i + 1)).map f = (l.take i).map f ++ [f l[i]] := by
  rw [List.take_succ_eq_append_getElem hi, List.map_append]; rfl
theorem begin_spec (r : Rules) (hr : Rng tyRules r) : placeBegin r = some (if ruleErr r = 0 then (beginOf r, 0, ()) else (([], ([], [], ()), 0, 0, ()), ruleErr r, ())) := by
  unfold placeBegin
  rw [check_spec r hr, Option.bind_some]
  by_cases c : ruleErr r = 0
  · have h := rules_valid c
    have hs : ((r.2.2.2.2.1.length : Nat) : Int) = r.width * r.height := h.start
    have ha := h.area
    have ht : r.2.2.2.1.length ≤ 6 := h.t6
    rw [bne_f c, cond_false, if_pos c, clone_ok _ (by omega), Option.bind_some]
    have hL := iterW_states (f := placeBegin_L1 r) r.2.2.2.1.length (fun i => (((i : Int), ()), ((r.2.2.2.2.1, ((r.2.2.2.1.take i).map (fun x => x.2.1), ((r.2.2.2.1.take i).map (fun x => x.2.1), ((0 : Int), ((0 : Int), ()))))), ()))) ((), ((r.2.2.2.2.1, (handsOf r, (handsOf r, ((0 : Int), ((0 : Int), ()))))), ())) (fun i hi => by
      unfold placeBegin_L1
      simp only [show decide ((i : Int) < ((r.2.2.2.1.length : Nat) : Int)) = true by simp; omega, cond_true]
      rw [at?_eq _ _ (by omega) (by omega), Option.bind_some]
      simp only [Int.toNat_natCast]
      have hroom : ∀ z : Int, room (((r.2.2.2.1.take i).map (fun x => x.2.1)).length + [z].length) 8 = true := fun z => room_ok (by simp; omega)
      simp only [hroom, req_true, agree_self, Option.bind_some]
      rw [w64_id (n := (i : Int) + 1) (by omega) (by omega), map_take _ _ i hi]
      rfl) (by
      unfold placeBegin_L1
      simp only [show decide (((r.2.2.2.1.length : Nat) : Int) < ((r.2.2.2.1.length : Nat) : Int)) = false by simp, cond_false, List.take_length]
      rfl)
    have hL' : iterW (placeBegin_L1 r) (((0 : Int), ()), ((r.2.2.2.2.1, (([] : List Int), (([] : List Int), ((0 : Int), ((0 : Int), ()))))), ())) = _ := hL
    rw [hL', Option.bind_some]
    rfl
  · rw [bne_t c, cond_true, if_neg c]
theorem index_spec (s : List Mv) (v : Mv) (hs : s.length ≤ 1000000000) : slicesContains_Move s v = some (decide (v ∈ s)) := by
  unfold slicesContains_Move slicesIndex_Move
  have hL := iterW_scan s.length (slicesIndex_Move_L1 s v) (fun i => if v = s.getD i d0 then some (.inr (i : Int)) else none) (.inl ((), ())) (fun i hi => by
    unfold slicesIndex_Move_L1
    simp only [show decide ((i : Int) < ((s.length : Nat) : Int)) = true by simp; omega, cond_true]
    rw [at?_eq s _ (by omega) (by omega), Option.bind_some, w64_id (n := (i : Int) + 1) (by omega) (by omega)]
    simp only [Int.toNat_natCast, List.getD_eq_getElem?_getD, List.getElem?_eq_getElem hi, Option.getD_some, mv_beq]
    by_cases e : v = s[i]
    · simp [e]
    · simp [e]) (by unfold slicesIndex_Move_L1; simp)
  rw [hL]
  have key : ∀ k i, i + k = s.length → (Option.bind (Option.bind (some (scan (fun i => if v = s.getD i d0 then some (Sum.inr (i : Int)) else none) (Sum.inl ((), ())) i k)) (Sum.elim (fun _ : Unit × Unit => some (-1 : Int)) some)) fun r2 => some (decide (r2 ≥ (0 : Int)))) = some (decide (v ∈ s.drop i)) := by
    intro k
    induction k with
    | zero =>
      intro i hi
      rw [show i = s.length by omega, List.drop_length]
      simp [scan]
    | succ k ih =>
      intro i hi
      have hil : i < s.length := by omega
      have hmem : (v ∈ s.drop i) ↔ v = s[i] ∨ v ∈ s.drop (i + 1) := by rw [List.drop_eq_getElem_cons hil, List.mem_cons]
      unfold scan
      have hg : s.getD i d0 = s[i] := by simp [List.getD_eq_getElem?_getD, hil]
      by_cases e : v = s[i]
      · rw [decide_eq_true (hmem.2 (.inl e))]
        simp only [hg, if_pos e, Option.bind_some, Sum.elim_inr]
        simp
      · simp only [hg, if_neg e]
        rw [ih (i + 1) (by omega)]
        have h2 : (v ∈ s.drop (i + 1)) ↔ v ∈ s.drop i := ⟨fun h => hmem.2 (.inr h), fun h => (hmem.1 h).resolve_left e⟩
        simp only [h2]
  have := key s.length 0 (by omega)
  simpa using this
theorem movesOf_len {r : Rules} {p : Place} (h : Valid r p) : (movesOf r p).length ≤ 100000 := by
  have h64 := area_len h
  refine Nat.le_trans (flatMap_len _ 384 _ fun i _ => at1_len h i) ?_
  rw [List.length_range]
  omega
end Go.Proofs.Ytfppnefcicdnfaa
namespace Go.Proofs.Ytfppnefcicdnfaa
open Go.Den
set_option linter.unusedVariables false
set_option linter.unusedSimpArgs false
set_option maxRecDepth 100000

theorem rep_eta (r : Rules) : (r.1, (r.2.1, (r.2.2.1, (r.2.2.2.1, (r.2.2.2.2.1, (r.2.2.2.2.2.1, (r.2.2.2.2.2.2.1, (r.2.2.2.2.2.2.2.1, (r.2.2.2.2.2.2.2.2.1, (r.2.2.2.2.2.2.2.2.2.1, (r.2.2.2.2.2.2.2.2.2.2.1, ()))))))))))) = r := rfl
theorem pl_eta (p : Place) : (p.1, ((p.2.1.1, (p.2.1.2.1, ())), p.2.2)) = p := rfl
theorem gd_eq {A : Type} (xs : List A) (i : Nat) (hi : i < xs.length) (d : A) : getD' xs i d = xs[i] := by simp [getD', hi]
theorem ltd {A : Type} (xs : List A) (i : Nat) (hi : i < xs.length) : decide ((i : Int) < ((xs.length : Nat) : Int)) = true := by simp; omega
theorem nltd {A : Type} (xs : List A) : decide (((xs.length : Nat) : Int) < ((xs.length : Nat) : Int)) = false := by simp
theorem inbN {A : Type} (xs : List A) (i : Nat) (hi : i < xs.length) : inb (i : Int) xs.length = true := inb_iff.2 ⟨by omega, by omega⟩
theorem eq_ints (a b : List Int) (ha : a.length ≤ 1000000000) : slicesEqual_int a b = some (decide (a = b)) := by
  unfold slicesEqual_int
  by_cases hl : a.length = b.length
  · have e : (((a.length : Nat) : Int) != ((b.length : Nat) : Int)) = false := bne_f (by omega)
    rw [e, cond_false]
    have hL := iterW_any (List.range a.length) (fun i => a.getD i 0 != b.getD i 0) (slicesEqual_int_L1 a b) (.inr false) (.inl ((), ())) (fun i hi => by
      have hi' : i < a.length := by simpa using hi
      unfold slicesEqual_int_L1
      simp only [show decide ((i : Int) < ((a.length : Nat) : Int)) = true by simp; omega, cond_true, List.getElem_range]
      rw [at?_eq a _ (by omega) (by omega), at?_eq b _ (by omega) (by omega), Option.bind_some, Option.bind_some, w64_id (n := (i : Int) + 1) (by omega) (by omega)]
      simp only [Int.toNat_natCast, List.getD_eq_getElem?_getD, List.getElem?_eq_getElem hi', List.getElem?_eq_getElem (show i < b.length by omega), Option.getD_some]
      cases (a[i] != b[i]) <;> rfl) (by unfold slicesEqual_int_L1; simp)
    rw [hL]
    cases hany : (List.range a.length).any (fun i => a.getD i 0 != b.getD i 0) with
    | true =>
      rw [List.any_eq_true] at hany
      obtain ⟨i, _, h⟩ := hany
      have : ¬ a = b := fun e => by subst e; simp at h
      simp [this]
    | false =>
      rw [List.any_eq_false] at hany
      have : a = b := by
        apply List.ext_getElem hl
        intro i h1 h2
        have := hany i (List.mem_range.2 h1)
        simpa [List.getD_eq_getElem?_getD, h1, h2] using this
      simp [this]
  · have e : (((a.length : Nat) : Int) != ((b.length : Nat) : Int)) = true := bne_t (by omega)
    rw [e, cond_true]
    have : ¬ a = b := fun h => hl (by rw [h])
    simp [this]
/-- the same position, but for Quiet -/
def same0 (p q : Place) : Bool := ((decide (p.1 = q.1) && decide (p.2.1.1 = q.2.1.1)) && decide (p.2.1.2.1 = q.2.1.2.1)) && (p.2.2.1 == q.2.2.1)
theorem same_spec {r : Rules} {p q : Place} (h : Valid r p) : placeSame p q = some (same0 p q) := by
  have h64 := area_len h
  have t6 := h.r0.t6
  have l0 : p.2.1.1.length = r.pieces.length := h.l0
  have l1 : p.2.1.2.1.length = r.pieces.length := h.l1
  unfold placeSame same0
  rw [eq_ints _ _ (by omega), eq_ints _ _ (by omega), eq_ints _ _ (by omega)]
  have hg : ∀ b c : Bool, gopt b false (some c) = some (b && c) := fun b c => by cases b <;> rfl
  simp only [hg, Option.bind_some, Option.some.injEq]
  cases decide (p.1 = q.1) <;> cases decide (p.2.1.1 = q.2.1.1) <;> cases decide (p.2.1.2.1 = q.2.1.2.1) <;> cases (p.2.2.1 == q.2.2.1) <;> rfl
theorem pcopy_spec {r : Rules} {p : Place} (h : Valid r p) : placeCopy p = some p := by
  have h64 := area_len h
  have t6 := h.r0.t6
  have l0 : p.2.1.1.length = r.pieces.length := h.l0
  have l1 : p.2.1.2.1.length = r.pieces.length := h.l1
  unfold placeCopy
  simp only [agree_self]
  rw [clone_ok _ (by omega), Option.bind_some, clone_ok _ (by omega), Option.bind_some, clone_ok _ (by omega)]
  rfl
theorem clone_ways (s : List (Int × Int × Int × Int × Unit)) (h : s.length ≤ 1000000) : slicesClone_RuleWay s = some s := by
  unfold slicesClone_RuleWay
  have : room (([] : List (Int × Int × Int × Int × Unit)).length + s.length) 32 = true := room_ok (by simp; omega)
  rw [this]
  cases s with
  | nil => simp [req_true, agree_self]
  | cons a l => simp [req_true]
theorem clone_ends (s : List (Int × Int × Int × Bool × Unit)) (h : s.length ≤ 1000000) : slicesClone_RuleEnd s = some s := by
  unfold slicesClone_RuleEnd
  have : room (([] : List (Int × Int × Int × Bool × Unit)).length + s.length) 32 = true := room_ok (by simp; omega)
  rw [this]
  cases s with
  | nil => simp [req_true, agree_self]
  | cons a l => simp [req_true]
theorem rcopy_spec {r : Rules} (h : VR0 r) : rulesCopy r = some r := by
  have t6 : r.2.2.2.1.length ≤ 6 := h.t6
  have e6 : r.2.2.2.2.2.2.2.1.length ≤ 6 := h.ends6
  have hs : ((r.2.2.2.2.1.length : Nat) : Int) = r.width * r.height := h.start
  have ha := h.area
  unfold rulesCopy
  simp only [agree_self]
  have hL := iterW_states (f := rulesCopy_L1 r) r.2.2.2.1.length (fun i => (((i : Int), ()), ((r.1, (r.2.1, (r.2.2.1, (r.2.2.2.1.take i, r.2.2.2.2)))), ()))) ((), ((r.1, (r.2.1, (r.2.2.1, (r.2.2.2.1, r.2.2.2.2)))), ())) (fun i hi => by
    unfold rulesCopy_L1
    simp only [show decide ((i : Int) < ((r.2.2.2.1.length : Nat) : Int)) = true by simp; omega, cond_true]
    rw [at?_eq _ _ (by omega) (by omega), Option.bind_some]
    simp only [Int.toNat_natCast]
    rw [clone_ways _ (by have : r.2.2.2.1[i].2.2.2.1.length ≤ 16 := h.ways _ (List.getElem_mem hi); omega), Option.bind_some]
    have hroom : ∀ z : Piece, room ((r.2.2.2.1.take i).length + [z].length) 48 = true := fun z => room_ok (by simp; omega)
    rw [hroom, req_true, w64_id (n := (i : Int) + 1) (by omega) (by omega), List.take_succ_eq_append_getElem hi]
    rfl) (by
    unfold rulesCopy_L1
    simp only [show decide (((r.2.2.2.1.length : Nat) : Int) < ((r.2.2.2.1.length : Nat) : Int)) = false by simp, cond_false, List.take_length])
  have hL' : iterW (rulesCopy_L1 r) (((0 : Int), ()), ((r.1, (r.2.1, (r.2.2.1, (([] : List Piece), r.2.2.2.2)))), ())) = _ := hL
  rw [hL', Option.bind_some, clone_ok _ (by omega), Option.bind_some, clone_ends _ (by omega)]
  rfl
theorem valid_ok {r : Rules} {p : Place} (c : ruleErr r = 0) (h : Valid r p) : placeErr r p = 0 := by
  unfold placeErr
  rw [if_neg (by simp [c])]
  have h1 : formBad r p = false := by
    unfold formBad
    rw [bne_f h.cells, bne_f (by have := h.l0; omega), bne_f (by have := h.l1; omega)]
    rfl
  have h2 : placeBad r p = false := by
    unfold placeBad
    have a1 : p.cells.any (outC r) = false := by
      rw [List.any_eq_false]
      intro x hx
      have := h.cell x hx
      simp [outC]; omega
    have a2 : (p.h0 ++ p.h1).any outH = false := by
      rw [List.any_eq_false]
      intro x hx
      have : 0 ≤ x ∧ x ≤ 1000 := (List.mem_append.1 hx).elim (h.hand0 x) (h.hand1 x)
      simp [outH]; omega
    have a3 : outT p = false := by
      have hq := h.quiet
      have ht := h.turn
      simp [outT]; omega
    rw [a1, a2, a3]
    rfl
  rw [h1, h2]
  rfl
/-! ### games -/
def dP : Place := ([], (([], ([], ())), ((0 : Int), ((0 : Int), ()))))
def lastP (l : List Place) : Place := getD' l (l.length - 1) dP
/-- how often the last position occurs -/
def timesOf (l : List Place) : Nat := l.countP fun p => same0 p (lastP l)
/-- the result of a game -/
def gameRes (r : Rules) (l : List Place) : Int := bif ((resultOf r (lastP l) == 0) && (r.repeats != 0)) && decide (((timesOf l : Nat) : Int) ≥ r.repeats) then 3 else resultOf r (lastP l)
structure OKG (r : Rules) (s : List Place × List Mv) : Prop where
  ok : ruleErr r = 0
  all : ∀ p ∈ s.1, Valid r p
  len : s.1.length = s.2.length + 1
  most : s.2.length ≤ 400
theorem last_mem {l : List Place} (h : 0 < l.length) : lastP l ∈ l := by
  unfold lastP
  rw [gd_eq l (l.length - 1) (by omega)]
  exact List.getElem_mem _
theorem OKG.last {r : Rules} {s : List Place × List Mv} (h : OKG r s) : Valid r (lastP s.1) := h.all _ (last_mem (by have := h.len; omega))
/-- one more move: its error -/
def stepG (r : Rules) (s : List Place × List Mv) (m : Mv) : Int := if gameRes r s.1 = 0 then if allowedB r (lastP s.1) m = true then if s.2.length = 400 then 9 else 0 else 13 else 14
def nextG (r : Rules) (s : List Place × List Mv) (m : Mv) : List Place × List Mv := (s.1 ++ [afterOf r (lastP s.1) m], s.2 ++ [m])
theorem next_ok {r : Rules} {s : List Place × List Mv} {m : Mv} (h : OKG r s) (c : stepG r s m = 0) : OKG r (nextG r s m) := by
  unfold stepG at c
  by_cases c1 : gameRes r s.1 = 0
  · rw [if_pos c1] at c
    by_cases c2 : allowedB r (lastP s.1) m = true
    · rw [if_pos c2] at c
      by_cases c3 : s.2.length = 400
      · rw [if_pos c3] at c; cases c
      · have hl := h.len
        have hm := h.most
        refine ⟨h.ok, fun p hp => ?_, by unfold nextG; simp; omega, by unfold nextG; simp; omega⟩
        rcases List.mem_append.1 hp with hp | hp
        · exact h.all p hp
        · rw [List.mem_singleton.1 hp]; exact after_valid h.last c2
    · rw [if_neg c2] at c; cases c
  · rw [if_neg c1] at c; cases c
/-- a round of a loop that counts how often the last position occurs -/
noncomputable def cntF (L : List Place) (c i : Int) : Option (((Int × Int × Unit) × Unit) ⊕ ((Int × Unit) × Unit)) :=
  bif (decide (i < ((L.length : Nat) : Int))) then (req (inb i L.length) (Option.bind (req (inb (w64 (((L.length : Nat) : Int) - 1)) L.length) (Option.bind (placeSame (getD' L i.toNat dP) (getD' L (w64 (((L.length : Nat) : Int) - 1)).toNat dP)) fun x => some ((x, ()), ()))) fun x : (Bool × Unit) × Unit =>
    Option.bind (bif x.1.1 then some ((w64 (c + 1), ()), ()) else some ((c, ()), ())) fun y : (Int × Unit) × Unit => some (Sum.inl ((y.1.1, w64 (i + 1), ()), ()))))
  else some (Sum.inr ((c, ()), ()))
theorem w_last {A : Type} {L : List A} (h0 : 0 < L.length) (h : L.length ≤ 1000000000) : w64 (((L.length : Nat) : Int) - 1) = ((L.length - 1 : Nat) : Int) := by
  rw [w64_id (by omega) (by omega)]; omega
theorem cnt_loop {r : Rules} {L : List Place} (hv : ∀ p ∈ L, Valid r p) (h0 : 0 < L.length) (h1 : L.length ≤ 1000000) (f : ((Int × Int × Unit) × Unit) → Option (((Int × Int × Unit) × Unit) ⊕ ((Int × Unit) × Unit)))
    (hf : ∀ c i, f ((c, i, ()), ()) = cntF L c i) : iterW f (((0 : Int), (0 : Int), ()), ()) = some ((((timesOf L : Nat) : Int), ()), ()) := by
  have hw := w_last h0 (by omega)
  have := iter_count L (fun p => same0 p (lastP L)) f (fun c => ((c, ()), ())) (fun i hi c hc0 hc1 => by
    rw [hf]
    unfold cntF
    rw [ltd L i hi, cond_true, inbN L i hi, req_true, hw, inbN L _ (by omega), req_true, Int.toNat_natCast, Int.toNat_natCast, gd_eq L i hi, same_spec (hv _ (List.getElem_mem hi)), Option.bind_some, Option.bind_some]
    show Option.bind (bif same0 L[i] (lastP L) then _ else _) _ = _
    rw [w64_id (n := c + 1) (by omega) (by omega), w64_id (n := (i : Int) + 1) (by omega) (by omega)]
    cases same0 L[i] (lastP L) <;> rfl) (fun c => by
    rw [hf]
    unfold cntF
    rw [nltd, cond_false])
  rw [this]
  rfl
abbrev Game := Rules × List Place × List Mv × Unit
theorem atP {L : List Place} (h0 : 0 < L.length) : at? L ((L.length - 1 : Nat) : Int) = some (lastP L) := by
  rw [at?_eq _ _ (by omega) (by omega)]
  unfold lastP
  rw [gd_eq L _ (by omega)]
  simp
/-- the methods of games that only read -/
theorem gcount_spec {r : Rules} {s : List Place × List Mv} (h : OKG r s) : plainGameCount (r, (s.1, (s.2, ()))) = some ((timesOf s.1 : Nat) : Int) := by
  obtain ⟨l, ms⟩ := s
  have hl : l.length = ms.length + 1 := h.len
  have hm : ms.length ≤ 400 := h.most
  have hw := w_last (L := l) (by omega) (by omega)
  have := iter_count l (fun p => same0 p (lastP l)) (plainGameCount_L1 (r, (l, (ms, ())))) (fun c => ((c, ()), ())) (fun i hi c hc0 hc1 => by
    unfold plainGameCount_L1
    simp only [agree_self]
    rw [ltd l i hi, cond_true, at?_eq l _ (by omega) (by omega), Option.bind_some, hw, atP (by omega), Option.bind_some]
    simp only [Int.toNat_natCast]
    rw [same_spec (h.all _ (List.getElem_mem hi)), Option.bind_some, Option.bind_some]
    show Option.bind (bif same0 l[i] (lastP l) then _ else _) _ = _
    rw [w64_id (n := c + 1) (by omega) (by omega), w64_id (n := (i : Int) + 1) (by omega) (by omega)]
    cases same0 l[i] (lastP l) <;> rfl) (fun c => by
    unfold plainGameCount_L1
    simp only
    rw [nltd, cond_false])
  unfold plainGameCount
  rw [this]
  rfl
theorem gresult_spec {r : Rules} {s : List Place × List Mv} (h : OKG r s) : plainGameResult (r, (s.1, (s.2, ()))) = some (gameRes r s.1) := by
  have hl := h.len
  have hm := h.most
  have hw := w_last (L := s.1) (by omega) (by omega)
  have hrep : r.2.2.2.2.2.2.2.2.2.2.1 = r.repeats := rfl
  unfold plainGameResult
  simp only [agree_self, hw, atP (show 0 < s.1.length by omega), result_spec h.last, Option.bind_some, gcount_spec h, hrep]
  unfold gameRes
  cases hc : ((resultOf r (lastP s.1) == 0) && (r.repeats != 0)) with
  | true =>
    simp only [gopt, cond_true, Option.bind_some, Bool.true_and]
    cases decide (((timesOf s.1 : Nat) : Int) ≥ r.repeats) <;> rfl
  | false => rfl
theorem gposition_spec {r : Rules} {s : List Place × List Mv} (h : OKG r s) : plainGamePosition (r, (s.1, (s.2, ()))) = some (lastP s.1) := by
  have hl := h.len
  have hm := h.most
  have hw := w_last (L := s.1) (by omega) (by omega)
  unfold plainGamePosition
  simp only [hw, atP (show 0 < s.1.length by omega), pcopy_spec h.last, Option.bind_some, pl_eta]
theorem play_spec {r : Rules} {s : List Place × List Mv} (h : OKG r s) (m : Mv) : plainGamePlay (r, (s.1, (s.2, ()))) m = some (if stepG r s m = 0 then ((r, ((nextG r s m).1, ((nextG r s m).2, ()))), 0) else ((r, (s.1, (s.2, ()))), stepG r s m)) := by
  obtain ⟨l, ms⟩ := s
  have hl : l.length = ms.length + 1 := h.len
  have hm : ms.length ≤ 400 := h.most
  have hv := h.last
  simp only at hv
  have hw := w_last (L := l) (by omega) (by omega)
  have hi := inbN l (l.length - 1) (by omega)
  have hla : getD' l (l.length - 1) (([], (([], ([], ())), ((0 : Int), ((0 : Int), ())))) : Place) = lastP l := rfl
  have hres := gresult_spec h
  simp only at hres
  unfold plainGamePlay
  simp only [agree_self, hw, hi, req_true, Int.toNat_natCast, hla, hres, Option.bind_some]
  unfold stepG
  by_cases c1 : gameRes r l = 0
  · rw [bne_f c1, cond_false]
    simp only [if_pos c1]
    rw [list_spec hv, Option.bind_some, index_spec _ _ (by have := movesOf_len hv; omega), Option.bind_some, Option.bind_some]
    have hmem : decide (m ∈ movesOf r (lastP l)) = allowedB r (lastP l) m := by rw [Bool.eq_iff_iff, decide_eq_true_eq, movesOf_mem]
    rw [hmem]
    by_cases c2 : allowedB r (lastP l) m = true
    · simp only [if_pos c2]
      rw [c2, Bool.not_true, cond_false]
      by_cases c3 : ms.length = 400
      · rw [beq_t (by omega), cond_true]
        simp only [if_pos c3]
        rfl
      · rw [beq_f (by omega), cond_false, make_spec hv c2, Option.bind_some]
        simp only [if_neg c3, if_true]
        have hroom : ∀ z : Place, room (l.length + [z].length) 88 = true := fun z => room_ok (by simp; omega)
        have hroom2 : room (ms.length + [m].length) 24 = true := room_ok (by simp; omega)
        rw [hroom, req_true, Option.bind_some]
        simp only
        rw [hroom2, req_true]
        rfl
    · simp only [if_neg c2]
      rw [show allowedB r (lastP l) m = false by simpa using c2]
      rfl
  · rw [bne_t c1, cond_true]
    simp only [if_neg c1]
    rfl
/-- moves, one after the other -/
def runG (r : Rules) : List Mv → List Place × List Mv → (List Place × List Mv) ⊕ Int
  | [], s => .inl s
  | m :: k, s => if stepG r s m = 0 then runG r k (nextG r s m) else .inr (stepG r s m)
theorem run_ok {r : Rules} : ∀ (k : List Mv) (s s' : List Place × List Mv), OKG r s → runG r k s = .inl s' → OKG r s' ∧ s'.2 = s.2 ++ k
  | [], s, s', h, e => by cases e; exact ⟨h, by simp⟩
  | m :: k, s, s', h, e => by
    unfold runG at e
    split at e
    · rename_i c
      obtain ⟨a, b⟩ := run_ok k _ _ (next_ok h c) e
      refine ⟨a, ?_⟩
      rw [b]
      unfold nextG
      simp
    · cases e
def flG (g : Game) : ByteArray × Int × Int × (List (Int × Int × Int × (List (Int × Int × Int × Int × Unit)) × Unit)) × (List Int) × Bool × Bool × (List (Int × Int × Int × Bool × Unit)) × Int × Int × Int × (List Place) × (List Mv) × Unit :=
  (g.1.1, (g.1.2.1, (g.1.2.2.1, (g.1.2.2.2.1, (g.1.2.2.2.2.1, (g.1.2.2.2.2.2.1, (g.1.2.2.2.2.2.2.1, (g.1.2.2.2.2.2.2.2.1, (g.1.2.2.2.2.2.2.2.2.1, (g.1.2.2.2.2.2.2.2.2.2.1, (g.1.2.2.2.2.2.2.2.2.2.2.1, (g.2.1, (g.2.2.1, ())))))))))))))
def gm (r : Rules) (s : List Place × List Mv) : Game := (r, (s.1, (s.2, ())))
/-- a loop over moves that plays them -/
theorem play_loop {r : Rules} {T R : Type} (l : List Mv) (hlen : l.length ≤ 1000000000) (f : T → Option (T ⊕ R)) (st : Int → Game → T) (bad : Int → R) (fin : List Place × List Mv → R)
    (hf : ∀ i s, f (st i (gm r s)) = bif (decide (i < ((l.length : Nat) : Int))) then (Option.bind (at? l i) fun m => Option.bind (plainGamePlay (r, (s.1, (s.2, ()))) m) fun x => bif (x.2 != 0) then some (.inr (bad x.2)) else some (.inl (st (w64 (i + 1)) x.1))) else some (.inr (fin s))) :
    ∀ (k : Nat) (i : Nat) (s : List Place × List Mv), i + k = l.length → OKG r s → iterW f (st (i : Int) (gm r s)) = some (match runG r (l.drop i) s with
      | .inl s' => fin s'
      | .inr e => bad e)
  | 0, i, s, hi, h => by
    have : i = l.length := by omega
    subst this
    refine iterW_inr ?_
    rw [hf, nltd, cond_false, List.drop_length]
    rfl
  | k + 1, i, s, hi, h => by
    have hil : i < l.length := by omega
    have hL := hf (i : Int) s
    rw [ltd l i hil, cond_true, at?_eq l _ (by omega) (by omega), Option.bind_some, play_spec h, Option.bind_some] at hL
    simp only [Int.toNat_natCast] at hL
    rw [List.drop_eq_getElem_cons hil]
    unfold runG
    by_cases c : stepG r s l[i] = 0
    · rw [if_pos c] at hL
      simp only [bne_self_eq_false, cond_false] at hL
      rw [w64_id (by omega) (by omega)] at hL
      rw [iterW_inl hL, if_pos c]
      exact play_loop l hlen f st bad fin hf k (i + 1) _ (by omega) (next_ok h c)
    · rw [if_neg c] at hL
      simp only [bne_t c, cond_true] at hL
      rw [iterW_inr hL, if_neg c]
theorem begin_okG {r : Rules} (c : ruleErr r = 0) : OKG r ([beginOf r], []) := ⟨c, fun p hp => by rw [List.mem_singleton.1 hp]; exact begin_valid (rules_valid c), rfl, by simp⟩
/-- a game out of the moves of its beginning -/
def gameOf (r : Rules) (l : List Mv) : (List Place × List Mv) ⊕ Int := runG r l ([beginOf r], [])
abbrev FlP := List Int × List Int × List Int × Int × Int × Unit
def flp (p : Place) : FlP := (p.1, (p.2.1.1, (p.2.1.2.1, p.2.2)))
def runRes (r : Rules) (l : List Mv) : Place × Int × Int × Unit := if ruleErr r = 0 then (match gameOf r l with
    | .inl s => (lastP s.1, (gameRes r s.1, (0, ())))
    | .inr e => (dP, (0, (e, ())))) else (dP, (0, (ruleErr r, ())))
theorem run_spec (r : Rules) (l : List Mv) (hr : Rng tyRules r) (hl : l.length ≤ 1000000000) : plainRun r l = some (runRes r l) := by
  unfold plainRun runRes
  rw [begin_spec r hr, Option.bind_some]
  by_cases c : ruleErr r = 0
  · simp only [if_pos c]
    rw [show ((0 : Int) != 0) = false from rfl, cond_false]
    simp only [agree_self]
    rw [rcopy_spec (rules_valid c), Option.bind_some]
    have hP := play_loop (r := r) l hl (plainRun_L2 l) (fun i g => ((i, ()), (flp dP, (flG g, ())))) (fun e => .inr (dP, (0, (e, ())))) (fun s => .inl ((), (flp dP, (flG (gm r s), ()))))
      (fun i s => by rfl) l.length 0 ([beginOf r], []) (by omega) (begin_okG c)
    rw [List.drop_zero] at hP
    have hP' : iterW (plainRun_L2 l) (((0 : Int), ()), ((([] : List Int), (([] : List Int), (([] : List Int), ((0 : Int), ((0 : Int), ()))))), (r.1, (r.2.1, (r.2.2.1, (r.2.2.2.1, (r.2.2.2.2.1, (r.2.2.2.2.2.1, (r.2.2.2.2.2.2.1, (r.2.2.2.2.2.2.2.1, (r.2.2.2.2.2.2.2.2.1, (r.2.2.2.2.2.2.2.2.2.1, (r.2.2.2.2.2.2.2.2.2.2.1, ([((beginOf r).1, (((beginOf r).2.1.1, ((beginOf r).2.1.2.1, ())), (beginOf r).2.2))], (([] : List Mv), ()))))))))))))), ())) = _ := hP
    try simp only [Option.bind_some, bne_self_eq_false, cond_false]
    rw [hP', Option.bind_some]
    unfold gameOf
    cases hg : runG r l ([beginOf r], []) with
    | inr e => rfl
    | inl s =>
      have hok := (run_ok l _ _ (begin_okG c) hg).1
      simp only [Sum.elim_inl]
      change Option.bind (plainGamePosition (r, (s.1, (s.2, ())))) (fun r16 => Option.bind (plainGameResult (r, (s.1, (s.2, ())))) fun r17 => some ((r16.1, ((r16.2.1.1, (r16.2.1.2.1, ())), r16.2.2)), (r17, ((0 : Int), ())))) = _
      rw [gposition_spec hok, Option.bind_some, gresult_spec hok, Option.bind_some]
  · simp only [if_neg c]
    rw [bne_t c, cond_true, cond_true]
    rfl
end Go.Proofs.Ytfppnefcicdnfaa
namespace Go.Proofs.Ytfppnefcicdnfaa
open Go.Den
set_option linter.unusedVariables false
set_option linter.unusedSimpArgs false
set_option maxRecDepth 100000

def emptyP : Place := ([], ([], [], ()), 0, 0, ())
end Go.Proofs.Ytfppnefcicdnfaa
namespace Go.Proofs.Ytfppnefcicdnfaa
open Go.Den
set_option linter.unusedVariables false
set_option linter.unusedSimpArgs false
set_option maxRecDepth 100000

/-! ### claims -/
def repRes (r : Rules) (l : List Mv) : Int × Int × Unit := if ruleErr r = 0 then (match gameOf r l with
    | .inl s => (((timesOf s.1 : Nat) : Int), (0, ()))
    | .inr e => (0, (e, ()))) else (0, (ruleErr r, ()))
def quietRes (r : Rules) (l : List Mv) : Int × Int × Unit := ((runRes r l).1.quiet, (runRes r l).2.2)
theorem tic_rng : Rng tyRules law3Tic := rngB_ok _ _ (by decide +kernel)
theorem tic_ok : ruleErr law3Tic = 0 := by decide +kernel
/-! ### the reference -/
def placesRes (r : Rules) (l : List Mv) : List Place × Int × Unit := if ruleErr r = 0 then (match gameOf r l with
    | .inl s => (s.1, (0, ()))
    | .inr e => ([], (e, ()))) else ([], (ruleErr r, ()))
end Go.Proofs.Ytfppnefcicdnfaa
namespace Go.Proofs.Ytfppnefcicdnfaa
open Go.Den
set_option linter.unusedVariables false
set_option linter.unusedSimpArgs false
set_option maxRecDepth 100000

abbrev BE := Int × Mv × Int × Unit
abbrev dBE : BE := (0, ((0, (0, (0, ()))), (0, ())))
def bc3 (a b : Int) : Int := if a < b then -1 else if b < a then 1 else 0
theorem bc3_0 (a b : Int) : bc3 a b = 0 ↔ a = b := by
  unfold bc3
  split
  · constructor <;> intro h <;> omega
  · split <;> constructor <;> intro h <;> omega
theorem bc3_lt (a b : Int) : bc3 a b < 0 ↔ a < b := by
  unfold bc3
  split
  · constructor <;> intro h <;> omega
  · split <;> constructor <;> intro h <;> omega
theorem bcmp_eq (a b : Int) : cmpCompare_int a b = bc3 a b := by
  unfold cmpCompare_int cmpIsNaN_int bc3
  by_cases h : a < b
  · simp [h]
  · by_cases h2 : b < a <;> simp [h, h2]
theorem bcmpu_eq (a b : Int) : cmpCompare_uint64 a b = bc3 a b := by
  unfold cmpCompare_uint64 cmpIsNaN_uint64 bc3
  by_cases h : a < b
  · simp [h]
  · by_cases h2 : b < a <;> simp [h, h2]
theorem bor_spec (a b c d : Int) : cmpOr_int [a, b, c, d] = some (if a = 0 then if b = 0 then if c = 0 then d else c else b else a) := by
  unfold cmpOr_int
  by_cases ha : a = 0
  · subst ha
    rw [iterW_inl (y := ((1, ()), ())) (by simp [cmpOr_int_L1, at?, w64_id])]
    by_cases hb : b = 0
    · subst hb
      rw [iterW_inl (y := ((2, ()), ())) (by simp [cmpOr_int_L1, at?, w64_id])]
      by_cases hc : c = 0
      · subst hc
        rw [iterW_inl (y := ((3, ()), ())) (by simp [cmpOr_int_L1, at?, w64_id])]
        by_cases hd : d = 0
        · subst hd
          rw [iterW_inl (y := ((4, ()), ())) (by simp [cmpOr_int_L1, at?, w64_id])]
          rw [iterW_inr (r := .inl ((), ())) (by simp [cmpOr_int_L1])]
          rfl
        · rw [iterW_inr (r := .inr d) (by simp [cmpOr_int_L1, at?, bne_t hd])]
          simp
      · rw [iterW_inr (r := .inr c) (by simp [cmpOr_int_L1, at?, bne_t hc])]
        simp [hc]
    · rw [iterW_inr (r := .inr b) (by simp [cmpOr_int_L1, at?, bne_t hb])]
      simp [hb]
  · rw [iterW_inr (r := .inr a) (by simp [cmpOr_int_L1, at?, bne_t ha])]
    simp [ha]
def ltE (a b : BE) : Bool := decide (a.1 < b.1) || (a.1 == b.1 && mvLt a.2.1 b.2.1)
def keyE (a : BE) : Int × Mv := (a.1, a.2.1)
def ordE (a b : BE) : Int := if bc3 a.1 b.1 = 0 then if bc3 a.2.1.1 b.2.1.1 = 0 then if bc3 a.2.1.2.1 b.2.1.2.1 = 0 then bc3 a.2.1.2.2.1 b.2.1.2.2.1 else bc3 a.2.1.2.1 b.2.1.2.1 else bc3 a.2.1.1 b.2.1.1 else bc3 a.1 b.1
theorem order_spec (a b : BE) : bookOrder a b = some (ordE a b) := by
  unfold bookOrder ordE
  rw [bcmpu_eq, bcmp_eq, bcmp_eq, bcmp_eq, bor_spec]
  rfl
theorem ltE_iff (a b : BE) : ltE a b = true ↔ a.1 < b.1 ∨ a.1 = b.1 ∧ (a.2.1.1 < b.2.1.1 ∨ a.2.1.1 = b.2.1.1 ∧ (a.2.1.2.1 < b.2.1.2.1 ∨ a.2.1.2.1 = b.2.1.2.1 ∧ a.2.1.2.2.1 < b.2.1.2.2.1)) := by simp [ltE, mvLt]
theorem ltE_f (a b : BE) : ltE a b = false ↔ ¬ (a.1 < b.1 ∨ a.1 = b.1 ∧ (a.2.1.1 < b.2.1.1 ∨ a.2.1.1 = b.2.1.1 ∧ (a.2.1.2.1 < b.2.1.2.1 ∨ a.2.1.2.1 = b.2.1.2.1 ∧ a.2.1.2.2.1 < b.2.1.2.2.1))) := by rw [← ltE_iff, Bool.not_eq_true]
theorem keyE_iff (a b : BE) : keyE a = keyE b ↔ a.1 = b.1 ∧ a.2.1.1 = b.2.1.1 ∧ a.2.1.2.1 = b.2.1.2.1 ∧ a.2.1.2.2.1 = b.2.1.2.2.1 := by
  unfold keyE
  simp only [Prod.mk.injEq]
  constructor
  · rintro ⟨h1, h2⟩; exact ⟨h1, by rw [h2], by rw [h2], by rw [h2]⟩
  · rintro ⟨h1, h2, h3, h4⟩; exact ⟨h1, mv_eq h2 h3 h4⟩
theorem ord_lt (a b : BE) : decide (ordE a b < 0) = ltE a b := by
  rw [Bool.eq_iff_iff, ltE_iff, decide_eq_true_eq]
  unfold ordE
  simp only [bc3_0]
  by_cases h1 : a.1 = b.1
  · rw [if_pos h1]
    by_cases h2 : a.2.1.1 = b.2.1.1
    · rw [if_pos h2]
      by_cases h3 : a.2.1.2.1 = b.2.1.2.1
      · rw [if_pos h3, bc3_lt]; omega
      · rw [if_neg h3, bc3_lt]; omega
    · rw [if_neg h2, bc3_lt]; omega
  · rw [if_neg h1, bc3_lt]; omega
theorem ord_0 (a b : BE) : (ordE a b == 0) = decide (keyE a = keyE b) := by
  rw [Bool.eq_iff_iff, decide_eq_true_eq, keyE_iff, beq_iff_eq]
  unfold ordE
  simp only [bc3_0]
  by_cases h1 : a.1 = b.1
  · rw [if_pos h1]
    by_cases h2 : a.2.1.1 = b.2.1.1
    · rw [if_pos h2]
      by_cases h3 : a.2.1.2.1 = b.2.1.2.1
      · rw [if_pos h3, bc3_0]
        exact ⟨fun h => ⟨h1, h2, h3, h⟩, fun h => h.2.2.2⟩
      · rw [if_neg h3, bc3_0]
        exact ⟨fun h => absurd h h3, fun h => h.2.2.1⟩
    · rw [if_neg h2, bc3_0]
      exact ⟨fun h => absurd h h2, fun h => h.2.1⟩
  · rw [if_neg h1, bc3_0]
    exact ⟨fun h => absurd h h1, fun h => h.1⟩
theorem ord_ge (a b : BE) : decide (ordE a b ≥ 0) = !ltE a b := by
  rw [← ord_lt, Bool.eq_iff_iff]
  simp
theorem ltE_trans {a b c : BE} (h1 : ltE a b = true) (h2 : ltE b c = true) : ltE a c = true := by rw [ltE_iff] at *; omega
theorem ltE_irr (a : BE) : ltE a a = false := by rw [ltE_f]; omega
theorem ltE_tot {a b : BE} (h1 : ltE a b = false) (h2 : ltE b a = false) : keyE a = keyE b := by rw [ltE_f] at *; rw [keyE_iff]; omega
theorem ltE_key {a a' b b' : BE} (h : keyE a = keyE a') (h' : keyE b = keyE b') : ltE a b = ltE a' b' := by
  rw [keyE_iff] at h h'
  rw [Bool.eq_iff_iff, ltE_iff, ltE_iff]
  omega
theorem ltE_asym {a b : BE} (h : ltE a b = true) : ltE b a = false := by rw [ltE_iff] at h; rw [ltE_f]; omega
theorem ltE_ne {a b : BE} (h : ltE a b = true) : keyE a ≠ keyE b := fun e => by rw [keyE_iff] at e; rw [ltE_iff] at h; omega
/-! the check -/
def bad4 (x : BE) : Bool := decide (x.2.2.1 < 1) || decide (x.2.2.1 > 1000000)
def errB (b : List BE) (i : Nat) : Int := if bad4 (b.getD i dBE) = true then 4 else if (decide (0 < i) && !ltE (b.getD (i - 1) dBE) (b.getD i dBE)) = true then 3 else 0
def chkB (b : List BE) : Int := firstNZ (errB b) b.length
theorem getD_atB (l : List BE) (i : Nat) (h : i < l.length) : l.getD i dBE = l[i] := by simp [List.getD_eq_getElem?_getD, h]
theorem at_natB {A : Type} (xs : List A) (i : Nat) (h : i < xs.length) : at? xs (i : Int) = some xs[i] := by
  rw [at?_eq xs _ (Int.natCast_nonneg i) (Int.ofNat_lt.2 h)]
  simp only [Int.toNat_natCast]
theorem check_specB (b : List BE) (hl : b.length ≤ 1000) : bookCheck b = some (chkB b) := by
  unfold bookCheck
  rw [show decide (((b.length : Nat) : Int) > 1000) = false by simp; omega, cond_false]
  rw [loopNZ b.length (bookCheck_L1 b) (errB b) ((), ()) (some 0) (fun i hi => ?_) (by unfold bookCheck_L1; simp)]
  · unfold chkB
    split
    · rename_i h; rw [h]
    · rfl
  · unfold bookCheck_L1 errB
    simp only [show decide ((i : Int) < ((b.length : Nat) : Int)) = true by simp; omega, cond_true]
    rw [at_natB b i hi, Option.bind_some, getD_atB b i hi]
    unfold bad4
    cases (decide (b[i].2.2.1 < 1) || decide (b[i].2.2.1 > 1000000))
    · simp only [cond_false]
      rw [w64_id (n := (i : Int) + 1) (by omega) (by omega), w64_id (n := (i : Int) - 1) (by omega) (by omega)]
      by_cases h0 : 0 < i
      · rw [show decide ((i : Int) > 0) = true by simp; omega, show decide (0 < i) = true by simp; omega]
        have h1 : i - 1 < b.length := by omega
        rw [show (i : Int) - 1 = ((i - 1 : Nat) : Int) by omega, getD_atB b (i - 1) h1]
        simp only [gat, gopt, cond_true, at_natB b (i - 1) h1, Option.bind_some, order_spec, ord_ge, Bool.true_and]
        cases ltE b[i - 1] b[i]
        · simp
        · simp
      · have : i = 0 := by omega
        subst this
        simp [gat, gopt]
    · simp
theorem chkB_ok {b : List BE} (h : chkB b = 0) : ∀ i (hi : i < b.length), (1 ≤ b[i].2.2.1 ∧ b[i].2.2.1 ≤ 1000000) ∧ (∀ h0 : 0 < i, ltE b[i - 1] b[i] = true) := by
  intro i hi
  have := firstNZ_zero h i hi
  unfold errB at this
  rw [getD_atB b i hi] at this
  split at this
  · cases this
  · rename_i h4
    split at this
    · cases this
    · rename_i h5
      refine ⟨by unfold bad4 at h4; simp at h4; omega, fun h0 => ?_⟩
      rw [getD_atB b (i - 1) (by omega)] at h5
      simp [h0] at h5
      exact h5
def OKW (l : List BE) : Prop := ∀ x ∈ l, 1 ≤ x.2.2.1 ∧ x.2.2.1 ≤ 1000000
abbrev Srt' (l : List BE) : Prop := l.Pairwise fun x y => ltE x y = true
theorem chkB_srt : ∀ {b : List BE}, (∀ i (hi : i < b.length) (h0 : 0 < i), ltE b[i - 1] b[i] = true) → Srt' b
  | [], _ => List.Pairwise.nil
  | [x], _ => by simp
  | x :: y :: l, h => by
    have ih : Srt' (y :: l) := chkB_srt fun i hi h0 => by
      have := h (i + 1) (by simpa using hi) (by omega)
      rcases i with _ | i
      · omega
      · simpa using this
    refine List.Pairwise.cons (fun z hz => ?_) ih
    have hxy : ltE x y = true := h 1 (by simp) (by omega)
    rcases List.mem_cons.1 hz with rfl | hz
    · exact hxy
    · exact ltE_trans hxy ((List.pairwise_cons.1 ih).1 z hz)
theorem chkB_all {b : List BE} (h : chkB b = 0) : OKW b ∧ Srt' b := by
  refine ⟨fun x hx => ?_, chkB_srt fun i hi h0 => (chkB_ok h i hi).2 h0⟩
  obtain ⟨i, hi, rfl⟩ := List.mem_iff_getElem.1 hx
  exact (chkB_ok h i hi).1
theorem chkB_vals (b : List BE) : chkB b = 0 ∨ chkB b = 3 ∨ chkB b = 4 := by
  have key : ∀ (k i : Nat), scan (fun i => nz (errB b i)) 0 i k = 0 ∨ scan (fun i => nz (errB b i)) 0 i k = 3 ∨ scan (fun i => nz (errB b i)) 0 i k = 4 := by
    intro k
    induction k with
    | zero => intro i; exact .inl rfl
    | succ k ih =>
      intro i
      unfold scan
      unfold nz
      by_cases h : errB b i = 0
      · rw [if_pos h]; exact ih (i + 1)
      · rw [if_neg h]
        show errB b i = 0 ∨ _
        unfold errB
        split
        · exact .inr (.inr rfl)
        · split
          · exact .inr (.inl rfl)
          · exact .inl rfl
  exact key b.length 0
/-! the search by halves -/
theorem mid_eq (a b : Nat) (h : a + b ≤ 1000000) : w64 (shK .shr .u64 (wu64 (w64 ((a : Int) + (b : Int)))) 1) = (((a + b) / 2 : Nat) : Int) := by
  rw [w64_id (n := (a : Int) + (b : Int)) (by omega) (by omega)]
  have e1 : wu64 ((a : Int) + (b : Int)) = (((a + b : Nat) : Nat) : Int) := by
    unfold wu64 IntKind.wrap
    simp only [IntKind.signed, IntKind.bits, Bool.false_and, Bool.false_eq_true, if_false]
    omega
  rw [e1]
  have e2 : shK .shr .u64 ((a + b : Nat) : Int) 1 = (((a + b) / 2 : Nat) : Int) := by
    show Int.fdiv ((a + b : Nat) : Int) (2 ^ 1) = _
    rw [Int.fdiv_eq_ediv_of_nonneg _ (by decide)]
    omega
  rw [e2, w64_id (by omega) (by omega)]
theorem half_loop {f : ((Int × Int × Unit) × Unit) → Option (((Int × Int × Unit) × Unit) ⊕ ((Int × Unit) × Unit))} (n : Nat) (p : Nat → Bool) (i0 : Nat) (hn : n ≤ 100000) (hp : ∀ k, k < n → p k = decide (k < i0)) (hi0 : i0 ≤ n)
    (hs : ∀ lo hi : Nat, lo < hi → hi ≤ n → f (((lo : Int), (hi : Int), ()), ()) = some (.inl (bif p ((lo + hi) / 2) then (((((lo + hi) / 2 + 1 : Nat) : Int), (hi : Int), ()), ()) else (((lo : Int), (((lo + hi) / 2 : Nat) : Int), ()), ()))))
    (he : ∀ lo : Nat, f (((lo : Int), (lo : Int), ()), ()) = some (.inr (((lo : Int), ()), ()))) : iterW f (((0 : Int), (n : Int), ()), ()) = some (((i0 : Int), ()), ()) := by
  have key : ∀ k lo hi : Nat, hi - lo ≤ k → lo ≤ i0 → i0 ≤ hi → hi ≤ n → iterW f (((lo : Int), (hi : Int), ()), ()) = some (((i0 : Int), ()), ()) := by
    intro k
    induction k with
    | zero =>
      intro lo hi h1 h2 h3 h4
      have e1 : lo = i0 := by omega
      have e2 : hi = lo := by omega
      rw [e2, iterW_inr (he lo), e1]
    | succ k ih =>
      intro lo hi h1 h2 h3 h4
      by_cases h5 : lo < hi
      · have h6 := hs lo hi h5 h4
        have h7 := hp ((lo + hi) / 2) (by omega)
        rw [iterW_inl h6, h7]
        by_cases h8 : (lo + hi) / 2 < i0
        · rw [decide_eq_true h8, cond_true]
          exact ih _ _ (by omega) (by omega) h3 h4
        · rw [decide_eq_false h8, cond_false]
          exact ih _ _ (by omega) h2 (by omega) (by omega)
      · have e1 : lo = i0 := by omega
        have e2 : hi = lo := by omega
        rw [e2, iterW_inr (he lo), e1]
  have := key n 0 n (by omega) (by omega) hi0 (Nat.le_refl _)
  exact this
/-- the place of an entry -/
def posE (l : List BE) (d : BE) : Nat := (l.takeWhile fun x => ltE x d).length
theorem posE_le (l : List BE) (d : BE) : posE l d ≤ l.length := by
  unfold posE
  exact (List.takeWhile_prefix _).length_le
theorem posE_iff (d : BE) : ∀ {l : List BE}, Srt' l → ∀ k (hk : k < l.length), ltE l[k] d = decide (k < posE l d)
  | [], _, k, hk => by simp at hk
  | x :: l, h, k, hk => by
    obtain ⟨h1, h2⟩ := List.pairwise_cons.1 h
    unfold posE
    rw [List.takeWhile_cons]
    cases hx : ltE x d
    · simp only [Bool.false_eq_true, if_false, List.length_nil, Nat.not_lt_zero, decide_false]
      rcases k with _ | k
      · simpa using hx
      · have : ltE x (x :: l)[k + 1] = true := h1 _ (List.getElem_mem _)
        cases hq : ltE (x :: l)[k + 1] d
        · rfl
        · rw [ltE_trans this hq] at hx; cases hx
    · simp only [if_true, List.length_cons]
      rcases k with _ | k
      · simpa using hx
      · have := posE_iff d h2 k (by simpa using hk)
        unfold posE at this
        simp only [List.getElem_cons_succ, this, Nat.add_lt_add_iff_right]
/-- one entry that takes another's weight -/
def addW (x d : BE) : BE := (x.1, (x.2.1, ((if x.2.2.1 + d.2.2.1 > 1000000 then 1000000 else x.2.2.1 + d.2.2.1), ())))
/-- an entry in its place -/
def insB : List BE → BE → List BE
  | [], d => [d]
  | x :: xs, d => if ltE x d = true then x :: insB xs d else if keyE x = keyE d then addW x d :: xs else d :: x :: xs
theorem insB_eq (d : BE) : ∀ l : List BE, insB l d = if h : posE l d < l.length ∧ keyE (l.getD (posE l d) dBE) = keyE d then l.set (posE l d) (addW (l.getD (posE l d) dBE) d) else l.take (posE l d) ++ ([d] ++ l.drop (posE l d))
  | [] => by
    rw [dif_neg (fun h => by simp at h)]
    rfl
  | x :: l => by
    unfold insB
    cases hx : ltE x d
    · have h0 : posE (x :: l) d = 0 := by unfold posE; rw [List.takeWhile_cons, hx]; rfl
      rw [if_neg (by decide), h0]
      by_cases hk : keyE x = keyE d
      · rw [if_pos hk, dif_pos ⟨by simp, by simpa using hk⟩]; rfl
      · rw [if_neg hk, dif_neg (fun h => hk (by simpa using h.2))]; rfl
    · have h0 : posE (x :: l) d = posE l d + 1 := by unfold posE; rw [List.takeWhile_cons, hx]; rfl
      rw [if_pos rfl, h0, insB_eq d l]
      have e1 : (x :: l).getD (posE l d + 1) dBE = l.getD (posE l d) dBE := rfl
      rw [e1]
      by_cases hk : posE l d < l.length ∧ keyE (l.getD (posE l d) dBE) = keyE d
      · rw [dif_pos hk, dif_pos ⟨by simpa using hk.1, hk.2⟩]; rfl
      · rw [dif_neg hk, dif_neg (fun h => hk ⟨by simpa using h.1, h.2⟩)]; rfl
theorem insB_len (d : BE) : ∀ l : List BE, (insB l d).length ≤ l.length + 1
  | [] => by simp [insB]
  | x :: l => by
    have := insB_len d l
    unfold insB
    split
    · simp only [List.length_cons]; omega
    · split <;> simp
theorem addW_key (x d : BE) : keyE (addW x d) = keyE x := rfl
theorem addW_ok {x d : BE} (hx : 1 ≤ x.2.2.1 ∧ x.2.2.1 ≤ 1000000) (hd : 1 ≤ d.2.2.1 ∧ d.2.2.1 ≤ 1000000) : 1 ≤ (addW x d).2.2.1 ∧ (addW x d).2.2.1 ≤ 1000000 := by
  unfold addW
  simp only
  split <;> omega
theorem insB_mem (d : BE) : ∀ {l : List BE} {z : BE}, z ∈ insB l d → z ∈ l ∨ z = d ∨ ∃ x ∈ l, z = addW x d ∧ keyE x = keyE d
  | [], z, h => .inr (.inl (by simpa [insB] using h))
  | x :: l, z, h => by
    unfold insB at h
    split at h
    · rcases List.mem_cons.1 h with rfl | h
      · exact .inl List.mem_cons_self
      · rcases insB_mem d h with h | h | ⟨y, hy, h⟩
        · exact .inl (List.mem_cons_of_mem _ h)
        · exact .inr (.inl h)
        · exact .inr (.inr ⟨y, List.mem_cons_of_mem _ hy, h⟩)
    · split at h
      · rename_i hk
        rcases List.mem_cons.1 h with rfl | h
        · exact .inr (.inr ⟨x, List.mem_cons_self, rfl, hk⟩)
        · exact .inl (List.mem_cons_of_mem _ h)
      · rcases List.mem_cons.1 h with rfl | h
        · exact .inr (.inl rfl)
        · exact .inl h
theorem insB_ok {l : List BE} {d : BE} (hl : OKW l) (hd : 1 ≤ d.2.2.1 ∧ d.2.2.1 ≤ 1000000) : OKW (insB l d) := fun z hz => by
  rcases insB_mem d hz with h | rfl | ⟨x, hx, rfl, _⟩
  · exact hl z h
  · exact hd
  · exact addW_ok (hl x hx) hd
theorem insB_srt (d : BE) : ∀ {l : List BE}, Srt' l → Srt' (insB l d)
  | [], _ => by simp [insB]
  | x :: l, h => by
    obtain ⟨h1, h2⟩ := List.pairwise_cons.1 h
    unfold insB
    split
    · rename_i hx
      refine List.Pairwise.cons (fun z hz => ?_) (insB_srt d h2)
      rcases insB_mem d hz with hz | rfl | ⟨y, hy, rfl, _⟩
      · exact h1 z hz
      · exact hx
      · exact (ltE_key rfl (addW_key y d)).trans (h1 y hy)
    · rename_i hx
      split
      · exact List.Pairwise.cons (fun z hz => (ltE_key (addW_key x d) rfl).trans (h1 z hz)) h2
      · rename_i hk
        have hdx : ltE d x = true := by
          cases hq : ltE d x
          · exact absurd (ltE_tot (Bool.eq_false_iff.2 hx) hq) hk
          · rfl
        refine List.Pairwise.cons (fun z hz => ?_) h
        rcases List.mem_cons.1 hz with rfl | hz
        · exact hdx
        · exact ltE_trans hdx (h1 z hz)
theorem cloneB (s : List BE) (h : s.length ≤ 100000) : slicesClone_BookEntry s = some s := by
  unfold slicesClone_BookEntry
  have : room (([] : List BE).length + s.length) 40 = true := room_ok (by simp; omega)
  rw [this]
  cases s with
  | nil => simp [req_true, agree_self]
  | cons a l => simp [req_true]
end Go.Proofs.Ytfppnefcicdnfaa
namespace Go.Proofs.Ytfppnefcicdnfaa
open Go.Den
set_option linter.unusedVariables false
set_option linter.unusedSimpArgs false
set_option maxRecDepth 100000

noncomputable def halfF (l : List BE) (d : BE) (x8 : (Int × Int × Unit) × (Unit)) : Option (((Int × Int × Unit) × (Unit)) ⊕ ((Int × Unit) × (Unit))) :=
  bif (decide (x8.1.1 < x8.1.2.1)) then (req (inb (w64 (shK .shr .u64 (wu64 (w64 (x8.1.1 + x8.1.2.1))) (1 : Int))) l.length) (Option.bind (bookOrder (getD' l (((w64 (shK .shr .u64 (wu64 (w64 (x8.1.1 + x8.1.2.1))) (1 : Int)))).toNat) dBE) d) fun r9 =>
  Option.bind (bif (decide (r9 < (0 : Int))) then some (((w64 ((w64 (shK .shr .u64 (wu64 (w64 (x8.1.1 + x8.1.2.1))) (1 : Int))) + (1 : Int))), x8.1.2.1, ()), ())
  else some ((x8.1.1, (w64 (shK .shr .u64 (wu64 (w64 (x8.1.1 + x8.1.2.1))) (1 : Int))), ()), ())) fun x10 =>
  some (Sum.inl ((x10.1.1, x10.1.2.1, ()), ()))))
  else some (Sum.inr ((x8.1.1, ()), ()))
noncomputable def addF (l : List BE) (d : BE) : Option ((List BE × Unit) × Unit) :=
  Option.bind (iterW (halfF l d) (((0 : Int), ((l.length : Nat) : Int), ()), ())) fun x11 =>
  Option.bind (req (imp (decide (x11.1.1 < ((l.length : Nat) : Int))) (inb x11.1.1 l.length)) (bif (decide (x11.1.1 < ((l.length : Nat) : Int))) then (Option.bind (bookOrder (getD' l ((x11.1.1).toNat) dBE) d) fun r12 =>
  some ((x11.1.1, (r12 == (0 : Int)), ()), ()))
  else some ((x11.1.1, false, ()), ()))) fun x13 =>
  bif (!x13.1.2.1) then req (decide (0 ≤ x13.1.1) && (decide (x13.1.1 ≤ ((l.length : Nat) : Int)) && (Nat.blt 0 ([d]).length && room (l.length + ([d]).length) 40))) (some (((l.take (x13.1.1).toNat ++ ([d] ++ l.drop (x13.1.1).toNat)), ()), ()))
  else req (inb x13.1.1 l.length) (req (inb x13.1.1 l.length) (some (((l.set ((x13.1.1).toNat) ((getD' l ((x13.1.1).toNat) dBE).1, (((((getD' l ((x13.1.1).toNat) dBE).2).1).1, (((((getD' l ((x13.1.1).toNat) dBE).2).1).2).1, ((((((getD' l ((x13.1.1).toNat) dBE).2).1).2).2).1, ()))), ((if (1000000 : Int) < (w64 ((((getD' l ((x13.1.1).toNat) dBE).2).2).1 + d.2.2.1)) then (1000000 : Int) else (w64 ((((getD' l ((x13.1.1).toNat) dBE).2).2).1 + d.2.2.1))), ())))), ()), ())))
theorem halfF_spec (l : List BE) (d : BE) (hl : l.length ≤ 2000) (hs : Srt' l) : iterW (halfF l d) (((0 : Int), ((l.length : Nat) : Int), ()), ()) = some ((((posE l d : Nat) : Int), ()), ()) := by
  refine half_loop l.length (fun k => ltE (l.getD k dBE) d) (posE l d) (by omega) (fun k hk => by rw [getD_atB l k hk, posE_iff d hs k hk]) (posE_le l d) (fun lo hi h1 h2 => ?_) (fun lo => by
    unfold halfF
    simp only [Int.lt_irrefl, decide_false, cond_false])
  unfold halfF
  simp only [show decide ((lo : Int) < (hi : Int)) = true by simp; omega, cond_true]
  rw [mid_eq lo hi (by omega), inb_iff.2 ⟨by omega, by omega⟩, req_true, Int.toNat_natCast, order_spec, Option.bind_some, ord_lt]
  have : getD' l ((lo + hi) / 2) dBE = l.getD ((lo + hi) / 2) dBE := rfl
  rw [this, w64_id (n := (((lo + hi) / 2 : Nat) : Int) + 1) (by omega) (by omega)]
  cases ltE (l.getD ((lo + hi) / 2) dBE) d
  · rfl
  · rfl
theorem addF_spec (l : List BE) (d : BE) (hl : l.length ≤ 2000) (hs : Srt' l) (hw : OKW l) (hd : 1 ≤ d.2.2.1 ∧ d.2.2.1 ≤ 1000000) : addF l d = some ((insB l d, ()), ()) := by
  unfold addF
  have hp := posE_le l d
  rw [halfF_spec l d hl hs, Option.bind_some, insB_eq]
  have hg : getD' l (posE l d) dBE = l.getD (posE l d) dBE := rfl
  have hroom : room (l.length + ([d] : List BE).length) 40 = true := room_ok (by simp; omega)
  have hblt : Nat.blt 0 ([d] : List BE).length = true := rfl
  by_cases h1 : posE l d < l.length
  · simp only [show decide (((posE l d : Nat) : Int) < ((l.length : Nat) : Int)) = true by simp; omega, cond_true, Int.toNat_natCast]
    rw [show inb ((posE l d : Nat) : Int) l.length = true from inb_iff.2 ⟨by omega, by omega⟩]
    simp only [imp, cond_true, req_true]
    rw [order_spec, Option.bind_some, Option.bind_some, ord_0, hg]
    by_cases h2 : keyE (l.getD (posE l d) dBE) = keyE d
    · rw [dif_pos ⟨h1, h2⟩]
      simp only [decide_eq_true h2, Bool.not_true, cond_false, Int.toNat_natCast, req_true]
      rw [show inb ((posE l d : Nat) : Int) l.length = true from inb_iff.2 ⟨by omega, by omega⟩]
      simp only [req_true, hg]
      have hx := hw (l.getD (posE l d) dBE) (by rw [getD_atB l _ h1]; exact List.getElem_mem h1)
      rw [w64_id (n := (l.getD (posE l d) dBE).2.2.1 + d.2.2.1) (by omega) (by omega)]
      have e1 : (if (1000000 : Int) < (l.getD (posE l d) dBE).2.2.1 + d.2.2.1 then (1000000 : Int) else (l.getD (posE l d) dBE).2.2.1 + d.2.2.1) = (if (l.getD (posE l d) dBE).2.2.1 + d.2.2.1 > 1000000 then 1000000 else (l.getD (posE l d) dBE).2.2.1 + d.2.2.1) := rfl
      rfl
    · rw [dif_neg (fun h => h2 h.2)]
      simp only [decide_eq_false h2, Bool.not_false, cond_true, Int.toNat_natCast]
      rw [hroom, hblt]
      simp only [show decide ((0 : Int) ≤ ((posE l d : Nat) : Int)) = true by simp, show decide (((posE l d : Nat) : Int) ≤ ((l.length : Nat) : Int)) = true by simp; omega, Bool.and_self, req_true]
  · rw [dif_neg (fun h => h1 h.1)]
    simp only [show decide (((posE l d : Nat) : Int) < ((l.length : Nat) : Int)) = false by simp; omega, cond_false]
    simp only [imp, cond_false, req_true, Option.bind_some, Bool.not_false, cond_true, Int.toNat_natCast]
    rw [hroom, hblt]
    simp only [show decide ((0 : Int) ≤ ((posE l d : Nat) : Int)) = true by simp, show decide (((posE l d : Nat) : Int) ≤ ((l.length : Nat) : Int)) = true by simp; omega, Bool.and_self, req_true]
/-- what is known of a book's entries -/
def lookE (l : List BE) (k : Int × Mv) : Option Int := (l.find? fun x => decide (keyE x = k)).map fun x => x.2.2.1
def capW (w d : Int) : Int := if w + d > 1000000 then 1000000 else w + d
def updE (f : Int × Mv → Option Int) (d : BE) : Int × Mv → Option Int := fun k => if k = keyE d then some (match f k with | none => d.2.2.1 | some w => capW w d.2.2.1) else f k
theorem lookE_none {l : List BE} {k : Int × Mv} (h : ∀ x ∈ l, keyE x ≠ k) : lookE l k = none := by
  unfold lookE
  rw [List.find?_eq_none.2 (fun x hx => by simpa using h x hx)]
  rfl
theorem lookE_cons (x : BE) (l : List BE) (k : Int × Mv) : lookE (x :: l) k = if keyE x = k then some x.2.2.1 else lookE l k := by
  unfold lookE
  rw [List.find?_cons]
  by_cases h : keyE x = k
  · rw [if_pos h, decide_eq_true h]; rfl
  · rw [if_neg h, decide_eq_false h]
theorem lookE_ins (d : BE) : ∀ {l : List BE}, Srt' l → lookE (insB l d) = updE (lookE l) d
  | [], _ => by
    funext k
    unfold insB updE
    rw [lookE_cons]
    by_cases h : k = keyE d
    · rw [if_pos h, if_pos h.symm]; rfl
    · rw [if_neg h, if_neg (fun e => h e.symm)]
  | x :: l, hs => by
    obtain ⟨h1, h2⟩ := List.pairwise_cons.1 hs
    have ih := lookE_ins d h2
    funext k
    have ihk := congrFun ih k
    unfold insB
    split
    · rename_i hx
      rw [lookE_cons, ihk]
      unfold updE
      rw [lookE_cons]
      by_cases hk : keyE x = k
      · rw [if_pos hk, if_pos hk, if_neg (fun e => ltE_ne hx (hk.trans e))]
      · rw [if_neg hk, if_neg hk]
    · rename_i hx
      split
      · rename_i hxd
        rw [lookE_cons, addW_key]
        unfold updE
        rw [lookE_cons]
        by_cases hk : keyE x = k
        · rw [if_pos hk, if_pos hk, if_pos (hk.symm.trans hxd)]
          rfl
        · rw [if_neg hk, if_neg hk, if_neg (fun e => hk (hxd.trans e.symm))]
      · rename_i hxd
        have hdx : ltE d x = true := by
          cases hq : ltE d x
          · exact absurd (ltE_tot (Bool.eq_false_iff.2 hx) hq) hxd
          · rfl
        rw [lookE_cons]
        unfold updE
        by_cases hk : keyE d = k
        · rw [if_pos hk, if_pos hk.symm, lookE_none (k := k) (l := x :: l) (fun y hy e => ?_)]
          rcases List.mem_cons.1 hy with rfl | hy
          · exact hxd (e.trans hk.symm)
          · exact ltE_ne (ltE_trans hdx (h1 y hy)) (hk.trans e.symm)
        · rw [if_neg hk, if_neg (fun e => hk e.symm)]
/-- entries whose keys differ -/
abbrev ND (l : List BE) : Prop := l.Pairwise fun x y => keyE x ≠ keyE y
theorem Srt'.nd {l : List BE} (h : Srt' l) : ND l := h.imp fun h => ltE_ne h
theorem be_eq {x y : BE} (h1 : keyE x = keyE y) (h2 : x.2.2.1 = y.2.2.1) : x = y := by
  obtain ⟨a, b, c, ⟨⟩⟩ := x
  obtain ⟨a', b', c', ⟨⟩⟩ := y
  simp only [keyE, Prod.mk.injEq] at h1
  obtain ⟨rfl, rfl⟩ := h1
  simp only at h2
  subst h2
  rfl
theorem lookE_mem : ∀ {l : List BE}, ND l → ∀ z : BE, z ∈ l ↔ lookE l (keyE z) = some z.2.2.1
  | [], _, z => by simp [lookE]
  | x :: l, h, z => by
    obtain ⟨h1, h2⟩ := List.pairwise_cons.1 h
    rw [lookE_cons, List.mem_cons]
    by_cases hk : keyE x = keyE z
    · rw [if_pos hk]
      constructor
      · rintro (rfl | hz)
        · rfl
        · exact absurd hk (h1 z hz)
      · intro e
        exact .inl (be_eq hk.symm (Option.some.inj e).symm)
    · rw [if_neg hk, ← lookE_mem h2 z]
      exact ⟨fun e => e.resolve_left (fun e => hk (by rw [e])), .inr⟩
theorem srt_unique : ∀ {l m : List BE}, Srt' l → Srt' m → (∀ z, z ∈ l ↔ z ∈ m) → l = m
  | [], [], _, _, _ => rfl
  | [], y :: m, _, _, h => absurd ((h y).2 List.mem_cons_self) (by simp)
  | x :: l, [], _, _, h => absurd ((h x).1 List.mem_cons_self) (by simp)
  | x :: l, y :: m, hl, hm, h => by
    obtain ⟨a1, a2⟩ := List.pairwise_cons.1 hl
    obtain ⟨b1, b2⟩ := List.pairwise_cons.1 hm
    have hxy : x = y := by
      rcases List.mem_cons.1 ((h x).1 List.mem_cons_self) with e | e
      · exact e
      · rcases List.mem_cons.1 ((h y).2 List.mem_cons_self) with e' | e'
        · exact e'.symm
        · have q1 := b1 x e
          have q2 := a1 y e'
          rw [ltE_asym q1] at q2; cases q2
    subst hxy
    congr 1
    refine srt_unique a2 b2 fun z => ?_
    constructor
    · intro hz
      rcases List.mem_cons.1 ((h z).1 (List.mem_cons_of_mem _ hz)) with e | e
      · subst e; have := a1 z hz; rw [ltE_irr] at this; cases this
      · exact e
    · intro hz
      rcases List.mem_cons.1 ((h z).2 (List.mem_cons_of_mem _ hz)) with e | e
      · subst e; have := b1 z hz; rw [ltE_irr] at this; cases this
      · exact e
theorem look_unique {l m : List BE} (hl : Srt' l) (hm : Srt' m) (h : lookE l = lookE m) : l = m :=
  srt_unique hl hm fun z => by rw [lookE_mem hl.nd, lookE_mem hm.nd, h]
theorem look_perm {l m : List BE} (hl : ND l) (hm : ND m) (h : ∀ z, z ∈ l ↔ z ∈ m) : lookE l = lookE m := by
  funext k
  cases hq : lookE l k with
  | some w =>
    have : ((k.1, (k.2, (w, ()))) : BE) ∈ l := (lookE_mem hl _).2 hq
    exact ((lookE_mem hm _).1 ((h _).1 this)).symm
  | none =>
    cases hr : lookE m k with
    | none => rfl
    | some w =>
      have : ((k.1, (k.2, (w, ()))) : BE) ∈ m := (lookE_mem hm _).2 hr
      have := (lookE_mem hl _).1 ((h _).2 this)
      rw [show keyE ((k.1, (k.2, (w, ()))) : BE) = k from rfl, hq] at this
      cases this
/-! many entries -/
theorem insL_all : ∀ (b : List BE) {a : List BE}, Srt' a → OKW a → OKW b → Srt' (b.foldl insB a) ∧ OKW (b.foldl insB a) ∧ (b.foldl insB a).length ≤ a.length + b.length ∧ lookE (b.foldl insB a) = b.foldl updE (lookE a)
  | [], a, h1, h2, _ => ⟨h1, h2, by simp, rfl⟩
  | d :: b, a, h1, h2, h3 => by
    have hd := h3 d List.mem_cons_self
    obtain ⟨q1, q2, q3, q4⟩ := insL_all b (insB_srt d h1) (insB_ok h2 hd) (fun x hx => h3 x (List.mem_cons_of_mem _ hx))
    refine ⟨q1, q2, ?_, ?_⟩
    · have := insB_len d a
      simp only [List.foldl_cons, List.length_cons]
      omega
    · rw [List.foldl_cons, q4, lookE_ins d h1]; rfl
end Go.Proofs.Ytfppnefcicdnfaa
namespace Go.Proofs.Ytfppnefcicdnfaa
open Go.Den
set_option linter.unusedVariables false
set_option linter.unusedSimpArgs false
set_option maxRecDepth 100000

theorem step_0 {r : Rules} {s : List Place × List Mv} {m : Mv} (c : stepG r s m = 0) : gameRes r s.1 = 0 ∧ allowedB r (lastP s.1) m = true := by
  unfold stepG at c
  split at c
  · rename_i h1
    split at c
    · rename_i h2; exact ⟨h1, h2⟩
    · cases c
  · cases c
theorem gd_app1 (l l' : List Place) (j : Nat) (hj : j < l.length) : getD' (l ++ l') j dP = getD' l j dP := by simp [getD', List.getElem?_append_left hj]
theorem gd_app2 (l : List Place) (q : Place) : getD' (l ++ [q]) l.length dP = q := by simp [getD']
theorem run_pre {r : Rules} : ∀ (k : List Mv) (s s' : List Place × List Mv), runG r k s = .inl s' → s'.1.length = s.1.length + k.length ∧ ∀ j, j < s.1.length → getD' s'.1 j dP = getD' s.1 j dP
  | [], s, s', e => by cases e; exact ⟨by simp, fun _ _ => rfl⟩
  | m :: k, s, s', e => by
    unfold runG at e
    split at e
    · obtain ⟨a, b⟩ := run_pre k _ _ e
      have hn : (nextG r s m).1 = s.1 ++ [afterOf r (lastP s.1) m] := rfl
      rw [hn] at a b
      refine ⟨by rw [a]; simp; omega, fun j hj => ?_⟩
      rw [b j (by simp; omega), gd_app1 _ _ j hj]
    · cases e
theorem run_step {r : Rules} : ∀ (k : List Mv) (s s' : List Place × List Mv), 0 < s.1.length → runG r k s = .inl s' → ∀ i (hi : i < k.length),
    getD' s'.1 (s.1.length + i) dP = afterOf r (getD' s'.1 (s.1.length + i - 1) dP) k[i] ∧ allowedB r (getD' s'.1 (s.1.length + i - 1) dP) k[i] = true
  | [], s, s', h, e, i, hi => absurd hi (Nat.not_lt_zero _)
  | m :: k, s, s', h, e, i, hi => by
    unfold runG at e
    split at e
    · rename_i c
      have hn : (nextG r s m).1 = s.1 ++ [afterOf r (lastP s.1) m] := rfl
      have hnl : (nextG r s m).1.length = s.1.length + 1 := by rw [hn]; simp
      cases i with
      | zero =>
        obtain ⟨_, b⟩ := run_pre k _ _ e
        rw [hnl, hn] at b
        rw [Nat.add_zero, b _ (by omega), b _ (by omega), gd_app2, gd_app1 _ _ _ (by omega)]
        exact ⟨rfl, (step_0 c).2⟩
      | succ i =>
        have := run_step k _ _ (by omega) e i (by simpa using hi)
        rw [hnl] at this
        rw [show s.1.length + (i + 1) = s.1.length + 1 + i by omega]
        simpa using this
    · cases e
end Go.Proofs.Ytfppnefcicdnfaa
namespace Go.Proofs.Ytfppnefcicdnfaa
open Go.Den
set_option linter.unusedVariables false
set_option linter.unusedSimpArgs false
set_option maxRecDepth 100000

theorem wu_eq (n : Int) : wu64 n = n % 18446744073709551616 := by
  simp [wu64, IntKind.wrap, IntKind.signed, IntKind.bits]
theorem shr_eq (a : Int) (h0 : 0 ≤ a) (h1 : a < 18446744073709551616) (k : Nat) (hk : k ≤ 64) (c : Int) (hc : c = 2 ^ k) (hc1 : 1 ≤ c) : shK .shr .u64 a (k : Int) = wu64 (a.tdiv c) := by
  have e : shK .shr .u64 a (k : Int) = a.fdiv c := by
    unfold shK
    rw [hc, Int.toNat_natCast, show min k (IntKind.bits .u64) = k from Nat.min_eq_left hk]
  rw [e, wu_eq, Int.fdiv_eq_ediv_of_nonneg _ (by omega), Int.tdiv_eq_ediv_of_nonneg h0]
  have h2 := Int.ediv_nonneg h0 (show 0 ≤ c by omega)
  have h3 : a / c ≤ a := Int.ediv_le_self _ h0
  rw [Int.emod_eq_of_lt h2 (by omega)]
theorem wu_rng (n : Int) : 0 ≤ wu64 n ∧ wu64 n < 18446744073709551616 := by rw [wu_eq]; omega
theorem mix_eq (n : Int) : zobMix n = ref1Mixed n := by
  unfold zobMix ref1Mixed
  have e1 : wu64 (wu64 (wu64 n + 1) * 11400714819323198485) = wu64 (wu64 (wu64 n * 11400714819323198485) + 11400714819323198485) := by
    simp only [wu_eq]
    omega
  rw [e1]
  have s : ∀ a, shK .shr .u64 (wu64 a) (30 : Int) = wu64 ((wu64 a).tdiv 1073741824) := fun a => shr_eq _ (wu_rng a).1 (wu_rng a).2 30 (by omega) _ (by decide) (by omega)
  have s2 : ∀ a, shK .shr .u64 (wu64 a) (27 : Int) = wu64 ((wu64 a).tdiv 134217728) := fun a => shr_eq _ (wu_rng a).1 (wu_rng a).2 27 (by omega) _ (by decide) (by omega)
  have s3 : ∀ a, shK .shr .u64 (wu64 a) (31 : Int) = wu64 ((wu64 a).tdiv 2147483648) := fun a => shr_eq _ (wu_rng a).1 (wu_rng a).2 31 (by omega) _ (by decide) (by omega)
  simp only [s, s2, s3]
def k1 (p : Place) (i : Nat) (a : Int) : Int := bif p.1.getD i 0 != 0 then wu64 (a + zobMix (16 * (i : Int) + p.1.getD i 0)) else a
def k2 (o : Int) (l : List Int) (i : Nat) (a : Int) : Int := wu64 (a + wu64 (zobMix (2000 + 8 * o + (i : Int)) * wu64 (l.getD i 0)))
/-- the key of a position -/
def keyOf (p : Place) : Int := bif p.turn == 1 then wu64 (foldN (k2 1 p.2.1.2.1) p.2.1.2.1.length (foldN (k2 0 p.2.1.1) p.2.1.1.length (foldN (k1 p) p.1.length 0)) + zobMix 3000) else foldN (k2 1 p.2.1.2.1) p.2.1.2.1.length (foldN (k2 0 p.2.1.1) p.2.1.1.length (foldN (k1 p) p.1.length 0))
abbrev R64 (a : Int) : Prop := 0 ≤ a ∧ a < 18446744073709551616
theorem k1_rng {p : Place} {i : Nat} {a : Int} (h : R64 a) : R64 (k1 p i a) := by
  unfold k1
  cases (p.1.getD i 0 != 0)
  · exact h
  · exact wu_rng _
theorem fold_rng {g : Nat → Int → Int} (hg : ∀ i a, R64 a → R64 (g i a)) : ∀ (n : Nat) (a : Int), R64 a → R64 (foldN g n a)
  | 0, a, h => h
  | n + 1, a, h => hg n _ (fold_rng hg n a h)
theorem key1 {r : Rules} {p : Place} (h : Valid r p) : iterW (zobOf_L1 p) (((0 : Int), (0 : Int), ()), ()) = some ((foldN (k1 p) p.1.length 0, ()), ()) := by
  have h64 := area_len h
  refine iter_fold p.1.length (zobOf_L1 p) (k1 p) (fun a => ((a, ()), ())) (fun _ _ => True) 0 trivial (fun i hi a _ => ⟨?_, trivial⟩) (fun a _ => ?_)
  · unfold zobOf_L1
    have hc := cell_small h (i : Int)
    simp only [show decide ((i : Int) < ((p.1.length : Nat) : Int)) = true by simp; omega, cond_true]
    rw [at_cell (p := p) (s := (i : Int)) (by omega) (by show (i : Int) < ((p.1.length : Nat) : Int); omega), Option.bind_some, w64_id (n := 16 * (i : Int)) (by omega) (by omega), w64_id (n := 16 * (i : Int) + cellI p (i : Int)) (by omega) (by omega), w64_id (n := (i : Int) + 1) (by omega) (by omega)]
    unfold k1
    rw [show p.1.getD i 0 = cellI p (i : Int) from rfl]
    cases (cellI p (i : Int) != 0) <;> rfl
  · unfold zobOf_L1; simp
theorem key3 {p : Place} (o : Nat) (ho : o < 2) (l : List Int) (hl : l = getD' [p.2.1.1, p.2.1.2.1] o []) (h6 : l.length ≤ 6) (a0 b0 : Int) : iterW (zobOf_L3 p ((b0, (o : Int), ()), ())) ((a0, (0 : Int), ()), ()) = some ((foldN (k2 (o : Int) l) l.length a0, ()), ()) := by
  refine iter_fold l.length (zobOf_L3 p ((b0, (o : Int), ()), ())) (k2 (o : Int) l) (fun a => ((a, ()), ())) (fun _ _ => True) a0 trivial (fun i hi a _ => ⟨?_, trivial⟩) (fun a _ => ?_)
  · unfold zobOf_L3
    simp only [Int.toNat_natCast, ← hl]
    simp only [show decide ((i : Int) < ((l.length : Nat) : Int)) = true by simp; omega, cond_true]
    rw [at?_eq l _ (by omega) (by omega), Option.bind_some, w64_id (n := 8 * (o : Int)) (by omega) (by omega), w64_id (n := 2000 + 8 * (o : Int)) (by omega) (by omega), w64_id (n := 2000 + 8 * (o : Int) + (i : Int)) (by omega) (by omega), w64_id (n := (i : Int) + 1) (by omega) (by omega)]
    unfold k2
    simp only [Int.toNat_natCast, List.getD_eq_getElem?_getD, List.getElem?_eq_getElem hi, Option.getD_some]
  · unfold zobOf_L3
    simp only [Int.toNat_natCast, ← hl]
    simp
theorem k2_rng {o : Int} {l : List Int} (i : Nat) (a : Int) (h : R64 a) : R64 (k2 o l i a) := wu_rng _
theorem key_spec {r : Rules} {p : Place} (h : Valid r p) : zobOf p = some (keyOf p) := by
  have ht := h.r0.t6
  have a0 : p.2.1.1.length = r.pieces.length := h.l0
  have a1 : p.2.1.2.1.length = r.pieces.length := h.l1
  unfold zobOf keyOf
  rw [key1 h, Option.bind_some]
  generalize foldN (k1 p) p.1.length 0 = a
  have hL : iterW (zobOf_L2 p) ((a, (0 : Int), ()), ()) = some ((foldN (k2 1 p.2.1.2.1) p.2.1.2.1.length (foldN (k2 0 p.2.1.1) p.2.1.1.length a), ()), ()) := by
    rw [iterW_inl (y := ((foldN (k2 0 p.2.1.1) p.2.1.1.length a, (1 : Int), ()), ())) (by
      unfold zobOf_L2
      have := key3 (p := p) 0 (by omega) p.2.1.1 rfl (by omega) a a
      simp only [show decide ((0 : Int) < 2) = true from rfl, cond_true, show inb (0 : Int) 2 = true from rfl, req_true]
      rw [show iterW (zobOf_L3 p ((a, (0 : Int), ()), ())) ((a, (0 : Int), ()), ()) = _ from this]
      rfl)]
    rw [iterW_inl (y := ((foldN (k2 1 p.2.1.2.1) p.2.1.2.1.length (foldN (k2 0 p.2.1.1) p.2.1.1.length a), (2 : Int), ()), ())) (by
      unfold zobOf_L2
      have := key3 (p := p) 1 (by omega) p.2.1.2.1 rfl (by omega) (foldN (k2 0 p.2.1.1) p.2.1.1.length a) (foldN (k2 0 p.2.1.1) p.2.1.1.length a)
      simp only [show decide ((1 : Int) < 2) = true from rfl, cond_true, show inb (1 : Int) 2 = true from rfl, req_true]
      rw [show iterW (zobOf_L3 p ((foldN (k2 0 p.2.1.1) p.2.1.1.length a, (1 : Int), ()), ())) ((foldN (k2 0 p.2.1.1) p.2.1.1.length a, (0 : Int), ()), ()) = _ from this]
      rfl)]
    exact iterW_inr rfl
  simp only
  rw [hL, Option.bind_some, show (p.2.2.1 == (1 : Int)) = (p.turn == 1) from rfl]
  cases (p.turn == 1) <;> rfl
end Go.Proofs.Ytfppnefcicdnfaa
namespace Go.Proofs.Ytfppnefcicdnfaa
open Go.Den
set_option linter.unusedVariables false
set_option linter.unusedSimpArgs false
set_option maxRecDepth 100000

/-- the entries of a game's moves -/
def enG (r : Rules) (w : Int) : List Mv → List Place × List Mv → List BE
  | [], _ => []
  | m :: k, s => (keyOf (lastP s.1), (m, (w, ()))) :: enG r w k (nextG r s m)
theorem enG_len (r : Rules) (w : Int) : ∀ (k : List Mv) (s : List Place × List Mv), (enG r w k s).length = k.length
  | [], _ => rfl
  | m :: k, s => by rw [enG, List.length_cons, enG_len r w k, List.length_cons]
theorem enG_ok {r : Rules} {w : Int} (hw : 1 ≤ w ∧ w ≤ 1000000) : ∀ (k : List Mv) (s : List Place × List Mv), OKW (enG r w k s)
  | [], _ => fun x hx => by cases hx
  | m :: k, s => fun x hx => by
    rcases List.mem_cons.1 hx with rfl | hx
    · exact hw
    · exact enG_ok hw k _ x hx
theorem runG_app (r : Rules) : ∀ (a b : List Mv) (s : List Place × List Mv), runG r (a ++ b) s = match runG r a s with
    | .inl s' => runG r b s'
    | .inr e => .inr e
  | [], b, s => rfl
  | m :: a, b, s => by
    have e : ∀ k, runG r (m :: k) s = if stepG r s m = 0 then runG r k (nextG r s m) else .inr (stepG r s m) := fun _ => rfl
    rw [List.cons_append, e, e]
    by_cases c : stepG r s m = 0
    · rw [if_pos c, if_pos c, runG_app r a b]
    · rw [if_neg c, if_neg c]
theorem runG_take {r : Rules} {l : List Mv} {s s' : List Place × List Mv} (n : Nat) (h : runG r l s = .inl s') : ∃ s2, runG r (l.take n) s = .inl s2 := by
  rw [← List.take_append_drop n l, runG_app] at h
  cases hq : runG r (l.take n) s with
  | inl s2 => exact ⟨s2, rfl⟩
  | inr e => rw [hq] at h; cases h
theorem add_loop {r : Rules} (game : List Mv) (plies weight : Int) (tk : List Mv) (htk : (game.take ((if ((game.length : Nat) : Int) < plies then ((game.length : Nat) : Int) else plies)).toNat).drop 0 = tk) (hl : tk.length ≤ 1000) (hw : 1 ≤ weight ∧ weight ≤ 1000000) :
    ∀ (k i : Nat) (s : List Place × List Mv) (out : List BE), i + k = tk.length → OKG r s → (∃ s', runG r (tk.drop i) s = .inl s') → Srt' out → OKW out → out.length + k ≤ 2000 →
      ∃ q, iterW (bookAdd_L1 game plies weight r) ((out, (i : Int), ()), (flp (lastP s.1), ())) = some (((enG r weight (tk.drop i) s).foldl insB out, ()), (q, ()))
  | 0, i, s, out, hi, ho, hs, h1, h2, h3 => by
    have : i = tk.length := by omega
    subst this
    refine ⟨flp (lastP s.1), ?_⟩
    rw [List.drop_length]
    refine iterW_inr ?_
    unfold bookAdd_L1
    simp only [htk, nltd, cond_false]
    rfl
  | k + 1, i, s, out, hi, ho, hs, h1, h2, h3 => by
    have hil : i < tk.length := by omega
    obtain ⟨s', hs⟩ := hs
    rw [List.drop_eq_getElem_cons hil] at hs ⊢
    unfold runG at hs
    by_cases c : stepG r s tk[i] = 0
    · rw [if_pos c] at hs
      have hv : Valid r (lastP s.1) := ho.last
      have hd : 1 ≤ ((keyOf (lastP s.1), (tk[i], (weight, ()))) : BE).2.2.1 ∧ ((keyOf (lastP s.1), (tk[i], (weight, ()))) : BE).2.2.1 ≤ 1000000 := hw
      have hlen := insB_len (keyOf (lastP s.1), (tk[i], (weight, ()))) out
      obtain ⟨q, hq⟩ := add_loop game plies weight tk htk hl hw k (i + 1) (nextG r s tk[i]) (insB out (keyOf (lastP s.1), (tk[i], (weight, ())))) (by omega) (next_ok ho c) ⟨s', hs⟩ (insB_srt _ h1) (insB_ok h2 hd) (by omega)
      refine ⟨q, ?_⟩
      have e : bookAdd_L1 game plies weight r ((out, (i : Int), ()), (flp (lastP s.1), ())) = bif (decide ((i : Int) < ((((game.take ((if ((game.length : Nat) : Int) < plies then ((game.length : Nat) : Int) else plies)).toNat).drop 0).length : Nat) : Int))) then (Option.bind (at? ((game.take ((if ((game.length : Nat) : Int) < plies then ((game.length : Nat) : Int) else plies)).toNat).drop 0) (i : Int)) fun d =>
        Option.bind (Option.bind (zobOf (lastP s.1)) fun z => addF out (z, (d, (weight, ())))) fun x => Option.bind (movesMake r (lastP s.1) d) fun p => some (Sum.inl ((x.1.1, (w64 ((i : Int) + 1)), ()), (flp p, ())))) else some (Sum.inr ((out, ()), (flp (lastP s.1), ()))) := rfl
      rw [htk, ltd tk i hil, cond_true, at_natB tk i hil, Option.bind_some, key_spec hv, Option.bind_some, addF_spec _ _ (by omega) h1 h2 hd, Option.bind_some, make_spec hv (step_0 c).2, Option.bind_some, w64_id (by omega) (by omega)] at e
      rw [iterW_inl e]
      have el : lastP (nextG r s tk[i]).1 = afterOf r (lastP s.1) tk[i] := by
        unfold nextG lastP
        simp [getD']
      rw [el] at hq
      rw [show ((i : Int) + 1) = ((i + 1 : Nat) : Int) by omega, hq]
      rfl
    · rw [if_neg c] at hs; cases hs
/-- what a game adds to an empty book -/
def addRes (r : Rules) (game : List Mv) (plies weight : Int) : List BE × Int × Unit := if (runRes r game).2.2.1 = 0 then if plies < 0 ∨ weight < 1 ∨ weight > 1000000 then ([], (4, ())) else ((enG r weight (game.take plies.toNat) ([beginOf r], [])).foldl insB [], (0, ())) else ([], ((runRes r game).2.2.1, ()))
theorem runRes_0 {r : Rules} {l : List Mv} (h : (runRes r l).2.2.1 = 0) : ruleErr r = 0 ∧ ∃ s, gameOf r l = .inl s := by
  unfold runRes at h
  split at h
  · rename_i c
    refine ⟨c, ?_⟩
    cases hq : gameOf r l with
    | inl s => exact ⟨s, rfl⟩
    | inr e =>
      rw [hq] at h
      exfalso
      have h : e = 0 := h
      subst h
      have key : ∀ (k : List Mv) (s : List Place × List Mv), runG r k s ≠ .inr 0 := by
        intro k
        induction k with
        | nil => intro s e; cases e
        | cons m k ih =>
          intro s e
          unfold runG at e
          split at e
          · exact ih _ e
          · rename_i c; exact c (Sum.inr.inj e)
      exact key l _ hq
  · rename_i c; exact absurd h c
theorem add_spec (r : Rules) (hr : Rng tyRules r) (game : List Mv) (hg : game.length ≤ 500) (plies weight : Int) : bookAdd r [] game plies weight = some (addRes r game plies weight) := by
  unfold bookAdd addRes
  rw [check_specB [] (by simp), Option.bind_some, show ((chkB []) != (0 : Int)) = false from rfl, cond_false, run_spec r game hr (by omega), Option.bind_some]
  by_cases c : (runRes r game).2.2.1 = 0
  · rw [bne_f c, cond_false, if_pos c]
    obtain ⟨hc, s', hs⟩ := runRes_0 c
    by_cases c2 : plies < 0 ∨ weight < 1 ∨ weight > 1000000
    · rw [if_pos c2, show ((decide (plies < 0) || decide (weight < 1)) || decide (weight > 1000000)) = true by simp only [Bool.or_eq_true, decide_eq_true_eq]; omega, cond_true]
    · rw [if_neg c2, show ((decide (plies < 0) || decide (weight < 1)) || decide (weight > 1000000)) = false by
        rw [Bool.eq_false_iff]; intro h; simp only [Bool.or_eq_true, decide_eq_true_eq] at h; omega, cond_false]
      rw [cloneB [] (by simp), Option.bind_some, begin_spec r hr, if_pos hc, Option.bind_some]
      have hb : boundsI 0 (if ((game.length : Nat) : Int) < plies then ((game.length : Nat) : Int) else plies) game.length = true := by
        unfold boundsI
        by_cases h : ((game.length : Nat) : Int) < plies
        · rw [if_pos h]; simp only [Bool.and_eq_true, decide_eq_true_eq]; omega
        · rw [if_neg h]; simp only [Bool.and_eq_true, decide_eq_true_eq]; omega
      rw [hb, req_true]
      have htk : (game.take ((if ((game.length : Nat) : Int) < plies then ((game.length : Nat) : Int) else plies)).toNat).drop 0 = game.take plies.toNat := by
        rw [List.drop_zero]
        by_cases h : ((game.length : Nat) : Int) < plies
        · rw [if_pos h, Int.toNat_natCast, List.take_length, List.take_of_length_le (by omega)]
        · rw [if_neg h]
      have hlen : (game.take plies.toNat).length ≤ 500 := by rw [List.length_take]; omega
      obtain ⟨q, hq⟩ := add_loop (r := r) game plies weight (game.take plies.toNat) htk (by omega) (by omega) (game.take plies.toNat).length 0 ([beginOf r], []) [] (by omega) (begin_okG hc) (by rw [List.drop_zero]; exact runG_take _ hs) List.Pairwise.nil (fun x hx => by cases hx) (by simp only [List.length_nil]; omega)
      have hq' : iterW (bookAdd_L1 game plies weight r) ((([] : List BE), (0 : Int), ()), ((beginOf r).1, ((beginOf r).2.1.1, ((beginOf r).2.1.2.1, (beginOf r).2.2))), ()) = _ := hq
      rw [hq', Option.bind_some, List.drop_zero]
      have h4 := (insL_all (enG r weight (game.take plies.toNat) ([beginOf r], [])) (a := []) List.Pairwise.nil (fun x hx => by cases hx) (enG_ok (by omega) _ _)).2.2.1
      rw [enG_len] at h4
      simp only [List.length_nil, Nat.zero_add] at h4
      unfold bookFull_o
      simp only [show decide ((((List.foldl insB [] (enG r weight (game.take plies.toNat) ([beginOf r], []))).length : Nat) : Int) > 1000) = false by simp; omega, cond_false, Option.bind_some]
  · rw [bne_t c, cond_true, if_neg c]
theorem books_true : law3Books = some true := by
  unfold law3Books
  have e : bookAdd law3Tic [] [law3Drop 4] 1 7 = some (addRes law3Tic [law3Drop 4] 1 7) := add_spec law3Tic tic_rng _ (by decide) 1 7
  have h0 : stepG law3Tic ([beginOf law3Tic], []) (law3Drop 4) = 0 := by decide +kernel
  have h1 : (runRes law3Tic [law3Drop 4]).2.2.1 = 0 := by
    unfold runRes
    rw [if_pos tic_ok]
    unfold gameOf runG
    rw [if_pos h0]
    rfl
  have h2 : addRes law3Tic [law3Drop 4] 1 7 = ([(keyOf (beginOf law3Tic), (law3Drop 4, (7, ())))], (0, ())) := by
    unfold addRes
    rw [if_pos h1, if_neg (by decide)]
    rfl
  rw [h2] at e
  have e' : bookAdd ((law3Tic).1, (((law3Tic).2).1, ((((law3Tic).2).2).1, (((((law3Tic).2).2).2).1, ((((((law3Tic).2).2).2).2).1, (((((((law3Tic).2).2).2).2).2).1, ((((((((law3Tic).2).2).2).2).2).2).1, (((((((((law3Tic).2).2).2).2).2).2).2).1, ((((((((((law3Tic).2).2).2).2).2).2).2).2).1, (((((((((((law3Tic).2).2).2).2).2).2).2).2).2).1, ((((((((((((law3Tic).2).2).2).2).2).2).2).2).2).2).1, ()))))))))))) [] [law3Drop 4] 1 7 = _ := e
  rw [e']
  rfl
end Go.Proofs.Ytfppnefcicdnfaa
namespace Go.Proofs.Ytfppnefcicdnfaa
open Go.Den
set_option linter.unusedVariables false
set_option linter.unusedSimpArgs false
set_option maxRecDepth 100000

theorem ahead_spec (a b : BE) : ref3Ahead a b = ltE a b := by
  unfold ref3Ahead
  rw [Bool.eq_iff_iff, ltE_iff]
  by_cases h1 : a.1 = b.1
  · rw [bne_f h1, cond_false]
    by_cases h2 : a.2.1.1 = b.2.1.1
    · rw [bne_f h2, cond_false]
      by_cases h3 : a.2.1.2.1 = b.2.1.2.1
      · rw [bne_f h3, cond_false, decide_eq_true_eq]; omega
      · rw [bne_t h3, cond_true, decide_eq_true_eq]; omega
    · rw [bne_t h2, cond_true, decide_eq_true_eq]; omega
  · rw [bne_t h1, cond_true, decide_eq_true_eq]; omega
theorem take40 (l : List BE) : ((l.take ((if (40 : Int) < ((l.length : Nat) : Int) then 40 else ((l.length : Nat) : Int))).toNat).drop 0) = l.take 40 := by
  rw [List.drop_zero]
  by_cases h : (40 : Int) < ((l.length : Nat) : Int)
  · rw [if_pos h]; rfl
  · rw [if_neg h, Int.toNat_natCast, List.take_length, List.take_of_length_le (by omega)]
theorem shelf_spec (l : List BE) : law3Shelf l = some (l.take 40) := by
  unfold law3Shelf
  rw [take40]
  have hb : boundsI 0 (if (40 : Int) < ((l.length : Nat) : Int) then 40 else ((l.length : Nat) : Int)) l.length = true := by
    unfold boundsI
    by_cases h : (40 : Int) < ((l.length : Nat) : Int)
    · rw [if_pos h]; simp only [Bool.and_eq_true, decide_eq_true_eq]; omega
    · rw [if_neg h]; simp only [Bool.and_eq_true, decide_eq_true_eq]; omega
  rw [hb, req_true]
theorem shelved_spec (b : List BE) (hl : b.length ≤ 1000) : law3Shelved b = some (chkB b) := by
  unfold law3Shelved
  rw [loopNZ b.length (law3Shelved_L1 b) (errB b) ((), ()) (some 0) (fun i hi => ?_) (by unfold law3Shelved_L1; simp)]
  · unfold chkB
    split
    · rename_i h; rw [h]
    · rfl
  · unfold law3Shelved_L1 errB
    simp only [show decide ((i : Int) < ((b.length : Nat) : Int)) = true by simp; omega, cond_true]
    rw [at_natB b i hi, Option.bind_some, getD_atB b i hi]
    unfold bad4
    cases (decide (b[i].2.2.1 < 1) || decide (b[i].2.2.1 > 1000000))
    · simp only [cond_false]
      rw [w64_id (n := (i : Int) + 1) (by omega) (by omega), w64_id (n := (i : Int) - 1) (by omega) (by omega)]
      by_cases h0 : 0 < i
      · rw [show decide ((i : Int) > 0) = true by simp; omega, show decide (0 < i) = true by simp; omega]
        have h1 : i - 1 < b.length := by omega
        rw [show (i : Int) - 1 = ((i - 1 : Nat) : Int) by omega, getD_atB b (i - 1) h1]
        simp only [gat, gopt, cond_true, at_natB b (i - 1) h1, Option.bind_some, ahead_spec, Bool.true_and]
        cases ltE b[i - 1] b[i]
        · simp
        · simp
      · have : i = 0 := by omega
        subst this
        simp [gat, gopt]
    · simp
/-- a loop over a list -/
theorem iter_foldlB {A S R : Type} (xs : List A) (f : ((S × Int × Unit) × Unit) → Option (((S × Int × Unit) × Unit) ⊕ R)) (g : S → A → S) (fin : S → R) (I : Nat → S → Prop)
    (hs : ∀ i (hi : i < xs.length) s, I i s → f ((s, (i : Int), ()), ()) = some (.inl ((g s xs[i], ((i + 1 : Nat) : Int), ()), ())) ∧ I (i + 1) (g s xs[i]))
    (he : ∀ s, I xs.length s → f ((s, (xs.length : Int), ()), ()) = some (.inr (fin s))) (s0 : S) (h0 : I 0 s0) :
    iterW f ((s0, (0 : Int), ()), ()) = some (fin (xs.foldl g s0)) := by
  have := iter_scan xs f (fun i s => ((s, (i : Int), ()), ())) (fun s x => (.inl (g s x) : S ⊕ R)) fin I (fun i hi s h => (hs i hi s h).1) (fun i hi s s' h e => by
    cases e; exact (hs i hi s h).2) he s0 h0
  rw [scanL_inl _ g fin xs s0 (fun _ _ _ => rfl)] at this
  exact this
theorem mergeL2 (b : List BE) (hb : b.length ≤ 1000) (hw : OKW b) (a : List BE) (ha : a.length ≤ 1000) (hs : Srt' a) (hwa : OKW a) : iterW (bookMerge_L2 b) ((a, (0 : Int), ()), ()) = some ((b.foldl insB a, ()), ()) := by
  refine iter_foldlB b (bookMerge_L2 b) insB (fun s => ((s, ()), ())) (fun i s => Srt' s ∧ OKW s ∧ s.length ≤ a.length + i) (fun i hi s h => ?_) (fun s _ => ?_) a ⟨hs, hwa, by omega⟩
  · have e : bookMerge_L2 b ((s, (i : Int), ()), ()) = bif (decide ((i : Int) < ((b.length : Nat) : Int))) then (Option.bind (at? b (i : Int)) fun d => Option.bind (addF s d) fun x => some (Sum.inl ((x.1.1, (w64 ((i : Int) + 1)), ()), ()))) else some (Sum.inr ((s, ()), ())) := rfl
    have hd := hw b[i] (List.getElem_mem hi)
    refine ⟨?_, insB_srt _ h.1, insB_ok h.2.1 hd, ?_⟩
    · rw [e, show decide ((i : Int) < ((b.length : Nat) : Int)) = true by simp; omega, cond_true, at_natB b i hi, Option.bind_some, addF_spec s b[i] (by omega) h.1 h.2.1 hd, Option.bind_some, w64_id (by omega) (by omega)]
      rfl
    · have := insB_len b[i] s
      omega
  · unfold bookMerge_L2
    simp
theorem merge_spec (a b : List BE) (ha : a.length ≤ 40) (hb : b.length ≤ 40) : bookMerge a b = some (if chkB a = 0 then if chkB b = 0 then (b.foldl insB a, (0, ())) else ([], (chkB b, ())) else ([], (chkB a, ()))) := by
  unfold bookMerge
  have g0 : getD' [a, b] (0 : Int).toNat [] = a := rfl
  have g1 : getD' [a, b] (1 : Int).toNat [] = b := rfl
  by_cases ca : chkB a = 0
  · have s0 : bookMerge_L1 a b (((0 : Int), ()), ()) = some (.inl (((1 : Int), ()), ())) := by
      unfold bookMerge_L1
      simp only [g0]
      rw [check_specB a (by omega), ca]
      rfl
    rw [iterW_inl s0, if_pos ca]
    by_cases cb : chkB b = 0
    · have s1 : bookMerge_L1 a b (((1 : Int), ()), ()) = some (.inl (((2 : Int), ()), ())) := by
        unfold bookMerge_L1
        simp only [g1]
        rw [check_specB b (by omega), cb]
        rfl
      have s2 : bookMerge_L1 a b (((2 : Int), ()), ()) = some (.inr (.inl ((), ()))) := rfl
      rw [iterW_inl s1, iterW_inr s2, if_pos cb]
      obtain ⟨wa, sa⟩ := chkB_all ca
      obtain ⟨wb, sb⟩ := chkB_all cb
      simp only [Option.bind_some, Sum.elim_inl]
      rw [cloneB a (by omega), Option.bind_some, mergeL2 b (by omega) wb a (by omega) sa wa, Option.bind_some]
      have hlen := (insL_all b sa wa wb).2.2.1
      unfold bookFull_o
      simp only [show decide ((((b.foldl insB a).length : Nat) : Int) > 1000) = false by simp; omega, cond_false, Option.bind_some]
    · have s1 : bookMerge_L1 a b (((1 : Int), ()), ()) = some (.inr (.inr ([], (chkB b, ())))) := by
        unfold bookMerge_L1
        simp only [g1]
        rw [check_specB b (by omega), Option.bind_some, bne_t cb]
        rfl
      rw [iterW_inr s1, if_neg cb]
      rfl
  · have s0 : bookMerge_L1 a b (((0 : Int), ()), ()) = some (.inr (.inr ([], (chkB a, ())))) := by
      unfold bookMerge_L1
      simp only [g0]
      rw [check_specB a (by omega), Option.bind_some, bne_t ca]
      rfl
    rw [iterW_inr s0, if_neg ca]
    rfl
theorem be_beq (x y : BE) : ((x.1 == y.1) && (((x.2.1.1 == y.2.1.1) && ((x.2.1.2.1 == y.2.1.2.1) && ((x.2.1.2.2.1 == y.2.1.2.2.1) && true))) && ((x.2.2.1 == y.2.2.1) && true))) = decide (x = y) := by
  rw [mv_beq, Bool.eq_iff_iff]
  simp only [Bool.and_eq_true, beq_iff_eq, decide_eq_true_eq, and_true]
  constructor
  · rintro ⟨h1, h2, h3⟩
    exact be_eq (by unfold keyE; rw [h1, h2]) h3
  · rintro rfl; exact ⟨rfl, rfl, rfl⟩
theorem same_spec3 (a b : List BE) (ha : a.length ≤ 1000) : law3SameBook a b = some (decide (a = b)) := by
  unfold law3SameBook
  by_cases hl : a.length = b.length
  · rw [bne_f (by rw [hl]), cond_false]
    have key : ∀ k i : Nat, i + k = a.length → (∀ j (h1 : j < a.length) (h2 : j < b.length), j < i → a[j] = b[j]) → Option.bind (iterW (law3SameBook_L1 a b) (((i : Int), ()), ())) (Sum.elim (fun _ => some true) some) = some (decide (a = b)) := by
      intro k
      induction k with
      | zero =>
        intro i hi h
        have : i = a.length := by omega
        subst this
        have e : a = b := List.ext_getElem hl fun j h1 h2 => h j h1 h2 h1
        rw [iterW_inr (r := .inl ((), ())) (by unfold law3SameBook_L1; simp), decide_eq_true e]
        rfl
      | succ k ih =>
        intro i hi h
        have h1 : i < a.length := by omega
        have h2 : i < b.length := by omega
        have e : law3SameBook_L1 a b (((i : Int), ()), ()) = bif !decide (a[i] = b[i]) then some (.inr (.inr false)) else some (.inl ((((i + 1 : Nat) : Int), ()), ())) := by
          unfold law3SameBook_L1
          simp only [show decide ((i : Int) < ((a.length : Nat) : Int)) = true by simp; omega, cond_true]
          rw [at_natB a i h1, Option.bind_some, at_natB b i h2, Option.bind_some, be_beq, w64_id (by omega) (by omega)]
          rfl
        by_cases c : a[i] = b[i]
        · rw [decide_eq_true c, Bool.not_true, cond_false] at e
          rw [iterW_inl e]
          exact ih (i + 1) (by omega) fun j h3 h4 h5 => by
            by_cases q : j = i
            · subst q; exact c
            · exact h j h3 h4 (by omega)
        · rw [decide_eq_false c, Bool.not_false, cond_true] at e
          rw [iterW_inr e, decide_eq_false (fun q => c (by subst q; rfl))]
          rfl
    exact key a.length 0 (by omega) (fun j _ _ h => by omega)
  · rw [bne_t (fun e => hl (by omega)), cond_true, decide_eq_false (fun e => hl (by rw [e]))]
end Go.Proofs.Ytfppnefcicdnfaa
namespace Go.Proofs.Ytfppnefcicdnfaa
open Go.Den
set_option linter.unusedVariables false
set_option linter.unusedSimpArgs false
set_option maxRecDepth 100000

/-! ### the reference's union -/
def hasK (l : List BE) (d : BE) : Bool := l.any fun x => decide (keyE x = keyE d)
def mapK (d x : BE) : BE := if keyE x = keyE d then addW x d else x
def addB (l : List BE) (d : BE) : List BE := bif hasK l d then l.map (mapK d) else l ++ [d]
theorem mapK_key (d x : BE) : keyE (mapK d x) = keyE x := by unfold mapK; split <;> rfl
theorem key_beq (x d : BE) : ((x.1 == d.1) && ((x.2.1.1 == d.2.1.1) && ((x.2.1.2.1 == d.2.1.2.1) && ((x.2.1.2.2.1 == d.2.1.2.2.1) && true)))) = decide (keyE x = keyE d) := by
  rw [Bool.eq_iff_iff, decide_eq_true_eq, keyE_iff]
  simp only [Bool.and_eq_true, beq_iff_eq, and_true]
theorem weigh_step (l : List BE) (d : BE) (hl : l.length ≤ 1000) (hw : OKW l) (hd : 1 ≤ d.2.2.1 ∧ d.2.2.1 ≤ 1000000) (i0 : Int) (i : Nat) (hi : i < l.length) (f : Bool) (ys : List BE) (hy : ys.length = l.length) (hyi : ys.getD i dBE = l[i]) :
    ref3Weigh_L2 ((l, i0, ()), ()) d ((f, (i : Int), ()), (ys, ())) = some (.inl ((f || decide (keyE l[i] = keyE d), ((i + 1 : Nat) : Int), ()), (ys.set i (mapK d l[i]), ()))) := by
  have hyl : i < ys.length := by omega
  have hg : getD' ys i dBE = l[i] := hyi
  have hin : inb (i : Int) ys.length = true := inb_iff.2 ⟨by omega, by omega⟩
  unfold ref3Weigh_L2
  simp only [show decide ((i : Int) < ((l.length : Nat) : Int)) = true by simp; omega, cond_true, Int.toNat_natCast, hin, req_true]
  have hg' : (getD' ys i ((0 : Int), (((0 : Int), ((0 : Int), ((0 : Int), ()))), ((0 : Int), ())))) = l[i] := hg
  simp only [hg']
  rw [show imp (l[i].1 == d.1) true = true by unfold imp; cases (l[i].1 == d.1) <;> rfl, req_true, key_beq, w64_id (n := (i : Int) + 1) (by omega) (by omega)]
  by_cases hk : keyE l[i] = keyE d
  · have hwx := hw l[i] (List.getElem_mem hi)
    simp only [decide_eq_true hk, cond_true, Bool.or_true]
    rw [w64_id (n := l[i].2.2.1 + d.2.2.1) (by omega) (by omega)]
    have hset : ∀ v : BE, getD' (ys.set i v) i ((0 : Int), (((0 : Int), ((0 : Int), ((0 : Int), ()))), ((0 : Int), ()))) = v := fun v => by simp [getD', hyl]
    have hin2 : ∀ v : BE, inb (i : Int) (ys.set i v).length = true := fun v => by rw [List.length_set]; exact hin
    simp only [hset, hin2, req_true, List.set_set]
    unfold mapK
    rw [if_pos hk]
    by_cases hc : l[i].2.2.1 + d.2.2.1 > 1000000
    · rw [decide_eq_true hc, cond_true]
      have : addW l[i] d = (l[i].1, (l[i].2.1, (1000000, ()))) := by unfold addW; rw [if_pos hc]
      rw [this]
      rfl
    · rw [decide_eq_false hc, cond_false]
      have : addW l[i] d = (l[i].1, (l[i].2.1, (l[i].2.2.1 + d.2.2.1, ()))) := by unfold addW; rw [if_neg hc]
      rw [this]
      rfl
  · simp only [decide_eq_false hk, cond_false, Bool.or_false, Option.bind_some]
    have hs : ys.set i (mapK d l[i]) = ys := by
      unfold mapK
      rw [if_neg hk]
      apply List.ext_getElem?
      intro j
      rw [List.getElem?_set]
      by_cases e : i = j
      · subst e
        rw [if_pos rfl, if_pos hyl, ← hyi, getD_atB ys i hyl, List.getElem?_eq_getElem hyl]
      · rw [if_neg e]
    rw [hs]
    rfl
theorem set_mid (l : List BE) (d : BE) (i : Nat) (hi : i < l.length) : ((l.take i).map (mapK d) ++ l.drop i).set i (mapK d l[i]) = (l.take (i + 1)).map (mapK d) ++ l.drop (i + 1) := by
  have hlen : ((l.take i).map (mapK d)).length = i := by rw [List.length_map, List.length_take]; omega
  rw [List.drop_eq_getElem_cons hi, List.set_append_right _ _ (by omega), hlen, Nat.sub_self, List.set_cons_zero, List.take_succ_eq_append_getElem hi, List.map_append]
  simp
theorem weighL2 (l : List BE) (d : BE) (hl : l.length ≤ 1000) (hw : OKW l) (hd : 1 ≤ d.2.2.1 ∧ d.2.2.1 ≤ 1000000) (i0 : Int) :
    iterW (ref3Weigh_L2 ((l, i0, ()), ()) d) ((false, (0 : Int), ()), (l, ())) = some ((hasK l d, ()), (l.map (mapK d), ())) := by
  have := iterW_states (f := ref3Weigh_L2 ((l, i0, ()), ()) d) l.length (fun i => ((hasK (l.take i) d, (i : Int), ()), ((l.take i).map (mapK d) ++ l.drop i, ()))) ((hasK l d, ()), (l.map (mapK d), ())) (fun i hi => by
    have h1 : ((l.take i).map (mapK d) ++ l.drop i).length = l.length := by simp only [List.length_append, List.length_map, List.length_take, List.length_drop]; omega
    have h2 : ((l.take i).map (mapK d) ++ l.drop i).getD i dBE = l[i] := by
      rw [getD_atB _ i (by omega), List.getElem_append_right (by simp; omega)]
      simp only [List.length_map, List.length_take, List.getElem_drop]
      congr 1
      omega
    rw [weigh_step l d hl hw hd i0 i hi _ _ h1 h2, set_mid l d i hi]
    have : (hasK (l.take i) d || decide (keyE l[i] = keyE d)) = hasK (l.take (i + 1)) d := by
      unfold hasK
      rw [List.take_succ_eq_append_getElem hi, List.any_append]
      simp
    rw [this]) (by
    rw [List.take_length, List.drop_length, List.append_nil]
    unfold ref3Weigh_L2
    simp)
  rw [List.take_zero, List.drop_zero] at this
  exact this
theorem addB_len (l : List BE) (d : BE) : (addB l d).length ≤ l.length + 1 := by
  unfold addB
  cases hasK l d
  · simp
  · simp
theorem addB_ok {l : List BE} {d : BE} (hw : OKW l) (hd : 1 ≤ d.2.2.1 ∧ d.2.2.1 ≤ 1000000) : OKW (addB l d) := by
  unfold addB
  intro x hx
  cases h : hasK l d
  · rw [h, cond_false] at hx
    rcases List.mem_append.1 hx with hx | hx
    · exact hw x hx
    · rw [List.mem_singleton.1 hx]; exact hd
  · rw [h, cond_true] at hx
    obtain ⟨y, hy, rfl⟩ := List.mem_map.1 hx
    unfold mapK
    split
    · exact addW_ok (hw y hy) hd
    · exact hw y hy
theorem hasK_f {l : List BE} {d : BE} (h : hasK l d = false) : ∀ x ∈ l, keyE x ≠ keyE d := fun x hx e => by
  unfold hasK at h
  have := List.any_eq_false.1 h x hx
  exact this (decide_eq_true e)
theorem addB_nd {l : List BE} {d : BE} (h : ND l) : ND (addB l d) := by
  unfold addB
  cases hk : hasK l d
  · rw [cond_false]
    refine List.pairwise_append.2 ⟨h, by simp, fun x hx y hy => ?_⟩
    rw [List.mem_singleton.1 hy]
    exact hasK_f hk x hx
  · rw [cond_true]
    exact List.pairwise_map.2 (h.imp fun h => by rw [mapK_key, mapK_key]; exact h)
theorem lookE_map (d : BE) (k : Int × Mv) : ∀ l : List BE, lookE (l.map (mapK d)) k = if k = keyE d then (lookE l k).map (fun w => capW w d.2.2.1) else lookE l k
  | [] => by simp [lookE]
  | x :: l => by
    rw [List.map_cons, lookE_cons, lookE_cons, mapK_key, lookE_map d k l]
    by_cases hx : keyE x = k
    · rw [if_pos hx, if_pos hx]
      unfold mapK
      by_cases hk : k = keyE d
      · rw [if_pos (hx.trans hk), if_pos hk]; rfl
      · rw [if_neg (fun e => hk (hx.symm.trans e)), if_neg hk]
    · rw [if_neg hx, if_neg hx]
theorem lookE_app (d : BE) (k : Int × Mv) : ∀ l : List BE, lookE (l ++ [d]) k = match lookE l k with
    | some w => some w
    | none => if keyE d = k then some d.2.2.1 else none
  | [] => by rw [List.nil_append, lookE_cons]; rfl
  | x :: l => by
    rw [List.cons_append, lookE_cons, lookE_cons, lookE_app d k l]
    by_cases hx : keyE x = k
    · rw [if_pos hx, if_pos hx]
    · rw [if_neg hx, if_neg hx]
theorem lookE_some {l : List BE} {k : Int × Mv} (h : ∃ x ∈ l, keyE x = k) : ∃ w, lookE l k = some w := by
  unfold lookE
  obtain ⟨x, hx, hk⟩ := h
  cases hq : l.find? fun x => decide (keyE x = k) with
  | some y => exact ⟨_, rfl⟩
  | none => exact absurd (decide_eq_true hk) (List.find?_eq_none.1 hq x hx)
theorem lookE_add (l : List BE) (d : BE) : lookE (addB l d) = updE (lookE l) d := by
  funext k
  unfold addB updE
  cases hk : hasK l d
  · rw [cond_false, lookE_app]
    by_cases e : k = keyE d
    · rw [if_pos e, lookE_none (fun x hx => by rw [e]; exact hasK_f hk x hx), if_pos e.symm]
    · rw [if_neg e]
      cases lookE l k with
      | some w => rfl
      | none => rw [if_neg (fun q => e q.symm)]
  · rw [cond_true, lookE_map]
    by_cases e : k = keyE d
    · rw [if_pos e, if_pos e]
      obtain ⟨x, hx, hkx⟩ := List.any_eq_true.1 hk
      obtain ⟨w, hw⟩ := lookE_some ⟨x, hx, (of_decide_eq_true hkx).trans e.symm⟩
      rw [hw]; rfl
    · rw [if_neg e, if_neg e]
theorem addL_all : ∀ (b : List BE) {a : List BE}, ND a → OKW a → OKW b → ND (b.foldl addB a) ∧ OKW (b.foldl addB a) ∧ (b.foldl addB a).length ≤ a.length + b.length ∧ lookE (b.foldl addB a) = b.foldl updE (lookE a)
  | [], a, h1, h2, _ => ⟨h1, h2, by simp, rfl⟩
  | d :: b, a, h1, h2, h3 => by
    have hd := h3 d List.mem_cons_self
    obtain ⟨q1, q2, q3, q4⟩ := addL_all b (addB_nd (d := d) h1) (addB_ok h2 hd) (fun x hx => h3 x (List.mem_cons_of_mem _ hx))
    refine ⟨q1, q2, ?_, ?_⟩
    · have := addB_len a d
      simp only [List.foldl_cons, List.length_cons]
      omega
    · rw [List.foldl_cons, q4, lookE_add]; rfl
theorem weighL1 (b : List BE) (hb : b.length ≤ 200) (hw : OKW b) : iterW (ref3Weigh_L1 b) ((([] : List BE), (0 : Int), ()), ()) = some ((b.foldl addB [], ()), ()) := by
  refine iter_foldlB b (ref3Weigh_L1 b) addB (fun s => ((s, ()), ())) (fun i s => OKW s ∧ s.length ≤ i) (fun i hi s h => ?_) (fun s _ => ?_) [] ⟨fun x hx => (by cases hx), by simp⟩
  · have hd := hw b[i] (List.getElem_mem hi)
    have hlen := addB_len s b[i]
    refine ⟨?_, addB_ok h.1 hd, by omega⟩
    unfold ref3Weigh_L1
    simp only [show decide ((i : Int) < ((b.length : Nat) : Int)) = true by simp; omega, cond_true]
    rw [at_natB b i hi, Option.bind_some, weighL2 s b[i] (by omega) h.1 hd, Option.bind_some, w64_id (n := (i : Int) + 1) (by omega) (by omega)]
    unfold addB
    cases hk : hasK s b[i]
    · simp only [Bool.not_false, cond_true, cond_false]
      have hm : s.map (mapK b[i]) = s := by
        conv => rhs; rw [← List.map_id s]
        refine List.map_congr_left fun x hx => ?_
        unfold mapK
        rw [if_neg (hasK_f hk x hx)]
        rfl
      rw [hm, room_ok (by simp only [List.length_cons, List.length_nil]; omega), req_true]
      rfl
    · simp only [Bool.not_true, cond_true, cond_false]
      rfl
  · unfold ref3Weigh_L1
    simp
/-! ### its sort -/
def sinkR : List BE → BE → List BE
  | [], e => [e]
  | a :: rA, e => if ltE e a = true then sinkR rA e ++ [a] else (a :: rA).reverse ++ [e]
theorem sinkR_perm (e : BE) : ∀ rA : List BE, ∀ z, z ∈ sinkR rA e ↔ z = e ∨ z ∈ rA
  | [], z => by simp [sinkR]
  | a :: rA, z => by
    unfold sinkR
    split
    · rw [List.mem_append, sinkR_perm e rA z, List.mem_singleton, List.mem_cons]
      constructor
      · rintro ((h | h) | h)
        · exact .inl h
        · exact .inr (.inr h)
        · exact .inr (.inl h)
      · rintro (h | h | h)
        · exact .inl (.inl h)
        · exact .inr h
        · exact .inl (.inr h)
    · rw [List.mem_append, List.mem_reverse, List.mem_singleton]
      exact Or.comm
theorem sinkR_len (e : BE) : ∀ rA : List BE, (sinkR rA e).length = rA.length + 1
  | [] => rfl
  | a :: rA => by
    unfold sinkR
    split
    · rw [List.length_append, sinkR_len e rA]; rfl
    · simp
theorem sinkR_srt (e : BE) : ∀ {rA : List BE}, Srt' rA.reverse → (∀ x ∈ rA, keyE x ≠ keyE e) → Srt' (sinkR rA e)
  | [], _, _ => by simp [sinkR]
  | a :: rA, h, hk => by
    rw [List.reverse_cons] at h
    obtain ⟨h1, h2, h3⟩ := List.pairwise_append.1 h
    unfold sinkR
    split
    · rename_i hea
      refine List.pairwise_append.2 ⟨sinkR_srt e h1 (fun x hx => hk x (List.mem_cons_of_mem _ hx)), by simp, fun x hx y hy => ?_⟩
      rw [List.mem_singleton.1 hy]
      rcases (sinkR_perm e rA x).1 hx with rfl | hx
      · exact hea
      · exact h3 x (List.mem_reverse.2 hx) a (List.mem_singleton.2 rfl)
    · rename_i hea
      have hae : ltE a e = true := by
        cases hq : ltE a e
        · exact absurd (ltE_tot hq (Bool.eq_false_iff.2 hea)) (hk a List.mem_cons_self)
        · rfl
      rw [List.reverse_cons]
      refine List.pairwise_append.2 ⟨h, by simp, fun x hx y hy => ?_⟩
      rw [List.mem_singleton.1 hy]
      rcases List.mem_append.1 hx with hx | hx
      · exact ltE_trans (h3 x hx a (List.mem_singleton.2 rfl)) hae
      · rw [List.mem_singleton.1 hx]; exact hae
theorem weighL4 (e : BE) : ∀ (rA B : List BE), rA.length ≤ 1000 → iterW ref3Weigh_L4 ((((rA.length : Nat) : Int), ()), (rA.reverse ++ e :: B, ())) = some ((), (sinkR rA e ++ B, ()))
  | [], B, _ => by
    refine iterW_inr ?_
    unfold ref3Weigh_L4
    simp [imp, req_true, sinkR]
  | a :: rA, B, hl => by
    simp only [List.length_cons] at hl
    have hL : ((a :: rA).reverse ++ e :: B).length = rA.length + 2 + B.length := by simp; omega
    have hk : ((a :: rA).length : Int) = ((rA.length + 1 : Nat) : Int) := by simp
    have g1 : getD' ((a :: rA).reverse ++ e :: B) (rA.length + 1) dBE = e := by
      unfold getD'
      rw [getD_atB _ _ (by omega), List.getElem_append_right (by simp)]
      simp
    have g0 : getD' ((a :: rA).reverse ++ e :: B) rA.length dBE = a := by
      unfold getD'
      rw [getD_atB _ _ (by omega), List.getElem_append_left (by simp)]
      simp
    have i1 : inb ((rA.length + 1 : Nat) : Int) ((a :: rA).reverse ++ e :: B).length = true := inb_iff.2 ⟨by omega, by omega⟩
    have i0 : inb ((rA.length : Nat) : Int) ((a :: rA).reverse ++ e :: B).length = true := inb_iff.2 ⟨by omega, by omega⟩
    have hw : w64 (((rA.length + 1 : Nat) : Int) - 1) = ((rA.length : Nat) : Int) := by rw [w64_id (by omega) (by omega)]; omega
    have hp : decide (((rA.length + 1 : Nat) : Int) > 0) = true := by rw [decide_eq_true_eq]; omega
    have hset : (((a :: rA).reverse ++ e :: B).set (rA.length + 1) a).set rA.length e = rA.reverse ++ e :: a :: B := by
      rw [List.reverse_cons, List.append_assoc]
      rw [List.set_append_right _ _ (by simp), List.set_append_right _ _ (by simp)]
      simp
    have hlen : ∀ v : BE, (((a :: rA).reverse ++ e :: B).set (rA.length + 1) v).length = ((a :: rA).reverse ++ e :: B).length := fun v => List.length_set
    have step : ref3Weigh_L4 ((((rA.length + 1 : Nat) : Int), ()), ((a :: rA).reverse ++ e :: B, ())) = bif ltE e a then some (.inl ((((rA.length : Nat) : Int), ()), (rA.reverse ++ e :: a :: B, ()))) else some (.inr ((), ((a :: rA).reverse ++ e :: B, ()))) := by
      unfold ref3Weigh_L4
      simp only [hw, hp, imp, cond_true, i1, i0, req_true, Int.toNat_natCast, Bool.true_and, hlen]
      rw [show getD' ((a :: rA).reverse ++ e :: B) (rA.length + 1) ((0 : Int), (((0 : Int), ((0 : Int), ((0 : Int), ()))), ((0 : Int), ()))) = e from g1, show getD' ((a :: rA).reverse ++ e :: B) rA.length ((0 : Int), (((0 : Int), ((0 : Int), ((0 : Int), ()))), ((0 : Int), ()))) = a from g0, ahead_spec, hset]
    rw [hk]
    cases hea : ltE e a
    · rw [hea, cond_false] at step
      rw [iterW_inr step]
      unfold sinkR
      rw [hea]
      simp
    · rw [hea, cond_true] at step
      rw [iterW_inl step, weighL4 e rA (a :: B) (by omega)]
      conv => rhs; unfold sinkR
      rw [hea]
      simp
def insS (S : List BE) (e : BE) : List BE := sinkR S.reverse e
theorem insS_len : ∀ (b S : List BE), (b.foldl insS S).length = S.length + b.length
  | [], S => by simp
  | d :: b, S => by
    rw [List.foldl_cons, insS_len b]
    unfold insS
    rw [sinkR_len, List.length_reverse, List.length_cons]
    omega
theorem insS_all : ∀ (b S : List BE), Srt' S → ND (S ++ b) → Srt' (b.foldl insS S) ∧ ∀ z, z ∈ b.foldl insS S ↔ z ∈ S ∨ z ∈ b
  | [], S, h, _ => ⟨h, by simp⟩
  | d :: b, S, h, hn => by
    obtain ⟨n1, n2, n3⟩ := List.pairwise_append.1 hn
    obtain ⟨n4, n5⟩ := List.pairwise_cons.1 n2
    have hs : Srt' (insS S d) := sinkR_srt d (by rw [List.reverse_reverse]; exact h) (fun x hx => n3 x (List.mem_reverse.1 hx) d List.mem_cons_self)
    have hm : ∀ z, z ∈ insS S d ↔ z = d ∨ z ∈ S := fun z => by unfold insS; rw [sinkR_perm, List.mem_reverse]
    obtain ⟨q1, q2⟩ := insS_all b (insS S d) hs (List.pairwise_append.2 ⟨hs.nd, n5, fun x hx y hy => by
      rcases (hm x).1 hx with rfl | hx
      · exact n4 y hy
      · exact n3 x hx y (List.mem_cons_of_mem _ hy)⟩)
    refine ⟨q1, fun z => ?_⟩
    rw [List.foldl_cons, q2, hm, List.mem_cons]
    constructor
    · rintro ((h | h) | h)
      · exact .inr (.inl h)
      · exact .inl h
      · exact .inr (.inr h)
    · rintro (h | h | h)
      · exact .inl (.inr h)
      · exact .inl (.inl h)
      · exact .inr h
theorem weighL3 (l : List BE) (hl : l.length ≤ 1000) : iterW (ref3Weigh_L3 ((l, ()), ())) (((0 : Int), ()), (l, ())) = some ((), (l.foldl insS [], ())) := by
  have := iterW_states (f := ref3Weigh_L3 ((l, ()), ())) l.length (fun i => (((i : Int), ()), ((l.take i).foldl insS [] ++ l.drop i, ()))) ((), (l.foldl insS [], ())) (fun i hi => by
    have hlen : ((l.take i).foldl insS []).length = i := by rw [insS_len, List.length_take, List.length_nil]; omega
    unfold ref3Weigh_L3
    simp only [show decide ((i : Int) < ((l.length : Nat) : Int)) = true by simp; omega, cond_true]
    have h4 := weighL4 l[i] ((l.take i).foldl insS []).reverse (l.drop (i + 1)) (by rw [List.length_reverse]; omega)
    rw [List.length_reverse, hlen, List.reverse_reverse, ← List.drop_eq_getElem_cons hi] at h4
    rw [h4, Option.bind_some, Option.bind_some, w64_id (n := (i : Int) + 1) (by omega) (by omega), List.take_succ_eq_append_getElem hi, List.foldl_append]
    rfl) (by
    rw [List.take_length, List.drop_length, List.append_nil]
    unfold ref3Weigh_L3
    simp)
  exact this
theorem weigh_spec (b : List BE) (hb : b.length ≤ 200) (hw : OKW b) : ∃ m, ref3Weigh b = some m ∧ Srt' m ∧ lookE m = b.foldl updE (lookE []) := by
  obtain ⟨q1, q2, q3, q4⟩ := addL_all b (a := []) List.Pairwise.nil (fun x hx => by cases hx) hw
  obtain ⟨s1, s2⟩ := insS_all (b.foldl addB []) [] List.Pairwise.nil (by rw [List.nil_append]; exact q1)
  refine ⟨_, ?_, s1, ?_⟩
  · unfold ref3Weigh
    rw [weighL1 b hb hw, Option.bind_some, weighL3 _ (by simp only [List.length_nil] at q3; omega), Option.bind_some]
  · rw [look_perm s1.nd q1 (fun z => by rw [s2]; simp), q4]
end Go.Proofs.Ytfppnefcicdnfaa
namespace Go.Proofs.Ytfppnefcicdnfaa
open Go.Den
set_option linter.unusedVariables false
set_option linter.unusedSimpArgs false
set_option maxRecDepth 100000

/-! what is left of a book -/
def trL (l : List BE) (least : Int) : List BE := l.filter fun x => !(decide (x.2.2.1 < least))
theorem trim_L2 (l : List BE) (least : Int) (hl : l.length ≤ 1000000) : ∀ (k w j : Nat) (ys : List BE), j + k = l.length → w ≤ j → ys.length = l.length → ys.take w = (l.take j).filter (fun x => !(decide (x.2.2.1 < least))) → ys.drop j = l.drop j →
    ∃ (w' : Nat) (zs : List BE), iterW (bookTrim_L2 least) (((w : Int), (j : Int), ()), (ys, ())) = some (((w' : Int), ()), (zs, ())) ∧ w' ≤ l.length ∧ zs.length = l.length ∧ zs.take w' = trL l least := by
  intro k
  induction k with
  | zero =>
    intro w j ys hj hw hy h1 h2
    have : j = l.length := by omega
    subst this
    refine ⟨w, ys, iterW_inr ?_, hw, hy, by rw [h1, List.take_length]; rfl⟩
    unfold bookTrim_L2
    simp only [show decide (((l.length : Nat) : Int) < ((ys.length : Nat) : Int)) = false by simp; omega, cond_false]
  | succ k ih =>
    intro w j ys hj hw hy h1 h2
    have hjl : j < l.length := by omega
    have hjy : j < ys.length := by omega
    have hyj : ys[j] = l[j] := by
      have e1 : (ys.drop j)[0]? = (l.drop j)[0]? := by rw [h2]
      rw [List.getElem?_drop, List.getElem?_drop, Nat.add_zero, List.getElem?_eq_getElem hjy, List.getElem?_eq_getElem hjl] at e1
      exact Option.some.inj e1
    have hdr : ∀ zs : List BE, zs.drop j = l.drop j → zs.drop (j + 1) = l.drop (j + 1) := fun zs h => by
      rw [← List.drop_drop, ← List.drop_drop, h]
    have hg : getD' ys j dBE = l[j] := by unfold getD'; rw [getD_atB ys j hjy, hyj]
    have htk : (l.take (j + 1)).filter (fun x => !(decide (x.2.2.1 < least))) = (l.take j).filter (fun x => !(decide (x.2.2.1 < least))) ++ (if (!(decide (l[j].2.2.1 < least))) = true then [l[j]] else []) := by
      rw [List.take_succ_eq_append_getElem hjl, List.filter_append, List.filter_cons, List.filter_nil]
    by_cases hk : (decide (l[j].2.2.1 < least)) = true
    · obtain ⟨w', zs, q1, q2⟩ := ih w (j + 1) ys (by omega) (by omega) hy (by rw [htk, hk, h1]; simp) (hdr ys h2)
      refine ⟨w', zs, ?_, q2⟩
      rw [iterW_inl (y := (((w : Int), ((j + 1 : Nat) : Int), ()), (ys, ())))]
      · exact q1
      · unfold bookTrim_L2
        simp only [show decide ((j : Int) < ((ys.length : Nat) : Int)) = true by simp; omega, cond_true]
        rw [inb_iff.2 ⟨by omega, by omega⟩, req_true, Int.toNat_natCast]
        rw [hg, hk, Bool.not_true, cond_false, Option.bind_some, w64_id (n := (j : Int) + 1) (by omega) (by omega)]
        rfl
    · have hk := Bool.eq_false_iff.2 hk
      have hws : w < ys.length := by omega
      obtain ⟨w', zs, q1, q2⟩ := ih (w + 1) (j + 1) (ys.set w l[j]) (by omega) (by omega) (by rw [List.length_set]; exact hy) (by
        rw [htk, hk, ← h1, List.take_succ_eq_append_getElem (by rw [List.length_set]; exact hws), List.getElem_set_self, List.take_set_of_le (Nat.le_refl _)]
        simp) (by
        rw [List.drop_set_of_lt (by omega)]
        exact hdr ys h2)
      refine ⟨w', zs, ?_, q2⟩
      rw [iterW_inl (y := ((((w + 1 : Nat) : Int), ((j + 1 : Nat) : Int), ()), (ys.set w l[j], ())))]
      · exact q1
      · unfold bookTrim_L2
        simp only [show decide ((j : Int) < ((ys.length : Nat) : Int)) = true by simp; omega, cond_true]
        rw [inb_iff.2 ⟨by omega, by omega⟩, req_true, Int.toNat_natCast]
        rw [hg, hk, Bool.not_false, cond_true, inb_iff.2 ⟨by omega, by omega⟩, req_true, Option.bind_some, w64_id (n := (j : Int) + 1) (by omega) (by omega), w64_id (n := (w : Int) + 1) (by omega) (by omega), Int.toNat_natCast]
        rfl
theorem trim_spec (l : List BE) (least : Int) (hl : l.length ≤ 1000) : bookTrim l least = some (if chkB l = 0 then (trL l least, (0, ())) else ([], (chkB l, ()))) := by
  unfold bookTrim
  rw [check_specB l hl, Option.bind_some]
  by_cases hc : chkB l = 0
  rotate_left
  · rw [bne_t hc, cond_true, if_neg hc]
  rw [bne_f hc, cond_false, if_pos hc, cloneB l (by omega), Option.bind_some]
  have key : ∀ k i : Nat, i + k = l.length → (∀ j, j < i → (decide ((l.getD j dBE).2.2.1 < least)) = false) → Option.bind (iterW (bookTrim_L1 l least) (((i : Int), ()), ())) (Sum.elim (fun _ => some (l, ((0 : Int), ()))) some) = some (trL l least, (0, ())) := by
    have pre : ∀ i, i ≤ l.length → (∀ j, j < i → (decide ((l.getD j dBE).2.2.1 < least)) = false) → (l.take i).filter (fun x => !(decide (x.2.2.1 < least))) = l.take i := fun i hi h => by
      rw [List.filter_eq_self]
      intro x hx
      obtain ⟨j, hj, rfl⟩ := List.mem_iff_getElem.1 hx
      rw [List.length_take] at hj
      rw [List.getElem_take, ← getD_atB l j (by omega), h j (by omega)]
      rfl
    intro k
    induction k with
    | zero =>
      intro i hi h
      have : i = l.length := by omega
      subst this
      rw [iterW_inr (r := .inl ((), ())) (by unfold bookTrim_L1; simp)]
      have := pre l.length (Nat.le_refl _) h
      rw [List.take_length] at this
      show some (l, ((0 : Int), ())) = some (trL l least, (0, ()))
      unfold trL
      rw [this]
    | succ k ih =>
      intro i hi h
      have hil : i < l.length := by omega
      have hg : getD' l i dBE = l.getD i dBE := rfl
      cases hp : (decide ((l.getD i dBE).2.2.1 < least))
      · rw [iterW_inl (y := ((((i + 1 : Nat) : Int), ()), ()))]
        · exact ih (i + 1) (by omega) fun j hj => by
            by_cases e : j = i
            · subst e; exact hp
            · exact h j (by omega)
        · unfold bookTrim_L1
          simp only [show decide ((i : Int) < ((l.length : Nat) : Int)) = true by simp; omega, cond_true]
          rw [inb_iff.2 ⟨by omega, by omega⟩, req_true, Int.toNat_natCast, hg, hp, cond_false, w64_id (n := (i : Int) + 1) (by omega) (by omega)]
          rfl
      · obtain ⟨w', zs, q1, q2, q3, q4⟩ := trim_L2 l least (by omega) (l.length - (i + 1)) i (i + 1) l (by omega) (by omega) rfl (by
          rw [List.take_succ_eq_append_getElem hil, List.filter_append, List.filter_cons, List.filter_nil, ← getD_atB l i hil, hp, pre i (by omega) h]
          simp) rfl
        have hf : bookTrim_L1 l least (((i : Int), ()), ()) = some (.inr (.inr (trL l least, (0, ())))) := by
          unfold bookTrim_L1
          simp only [show decide ((i : Int) < ((l.length : Nat) : Int)) = true by simp; omega, cond_true]
          rw [inb_iff.2 ⟨by omega, by omega⟩, req_true, Int.toNat_natCast, hg, hp, cond_true, beq_f (show ¬ (i : Int) = -1 by omega), cond_false, w64_id (n := (i : Int) + 1) (by omega) (by omega)]
          rw [show ((i : Int) + 1) = ((i + 1 : Nat) : Int) by omega, q1, Option.bind_some]
          simp only [Int.toNat_natCast]
          rw [show boundsI (w' : Int) ((zs.length : Nat) : Int) zs.length = true by simp only [boundsI, Bool.and_eq_true, decide_eq_true_eq]; omega, req_true]
          rw [show ∀ ys : List BE, boundsI 0 (w' : Int) (zs.take w' ++ ys).length = true from fun ys => by
            simp only [boundsI, Bool.and_eq_true, decide_eq_true_eq, List.length_append, List.length_take]
            omega, req_true, ← q4]
          rw [show ∀ ys : List BE, (zs.take w' ++ ys).take w' = zs.take w' from fun ys => by
            rw [List.take_append_of_le_length (by rw [List.length_take]; omega), List.take_take, Nat.min_self]]
          rfl
        rw [iterW_inr hf]
        rfl
  exact key l.length 0 (by omega) (fun j hj => by omega)

theorem keep_spec (l : List BE) (least : Int) (hl : l.length ≤ 1000) : iterW (law3BookMerges_L1 l least) ((([] : List BE), (0 : Int), ()), ()) = some ((trL l least, ()), ()) := by
  have := iter_foldlB l (law3BookMerges_L1 l least) (fun s d => if (!(decide (d.2.2.1 < least))) = true then s ++ [d] else s) (fun s => ((s, ()), ())) (fun i s => s.length ≤ i) (fun i hi s h => by
    refine ⟨?_, ?_⟩
    · unfold law3BookMerges_L1
      simp only [show decide ((i : Int) < ((l.length : Nat) : Int)) = true by simp; omega, cond_true]
      rw [at_natB l i hi, Option.bind_some, w64_id (n := (i : Int) + 1) (by omega) (by omega)]
      by_cases c : l[i].2.2.1 < least
      · rw [decide_eq_true c, show decide (l[i].2.2.1 ≥ least) = false by simp; omega, cond_false, Bool.not_true, if_neg (by simp)]
        rfl
      · rw [decide_eq_false c, show decide (l[i].2.2.1 ≥ least) = true by simp; omega, cond_true, Bool.not_false, if_pos rfl, room_ok (by simp only [List.length_cons, List.length_nil]; omega), req_true]
        rfl
    · split
      · rw [List.length_append]; simp; omega
      · omega) (fun s _ => by unfold law3BookMerges_L1; simp) [] (by simp)
  rw [this]
  have e : ∀ (m s : List BE), m.foldl (fun s d => if (!(decide (d.2.2.1 < least))) = true then s ++ [d] else s) s = s ++ trL m least := by
    intro m
    induction m with
    | nil => intro s; simp [trL]
    | cons d m ih =>
      intro s
      rw [List.foldl_cons, ih]
      unfold trL
      rw [List.filter_cons]
      split
      · simp
      · rfl
  rw [e, List.nil_append]
theorem look_fold : ∀ (l : List BE), ND l → ∀ f : Int × Mv → Option Int, (∀ z ∈ l, f (keyE z) = none) → l.foldl updE f = fun k => match lookE l k with
    | some w => some w
    | none => f k
  | [], _, f, _ => rfl
  | d :: l, h, f, hf => by
    obtain ⟨h1, h2⟩ := List.pairwise_cons.1 h
    rw [List.foldl_cons, look_fold l h2 (updE f d) (fun z hz => by
      unfold updE
      rw [if_neg (fun e => h1 z hz e.symm)]
      exact hf z (List.mem_cons_of_mem _ hz))]
    funext k
    rw [lookE_cons]
    by_cases e : keyE d = k
    · subst e
      rw [if_pos rfl, lookE_none (fun z hz q => h1 z hz q.symm)]
      unfold updE
      rw [if_pos rfl, hf d List.mem_cons_self]
    · rw [if_neg e]
      cases lookE l k with
      | some w => rfl
      | none =>
        show updE f d k = f k
        unfold updE
        rw [if_neg (fun q => e q.symm)]
theorem law3BookMerges_true (a b : List BE) (least : Int) (ha : Rng (.sl (.st (.int .u64) (.st (.st (.int .i64) (.st (.int .i64) (.st (.int .i64) .nil))) (.st (.int .i64) .nil)))) a) (hb : Rng (.sl (.st (.int .u64) (.st (.st (.int .i64) (.st (.int .i64) (.st (.int .i64) .nil))) (.st (.int .i64) .nil)))) b) (hl : Rng (.int .i64) least) : law3BookMerges a b least = some true := by
  have la : (a.take 40).length ≤ 40 := by rw [List.length_take]; omega
  have lb : (b.take 40).length ≤ 40 := by rw [List.length_take]; omega
  unfold law3BookMerges
  rw [books_true, Option.bind_some, Bool.not_true, cond_false, shelf_spec, Option.bind_some, shelf_spec, Option.bind_some]
  generalize a.take 40 = x at la ⊢
  generalize b.take 40 = y at lb ⊢
  rw [merge_spec x y la lb, Option.bind_some, trim_spec x least (by omega), Option.bind_some, shelved_spec x (by omega), Option.bind_some, shelved_spec y (by omega), Option.bind_some, check_specB x (by omega), Option.bind_some]
  by_cases cx : chkB x = 0
  · obtain ⟨wx, sx⟩ := chkB_all cx
    simp only [if_pos cx]
    have e1 : ((((chkB x != chkB x) || ((0 : Int) != chkB x)) || ((chkB x != 0) && (decide ((((trL x least).length : Nat) : Int) > 0))))) = false := by rw [cx]; rfl
    rw [e1, cond_false, beq_t cx, cond_true, keep_spec x least (by omega), Option.bind_some, same_spec3 _ _ (by unfold trL; have := List.length_filter_le (fun x : BE => !(decide (x.2.2.1 < least))) x; omega), Option.bind_some, decide_eq_true rfl, Bool.not_true, cond_false, Option.bind_some, Sum.elim_inl]
    by_cases cy : chkB y = 0
    · obtain ⟨wy, sy⟩ := chkB_all cy
      obtain ⟨q1, q2, q3, q4⟩ := insL_all y sx wx wy
      simp only [if_pos cy]
      rw [bne_f cy, cond_false, beq_t (rfl : (0 : Int) = 0), cond_true]
      rw [room_ok (by simp only [List.length_nil]; omega), req_true, room_ok (by simp only [List.length_append, List.length_nil]; omega), req_true]
      obtain ⟨m, hm, sm, lm⟩ := weigh_spec (([] : List BE) ++ x ++ y) (by simp only [List.nil_append, List.length_append]; omega) (fun z hz => by
        rw [List.nil_append] at hz
        rcases List.mem_append.1 hz with hz | hz
        · exact wx z hz
        · exact wy z hz)
      have em : y.foldl insB x = m := by
        refine look_unique q1 sm ?_
        rw [q4, lm, List.nil_append, List.foldl_append]
        congr 1
        rw [look_fold x sx.nd (fun k => lookE [] k) (fun z hz => rfl)]
        funext k
        cases lookE x k with
        | some w => rfl
        | none => rfl
      rw [hm, Option.bind_some, same_spec3 _ _ (by omega), Option.bind_some, decide_eq_true em]
      rfl
    · simp only [if_neg cy]
      rw [bne_t cy, cond_true]
      simp
  · simp only [if_neg cx]
    have e1 : ((((chkB x != chkB x) || (chkB x != chkB x)) || ((chkB x != 0) && (decide ((((([] : List BE)).length : Nat) : Int) > 0))))) = false := by simp
    rw [e1, cond_false, beq_f cx, cond_false, Option.bind_some, Sum.elim_inl]
    rw [bne_t cx, cond_true]
    simp
end Go.Proofs.Ytfppnefcicdnfaa
