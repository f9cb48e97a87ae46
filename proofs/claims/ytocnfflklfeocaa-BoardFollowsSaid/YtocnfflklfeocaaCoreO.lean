/- The reference's moves; they are the program's. No condition of its own. -/
import Derived.Test.YtocnfflklfeocaaCoreN
namespace Go.Proofs.Ytocnfflklfeocaa
open Go.Den
set_option linter.unusedVariables false
set_option linter.unusedSimpArgs false
set_option maxRecDepth 100000

theorem iter_appO {A R : Type} (n B : Nat) (c : Int) (f : (((List A) × Int × Unit) × Unit) → Option ((((List A) × Int × Unit) × Unit) ⊕ R)) (F : Nat → List A) (fin : List A → R) (a0 : List A) (hF : ∀ i, i < n → (F i).length ≤ B)
    (hs : ∀ i, i < n → ∀ a : List A, a.length ≤ a0.length + i * B → f ((a, c + (i : Int), ()), ()) = some (.inl ((a ++ F i, c + (i : Int) + 1, ()), ()))) (he : ∀ a, f ((a, c + (n : Int), ()), ()) = some (.inr (fin a))) :
    iterW f ((a0, c, ()), ()) = some (fin (a0 ++ (List.range n).flatMap F)) := by
  have hl : ∀ i, i ≤ n → (a0 ++ (List.range i).flatMap F).length ≤ a0.length + i * B := fun i hi => by
    have := flatMap_len F B (List.range i) (fun x hx => hF x (by rw [List.mem_range] at hx; omega))
    rw [List.length_range] at this
    rw [List.length_append]
    omega
  have := iterW_states (f := f) n (fun i => ((a0 ++ (List.range i).flatMap F, c + (i : Int), ()), ())) (fin (a0 ++ (List.range n).flatMap F)) (fun i hi => by
    rw [hs i hi _ (hl i (by omega)), List.range_succ, List.flatMap_append, ← List.append_assoc]
    simp [Int.add_assoc]) (he _)
  simpa using this

def mvOk (r : Rules) (p : Place) (m : Mv) : Bool := decide ((-1 ≤ m.1 ∧ m.1 < ((p.1.length : Nat) : Int)) ∧ (0 ≤ m.2.1 ∧ m.2.1 < ((p.1.length : Nat) : Int)) ∧ (0 ≤ m.2.2.1 ∧ m.2.2.1 < ((r.pieces.length : Nat) : Int)))
def goOk (r : Rules) (p : Place) (m : Mv) : Bool := mineB p (cellI p m.1) && ((becomes r p (kindOf (cellI p m.1)) m.2.1 == m.2.2.1) && (pieceI r (kindOf (cellI p m.1))).2.2.2.1.any (fun w => decide (m.2.1 ∈ wayS r p m.1 w)))
def allowedB (r : Rules) (p : Place) (m : Mv) : Bool := mvOk r p m && (bif m.1 == -1 then decide (handI p m.2.2.1 > 0) && putOk r p m.2.1 else goOk r p m)
def colFrom (p : Place) (W x0 : Int) : Nat → Nat → Bool
  | _, 0 => true
  | i, n + 1 => (cellI p (x0 + (i : Int) * W) != 0) && colFrom p W x0 (i + 1) n
theorem colFrom_any (p : Place) (W x0 : Int) : ∀ n i, colFrom p W x0 i n = !((List.range n).any fun j => cellI p (x0 + ((i + j : Nat) : Int) * W) == 0)
  | 0, i => rfl
  | n + 1, i => by
    rw [colFrom, colFrom_any p W x0 n (i + 1), List.range_succ_eq_map, List.any_cons, List.any_map, Bool.not_or]
    have e : ((fun j => cellI p (x0 + ((i + j : Nat) : Int) * W) == 0) ∘ Nat.succ) = fun j => cellI p (x0 + ((i + 1 + j : Nat) : Int) * W) == 0 := by
      funext j
      simp only [Function.comp]
      rw [show i + j.succ = i + 1 + j by omega]
    rw [e]
    rfl
theorem colFrom_colF (p : Place) (W x0 : Int) (y : Nat) : colFrom p W x0 0 y = colF p W x0 y := by
  rw [colFrom_any, colF_any]
  simp
theorem up_iter {r : Rules} {p : Place} (h : Valid r p) {m : Mv} (hf : r.falls = true) (h0 : 0 ≤ m.2.1) (h1 : m.2.1 < r.width * r.height) : ∀ (n i : Nat), (i : Int) + n = m.2.1.tdiv r.width →
    (Option.bind (α := ((Unit) × (Unit)) ⊕ Bool) (iterW (ref1Allowed_L1 r m p) ((m.2.1.tmod r.width + (i : Int) * r.width, ()), ())) (Sum.elim (fun x11 => some true) some)) = some (colFrom p r.width (m.2.1.tmod r.width) i n)
  | 0, i, hi => by
    have e := Int.tmod_add_tdiv_mul m.2.1 r.width
    rw [iterW_inr (r := .inl ((), ())) (by
      unfold ref1Allowed_L1
      have : decide (m.2.1.tmod r.width + (i : Int) * r.width < m.2.1) = false := by
        rw [decide_eq_false_iff_not, show (i : Int) = m.2.1.tdiv r.width by omega]; omega
      simp only [this, Bool.and_false, cond_false])]
    rfl
  | n + 1, i, hi => by
    have hr := h.r0
    have := hr.w8; have := hr.h8; have := hr.w1; have := hr.h1
    have ha := hr.area
    have hd := div_rng hr h0 h1
    have e := Int.tmod_add_tdiv_mul m.2.1 r.width
    have hb : onB r (m.2.1.tmod r.width) (i : Int) = true := onB_iff.2 ⟨hd.1.1, hd.1.2, by omega, by omega⟩
    have hs := sq_rng hr hb
    unfold sq at hs
    have hle : ((i : Int) + 1) * r.width ≤ m.2.1.tdiv r.width * r.width := Int.mul_le_mul_of_nonneg_right (by omega) (by omega)
    rw [Int.add_mul, Int.one_mul] at hle
    have hlt : (r.2.2.2.2.2.1 && decide (m.2.1.tmod r.width + (i : Int) * r.width < m.2.1)) = true := by
      rw [show r.2.2.2.2.2.1 = true from hf, Bool.true_and, decide_eq_true_eq]; omega
    have hat := at_cell (p := p) (s := m.2.1.tmod r.width + (i : Int) * r.width) (by omega) (by rw [h.cells]; omega)
    cases hc : (cellI p (m.2.1.tmod r.width + (i : Int) * r.width) == 0) with
    | true =>
      rw [iterW_inr (r := .inr false) (by
        unfold ref1Allowed_L1
        simp only [hlt, cond_true, hat, Option.bind_some, hc])]
      simp [colFrom, bne, hc]
    | false =>
      have w1 : w64 (m.2.1.tmod r.width + (i : Int) * r.width + r.2.1) = m.2.1.tmod r.width + ((i + 1 : Nat) : Int) * r.width := by
        rw [show ((i + 1 : Nat) : Int) = (i : Int) + 1 by omega, Int.add_mul, Int.one_mul]
        rw [w64_id (by show _ ≤ m.2.1.tmod r.width + (i : Int) * r.width + r.width; omega) (by show m.2.1.tmod r.width + (i : Int) * r.width + r.width ≤ _; omega)]
        show m.2.1.tmod r.width + (i : Int) * r.width + r.width = _
        omega
      rw [iterW_inl (y := ((m.2.1.tmod r.width + ((i + 1 : Nat) : Int) * r.width, ()), ())) (by
        unfold ref1Allowed_L1
        simp only [hlt, cond_true, hat, Option.bind_some, hc, cond_false, w1])]
      rw [up_iter h hf h0 h1 n (i + 1) (by omega)]
      simp [colFrom, bne, hc]
theorem far_eq {r : Rules} {p : Place} (h : Valid r p) {t : Int} (h0 : 0 ≤ t) (h1 : t < r.width * r.height) : ref1Far r p.2.2.1 (w64 (t.tdiv r.2.1)) = lastB r p.turn t := by
  have hr := h.r0
  have := hr.w8; have := hr.h8; have := hr.w1; have := hr.h1
  have hd := div_rng hr h0 h1
  have w1 : w64 (t.tdiv r.2.1) = t.tdiv r.width := w64_id (by show _ ≤ t.tdiv r.width; omega) (by show t.tdiv r.width ≤ _; omega)
  have w2 : w64 (r.2.2.1 - 1) = r.height - 1 := w64_id (by show _ ≤ r.height - 1; omega) (by show r.height - 1 ≤ _; omega)
  unfold ref1Far lastB
  rw [w1, w2, show p.2.2.1 = p.turn from rfl]
  rcases h.turn with e | e <;> rw [e] <;> simp
theorem allowed_spec {r : Rules} {p : Place} (h : Valid r p) (m : Mv) : ref1Allowed r p m = some (allowedB r p m) := by
  have hr := h.r0
  have := hr.w8; have := hr.h8; have := hr.w1; have := hr.h1
  have ha := hr.area
  have hlen : ((p.1.length : Nat) : Int) = r.width * r.height := h.cells
  have ht6 : r.2.2.2.1.length ≤ 6 := hr.t6
  unfold ref1Allowed allowedB
  rw [w64_id (n := ((p.1.length : Nat) : Int) - 1) (by omega) (by omega), w64_id (n := ((r.2.2.2.1.length : Nat) : Int) - 1) (by omega) (by omega)]
  have hcond : (((!(ref1In m.1 (-1 : Int) (((p.1.length : Nat) : Int) - (1 : Int)))) || (!(ref1In m.2.1 (0 : Int) (((p.1.length : Nat) : Int) - (1 : Int))))) || (!(ref1In m.2.2.1 (0 : Int) (((r.2.2.2.1.length : Nat) : Int) - (1 : Int))))) = !mvOk r p m := by
    unfold ref1In mvOk
    rw [Bool.eq_iff_iff]
    simp only [Bool.or_eq_true, Bool.not_eq_true', Bool.and_eq_false_iff, decide_eq_false_iff_not]
    show _ ↔ ¬ ((-1 ≤ m.1 ∧ m.1 < ((p.1.length : Nat) : Int)) ∧ (0 ≤ m.2.1 ∧ m.2.1 < ((p.1.length : Nat) : Int)) ∧ (0 ≤ m.2.2.1 ∧ m.2.2.1 < ((r.2.2.2.1.length : Nat) : Int)))
    omega
  rw [hcond]
  cases hok : mvOk r p m with
  | false => rfl
  | true =>
    unfold mvOk at hok
    rw [decide_eq_true_eq] at hok
    obtain ⟨⟨a1, a2⟩, ⟨b1, b2⟩, c1, c2⟩ := hok
    rw [Bool.not_true, cond_false, Bool.true_and]
    have hb2 : m.2.1 < r.width * r.height := by omega
    have hq : (r.2.1 != 0) = true := bne_t (by show ¬ r.width = 0; omega)
    by_cases hm : m.1 = -1
    · rw [beq_t hm, cond_true, cond_true]
      have hin : inb p.2.2.1 2 = true := inb_iff.2 (by have := h.turn; show 0 ≤ p.turn ∧ p.turn < ((2 : Nat) : Int); omega)
      have hh := at_hand (p := p) (k := m.2.2.1) c1 (by rw [hand_len h]; exact c2)
      have hhr := handI_rng h m.2.2.1
      have hat := at_cell (p := p) (s := m.2.1) b1 b2
      have hga : ∀ b : Bool, gat b (0 : Int) p.1 m.2.1 = some (bif b then cellI p m.2.1 else 0) := fun b => by
        cases b
        · rfl
        · exact hat
      rw [hin, req_true, hh, Option.bind_some, hga, Option.bind_some]
      by_cases hz : handI p m.2.2.1 = 0
      · simp [hz]
      · have hpos : decide (handI p m.2.2.1 > 0) = true := by simp; omega
        rw [beq_f hz, hpos, Bool.not_false, cond_true, Bool.false_or, Bool.true_and]
        unfold putOk
        cases hc : (cellI p m.2.1 == 0) with
        | false => simp [bne, hc]
        | true =>
          have hne : (cellI p m.2.1 != 0) = false := by simp only [bne, hc]; rfl
          rw [hne, cond_false, hq, req_true, Bool.true_and]
          cases hf : r.falls with
          | false =>
            rw [iterW_inr (r := .inl ((), ())) (by
              unfold ref1Allowed_L1
              rw [show r.2.2.2.2.2.1 = false from hf]
              rfl)]
            rfl
          | true =>
            have hd := div_rng hr b1 hb2
            have := up_iter h hf b1 hb2 (m.2.1.tdiv r.width).toNat 0 (by omega)
            rw [colFrom_colF] at this
            unfold filledB
            simpa using this
    · rw [beq_f hm, cond_false, cond_false]
      have ha1 : 0 ≤ m.1 := by omega
      have ha2 : m.1 < r.width * r.height := by omega
      have hat := at_cell (p := p) (s := m.1) ha1 a2
      have hc := cell_small h m.1
      rw [hat, Option.bind_some, refMine_spec _ _ hc.1 hc.2, Option.bind_some]
      unfold goOk
      rw [show (decide (cellI p m.1 > 0) && (cellI p m.1 - 1).tmod 2 == p.2.2.1) = mineB p (cellI p m.1) from rfl]
      cases hmine : mineB p (cellI p m.1) with
      | false => rfl
      | true =>
        have hcp : cellI p m.1 > 0 := by unfold mineB at hmine; simp at hmine; exact hmine.1
        have hk := kind_rng h hcp
        obtain ⟨hpa, hmem⟩ := at_piece (r := r) hk.2.1 hk.2.2
        rw [Bool.not_true, cond_false, hk.1, hpa, Option.bind_some, hq, far_eq h b1 hb2, Bool.true_and]
        have hpr := h.r0.prom _ hmem
        have himp : ∀ b, imp b true = true := fun b => by cases b <;> rfl
        have hbec : (bif (((pieceI r (kindOf (cellI p m.1))).2.2.1 != (0 : Int)) && lastB r p.turn m.2.1) then some (((w64 ((pieceI r (kindOf (cellI p m.1))).2.2.1 - (1 : Int))), ()), ()) else some ((kindOf (cellI p m.1), ()), ())) = some ((becomes r p (kindOf (cellI p m.1)) m.2.1, ()), ()) := by
          have ht6' := hr.t6
          unfold becomes
          rw [w64_id (by omega) (by omega)]
          by_cases hz : (pieceI r (kindOf (cellI p m.1))).2.2.1 = 0
          · simp [hz]
          · rw [bne_t hz, show decide ((pieceI r (kindOf (cellI p m.1))).2.2.1 > 0) = true by simp; omega]
            cases lastB r p.turn m.2.1 <;> rfl
        rw [himp, req_true, hbec, Option.bind_some]
        simp only [bne]
        cases hb : (becomes r p (kindOf (cellI p m.1)) m.2.1 == m.2.2.1) with
        | false => rfl
        | true =>
          rw [Bool.not_true, cond_false, Option.bind_some, Bool.true_and]
          generalize hP : pieceI r (kindOf (cellI p m.1)) = P at *
          have hw16 := hr.ways P hmem
          have hL := iterW_any P.2.2.2.1 (fun w => decide (m.2.1 ∈ wayS r p m.1 w)) (ref1Allowed_L2 P r p m) (.inr true) (.inl ((), ())) (fun i hi => by
            unfold ref1Allowed_L2
            simp only [show decide ((i : Int) < ((P.2.2.2.1.length : Nat) : Int)) = true by simp; omega, cond_true]
            rw [at?_eq _ _ (by omega) (by omega), Option.bind_some]
            simp only [Int.toNat_natCast]
            rw [reach_spec h (h.wayOk hmem (List.getElem_mem hi)) ha1 ha2, Option.bind_some, w64_id (n := (i : Int) + 1) (by omega) (by omega)]
            cases decide (m.2.1 ∈ wayS r p m.1 P.2.2.2.1[i]) <;> rfl) (by
            unfold ref1Allowed_L2
            simp)
          rw [hL]
          cases P.2.2.2.1.any (fun w => decide (m.2.1 ∈ wayS r p m.1 w)) <;> rfl
def at3 (r : Rules) (p : Place) (i j k : Nat) : List Mv := bif allowedB r p ((i : Int) - 1, ((j : Int), ((k : Int), ()))) then [((i : Int) - 1, ((j : Int), ((k : Int), ())))] else []
def at2 (r : Rules) (p : Place) (i j : Nat) : List Mv := (List.range r.2.2.2.1.length).flatMap (at3 r p i j)
def at1 (r : Rules) (p : Place) (i : Nat) : List Mv := (List.range p.1.length).flatMap (at2 r p i)
/-- the moves of a valid position -/
def movesOf (r : Rules) (p : Place) : List Mv := (List.range (p.1.length + 1)).flatMap (at1 r p)
theorem at3_len (r : Rules) (p : Place) (i j k : Nat) : (at3 r p i j k).length ≤ 1 := by unfold at3; cases allowedB r p ((i : Int) - 1, ((j : Int), ((k : Int), ()))) <;> simp
theorem at2_len {r : Rules} {p : Place} (h : Valid r p) (i j : Nat) : (at2 r p i j).length ≤ 6 := Nat.le_trans (fm_len1 _ _ (at3_len r p i j)) h.r0.t6
theorem at1_len {r : Rules} {p : Place} (h : Valid r p) (i : Nat) : (at1 r p i).length ≤ 384 := by
  refine Nat.le_trans (flatMap_len _ 6 _ fun j _ => at2_len h i j) ?_
  have := area_len h
  rw [List.length_range]; omega
theorem refMoves_spec {r : Rules} {p : Place} (h : Valid r p) : ref1Moves r p = some (movesOf r p) := by
  have h64 := area_len h
  have ht6 : r.2.2.2.1.length ≤ 6 := h.r0.t6
  unfold ref1Moves
  rw [iter_appO (A := Mv) (p.1.length + 1) 384 (-1) (ref1Moves_L1 p r) (at1 r p) (fun a => ((a, ()), ())) [] (fun i _ => at1_len h i) (fun i hi a hal => ?_) (fun a => ?_)]
  · rfl
  · have hal2 : a.length ≤ 65 * 384 := by
      have : i * 384 ≤ 65 * 384 := Nat.mul_le_mul_right _ (by omega)
      simp only [List.length_nil] at hal; omega
    unfold ref1Moves_L1
    simp only [show decide ((-1 : Int) + (i : Int) < ((p.1.length : Nat) : Int)) = true by simp; omega, cond_true]
    rw [iter_app (A := Mv) p.1.length 6 (ref1Moves_L2 p r ((a, (-1 : Int) + (i : Int), ()), ())) (at2 r p i) (fun a => ((a, ()), ())) a (fun j _ => at2_len h i j) (fun j hj a2 ha2 => ?_) (fun a2 => ?_)]
    · simp only [Option.bind_some]
      rw [w64_id (n := (-1 : Int) + (i : Int) + 1) (by omega) (by omega)]
      rfl
    · have ha22 : a2.length ≤ 65 * 384 + 384 := by
        have : j * 6 ≤ 64 * 6 := Nat.mul_le_mul_right _ (by omega)
        omega
      unfold ref1Moves_L2
      simp only [show decide ((j : Int) < ((p.1.length : Nat) : Int)) = true by simp; omega, cond_true]
      rw [iter_app (A := Mv) r.2.2.2.1.length 1 (ref1Moves_L3 r p ((a, (-1 : Int) + (i : Int), ()), ()) ((a2, (j : Int), ()), ())) (at3 r p i j) (fun a => ((a, ()), ())) a2 (fun k _ => at3_len r p i j k) (fun k hk a3 ha3 => ?_) (fun a3 => ?_)]
      · simp only [Option.bind_some]
        rw [w64_id (n := (j : Int) + 1) (by omega) (by omega)]
        rfl
      · unfold ref1Moves_L3
        simp only [show decide ((k : Int) < ((r.2.2.2.1.length : Nat) : Int)) = true by simp; omega, cond_true]
        rw [allowed_spec h, Option.bind_some, w64_id (n := (k : Int) + 1) (by omega) (by omega)]
        unfold at3
        rw [show (-1 : Int) + (i : Int) = (i : Int) - 1 by omega]
        have hroom : room (a3.length + 1) 24 = true := room_ok (by omega)
        cases allowedB r p ((i : Int) - 1, ((j : Int), ((k : Int), ()))) <;> simp [hroom, req_true]
      · unfold ref1Moves_L3
        simp
    · unfold ref1Moves_L2
      simp
  · unfold ref1Moves_L1
    have : decide ((-1 : Int) + ((p.1.length + 1 : Nat) : Int) < ((p.1.length : Nat) : Int)) = false := by simp; omega
    simp only [this, cond_false]
theorem pw_range (n : Nat) (F : Nat → List Mv) (h1 : ∀ i, i < n → (F i).Pairwise (fun x y => mvLt x y = true)) (h2 : ∀ i j, i < j → ∀ x ∈ F i, ∀ y ∈ F j, mvLt x y = true) : ((List.range n).flatMap F).Pairwise (fun x y => mvLt x y = true) := by
  rw [List.pairwise_flatMap]
  exact ⟨fun i hi => h1 i (List.mem_range.1 hi), List.pairwise_lt_range.imp fun hij => h2 _ _ hij⟩
theorem at3_mem {r : Rules} {p : Place} {i j k : Nat} {x : Mv} (h : x ∈ at3 r p i j k) : x = ((i : Int) - 1, ((j : Int), ((k : Int), ()))) ∧ allowedB r p x = true := by
  unfold at3 at h
  cases hb : allowedB r p ((i : Int) - 1, ((j : Int), ((k : Int), ()))) with
  | false => simp [hb] at h
  | true =>
    rw [hb, cond_true, List.mem_singleton] at h
    rw [h]; exact ⟨rfl, hb⟩
theorem at2_mem {r : Rules} {p : Place} {i j : Nat} {x : Mv} (h : x ∈ at2 r p i j) : x.1 = (i : Int) - 1 ∧ x.2.1 = (j : Int) ∧ allowedB r p x = true := by
  obtain ⟨k, _, hk⟩ := List.mem_flatMap.1 h
  obtain ⟨e, h2⟩ := at3_mem hk
  refine ⟨by rw [e], by rw [e], h2⟩
theorem at1_mem {r : Rules} {p : Place} {i : Nat} {x : Mv} (h : x ∈ at1 r p i) : x.1 = (i : Int) - 1 ∧ allowedB r p x = true := by
  obtain ⟨j, _, hj⟩ := List.mem_flatMap.1 h
  obtain ⟨h1, _, h3⟩ := at2_mem hj
  exact ⟨h1, h3⟩
theorem movesOf_mem {r : Rules} {p : Place} (x : Mv) : x ∈ movesOf r p ↔ allowedB r p x = true := by
  constructor
  · intro h
    obtain ⟨i, _, hi⟩ := List.mem_flatMap.1 h
    exact (at1_mem hi).2
  · intro h
    have hok : mvOk r p x = true := by unfold allowedB at h; simp only [Bool.and_eq_true] at h; exact h.1
    unfold mvOk at hok
    rw [decide_eq_true_eq] at hok
    obtain ⟨⟨a1, a2⟩, ⟨b1, b2⟩, c1, c2⟩ := hok
    have c2' : x.2.2.1 < ((r.2.2.2.1.length : Nat) : Int) := c2
    have e : (((((x.1 + 1).toNat : Nat) : Int) - 1, (((x.2.1.toNat : Nat) : Int), (((x.2.2.1.toNat : Nat) : Int), ()))) : Mv) = x := mv_eq (by show (((x.1 + 1).toNat : Nat) : Int) - 1 = x.1; omega) (by show ((x.2.1.toNat : Nat) : Int) = x.2.1; omega) (by show ((x.2.2.1.toNat : Nat) : Int) = x.2.2.1; omega)
    refine List.mem_flatMap.2 ⟨(x.1 + 1).toNat, List.mem_range.2 (by omega), List.mem_flatMap.2 ⟨x.2.1.toNat, List.mem_range.2 (by omega), List.mem_flatMap.2 ⟨x.2.2.1.toNat, List.mem_range.2 (by omega), ?_⟩⟩⟩
    unfold at3
    rw [e, h, cond_true, List.mem_singleton]
theorem movesOf_lt (r : Rules) (p : Place) : (movesOf r p).Pairwise (fun x y => mvLt x y = true) := by
  refine pw_range _ _ (fun i _ => pw_range _ _ (fun j _ => pw_range _ _ (fun k _ => ?_) fun k k' hk x hx y hy => ?_) fun j j' hj x hx y hy => ?_) fun i i' hi x hx y hy => ?_
  · unfold at3
    cases allowedB r p ((i : Int) - 1, ((j : Int), ((k : Int), ()))) <;> simp
  · obtain ⟨ex, _⟩ := at3_mem hx
    obtain ⟨ey, _⟩ := at3_mem hy
    have e1 : x.1 = (i : Int) - 1 := by rw [ex]
    have e2 : x.2.1 = (j : Int) := by rw [ex]
    have e3 : x.2.2.1 = (k : Int) := by rw [ex]
    have f1 : y.1 = (i : Int) - 1 := by rw [ey]
    have f2 : y.2.1 = (j : Int) := by rw [ey]
    have f3 : y.2.2.1 = (k' : Int) := by rw [ey]
    rw [lt_iff]; omega
  · obtain ⟨e1, e2, _⟩ := at2_mem hx
    obtain ⟨f1, f2, _⟩ := at2_mem hy
    rw [lt_iff]; omega
  · obtain ⟨e1, _⟩ := at1_mem hx
    obtain ⟨f1, _⟩ := at1_mem hy
    rw [lt_iff]; omega
theorem raw_mem {r : Rules} {p : Place} (h : Valid r p) (x : Mv) : x ∈ movesRaw r p ↔ allowedB r p x = true := by
  have hr := h.r0
  have hlen : ((p.1.length : Nat) : Int) = r.width * r.height := h.cells
  have hh := hand_len h
  unfold movesRaw
  rw [List.mem_append]
  constructor
  · rintro (hx | hx)
    · obtain ⟨s, hs, hx⟩ := List.mem_flatMap.1 hx
      rw [List.mem_range] at hs
      unfold putsAt at hx
      cases hp : putOk r p (s : Int) with
      | false => simp [hp] at hx
      | true =>
        rw [hp, cond_true] at hx
        obtain ⟨k, hk, hx⟩ := List.mem_flatMap.1 hx
        rw [List.mem_range] at hk
        cases hd : decide (handI p (k : Int) > 0) with
        | false => simp [hd] at hx
        | true =>
          rw [hd, cond_true, List.mem_singleton] at hx
          have hok : mvOk r p x = true := by
            unfold mvOk
            rw [decide_eq_true_eq, hx]
            simp only
            omega
          unfold allowedB
          rw [hok, Bool.true_and, hx]
          simp only [beq_t rfl, cond_true, hd, hp, Bool.and_self]
    · obtain ⟨s, hs, hx⟩ := List.mem_flatMap.1 hx
      rw [List.mem_range] at hs
      unfold goAt at hx
      cases hm : mineB p (cellI p (s : Int)) with
      | false => simp [hm] at hx
      | true =>
        have hcp : cellI p (s : Int) > 0 := by unfold mineB at hm; simp at hm; exact hm.1
        have hk := kind_rng h hcp
        obtain ⟨hpa, hmem⟩ := at_piece (r := r) hk.2.1 hk.2.2
        rw [hm, cond_true] at hx
        obtain ⟨w, hw, hx⟩ := List.mem_flatMap.1 hx
        obtain ⟨t, ht, hx⟩ := List.mem_map.1 hx
        have htr : 0 ≤ t ∧ t < r.width * r.height := way_mem_rng hr ht
        have hpr := hr.prom _ hmem
        have hbr : 0 ≤ becomes r p (kindOf (cellI p (s : Int))) t ∧ becomes r p (kindOf (cellI p (s : Int))) t < ((r.pieces.length : Nat) : Int) := by
          unfold becomes
          cases hb : (decide ((pieceI r (kindOf (cellI p (s : Int)))).2.2.1 > 0) && lastB r p.turn t) with
          | false => exact hk.2
          | true =>
            simp only [Bool.and_eq_true, decide_eq_true_eq] at hb
            rw [cond_true]; omega
        have hok : mvOk r p x = true := by
          unfold mvOk
          rw [decide_eq_true_eq, ← hx]
          simp only
          omega
        unfold allowedB goOk
        rw [hok, Bool.true_and, ← hx]
        simp only
        rw [beq_f (by omega), cond_false, hm, Bool.true_and, beq_t rfl, Bool.true_and, List.any_eq_true]
        exact ⟨w, hw, by simpa using ht⟩
  · intro hx
    unfold allowedB at hx
    rw [Bool.and_eq_true] at hx
    obtain ⟨hok, hx⟩ := hx
    unfold mvOk at hok
    rw [decide_eq_true_eq] at hok
    obtain ⟨⟨a1, a2⟩, ⟨b1, b2⟩, c1, c2⟩ := hok
    by_cases hm : x.1 = -1
    · rw [beq_t hm, cond_true, Bool.and_eq_true] at hx
      left
      have e1 : ((x.2.1.toNat : Nat) : Int) = x.2.1 := by omega
      have e2 : ((x.2.2.1.toNat : Nat) : Int) = x.2.2.1 := by omega
      refine List.mem_flatMap.2 ⟨x.2.1.toNat, List.mem_range.2 (by omega), ?_⟩
      unfold putsAt
      rw [e1, hx.2, cond_true]
      refine List.mem_flatMap.2 ⟨x.2.2.1.toNat, List.mem_range.2 (by omega), ?_⟩
      rw [e2, hx.1, cond_true, List.mem_singleton]
      exact mv_eq hm rfl rfl
    · rw [beq_f hm, cond_false] at hx
      unfold goOk at hx
      simp only [Bool.and_eq_true, beq_iff_eq, List.any_eq_true, decide_eq_true_eq] at hx
      obtain ⟨h1, h2, w, hw, ht⟩ := hx
      right
      have e1 : ((x.1.toNat : Nat) : Int) = x.1 := by omega
      refine List.mem_flatMap.2 ⟨x.1.toNat, List.mem_range.2 (by omega), ?_⟩
      unfold goAt
      rw [e1, h1, cond_true]
      refine List.mem_flatMap.2 ⟨w, hw, List.mem_map.2 ⟨x.2.1, ht, ?_⟩⟩
      exact mv_eq rfl rfl h2
/-- THE PROGRAM's MOVES ARE THE REFERENCE's -/
theorem list_spec {r : Rules} {p : Place} (h : Valid r p) : movesList r p = some (movesOf r p) := by
  rw [list_dd h]
  congr 1
  refine lt_unique (dd_lt (sort_pw _)) (movesOf_lt r p) fun z => ?_
  rw [dd_mem, sort_mem, raw_mem h, movesOf_mem]
end Go.Proofs.Ytocnfflklfeocaa
