/- Moves: what the program lists and what the reference permits. No condition of its own. -/
import Derived.Test.YtocnfflklfeocaaCoreM
import Derived.Test.YtocnfflklfeocaaCoreP
namespace Go.Proofs.Ytocnfflklfeocaa
open Go.Den
set_option linter.unusedVariables false
set_option linter.unusedSimpArgs false
set_option maxRecDepth 100000

def handOf (p : Place) : List Int := getD' [p.2.1.1, p.2.1.2.1] (p.2.2.1).toNat []
theorem handOf_eq {r : Rules} {p : Place} (h : Valid r p) : handOf p = if p.turn = 0 then p.h0 else p.h1 := by
  unfold handOf
  rcases h.turn with e | e
  · rw [if_pos e, show p.2.2.1 = 0 from e]; rfl
  · rw [if_neg (by omega), show p.2.2.1 = 1 from e]; rfl
theorem hand_len {r : Rules} {p : Place} (h : Valid r p) : (handOf p).length = r.pieces.length := by
  rw [handOf_eq h]; split
  · exact h.l0
  · exact h.l1
theorem hand_rng {r : Rules} {p : Place} (h : Valid r p) : ∀ c ∈ handOf p, 0 ≤ c ∧ c ≤ 1000 := by
  rw [handOf_eq h]; split
  · exact h.hand0
  · exact h.hand1
def handI (p : Place) (k : Int) : Int := (handOf p).getD k.toNat 0
theorem at_hand {p : Place} {k : Int} (h0 : 0 ≤ k) (h1 : k < (((handOf p).length : Nat) : Int)) : at? (getD' [p.2.1.1, p.2.1.2.1] (p.2.2.1).toNat []) k = some (handI p k) := by
  show at? (handOf p) k = _
  rw [at?_eq _ k h0 h1]
  unfold handI
  rw [List.getD_eq_getElem?_getD, List.getElem?_eq_getElem (by omega)]
  rfl
theorem handI_rng {r : Rules} {p : Place} (h : Valid r p) (k : Int) : 0 ≤ handI p k ∧ handI p k ≤ 1000 := by
  unfold handI
  rw [List.getD_eq_getElem?_getD]
  cases e : (handOf p)[k.toNat]? with
  | none => simp
  | some c => exact hand_rng h c (List.mem_of_getElem? e)

/-! ### columns -/
def colF (p : Place) (W x0 : Int) : Nat → Bool
  | 0 => true
  | y + 1 => colF p W x0 y && (cellI p (x0 + (y : Int) * W) != 0)
theorem colF_any (p : Place) (W x0 : Int) : ∀ y, colF p W x0 y = !((List.range y).any fun i => cellI p (x0 + (i : Int) * W) == 0)
  | 0 => rfl
  | y + 1 => by rw [colF, colF_any p W x0 y, List.range_succ, List.any_append]; simp [bne]
def filledB (r : Rules) (p : Place) (s : Int) : Bool := colF p r.width (s.tmod r.width) (s.tdiv r.width).toNat
theorem div_eq {W s : Int} (hW : 1 ≤ W) (h0 : 0 ≤ s) : s = s.tmod W + ((s.tdiv W).toNat : Int) * W := by
  have h1 := Int.tmod_add_tdiv_mul s W
  have h2 : 0 ≤ s.tdiv W := by rw [Int.tdiv_eq_ediv_of_nonneg h0]; exact Int.ediv_nonneg h0 (by omega)
  rw [Int.toNat_of_nonneg h2]
  exact h1.symm
theorem mulN {y W : Int} (hy : 0 ≤ y) (hW : 0 ≤ W) : 0 ≤ y * W := Int.mul_nonneg hy hW
theorem filled_iter {r : Rules} {p : Place} (h : Valid r p) {x0 : Int} (hx : 0 ≤ x0 ∧ x0 < r.width) : ∀ (y : Nat), (y : Int) ≤ r.height →
    (Option.bind (α := ((Unit) × (Unit)) ⊕ Bool) (iterW (movesFilled_L1 p r) ((x0 + (y : Int) * r.width - r.width, ()), ())) (Sum.elim (fun x3 => some true) some)) = some (colF p r.width x0 y)
  | 0, hy => by
    rw [iterW_inr (r := .inl ((), ())) (by
      unfold movesFilled_L1
      have : decide (x0 + ((0 : Nat) : Int) * r.width - r.width ≥ 0) = false := by simp; omega
      simp only [this, cond_false])]
    rfl
  | y + 1, hy => by
    have hr := h.r0
    have := hr.w8; have := hr.h8; have := hr.w1; have := hr.h1
    have ha := hr.area
    have hb : onB r x0 (y : Int) = true := onB_iff.2 ⟨hx.1, hx.2, by omega, by omega⟩
    have hs := sq_rng hr hb
    have hm := mul_rng (show 0 ≤ r.width by omega) (show (0 : Int) ≤ (y : Int) by omega) (show (y : Int) < r.height by omega)
    have e : x0 + ((y + 1 : Nat) : Int) * r.width - r.width = x0 + (y : Int) * r.width := by
      rw [show ((y + 1 : Nat) : Int) = (y : Int) + 1 by omega, Int.add_mul]; omega
    rw [e]
    have hat := at_cell (p := p) (s := x0 + (y : Int) * r.width) (by omega) (by rw [h.cells]; omega)
    have hge : decide (x0 + (y : Int) * r.width ≥ 0) = true := by simp; omega
    cases hc : (cellI p (x0 + (y : Int) * r.width) == 0) with
    | true =>
      rw [iterW_inr (r := .inr false) (by
        unfold movesFilled_L1
        simp only [hge, cond_true, hat, Option.bind_some, hc])]
      simp [colF, bne, hc]
    | false =>
      rw [iterW_inl (y := ((x0 + (y : Int) * r.width - r.width, ()), ())) (by
        unfold movesFilled_L1
        simp only [hge, cond_true, hat, Option.bind_some, hc, cond_false]
        rw [w64_id (n := x0 + (y : Int) * r.width - r.2.1) (by show _ ≤ x0 + (y : Int) * r.width - r.width; omega) (by show x0 + (y : Int) * r.width - r.width ≤ _; omega)]), filled_iter h hx y (by omega)]
      simp [colF, bne, hc]
theorem filled_spec {r : Rules} {p : Place} (h : Valid r p) {s : Int} (h0 : 0 ≤ s) (h1 : s < r.width * r.height) : movesFilled r p s = some (filledB r p s) := by
  have hr := h.r0
  have := hr.w8; have := hr.h8; have := hr.w1; have := hr.h1
  have ha := hr.area
  have hd := div_rng hr h0 h1
  have e := div_eq hr.w1 h0
  unfold movesFilled filledB
  rw [w64_id (n := s - r.2.1) (by show _ ≤ s - r.width; omega) (by show s - r.width ≤ _; omega)]
  have := filled_iter h hd.1 (s.tdiv r.width).toNat (by omega)
  rw [← e] at this
  exact this
def putOk (r : Rules) (p : Place) (s : Int) : Bool := (cellI p s == 0) && (!r.falls || filledB r p s)
def putsAt (r : Rules) (p : Place) (s : Nat) : List Mv := bif putOk r p (s : Int) then (List.range (handOf p).length).flatMap (fun k : Nat => bif decide (handI p (k : Int) > 0) then [((-1 : Int), ((s : Int), ((k : Int), ())))] else []) else []
theorem fm_len1 {A : Type} (n : Nat) (F : Nat → List A) (h : ∀ k, (F k).length ≤ 1) : ((List.range n).flatMap F).length ≤ n := by
  have := flatMap_len F 1 (List.range n) (fun k _ => h k)
  simpa using this
theorem putsAt_len {r : Rules} {p : Place} (h : Valid r p) (s : Nat) : (putsAt r p s).length ≤ 6 := by
  unfold putsAt
  cases putOk r p (s : Int)
  · simp
  · rw [cond_true]
    refine Nat.le_trans (fm_len1 _ _ fun k => ?_) (by rw [hand_len h]; exact h.r0.t6)
    cases decide (handI p (k : Int) > 0) <;> simp
theorem area_len {r : Rules} {p : Place} (h : Valid r p) : p.1.length ≤ 64 := by
  have := h.cells
  have := h.r0.area
  have h1 : ((p.1.length : Nat) : Int) = r.width * r.height := h.cells
  omega
theorem puts_spec {r : Rules} {p : Place} (h : Valid r p) : movesPuts r p = some ((List.range p.1.length).flatMap (putsAt r p)) := by
  have hr := h.r0
  have := hr.w8; have := hr.h8; have := hr.w1; have := hr.h1
  have ha := hr.area
  have hlen : ((p.1.length : Nat) : Int) = r.width * r.height := h.cells
  have h64 := area_len h
  have hh : (handOf p).length ≤ 6 := by rw [hand_len h]; exact hr.t6
  unfold movesPuts
  rw [iter_app (A := Mv) p.1.length 6 (movesPuts_L1 p r) (putsAt r p) (fun a => ((a, ()), ())) [] (fun i _ => putsAt_len h i) (fun i hi a hal => ?_) (fun a => ?_)]
  · simp
  · unfold movesPuts_L1
    have c1 : decide ((i : Int) < ((p.1.length : Nat) : Int)) = true := by simp; omega
    have hat := at_cell (p := p) (s := (i : Int)) (by omega) (by show (i : Int) < ((p.1.length : Nat) : Int); omega)
    simp only [c1, cond_true, hat, Option.bind_some]
    have hf := filled_spec h (s := (i : Int)) (by omega) (by omega)
    have hfil : (i : Int) < r.width → filledB r p (i : Int) = true := fun hlt => by
      unfold filledB
      rw [Int.tdiv_eq_ediv_of_nonneg (by omega), Int.ediv_eq_zero_of_lt (by omega) hlt]
      rfl
    rw [hf]
    have hg : ∀ b c : Bool, gopt b false (some c) = some (b && c) := fun b c => by cases b <;> rfl
    rw [hg, Option.bind_some]
    have hcond : ((cellI p (i : Int) != (0 : Int)) || ((r.2.2.2.2.2.1 && (decide ((i : Int) ≥ r.2.1))) && (!(((r.2.2.2.2.2.1 && (decide ((i : Int) ≥ r.2.1))) && (!(cellI p (i : Int) != (0 : Int)))) && filledB r p (i : Int))))) = !putOk r p (i : Int) := by
      unfold putOk
      rw [show r.2.2.2.2.2.1 = r.falls from rfl]
      by_cases hlt : (i : Int) < r.width
      · rw [hfil hlt, show decide ((i : Int) ≥ r.2.1) = false by simp; exact hlt]
        simp only [bne]
        cases (cellI p (i : Int) == 0) <;> cases r.falls <;> rfl
      · rw [show decide ((i : Int) ≥ r.2.1) = true by simp; show r.width ≤ (i : Int); omega]
        simp only [bne]
        cases (cellI p (i : Int) == 0) <;> cases r.falls <;> cases filledB r p (i : Int) <;> rfl
    rw [hcond, w64_id (n := (i : Int) + 1) (by omega) (by omega)]
    unfold putsAt
    cases hp : putOk r p (i : Int) with
    | false => simp
    | true =>
      have hin : inb p.2.2.1 2 = true := inb_iff.2 (by have := h.turn; show 0 ≤ p.turn ∧ p.turn < ((2 : Nat) : Int); omega)
      simp only [Bool.not_true, cond_false, cond_true, hin, req_true]
      rw [iter_app (A := Mv) (handOf p).length 1 (movesPuts_L2 p ((a, (i : Int), ()), ())) (fun k => bif decide (handI p (k : Int) > 0) then [((-1 : Int), ((i : Int), ((k : Int), ())))] else []) (fun a => ((a, ()), ())) a (fun k _ => by cases decide (handI p (k : Int) > 0) <;> simp) (fun k hk a2 ha2 => ?_) (fun a2 => ?_)]
      · rfl
      · unfold movesPuts_L2
        have c2 : decide ((k : Int) < (((getD' [p.2.1.1, p.2.1.2.1] (p.2.2.1).toNat []).length : Nat) : Int)) = true := by
          have : k < (getD' [p.2.1.1, p.2.1.2.1] (p.2.2.1).toNat []).length := hk
          simp; exact this
        have hat2 := at_hand (p := p) (k := (k : Int)) (by omega) (by omega)
        simp only [c2, cond_true, hat2, Option.bind_some]
        rw [w64_id (n := (k : Int) + 1) (by omega) (by omega)]
        cases decide (handI p (k : Int) > 0)
        · simp
        · have hroom : room (a2.length + [((-1 : Int), ((i : Int), ((k : Int), ())))].length) 24 = true := room_ok (by
            simp only [List.length_singleton, List.length_nil] at *
            have : i * 6 ≤ 64 * 6 := Nat.mul_le_mul_right _ (by omega)
            omega)
          simp only [cond_true, hroom, req_true, Option.bind_some]
      · unfold movesPuts_L2
        have c2 : decide ((((handOf p).length : Nat) : Int) < (((getD' [p.2.1.1, p.2.1.2.1] (p.2.2.1).toNat []).length : Nat) : Int)) = false := by
          show decide ((((handOf p).length : Nat) : Int) < (((handOf p).length : Nat) : Int)) = false
          simp
        simp only [c2, cond_false]
  · unfold movesPuts_L1
    simp

/-! ### moves of pieces -/
def lastB (r : Rules) (pl t : Int) : Bool := bif pl == 0 then t.tdiv r.width == r.height - 1 else t.tdiv r.width == 0
theorem isLast_spec {r : Rules} (hr : VR0 r) (pl : Int) {t : Int} (h0 : 0 ≤ t) (h1 : t < r.width * r.height) : rulesIsLast r pl t = some (lastB r pl t) := by
  have := hr.w8; have := hr.h8; have := hr.w1; have := hr.h1
  have hd := div_rng hr h0 h1
  have hq : (r.2.1 != 0) = true := bne_t (by show ¬ r.width = 0; omega)
  have w1 : w64 (t.tdiv r.2.1) = t.tdiv r.width := w64_id (by show _ ≤ t.tdiv r.width; omega) (by show t.tdiv r.width ≤ _; omega)
  have w2 : w64 (r.2.2.1 - 1) = r.height - 1 := w64_id (by show _ ≤ r.height - 1; omega) (by show r.height - 1 ≤ _; omega)
  unfold rulesIsLast lastB
  rw [hq, req_true, req_true, w1, w2]
  exact cond_some _ _ _
def pieceI (r : Rules) (k : Int) : Piece := r.pieces.getD k.toNat (0, 0, 0, [], ())
theorem at_piece {r : Rules} {k : Int} (h0 : 0 ≤ k) (h1 : k < ((r.pieces.length : Nat) : Int)) : at? r.2.2.2.1 k = some (pieceI r k) ∧ pieceI r k ∈ r.pieces := by
  have h1' : k < ((r.2.2.2.1.length : Nat) : Int) := h1
  rw [at?_eq r.2.2.2.1 k h0 h1]
  unfold pieceI
  rw [List.getD_eq_getElem?_getD, List.getElem?_eq_getElem (by show k.toNat < r.2.2.2.1.length; omega)]
  exact ⟨rfl, List.getElem_mem _⟩
def kindOf (c : Int) : Int := (c - 1).tdiv 2
theorem kind_rng {r : Rules} {p : Place} (h : Valid r p) {s : Int} (hm : cellI p s > 0) : w64 ((w64 (cellI p s - 1)).tdiv 2) = kindOf (cellI p s) ∧ 0 ≤ kindOf (cellI p s) ∧ kindOf (cellI p s) < ((r.pieces.length : Nat) : Int) := by
  have hc := cell_rng h s
  have ht := h.r0.t6
  rw [w64_id (n := cellI p s - 1) (by omega) (by omega)]
  unfold kindOf
  rw [Int.tdiv_eq_ediv_of_nonneg (by omega)]
  refine ⟨w64_id (by omega) (by omega), by omega, by omega⟩
def becomes (r : Rules) (p : Place) (k t : Int) : Int := bif decide ((pieceI r k).2.2.1 > 0) && lastB r p.turn t then (pieceI r k).2.2.1 - 1 else k
def goAt (r : Rules) (p : Place) (s : Nat) : List Mv := bif mineB p (cellI p (s : Int)) then (pieceI r (kindOf (cellI p (s : Int)))).2.2.2.1.flatMap (fun w => (wayS r p (s : Int) w).map fun t => ((s : Int), (t, (becomes r p (kindOf (cellI p (s : Int))) t, ())))) else []
theorem flatMap_range {A C : Type} (l : List C) (F : C → List A) (d : C) : (List.range l.length).flatMap (fun i => F (l.getD i d)) = l.flatMap F := by
  induction l with
  | nil => rfl
  | cons x l ih =>
    rw [List.length_cons, List.range_succ_eq_map, List.flatMap_cons, List.flatMap_cons, List.flatMap_map]
    have e : (fun a => F ((x :: l).getD a.succ d)) = fun i => F (l.getD i d) := by funext i; simp
    rw [e, ih]
    rfl
theorem map_range {A C : Type} (l : List C) (F : C → A) (d : C) : (List.range l.length).flatMap (fun i => [F (l.getD i d)]) = l.map F := by
  rw [flatMap_range l (fun x => [F x]) d]
  induction l with
  | nil => rfl
  | cons x l ih => rw [List.flatMap_cons, List.map_cons, ih]; rfl
theorem way_len {r : Rules} {p : Place} {s : Int} {w : RWay} (hw : WayOk w) : (wayS r p s w).length ≤ 7 := by
  obtain ⟨_, _, _, h4, _⟩ := hw
  exact Nat.le_trans (wayL_len _ _ _ _ _ _) (by omega)
theorem goAt_len {r : Rules} {p : Place} (h : Valid r p) (s : Nat) : (goAt r p s).length ≤ 112 := by
  unfold goAt
  cases hm : mineB p (cellI p (s : Int)) with
  | false => simp
  | true =>
    have hc : cellI p (s : Int) > 0 := by unfold mineB at hm; simp at hm; exact hm.1
    have hk := kind_rng h hc
    have hmem := (at_piece (r := r) hk.2.1 hk.2.2).2
    rw [cond_true]
    refine Nat.le_trans (flatMap_len _ 7 _ fun w hw => ?_) ?_
    · rw [List.length_map]; exact way_len (h.wayOk hmem hw)
    · have := h.r0.ways _ hmem
      omega
def movesRaw (r : Rules) (p : Place) : List Mv := (List.range p.1.length).flatMap (putsAt r p) ++ (List.range p.1.length).flatMap (goAt r p)
theorem list_raw {r : Rules} {p : Place} (h : Valid r p) : iterW (movesList_L1 p r) (((List.range p.1.length).flatMap (putsAt r p), (0 : Int), ()), ()) = some ((movesRaw r p, ()), ()) := by
  have hr := h.r0
  have := hr.w8; have := hr.h8; have := hr.w1; have := hr.h1
  have ha := hr.area
  have hlen : ((p.1.length : Nat) : Int) = r.width * r.height := h.cells
  have h64 := area_len h
  have hpl : ((List.range p.1.length).flatMap (putsAt r p)).length ≤ 64 * 6 := by
    refine Nat.le_trans (flatMap_len _ 6 _ fun i _ => putsAt_len h i) ?_
    rw [List.length_range]; exact Nat.mul_le_mul_right _ h64
  unfold movesRaw
  generalize (List.range p.1.length).flatMap (putsAt r p) = pl at hpl
  refine iter_app (A := Mv) p.1.length 112 (movesList_L1 p r) (goAt r p) (fun a => ((a, ()), ())) pl (fun i _ => goAt_len h i) (fun i hi a hal => ?_) (fun a => ?_)
  · have hal2 : a.length ≤ 64 * 6 + 64 * 112 := by
      have : i * 112 ≤ 64 * 112 := Nat.mul_le_mul_right _ (by omega)
      omega
    unfold movesList_L1
    have c1 : decide ((i : Int) < ((p.1.length : Nat) : Int)) = true := by simp; omega
    have hat := at_cell (p := p) (s := (i : Int)) (by omega) (by show (i : Int) < ((p.1.length : Nat) : Int); omega)
    have hc := cell_small h (i : Int)
    have hi2 : (i : Int) < r.width * r.height := by omega
    simp only [c1, cond_true, hat, Option.bind_some, show ∀ b, imp b true = true from fun b => by cases b <;> rfl, req_true]
    have hcond : ((cellI p (i : Int) == (0 : Int)) || (((w64 (cellI p (i : Int) - (1 : Int))).tmod (2 : Int)) != p.2.2.1)) = !mineB p (cellI p (i : Int)) := by
      rw [w64_id (n := cellI p (i : Int) - 1) (by omega) (by omega)]
      unfold mineB
      rw [show p.turn = p.2.2.1 from rfl]
      by_cases hz : cellI p (i : Int) = 0
      · simp [hz]
      · rw [beq_f hz, show decide (cellI p (i : Int) > 0) = true by simp; omega]
        simp [bne]
    rw [hcond, w64_id (n := (i : Int) + 1) (by omega) (by omega)]
    unfold goAt
    cases hm : mineB p (cellI p (i : Int)) with
    | false => simp
    | true =>
      have hcp : cellI p (i : Int) > 0 := by unfold mineB at hm; simp at hm; exact hm.1
      have hk := kind_rng h hcp
      obtain ⟨hpa, hmem⟩ := at_piece (r := r) hk.2.1 hk.2.2
      simp only [Bool.not_true, cond_false, hk.1, hpa, Option.bind_some, cond_true]
      generalize hK : kindOf (cellI p (i : Int)) = K at *
      have hways := h.r0.ways _ hmem
      have hWl : (pieceI r K).2.2.2.1.length ≤ 16 := hways
      rw [iter_app (A := Mv) (pieceI r K).2.2.2.1.length 7 (movesList_L2 (pieceI r K) r p ((a, (i : Int), ()), ()) (cellI p (i : Int))) (fun j => (wayS r p (i : Int) ((pieceI r K).2.2.2.1.getD j (0, 0, 0, 0, ()))).map fun t => ((i : Int), (t, (becomes r p K t, ())))) (fun a => ((a, ()), ())) a (fun j hj => ?_) (fun j hj a2 ha2 => ?_) (fun a2 => ?_)]
      · rw [flatMap_range (pieceI r K).2.2.2.1 (fun w => (wayS r p (i : Int) w).map fun t => ((i : Int), (t, (becomes r p K t, ())))) (0, 0, 0, 0, ())]
        rfl
      · rw [List.length_map, List.getD_eq_getElem?_getD, List.getElem?_eq_getElem hj]
        exact way_len (h.wayOk hmem (List.getElem_mem hj))
      · have ha22 : a2.length ≤ 64 * 6 + 64 * 112 + 112 := by
          have : j * 7 ≤ 16 * 7 := Nat.mul_le_mul_right _ (by omega)
          omega
        unfold movesList_L2
        have c2 : decide ((j : Int) < (((pieceI r K).2.2.2.1.length : Nat) : Int)) = true := by simp; omega
        have hatw : at? (pieceI r K).2.2.2.1 (j : Int) = some ((pieceI r K).2.2.2.1.getD j (0, 0, 0, 0, ())) := by
          rw [at?_eq _ _ (by omega) (by omega), List.getD_eq_getElem?_getD, List.getElem?_eq_getElem hj]; rfl
        have hwm : (pieceI r K).2.2.2.1.getD j (0, 0, 0, 0, ()) ∈ (pieceI r K).2.2.2.1 := by
          rw [List.getD_eq_getElem?_getD, List.getElem?_eq_getElem hj]; exact List.getElem_mem hj
        have hwo := h.wayOk hmem hwm
        simp only [c2, cond_true, hatw, Option.bind_some]
        generalize (pieceI r K).2.2.2.1.getD j (0, 0, 0, 0, ()) = w at *
        rw [way_spec h hwo (by omega) hi2, Option.bind_some]
        have hwl := way_len (r := r) (p := p) (s := (i : Int)) hwo
        have hwr : ∀ t ∈ wayS r p (i : Int) w, 0 ≤ t ∧ t < r.width * r.height := fun t ht => way_mem_rng hr ht
        generalize wayS r p (i : Int) w = T at *
        rw [iter_app (A := Mv) T.length 1 (movesList_L3 T r (cellI p (i : Int)) p ((a, (i : Int), ()), ())) (fun t => [((i : Int), (T.getD t 0, (becomes r p K (T.getD t 0), ())))]) (fun a => ((a, ()), ())) a2 (fun _ _ => by simp) (fun t ht a3 ha3 => ?_) (fun a3 => ?_)]
        · rw [map_range T (fun t => ((i : Int), (t, (becomes r p K t, ())))) 0]
          simp only [Option.bind_some]
          rw [w64_id (n := (j : Int) + 1) (by omega) (by omega)]
        · unfold movesList_L3
          have c3 : decide ((t : Int) < ((T.length : Nat) : Int)) = true := by simp; omega
          have c4 : inb (t : Int) T.length = true := inb_iff.2 ⟨by omega, by omega⟩
          have hg : getD' T t (0 : Int) = T.getD t 0 := rfl
          have htr := hwr (T.getD t 0) (by rw [List.getD_eq_getElem?_getD, List.getElem?_eq_getElem ht]; exact List.getElem_mem ht)
          simp only [c3, cond_true, c4, req_true, hk.1, hpa, Option.bind_some, Int.toNat_natCast, hg]
          generalize T.getD t 0 = tt at *
          rw [isLast_spec hr p.2.2.1 htr.1 htr.2]
          have hpr := h.r0.prom _ hmem
          have ht6 := h.r0.t6
          have hgo : ∀ b c : Bool, gopt b false (some c) = some (b && c) := fun b c => by cases b <;> rfl
          rw [hgo, Option.bind_some, w64_id (n := (pieceI r K).2.2.1 - 1) (by omega) (by omega), w64_id (n := (t : Int) + 1) (by omega) (by omega)]
          unfold becomes
          rw [show p.turn = p.2.2.1 from rfl]
          have hroom : room (a3.length + 1) 24 = true := room_ok (by omega)
          cases decide ((pieceI r K).2.2.1 > 0) <;> cases lastB r p.2.2.1 tt <;> simp [hroom, req_true]
        · unfold movesList_L3
          simp
      · unfold movesList_L2
        simp
  · unfold movesList_L1
    simp
theorem raw_len {r : Rules} {p : Place} (h : Valid r p) : (movesRaw r p).length ≤ 10000 := by
  have h64 := area_len h
  unfold movesRaw
  rw [List.length_append]
  have h1 : ((List.range p.1.length).flatMap (putsAt r p)).length ≤ 64 * 6 := by
    refine Nat.le_trans (flatMap_len _ 6 _ fun i _ => putsAt_len h i) ?_
    rw [List.length_range]; exact Nat.mul_le_mul_right _ h64
  have h2 : ((List.range p.1.length).flatMap (goAt r p)).length ≤ 64 * 112 := by
    refine Nat.le_trans (flatMap_len _ 112 _ fun i _ => goAt_len h i) ?_
    rw [List.length_range]; exact Nat.mul_le_mul_right _ h64
  omega
theorem list_dd {r : Rules} {p : Place} (h : Valid r p) : movesList r p = some (dd (sortMoves (movesRaw r p))) := by
  unfold movesList
  rw [puts_spec h, Option.bind_some, list_raw h, Option.bind_some]
  have hl := raw_len h
  have hb : Nat.blt (movesRaw r p).length 4611686018427387904 = true := by
    rw [Nat.blt_eq]; omega
  simp only [hb, req_true]
  have hs := sort_len (movesRaw r p)
  generalize sortMoves (movesRaw r p) = xs at hs
  by_cases h2 : xs.length < 2
  · have c : decide (((xs.length : Nat) : Int) < 2) = true := by simp; omega
    rw [c, cond_true]
    have : dd xs = xs := by
      match xs, h2 with
      | [], _ => rfl
      | [x], _ => rfl
    rw [this]; rfl
  · have c : decide (((xs.length : Nat) : Int) < 2) = false := by simp; omega
    rw [c, cond_false, compact4 xs (by omega) (by omega)]
    rfl
end Go.Proofs.Ytocnfflklfeocaa
