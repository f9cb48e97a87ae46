/- Ways of pieces: where a piece can go, as the program and the reference compute it. No condition of its own. -/
import Derived.Test.YtocnfflklfeocaaCoreV
namespace Go.Proofs.Ytocnfflklfeocaa
open Go.Den
set_option linter.unusedVariables false
set_option linter.unusedSimpArgs false
set_option maxRecDepth 100000

abbrev RWay := Int × Int × Int × Int × Unit
def cellI (p : Place) (s : Int) : Int := p.cells.getD s.toNat 0
def onB (r : Rules) (x y : Int) : Bool := decide (0 ≤ x ∧ x < r.width ∧ 0 ≤ y ∧ y < r.height)
def sq (r : Rules) (x y : Int) : Int := y * r.width + x
def enemy (p : Place) (c : Int) : Bool := decide (c > 0) && ((c - 1).tmod 2 != p.turn)
def mineB (p : Place) (c : Int) : Bool := decide (c > 0) && ((c - 1).tmod 2 == p.turn)
def takes (p : Place) (w : RWay) (c : Int) : Bool := ((c == 0) && (w.2.2.2.1 != 2)) || (enemy p c && (w.2.2.2.1 != 0))
def dyOf (p : Place) (w : RWay) : Int := if p.turn = 1 then - w.2.1 else w.2.1
def wayL (r : Rules) (p : Place) (w : RWay) : Nat → Int → Int → List Int
  | 0, _, _ => []
  | n + 1, x, y => bif onB r (x + w.1) (y + dyOf p w) then (bif takes p w (cellI p (sq r (x + w.1) (y + dyOf p w))) then [sq r (x + w.1) (y + dyOf p w)] else []) ++ (bif cellI p (sq r (x + w.1) (y + dyOf p w)) == 0 then wayL r p w n (x + w.1) (y + dyOf p w) else []) else []
def wayS (r : Rules) (p : Place) (s : Int) (w : RWay) : List Int := wayL r p w w.2.2.1.toNat (s.tmod r.width) (s.tdiv r.width)

def WayOk (w : RWay) : Prop := (-7 ≤ w.1 ∧ w.1 ≤ 7) ∧ (-7 ≤ w.2.1 ∧ w.2.1 ≤ 7) ∧ ¬ (w.1 = 0 ∧ w.2.1 = 0) ∧ (1 ≤ w.2.2.1 ∧ w.2.2.1 ≤ 7) ∧ (0 ≤ w.2.2.2.1 ∧ w.2.2.2.1 ≤ 2)
theorem Valid.wayOk {r : Rules} {p : Place} (h : Valid r p) {q : Piece} (hq : q ∈ r.pieces) {w : RWay} (hw : w ∈ q.2.2.2.1) : WayOk w := h.r0.way q hq w hw
theorem dyOf_rng {p : Place} {w : RWay} (h : WayOk w) : -7 ≤ dyOf p w ∧ dyOf p w ≤ 7 := by
  unfold dyOf; obtain ⟨_, h1, _⟩ := h; split <;> omega
theorem dyOf_ne {p : Place} {w : RWay} (h : WayOk w) : ¬ (w.1 = 0 ∧ dyOf p w = 0) := by
  unfold dyOf; obtain ⟨_, h1, h2, _⟩ := h; split <;> omega
theorem onB_iff {r : Rules} {x y : Int} : onB r x y = true ↔ 0 ≤ x ∧ x < r.width ∧ 0 ≤ y ∧ y < r.height := by simp [onB]
theorem mul_rng {y W H : Int} (hW : 0 ≤ W) (h0 : 0 ≤ y) (h1 : y < H) : 0 ≤ y * W ∧ y * W ≤ W * H - W := by
  refine ⟨Int.mul_nonneg h0 hW, ?_⟩
  have := Int.mul_le_mul_of_nonneg_right (show y ≤ H - 1 by omega) hW
  rw [Int.sub_mul, Int.one_mul, Int.mul_comm H W] at this
  exact this
theorem sq_rng {r : Rules} (hr : VR0 r) {x y : Int} (h : onB r x y = true) : 0 ≤ sq r x y ∧ sq r x y < r.width * r.height := by
  obtain ⟨h1, h2, h3, h4⟩ := onB_iff.1 h
  have := mul_rng (show 0 ≤ r.width by have := hr.w1; omega) h3 h4
  unfold sq
  omega
theorem sq_inj {r : Rules} {x y x' y' : Int} (h : onB r x y = true) (h' : onB r x' y' = true) (e : sq r x y = sq r x' y') : x = x' ∧ y = y' := by
  obtain ⟨h1, h2, h3, h4⟩ := onB_iff.1 h
  obtain ⟨g1, g2, g3, g4⟩ := onB_iff.1 h'
  unfold sq at e
  have hW : 0 < r.width := by omega
  have ey : y = y' := by
    have a : (y * r.width + x) / r.width = y := by rw [Int.add_comm, Int.add_mul_ediv_right _ _ (by omega), Int.ediv_eq_zero_of_lt h1 h2, Int.zero_add]
    have b : (y' * r.width + x') / r.width = y' := by rw [Int.add_comm, Int.add_mul_ediv_right _ _ (by omega), Int.ediv_eq_zero_of_lt g1 g2, Int.zero_add]
    rw [← a, ← b, e]
  subst ey
  exact ⟨by omega, rfl⟩
theorem at_cell {p : Place} {s : Int} (h0 : 0 ≤ s) (h1 : s < ((p.cells.length : Nat) : Int)) : at? p.1 s = some (cellI p s) := by
  rw [at?_eq p.1 s h0 h1]
  unfold cellI
  have h1' : s < ((p.1.length : Nat) : Int) := h1
  rw [List.getD_eq_getElem?_getD, List.getElem?_eq_getElem (by show s.toNat < p.1.length; omega)]
  rfl
theorem cell_rng {r : Rules} {p : Place} (h : Valid r p) (s : Int) : 0 ≤ cellI p s ∧ cellI p s ≤ 2 * ((r.pieces.length : Nat) : Int) := by
  unfold cellI
  rw [List.getD_eq_getElem?_getD]
  cases e : p.cells[s.toNat]? with
  | none => simp; omega
  | some c => exact h.cell c (List.mem_of_getElem? e)
theorem cell_small {r : Rules} {p : Place} (h : Valid r p) (s : Int) : 0 ≤ cellI p s ∧ cellI p s ≤ 12 := by
  have := cell_rng h s
  have := h.r0.t6
  omega
theorem wayL_len (r : Rules) (p : Place) (w : RWay) : ∀ (n : Nat) (x y : Int), (wayL r p w n x y).length ≤ n
  | 0, x, y => by simp [wayL]
  | n + 1, x, y => by
    unfold wayL
    have := wayL_len r p w n (x + w.1) (y + dyOf p w)
    cases onB r (x + w.1) (y + dyOf p w)
    · simp
    · cases takes p w (cellI p (sq r (x + w.1) (y + dyOf p w))) <;> cases (cellI p (sq r (x + w.1) (y + dyOf p w)) == 0) <;> simp <;> omega
theorem wayL_mem {r : Rules} {p : Place} {w : RWay} {t : Int} : ∀ {n : Nat} {x y : Int}, t ∈ wayL r p w n x y → ∃ j : Int, 1 ≤ j ∧ onB r (x + j * w.1) (y + j * dyOf p w) = true ∧ t = sq r (x + j * w.1) (y + j * dyOf p w)
  | 0, x, y, h => by simp [wayL] at h
  | n + 1, x, y, h => by
    unfold wayL at h
    cases hb : onB r (x + w.1) (y + dyOf p w) with
    | false => simp [hb] at h
    | true =>
      rw [hb, cond_true] at h
      rcases List.mem_append.1 h with h | h
      · refine ⟨1, by omega, by simpa using hb, ?_⟩
        cases ht : takes p w (cellI p (sq r (x + w.1) (y + dyOf p w))) <;> simp [ht] at h
        simpa using h
      · cases hc : (cellI p (sq r (x + w.1) (y + dyOf p w)) == 0) <;> simp [hc] at h
        obtain ⟨j, h1, h2, h3⟩ := wayL_mem h
        have e1 : x + w.1 + j * w.1 = x + (j + 1) * w.1 := by rw [Int.add_mul]; omega
        have e2 : y + dyOf p w + j * dyOf p w = y + (j + 1) * dyOf p w := by rw [Int.add_mul]; omega
        rw [e1, e2] at h2 h3
        exact ⟨j + 1, by omega, h2, h3⟩
theorem wayL_new {r : Rules} {p : Place} {w : RWay} (hw : WayOk w) {n : Nat} {x y : Int} (hb : onB r x y = true) : sq r x y ∉ wayL r p w n x y := fun h => by
  obtain ⟨j, h1, h2, h3⟩ := wayL_mem h
  obtain ⟨e1, e2⟩ := sq_inj hb h2 h3
  have a : j * w.1 = 0 := by omega
  have b : j * dyOf p w = 0 := by omega
  refine dyOf_ne (p := p) hw ⟨?_, ?_⟩
  · rcases Int.mul_eq_zero.1 a with h | h
    · omega
    · exact h
  · rcases Int.mul_eq_zero.1 b with h | h
    · omega
    · exact h
theorem way_mem_rng {r : Rules} {p : Place} (h : VR0 r) {w : RWay} {n : Nat} {x y t : Int} (ht : t ∈ wayL r p w n x y) : 0 ≤ t ∧ t < r.width * r.height := by
  obtain ⟨j, h1, h2, h3⟩ := wayL_mem ht
  rw [h3]; exact sq_rng h h2
theorem div_rng {r : Rules} (hr : VR0 r) {s : Int} (h0 : 0 ≤ s) (h1 : s < r.width * r.height) : (0 ≤ s.tmod r.width ∧ s.tmod r.width < r.width) ∧ 0 ≤ s.tdiv r.width ∧ s.tdiv r.width < r.height := by
  have hw := hr.w1
  rw [Int.tmod_eq_emod_of_nonneg h0, Int.tdiv_eq_ediv_of_nonneg h0]
  refine ⟨⟨Int.emod_nonneg _ (by omega), Int.emod_lt_of_pos _ (by omega)⟩, Int.ediv_nonneg h0 (by omega), Int.ediv_lt_of_lt_mul (by omega) (by rw [Int.mul_comm]; exact h1)⟩
theorem takes_prog {r : Rules} {p : Place} (h : Valid r p) {w : RWay} (hw : WayOk w) (s : Int) :
    ((((w.2.2.2.1 == (0 : Int)) && (cellI p s == (0 : Int))) || ((w.2.2.2.1 == (1 : Int)) && ((cellI p s == (0 : Int)) || ((decide (cellI p s > (0 : Int))) && (((w64 (cellI p s - (1 : Int))).tmod (2 : Int)) != p.2.2.1))))) || ((w.2.2.2.1 == (2 : Int)) && ((decide (cellI p s > (0 : Int))) && (((w64 (cellI p s - (1 : Int))).tmod (2 : Int)) != p.2.2.1)))) = takes p w (cellI p s) := by
  have hc := cell_small h s
  rw [w64_id (n := cellI p s - 1) (by omega) (by omega)]
  obtain ⟨_, _, _, _, h5⟩ := hw
  have h6 : w.2.2.2.1 = 0 ∨ w.2.2.2.1 = 1 ∨ w.2.2.2.1 = 2 := by omega
  unfold takes enemy
  rw [show p.turn = p.2.2.1 from rfl]
  generalize hA : (cellI p s == 0) = A
  have hA' : A = true → decide (cellI p s > 0) = false := fun h => by
    subst hA
    rw [beq_iff_eq] at h
    simp [h]
  generalize decide (cellI p s > 0) = B at hA'
  generalize ((cellI p s - 1).tmod 2 != p.2.2.1) = C
  rcases h6 with h6 | h6 | h6 <;> rw [h6] <;> cases A <;> cases B <;> cases C <;> simp_all
theorem way_iter {r : Rules} {p : Place} (h : Valid r p) {w : RWay} (hw : WayOk w) : ∀ (n : Nat) (out : List Int) (x y k : Int), 0 ≤ k → k + n = w.2.2.1 → out.length ≤ k.toNat → (0 ≤ x ∧ x < r.width) → (0 ≤ y ∧ y < r.height) →
    iterW (movesWay_L1 w r ((dyOf p w, ()), ()) p) ((out, x, y, k, ()), ()) = some ((out ++ wayL r p w n x y, ()), ())
  | 0, out, x, y, k, h0, hk, ho, hx, hy => by
    refine iterW_inr ?_
    unfold movesWay_L1
    have : decide (k < w.2.2.1) = false := by simp; omega
    simp only [this, cond_false, wayL, List.append_nil]
  | n + 1, out, x, y, k, h0, hk, ho, hx, hy => by
    have hr := h.r0
    have hd := dyOf_rng (p := p) hw
    obtain ⟨hdx, _, _, hm, _⟩ := hw
    have := hr.w8; have := hr.h8; have := hr.w1; have := hr.h1
    have ha := hr.area
    have hlt : decide (k < w.2.2.1) = true := by simp; omega
    have wx : w64 (x + w.1) = x + w.1 := w64_id (by omega) (by omega)
    have wy : w64 (y + dyOf p w) = y + dyOf p w := w64_id (by omega) (by omega)
    have wk : w64 (k + 1) = k + 1 := w64_id (by omega) (by omega)
    have hoff : ((((decide (x + w.1 < (0 : Int))) || (decide (x + w.1 ≥ r.2.1))) || (decide (y + dyOf p w < (0 : Int)))) || (decide (y + dyOf p w ≥ r.2.2.1))) = !onB r (x + w.1) (y + dyOf p w) := by
      rw [Bool.eq_iff_iff]
      simp only [Bool.or_eq_true, decide_eq_true_eq, Bool.not_eq_true', onB, decide_eq_false_iff_not]
      show ((x + w.1 < 0 ∨ x + w.1 ≥ r.width) ∨ y + dyOf p w < 0) ∨ y + dyOf p w ≥ r.height ↔ _
      omega
    unfold wayL
    cases hb : onB r (x + w.1) (y + dyOf p w) with
    | false =>
      refine iterW_inr ?_
      unfold movesWay_L1
      simp only [hlt, cond_true, wx, wy, hoff, hb, Bool.not_false, cond_false, List.append_nil]
    | true =>
      have hs := sq_rng hr hb
      obtain ⟨b1, b2, b3, b4⟩ := onB_iff.1 hb
      have hmul := mul_rng (show 0 ≤ r.width by omega) b3 b4
      have w1 : w64 ((y + dyOf p w) * r.2.1) = (y + dyOf p w) * r.2.1 := w64_id (by show _ ≤ (y + dyOf p w) * r.width; omega) (by show (y + dyOf p w) * r.width ≤ _; omega)
      have w2 : w64 ((y + dyOf p w) * r.2.1 + (x + w.1)) = sq r (x + w.1) (y + dyOf p w) := w64_id (by show _ ≤ sq r (x + w.1) (y + dyOf p w); omega) (by show sq r (x + w.1) (y + dyOf p w) ≤ _; omega)
      have hat := at_cell (p := p) hs.1 (by rw [h.cells]; exact hs.2)
      have hlen := h.cells
      have hstep : movesWay_L1 w r ((dyOf p w, ()), ()) p ((out, x, y, k, ()), ()) = (bif cellI p (sq r (x + w.1) (y + dyOf p w)) != 0 then some (.inr ((out ++ (bif takes p w (cellI p (sq r (x + w.1) (y + dyOf p w))) then [sq r (x + w.1) (y + dyOf p w)] else []), ()), ())) else some (.inl ((out ++ (bif takes p w (cellI p (sq r (x + w.1) (y + dyOf p w))) then [sq r (x + w.1) (y + dyOf p w)] else []), x + w.1, y + dyOf p w, k + 1, ()), ()))) := by
        unfold movesWay_L1
        simp only [hlt, cond_true, wx, wy, hoff, hb, Bool.not_true, cond_false, w1, w2, wk, hat, Option.bind_some, takes_prog h ⟨hdx, ‹_›, ‹_›, hm, ‹_›⟩, show ∀ b, imp b true = true from fun b => by cases b <;> rfl, req_true]
        have hroom : room (out.length + [sq r (x + w.1) (y + dyOf p w)].length) 8 = true := room_ok (by simp; omega)
        cases takes p w (cellI p (sq r (x + w.1) (y + dyOf p w)))
        · simp
        · simp only [cond_true, hroom, req_true, Option.bind_some]
      cases hc : (cellI p (sq r (x + w.1) (y + dyOf p w)) == 0) with
      | true =>
        have hne : (cellI p (sq r (x + w.1) (y + dyOf p w)) != 0) = false := by simp only [bne, hc]; rfl
        rw [hne, cond_false] at hstep
        rw [iterW_inl hstep, way_iter h ⟨hdx, ‹_›, ‹_›, hm, ‹_›⟩ n _ (x + w.1) (y + dyOf p w) (k + 1) (by omega) (by omega) (by
          have : (bif takes p w (cellI p (sq r (x + w.1) (y + dyOf p w))) then [sq r (x + w.1) (y + dyOf p w)] else []).length ≤ 1 := by cases takes p w (cellI p (sq r (x + w.1) (y + dyOf p w))) <;> simp
          rw [List.length_append]; omega) ⟨b1, b2⟩ ⟨b3, b4⟩]
        simp [List.append_assoc]
      | false =>
        have hne : (cellI p (sq r (x + w.1) (y + dyOf p w)) != 0) = true := by simp only [bne, hc]; rfl
        rw [hne, cond_true] at hstep
        rw [iterW_inr hstep]
        simp
theorem way_spec {r : Rules} {p : Place} (h : Valid r p) {w : RWay} (hw : WayOk w) {s : Int} (h0 : 0 ≤ s) (h1 : s < r.width * r.height) : movesWay r p s w = some (wayS r p s w) := by
  have hr := h.r0
  have hd := div_rng hr h0 h1
  have := hr.w8; have := hr.h8; have := hr.w1; have := hr.h1
  obtain ⟨hdx, hdy, hnz, hm, htk⟩ := id hw
  unfold movesWay wayS
  have hq : (r.2.1 != 0) = true := bne_t (by show ¬ r.width = 0; omega)
  have wdy : (bif (p.2.2.1 == (1 : Int)) then some (((w64 (0 - w.2.1)), ()), ()) else some ((w.2.1, ()), ())) = some ((dyOf p w, ()), ()) := by
    unfold dyOf
    by_cases e : p.turn = 1
    · rw [if_pos e, beq_t e, cond_true, w64_id (by omega) (by omega)]; simp
    · rw [if_neg e, beq_f e, cond_false]
  have wq : w64 (s.tdiv r.2.1) = s.tdiv r.2.1 := w64_id (by show _ ≤ s.tdiv r.width; omega) (by show s.tdiv r.width ≤ _; omega)
  rw [wdy, Option.bind_some, hq, req_true, req_true, wq, way_iter h hw w.2.2.1.toNat [] _ _ 0 (by omega) (by omega) (by simp) hd.1 hd.2]
  simp
theorem mulb {k d : Int} (h0 : 0 ≤ k) (h8 : k ≤ 8) (d0 : -7 ≤ d) (d7 : d ≤ 7) : -56 ≤ k * d ∧ k * d ≤ 56 := by
  have : k = 0 ∨ k = 1 ∨ k = 2 ∨ k = 3 ∨ k = 4 ∨ k = 5 ∨ k = 6 ∨ k = 7 ∨ k = 8 := by omega
  rcases this with rfl | rfl | rfl | rfl | rfl | rfl | rfl | rfl | rfl <;> omega
theorem refAt_spec {r : Rules} {p : Place} (h : Valid r p) (x y : Int) : ref1At r p x y = some (bif onB r x y then cellI p (sq r x y) else -1) := by
  have hr := h.r0
  have := hr.w8; have := hr.h8; have := hr.w1; have := hr.h1
  have ha := hr.area
  unfold ref1At
  rw [w64_id (n := r.2.1 - 1) (by show _ ≤ r.width - 1; omega) (by show r.width - 1 ≤ _; omega), w64_id (n := r.2.2.1 - 1) (by show _ ≤ r.height - 1; omega) (by show r.height - 1 ≤ _; omega)]
  have e : ((!(ref1In x (0 : Int) (r.2.1 - 1))) || (!(ref1In y (0 : Int) (r.2.2.1 - 1)))) = !onB r x y := by
    unfold ref1In onB
    rw [Bool.eq_iff_iff]
    simp only [Bool.or_eq_true, Bool.not_eq_true', Bool.and_eq_false_iff, decide_eq_false_iff_not]
    show ((¬ x ≥ 0 ∨ ¬ x ≤ r.width - 1) ∨ (¬ y ≥ 0 ∨ ¬ y ≤ r.height - 1)) ↔ _
    omega
  rw [e]
  cases hb : onB r x y with
  | false => rfl
  | true =>
    have hs := sq_rng hr hb
    obtain ⟨b1, b2, b3, b4⟩ := onB_iff.1 hb
    have hmul := mul_rng (show 0 ≤ r.width by omega) b3 b4
    have w1 : w64 (y * r.2.1) = y * r.2.1 := w64_id (by show _ ≤ y * r.width; omega) (by show y * r.width ≤ _; omega)
    have w2 : w64 (y * r.2.1 + x) = sq r x y := w64_id (by show _ ≤ sq r x y; omega) (by show sq r x y ≤ _; omega)
    rw [w1, w2, at_cell (p := p) hs.1 (by rw [h.cells]; exact hs.2)]
    rfl
theorem refMine_spec (c pl : Int) (h0 : 0 ≤ c) (h1 : c ≤ 12) : ref1Mine c pl = some (decide (c > 0) && ((c - 1).tmod 2 == pl)) := by
  unfold ref1Mine
  rw [w64_id (n := c - 1) (by omega) (by omega)]
  cases decide (c > 0) <;> rfl
theorem enemy_ref {r : Rules} {p : Place} (h : Valid r p) {c : Int} (h0 : 0 ≤ c) : (decide (c > 0) && ((c - 1).tmod 2 == 1 - p.turn)) = enemy p c := by
  unfold enemy
  by_cases hc : c > 0
  · have : (c - 1).tmod 2 = 0 ∨ (c - 1).tmod 2 = 1 := by rw [Int.tmod_eq_emod_of_nonneg (by omega)]; omega
    have ht := h.turn
    rw [decide_eq_true hc, Bool.true_and, Bool.true_and, Bool.eq_iff_iff, beq_iff_eq, bne_iff_ne]
    show _ ↔ ¬ _
    omega
  · simp [hc]
theorem reach_iter {r : Rules} {p : Place} (h : Valid r p) {w : RWay} (hw : WayOk w) {s t : Int} (h0 : 0 ≤ s) (h1 : s < r.width * r.height) : ∀ (n : Nat) (k : Int), 1 ≤ k → k + n = w.2.2.1 + 1 →
    (Option.bind (α := ((Unit) × (Unit)) ⊕ Bool) (iterW (ref1Reaches_L1 w r p s t) ((k, ()), ())) (Sum.elim (fun x4 => some false) some)) = some (decide (t ∈ wayL r p w n (s.tmod r.width + (k - 1) * w.1) (s.tdiv r.width + (k - 1) * dyOf p w)))
  | 0, k, hk, hn => by
    rw [iterW_inr (r := .inl ((), ())) (by
      unfold ref1Reaches_L1
      have : decide (k ≤ w.2.2.1) = false := by simp; omega
      simp only [this, cond_false])]
    simp [wayL]
  | n + 1, k, hk, hn => by
    have hr := h.r0
    have hd := dyOf_rng (p := p) hw
    obtain ⟨hdx, hdy, hnz, hm, htk⟩ := id hw
    have := hr.w8; have := hr.h8; have := hr.w1; have := hr.h1
    have ha := hr.area
    have hdr := div_rng hr h0 h1
    have hlt : decide (k ≤ w.2.2.1) = true := by simp; omega
    have m1 := mulb (k := k) (by omega) (by omega) hdx.1 hdx.2
    have m2 := mulb (k := k) (by omega) (by omega) hdy.1 hdy.2
    have m3 := mulb (k := k) (by omega) (by omega) hd.1 hd.2
    have ht := h.turn
    have wu : w64 ((1 : Int) - (w64 ((2 : Int) * p.2.2.1))) = 1 - 2 * p.turn := by
      rw [w64_id (n := (2 : Int) * p.2.2.1) (by show _ ≤ 2 * p.turn; omega) (by show 2 * p.turn ≤ _; omega)]
      exact w64_id (by show _ ≤ 1 - 2 * p.turn; omega) (by show 1 - 2 * p.turn ≤ _; omega)
    have eup : k * w.2.1 * (1 - 2 * p.turn) = k * dyOf p w := by
      unfold dyOf
      rcases ht with e | e
      · rw [e, if_neg (by omega)]; simp
      · rw [e, if_pos rfl]; simp [Int.mul_neg]
    have wq : w64 (s.tdiv r.2.1) = s.tdiv r.2.1 := w64_id (by show _ ≤ s.tdiv r.width; omega) (by show s.tdiv r.width ≤ _; omega)
    have wkx : w64 (k * w.1) = k * w.1 := w64_id (by omega) (by omega)
    have wky : w64 (k * w.2.1) = k * w.2.1 := w64_id (by omega) (by omega)
    have wky2 : w64 (k * w.2.1 * (1 - 2 * p.turn)) = k * dyOf p w := by rw [eup]; exact w64_id (by omega) (by omega)
    obtain ⟨X, hX⟩ : ∃ X, X = s.tmod r.width + k * w.1 := ⟨_, rfl⟩
    obtain ⟨Y, hY⟩ : ∃ Y, Y = s.tdiv r.width + k * dyOf p w := ⟨_, rfl⟩
    have wx : w64 (s.tmod r.2.1 + k * w.1) = X := by rw [hX]; exact w64_id (by show _ ≤ s.tmod r.width + k * w.1; omega) (by show s.tmod r.width + k * w.1 ≤ _; omega)
    have wy : w64 (s.tdiv r.2.1 + k * dyOf p w) = Y := by rw [hY]; exact w64_id (by show _ ≤ s.tdiv r.width + k * dyOf p w; omega) (by show s.tdiv r.width + k * dyOf p w ≤ _; omega)
    have wt : w64 (1 - p.2.2.1) = 1 - p.turn := w64_id (by show _ ≤ 1 - p.turn; omega) (by show 1 - p.turn ≤ _; omega)
    have ex : s.tmod r.width + (k - 1) * w.1 + w.1 = X := by rw [hX, Int.sub_mul]; omega
    have ey : s.tdiv r.width + (k - 1) * dyOf p w + dyOf p w = Y := by rw [hY, Int.sub_mul]; omega
    unfold wayL
    rw [ex, ey]
    have hAt := refAt_spec h X Y
    cases hb : onB r X Y with
    | false =>
      rw [hb, cond_false] at hAt
      rw [iterW_inr (r := .inr false) (by
        unfold ref1Reaches_L1
        simp only [hlt, cond_true, wkx, wky, wu, wky2, wq, wx, wy, hAt, Option.bind_some]
        rfl)]
      simp
    | true =>
      rw [hb, cond_true] at hAt
      have hs := sq_rng hr hb
      obtain ⟨b1, b2, b3, b4⟩ := onB_iff.1 hb
      have hmul := mul_rng (show 0 ≤ r.width by omega) b3 b4
      have hc := cell_small h (sq r X Y)
      have hneg : decide (cellI p (sq r X Y) < 0) = false := by simp; omega
      have w1 : w64 (Y * r.2.1) = Y * r.2.1 := w64_id (by show _ ≤ Y * r.width; omega) (by show Y * r.width ≤ _; omega)
      have w2 : w64 (w64 (Y * r.2.1 + s.tmod r.2.1) + k * w.1) = sq r X Y := by
        rw [w64_id (n := Y * r.2.1 + s.tmod r.2.1) (by show _ ≤ Y * r.width + s.tmod r.width; omega) (by show Y * r.width + s.tmod r.width ≤ _; omega)]
        have e : Y * r.2.1 + s.tmod r.2.1 + k * w.1 = sq r X Y := by show Y * r.width + s.tmod r.width + k * w.1 = _; unfold sq; omega
        rw [e]; exact w64_id (by omega) (by omega)
      have hmine := refMine_spec (cellI p (sq r X Y)) (1 - p.turn) hc.1 hc.2
      rw [enemy_ref h hc.1] at hmine
      by_cases ht' : sq r X Y = t
      · rw [iterW_inr (r := .inr (takes p w (cellI p (sq r X Y)))) (by
          unfold ref1Reaches_L1
          simp only [hlt, cond_true, wkx, wky, wu, wky2, wq, wx, wy, hAt, Option.bind_some, hneg, cond_false, w1, w2, beq_t ht', wt, hmine]
          rfl)]
        subst ht'
        have hnew := wayL_new (p := p) hw (n := n) hb
        rw [Option.bind_some, Sum.elim_inr, cond_true, Option.some.injEq]
        cases takes p w (cellI p (sq r X Y))
        · cases (cellI p (sq r X Y) == 0) <;> simp [hnew]
        · simp
      · cases hz : (cellI p (sq r X Y) == 0) with
        | false =>
          have hne : (cellI p (sq r X Y) != 0) = true := by simp only [bne, hz]; rfl
          rw [iterW_inr (r := .inr false) (by
            unfold ref1Reaches_L1
            simp only [hlt, cond_true, wkx, wky, wu, wky2, wq, wx, wy, hAt, Option.bind_some, hneg, cond_false, w1, w2, beq_f ht', hne])]
          rw [Option.bind_some, Sum.elim_inr, cond_true, Option.some.injEq]
          cases takes p w (cellI p (sq r X Y)) <;> simp [Ne.symm ht']
        | true =>
          have hne : (cellI p (sq r X Y) != 0) = false := by simp only [bne, hz]; rfl
          rw [iterW_inl (y := ((k + 1, ()), ())) (by
            unfold ref1Reaches_L1
            simp only [hlt, cond_true, wkx, wky, wu, wky2, wq, wx, wy, hAt, Option.bind_some, hneg, cond_false, w1, w2, beq_f ht', hne, w64_id (n := k + 1) (by omega) (by omega)])]
          rw [reach_iter h hw h0 h1 n (k + 1) (by omega) (by omega), cond_true, cond_true, show k + 1 - 1 = k by omega, ← hX, ← hY]
          congr 1
          cases takes p w (cellI p (sq r X Y)) <;> simp
          exact fun e => absurd e.symm ht'
theorem reach_spec {r : Rules} {p : Place} (h : Valid r p) {w : RWay} (hw : WayOk w) {s t : Int} (h0 : 0 ≤ s) (h1 : s < r.width * r.height) : ref1Reaches r p s t w = some (decide (t ∈ wayS r p s w)) := by
  have hr := h.r0
  have := hr.w1
  have hq : (r.2.1 != 0) = true := bne_t (by show ¬ r.width = 0; omega)
  unfold ref1Reaches wayS
  obtain ⟨_, _, _, hm, _⟩ := id hw
  rw [hq, req_true, req_true, reach_iter h hw h0 h1 w.2.2.1.toNat 1 (by omega) (by omega)]
  simp
end Go.Proofs.Ytocnfflklfeocaa
