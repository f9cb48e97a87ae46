/- Several texts in one: Ways of pieces: where a piece can go, as the program and the reference compute it. No condition of its own.; Moves in order, each once: what sorting and compacting a list of moves gives. No condition of its own.; Moves: what the program lists and what the reference permits. No condition of its own.; The reference's moves; they are the program's. No condition of its own.; Results: what the program and the reference say of how a game stands. No condition of its own.; Results: the conditions, and what comes of them. No condition of its own.; The position after a move, as the program and the reference compute it. No condition of its own.; Comparisons, beginnings, and what the exported functions of moves give. No condition of its own.; Games by the rules, in plain Lean: what Play, Run and Repeats compute. No condition of its own.; What the exported functions of moves give. No condition of its own.; Games: what claims and the reference compute; three in a row. No condition of its own.; Records: texts, names, tags. No condition of its own.; Recursions: Record. No condition of its own.; Records: ways. No condition of its own. -/
import Derived.Test.YtocnfflklfeocaaGreatMAE
import Derived.Test.YtocnfflklfeocaaGreatMAD
namespace Go.Proofs.YtocnfflklfeocaaGreat
open Go.Den
set_option linter.unusedVariables false
set_option linter.unusedSimpArgs false
set_option maxRecDepth 100000

abbrev RWay := Int × Int × Int × Int × Unit
def cellI (p : Place) (s : Int) : Int := p.cells.getD s.toNat 0
def onB (r : Rules) (x y : Int) : Bool := decide (0 ≤ x ∧ x < r.width ∧ 0 ≤ y ∧ y < r.height)
def sq (r : Rules) (x y : Int) : Int := y * r.width + x
def enemy (p : Place) (c : Int) : Bool := decide (c > 0) && ((c - 1).tmod 2 != p.turn)
def mineB (p : Place) (c : Int) : Bool := decide (c > 0) && ((c - 1).tmod 2 == p.turn)
def takes (p : Place) (w : RWay) (c : Int) : Bool := ((c == 0) && (w.2.2.2.1 != 2)) || (enemy p c && (w.2.2.2.1 != 0))
def dyOf (p : Place) (w : RWay) : Int := if p.turn = 1 then - w.2.1 else w.2.1
def wayL (r : Rules) (p : Place) (w : RWay) : Nat → Int → Int → List Int
  | 0, _, _ => []
  | n + 1, x, y => bif onB r (x + w.1) (y + dyOf p w) then (bif takes p w (cellI p (sq r (x + w.1) (y + dyOf p w))) then [sq r (x + w.1) (y + dyOf p w)] else []) ++ (bif cellI p (sq r (x + w.1) (y + dyOf p w)) == 0 then wayL r p w n (x + w.1) (y + dyOf p w) else []) else []
def wayS (r : Rules) (p : Place) (s : Int) (w : RWay) : List Int := wayL r p w w.2.2.1.toNat (s.tmod r.width) (s.tdiv r.width)

def WayOk (w : RWay) : Prop := (-7 ≤ w.1 ∧ w.1 ≤ 7) ∧ (-7 ≤ w.2.1 ∧ w.2.1 ≤ 7) ∧ ¬ (w.1 = 0 ∧ w.2.1 = 0) ∧ (1 ≤ w.2.2.1 ∧ w.2.2.1 ≤ 7) ∧ (0 ≤ w.2.2.2.1 ∧ w.2.2.2.1 ≤ 2)
theorem Valid.wayOk {r : Rules} {p : Place} (h : Valid r p) {q : Piece} (hq : q ∈ r.pieces) {w : RWay} (hw : w ∈ q.2.2.2.1) : WayOk w := h.r0.way q hq w hw
theorem dyOf_rng {p : Place} {w : RWay} (h : WayOk w) : -7 ≤ dyOf p w ∧ dyOf p w ≤ 7 := by
  unfold dyOf; obtain ⟨_, h1, _⟩ := h; split <;> omega
theorem dyOf_ne {p : Place} {w : RWay} (h : WayOk w) : ¬ (w.1 = 0 ∧ dyOf p w = 0) := by
  unfold dyOf; obtain ⟨_, h1, h2, _⟩ := h; split <;> omega
theorem onB_iff {r : Rules} {x y : Int} : onB r x y = true ↔ 0 ≤ x ∧ x < r.width ∧ 0 ≤ y ∧ y < r.height := by simp [onB]
theorem mul_rng {y W H : Int} (hW : 0 ≤ W) (h0 : 0 ≤ y) (h1 : y < H) : 0 ≤ y * W ∧ y * W ≤ W * H - W := by
  refine ⟨Int.mul_nonneg h0 hW, ?_⟩
  have := Int.mul_le_mul_of_nonneg_right (show y ≤ H - 1 by omega) hW
  rw [Int.sub_mul, Int.one_mul, Int.mul_comm H W] at this
  exact this
theorem sq_rng {r : Rules} (hr : VR0 r) {x y : Int} (h : onB r x y = true) : 0 ≤ sq r x y ∧ sq r x y < r.width * r.height := by
  obtain ⟨h1, h2, h3, h4⟩ := onB_iff.1 h
  have := mul_rng (show 0 ≤ r.width by have := hr.w1; omega) h3 h4
  unfold sq
  omega
theorem sq_inj {r : Rules} {x y x' y' : Int} (h : onB r x y = true) (h' : onB r x' y' = true) (e : sq r x y = sq r x' y') : x = x' ∧ y = y' := by
  obtain ⟨h1, h2, h3, h4⟩ := onB_iff.1 h
  obtain ⟨g1, g2, g3, g4⟩ := onB_iff.1 h'
  unfold sq at e
  have hW : 0 < r.width := by omega
  have ey : y = y' := by
    have a : (y * r.width + x) / r.width = y := by rw [Int.add_comm, Int.add_mul_ediv_right _ _ (by omega), Int.ediv_eq_zero_of_lt h1 h2, Int.zero_add]
    have b : (y' * r.width + x') / r.width = y' := by rw [Int.add_comm, Int.add_mul_ediv_right _ _ (by omega), Int.ediv_eq_zero_of_lt g1 g2, Int.zero_add]
    rw [← a, ← b, e]
  subst ey
  exact ⟨by omega, rfl⟩
theorem at_cell {p : Place} {s : Int} (h0 : 0 ≤ s) (h1 : s < ((p.cells.length : Nat) : Int)) : at? p.1 s = some (cellI p s) := by
  rw [at?_eq p.1 s h0 h1]
  unfold cellI
  have h1' : s < ((p.1.length : Nat) : Int) := h1
  rw [List.getD_eq_getElem?_getD, List.getElem?_eq_getElem (by show s.toNat < p.1.length; omega)]
  rfl
theorem cell_rng {r : Rules} {p : Place} (h : Valid r p) (s : Int) : 0 ≤ cellI p s ∧ cellI p s ≤ 2 * ((r.pieces.length : Nat) : Int) := by
  unfold cellI
  rw [List.getD_eq_getElem?_getD]
  cases e : p.cells[s.toNat]? with
  | none => simp; omega
  | some c => exact h.cell c (List.mem_of_getElem? e)
theorem cell_small {r : Rules} {p : Place} (h : Valid r p) (s : Int) : 0 ≤ cellI p s ∧ cellI p s ≤ 12 := by
  have := cell_rng h s
  have := h.r0.t6
  omega
theorem wayL_len (r : Rules) (p : Place) (w : RWay) : ∀ (n : Nat) (x y : Int), (wayL r p w n x y).length ≤ n
  | 0, x, y => by simp [wayL]
  | n + 1, x, y => by
    unfold wayL
    have := wayL_len r p w n (x + w.1) (y + dyOf p w)
    cases onB r (x + w.1) (y + dyOf p w)
    · simp
    · cases takes p w (cellI p (sq r (x + w.1) (y + dyOf p w))) <;> cases (cellI p (sq r (x + w.1) (y + dyOf p w)) == 0) <;> simp <;> omega
theorem wayL_mem {r : Rules} {p : Place} {w : RWay} {t : Int} : ∀ {n : Nat} {x y : Int}, t ∈ wayL r p w n x y → ∃ j : Int, 1 ≤ j ∧ onB r (x + j * w.1) (y + j * dyOf p w) = true ∧ t = sq r (x + j * w.1) (y + j * dyOf p w)
  | 0, x, y, h => by simp [wayL] at h
  | n + 1, x, y, h => by
    unfold wayL at h
    cases hb : onB r (x + w.1) (y + dyOf p w) with
    | false => simp [hb] at h
    | true =>
      rw [hb, cond_true] at h
      rcases List.mem_append.1 h with h | h
      · refine ⟨1, by omega, by simpa using hb, ?_⟩
        cases ht : takes p w (cellI p (sq r (x + w.1) (y + dyOf p w))) <;> simp [ht] at h
        simpa using h
      · cases hc : (cellI p (sq r (x + w.1) (y + dyOf p w)) == 0) <;> simp [hc] at h
        obtain ⟨j, h1, h2, h3⟩ := wayL_mem h
        have e1 : x + w.1 + j * w.1 = x + (j + 1) * w.1 := by rw [Int.add_mul]; omega
        have e2 : y + dyOf p w + j * dyOf p w = y + (j + 1) * dyOf p w := by rw [Int.add_mul]; omega
        rw [e1, e2] at h2 h3
        exact ⟨j + 1, by omega, h2, h3⟩
theorem wayL_new {r : Rules} {p : Place} {w : RWay} (hw : WayOk w) {n : Nat} {x y : Int} (hb : onB r x y = true) : sq r x y ∉ wayL r p w n x y := fun h => by
  obtain ⟨j, h1, h2, h3⟩ := wayL_mem h
  obtain ⟨e1, e2⟩ := sq_inj hb h2 h3
  have a : j * w.1 = 0 := by omega
  have b : j * dyOf p w = 0 := by omega
  refine dyOf_ne (p := p) hw ⟨?_, ?_⟩
  · rcases Int.mul_eq_zero.1 a with h | h
    · omega
    · exact h
  · rcases Int.mul_eq_zero.1 b with h | h
    · omega
    · exact h
theorem way_mem_rng {r : Rules} {p : Place} (h : VR0 r) {w : RWay} {n : Nat} {x y t : Int} (ht : t ∈ wayL r p w n x y) : 0 ≤ t ∧ t < r.width * r.height := by
  obtain ⟨j, h1, h2, h3⟩ := wayL_mem ht
  rw [h3]; exact sq_rng h h2
theorem div_rng {r : Rules} (hr : VR0 r) {s : Int} (h0 : 0 ≤ s) (h1 : s < r.width * r.height) : (0 ≤ s.tmod r.width ∧ s.tmod r.width < r.width) ∧ 0 ≤ s.tdiv r.width ∧ s.tdiv r.width < r.height := by
  have hw := hr.w1
  rw [Int.tmod_eq_emod_of_nonneg h0, Int.tdiv_eq_ediv_of_nonneg h0]
  refine ⟨⟨Int.emod_nonneg _ (by omega), Int.emod_lt_of_pos _ (by omega)⟩, Int.ediv_nonneg h0 (by omega), Int.ediv_lt_of_lt_mul (by omega) (by rw [Int.mul_comm]; exact h1)⟩
theorem takes_prog {r : Rules} {p : Place} (h : Valid r p) {w : RWay} (hw : WayOk w) (s : Int) :
    ((((w.2.2.2.1 == (0 : Int)) && (cellI p s == (0 : Int))) || ((w.2.2.2.1 == (1 : Int)) && ((cellI p s == (0 : Int)) || ((decide (cellI p s > (0 : Int))) && (((w64 (cellI p s - (1 : Int))).tmod (2 : Int)) != p.2.2.1))))) || ((w.2.2.2.1 == (2 : Int)) && ((decide (cellI p s > (0 : Int))) && (((w64 (cellI p s - (1 : Int))).tmod (2 : Int)) != p.2.2.1)))) = takes p w (cellI p s) := by
  have hc := cell_small h s
  rw [w64_id (n := cellI p s - 1) (by omega) (by omega)]
  obtain ⟨_, _, _, _, h5⟩ := hw
  have h6 : w.2.2.2.1 = 0 ∨ w.2.2.2.1 = 1 ∨ w.2.2.2.1 = 2 := by omega
  unfold takes enemy
  rw [show p.turn = p.2.2.1 from rfl]
  generalize hA : (cellI p s == 0) = A
  have hA' : A = true → decide (cellI p s > 0) = false := fun h => by
    subst hA
    rw [beq_iff_eq] at h
    simp [h]
  generalize decide (cellI p s > 0) = B at hA'
  generalize ((cellI p s - 1).tmod 2 != p.2.2.1) = C
  rcases h6 with h6 | h6 | h6 <;> rw [h6] <;> cases A <;> cases B <;> cases C <;> simp_all
theorem way_iter {r : Rules} {p : Place} (h : Valid r p) {w : RWay} (hw : WayOk w) : ∀ (n : Nat) (out : List Int) (x y k : Int), 0 ≤ k → k + n = w.2.2.1 → out.length ≤ k.toNat → (0 ≤ x ∧ x < r.width) → (0 ≤ y ∧ y < r.height) →
    iterW (movesWay_L1 w r ((dyOf p w, ()), ()) p) ((out, x, y, k, ()), ()) = some ((out ++ wayL r p w n x y, ()), ())
  | 0, out, x, y, k, h0, hk, ho, hx, hy => by
    refine iterW_inr ?_
    unfold movesWay_L1
    have : decide (k < w.2.2.1) = false := by simp; omega
    simp only [this, cond_false, wayL, List.append_nil]
  | n + 1, out, x, y, k, h0, hk, ho, hx, hy => by
    have hr := h.r0
    have hd := dyOf_rng (p := p) hw
    obtain ⟨hdx, _, _, hm, _⟩ := hw
    have := hr.w8; have := hr.h8; have := hr.w1; have := hr.h1
    have ha := hr.area
    have hlt : decide (k < w.2.2.1) = true := by simp; omega
    have wx : w64 (x + w.1) = x + w.1 := w64_id (by omega) (by omega)
    have wy : w64 (y + dyOf p w) = y + dyOf p w := w64_id (by omega) (by omega)
    have wk : w64 (k + 1) = k + 1 := w64_id (by omega) (by omega)
    have hoff : ((((decide (x + w.1 < (0 : Int))) || (decide (x + w.1 ≥ r.2.1))) || (decide (y + dyOf p w < (0 : Int)))) || (decide (y + dyOf p w ≥ r.2.2.1))) = !onB r (x + w.1) (y + dyOf p w) := by
      rw [Bool.eq_iff_iff]
      simp only [Bool.or_eq_true, decide_eq_true_eq, Bool.not_eq_true', onB, decide_eq_false_iff_not]
      show ((x + w.1 < 0 ∨ x + w.1 ≥ r.width) ∨ y + dyOf p w < 0) ∨ y + dyOf p w ≥ r.height ↔ _
      omega
    unfold wayL
    cases hb : onB r (x + w.1) (y + dyOf p w) with
    | false =>
      refine iterW_inr ?_
      unfold movesWay_L1
      simp only [hlt, cond_true, wx, wy, hoff, hb, Bool.not_false, cond_false, List.append_nil]
    | true =>
      have hs := sq_rng hr hb
      obtain ⟨b1, b2, b3, b4⟩ := onB_iff.1 hb
      have hmul := mul_rng (show 0 ≤ r.width by omega) b3 b4
      have w1 : w64 ((y + dyOf p w) * r.2.1) = (y + dyOf p w) * r.2.1 := w64_id (by show _ ≤ (y + dyOf p w) * r.width; omega) (by show (y + dyOf p w) * r.width ≤ _; omega)
      have w2 : w64 ((y + dyOf p w) * r.2.1 + (x + w.1)) = sq r (x + w.1) (y + dyOf p w) := w64_id (by show _ ≤ sq r (x + w.1) (y + dyOf p w); omega) (by show sq r (x + w.1) (y + dyOf p w) ≤ _; omega)
      have hat := at_cell (p := p) hs.1 (by rw [h.cells]; exact hs.2)
      have hlen := h.cells
      have hstep : movesWay_L1 w r ((dyOf p w, ()), ()) p ((out, x, y, k, ()), ()) = (bif cellI p (sq r (x + w.1) (y + dyOf p w)) != 0 then some (.inr ((out ++ (bif takes p w (cellI p (sq r (x + w.1) (y + dyOf p w))) then [sq r (x + w.1) (y + dyOf p w)] else []), ()), ())) else some (.inl ((out ++ (bif takes p w (cellI p (sq r (x + w.1) (y + dyOf p w))) then [sq r (x + w.1) (y + dyOf p w)] else []), x + w.1, y + dyOf p w, k + 1, ()), ()))) := by
        unfold movesWay_L1
        simp only [hlt, cond_true, wx, wy, hoff, hb, Bool.not_true, cond_false, w1, w2, wk, hat, Option.bind_some, takes_prog h ⟨hdx, ‹_›, ‹_›, hm, ‹_›⟩, show ∀ b, imp b true = true from fun b => by cases b <;> rfl, req_true]
        have hroom : room (out.length + [sq r (x + w.1) (y + dyOf p w)].length) 8 = true := room_ok (by simp; omega)
        cases takes p w (cellI p (sq r (x + w.1) (y + dyOf p w)))
        · simp
        · simp only [cond_true, hroom, req_true, Option.bind_some]
      cases hc : (cellI p (sq r (x + w.1) (y + dyOf p w)) == 0) with
      | true =>
        have hne : (cellI p (sq r (x + w.1) (y + dyOf p w)) != 0) = false := by simp only [bne, hc]; rfl
        rw [hne, cond_false] at hstep
        rw [iterW_inl hstep, way_iter h ⟨hdx, ‹_›, ‹_›, hm, ‹_›⟩ n _ (x + w.1) (y + dyOf p w) (k + 1) (by omega) (by omega) (by
          have : (bif takes p w (cellI p (sq r (x + w.1) (y + dyOf p w))) then [sq r (x + w.1) (y + dyOf p w)] else []).length ≤ 1 := by cases takes p w (cellI p (sq r (x + w.1) (y + dyOf p w))) <;> simp
          rw [List.length_append]; omega) ⟨b1, b2⟩ ⟨b3, b4⟩]
        simp [List.append_assoc]
      | false =>
        have hne : (cellI p (sq r (x + w.1) (y + dyOf p w)) != 0) = true := by simp only [bne, hc]; rfl
        rw [hne, cond_true] at hstep
        rw [iterW_inr hstep]
        simp
theorem way_spec {r : Rules} {p : Place} (h : Valid r p) {w : RWay} (hw : WayOk w) {s : Int} (h0 : 0 ≤ s) (h1 : s < r.width * r.height) : movesWay r p s w = some (wayS r p s w) := by
  have hr := h.r0
  have hd := div_rng hr h0 h1
  have := hr.w8; have := hr.h8; have := hr.w1; have := hr.h1
  obtain ⟨hdx, hdy, hnz, hm, htk⟩ := id hw
  unfold movesWay wayS
  have hq : (r.2.1 != 0) = true := bne_t (by show ¬ r.width = 0; omega)
  have wdy : (bif (p.2.2.1 == (1 : Int)) then some (((w64 (0 - w.2.1)), ()), ()) else some ((w.2.1, ()), ())) = some ((dyOf p w, ()), ()) := by
    unfold dyOf
    by_cases e : p.turn = 1
    · rw [if_pos e, beq_t e, cond_true, w64_id (by omega) (by omega)]; simp
    · rw [if_neg e, beq_f e, cond_false]
  have wq : w64 (s.tdiv r.2.1) = s.tdiv r.2.1 := w64_id (by show _ ≤ s.tdiv r.width; omega) (by show s.tdiv r.width ≤ _; omega)
  rw [wdy, Option.bind_some, hq, req_true, req_true, wq, way_iter h hw w.2.2.1.toNat [] _ _ 0 (by omega) (by omega) (by simp) hd.1 hd.2]
  simp
theorem mulb {k d : Int} (h0 : 0 ≤ k) (h8 : k ≤ 8) (d0 : -7 ≤ d) (d7 : d ≤ 7) : -56 ≤ k * d ∧ k * d ≤ 56 := by
  have : k = 0 ∨ k = 1 ∨ k = 2 ∨ k = 3 ∨ k = 4 ∨ k = 5 ∨ k = 6 ∨ k = 7 ∨ k = 8 := by omega
  rcases this with rfl | rfl | rfl | rfl | rfl | rfl | rfl | rfl | rfl <;> omega
theorem enemy_ref {r : Rules} {p : Place} (h : Valid r p) {c : Int} (h0 : 0 ≤ c) : (decide (c > 0) && ((c - 1).tmod 2 == 1 - p.turn)) = enemy p c := by
  unfold enemy
  by_cases hc : c > 0
  · have : (c - 1).tmod 2 = 0 ∨ (c - 1).tmod 2 = 1 := by rw [Int.tmod_eq_emod_of_nonneg (by omega)]; omega
    have ht := h.turn
    rw [decide_eq_true hc, Bool.true_and, Bool.true_and, Bool.eq_iff_iff, beq_iff_eq, bne_iff_ne]
    show _ ↔ ¬ _
    omega
  · simp [hc]
end Go.Proofs.YtocnfflklfeocaaGreat
namespace Go.Proofs.YtocnfflklfeocaaGreat
open Go.Den
set_option linter.unusedVariables false
set_option linter.unusedSimpArgs false
set_option maxRecDepth 100000

theorem lt_iff (x y : Mv) : mvLt x y = true ↔ x.1 < y.1 ∨ x.1 = y.1 ∧ (x.2.1 < y.2.1 ∨ x.2.1 = y.2.1 ∧ x.2.2.1 < y.2.2.1) := by simp [mvLt]
theorem lt_f (x y : Mv) : mvLt x y = false ↔ ¬ (x.1 < y.1 ∨ x.1 = y.1 ∧ (x.2.1 < y.2.1 ∨ x.2.1 = y.2.1 ∧ x.2.2.1 < y.2.2.1)) := by rw [← lt_iff, Bool.not_eq_true]
theorem mv_eq {x y : Mv} (h1 : x.1 = y.1) (h2 : x.2.1 = y.2.1) (h3 : x.2.2.1 = y.2.2.1) : x = y := by
  obtain ⟨a, b, c, ⟨⟩⟩ := x
  obtain ⟨a', b', c', ⟨⟩⟩ := y
  simp only at h1 h2 h3
  subst h1 h2 h3
  rfl
theorem mv_beq (x y : Mv) : ((x.1 == y.1) && ((x.2.1 == y.2.1) && ((x.2.2.1 == y.2.2.1) && true))) = decide (x = y) := by
  rw [Bool.eq_iff_iff]
  simp only [Bool.and_eq_true, beq_iff_eq, decide_eq_true_eq, and_true]
  constructor
  · rintro ⟨h1, h2, h3⟩; exact mv_eq h1 h2 h3
  · rintro rfl; exact ⟨rfl, rfl, rfl⟩

/-- each once, of a list in which equals are neighbours -/
def dd1 (a : Mv) : List Mv → List Mv
  | [] => []
  | x :: xs => if x = a then dd1 a xs else x :: dd1 x xs
def dd : List Mv → List Mv
  | [] => []
  | x :: xs => x :: dd1 x xs
theorem dd1_snoc (y : Mv) : ∀ (l : List Mv) (a : Mv), dd1 a (l ++ [y]) = dd1 a l ++ (if (a :: l).getLast (by simp) = y then [] else [y])
  | [], a => by simp only [List.nil_append, dd1, List.getLast_singleton]; by_cases h : y = a <;> simp [h, eq_comm]
  | x :: xs, a => by
    simp only [List.cons_append, dd1]
    by_cases h : x = a
    · subst h
      rw [if_pos rfl, if_pos rfl, dd1_snoc y xs x]
      congr 2
    · rw [if_neg h, if_neg h, dd1_snoc y xs x, List.cons_append]
      congr 2
theorem dd_snoc {l : List Mv} (hl : l ≠ []) (y : Mv) : dd (l ++ [y]) = dd l ++ (if l.getLast hl = y then [] else [y]) := by
  cases l with
  | nil => exact absurd rfl hl
  | cons x xs => simp only [List.cons_append, dd, dd1_snoc]
theorem dd1_mem (z : Mv) : ∀ (l : List Mv) (a : Mv), z ∈ a :: dd1 a l ↔ z ∈ a :: l
  | [], a => by simp [dd1]
  | x :: xs, a => by
    simp only [dd1]
    by_cases h : x = a
    · subst h; rw [if_pos rfl, dd1_mem z xs x]; simp
    · rw [if_neg h, List.mem_cons, dd1_mem z xs x, ← List.mem_cons]
theorem dd_mem (z : Mv) (l : List Mv) : z ∈ dd l ↔ z ∈ l := by
  cases l with
  | nil => simp [dd]
  | cons x xs => exact dd1_mem z xs x
theorem dd1_lt : ∀ (l : List Mv) (a : Mv), (a :: l).Pairwise (fun x y => (!mvLt y x) = true) → (a :: dd1 a l).Pairwise (fun x y => mvLt x y = true)
  | [], a, h => by simp [dd1]
  | x :: xs, a, h => by
    simp only [dd1]
    rw [List.pairwise_cons] at h
    by_cases e : x = a
    · subst e; rw [if_pos rfl]; exact dd1_lt xs x h.2
    · rw [if_neg e, List.pairwise_cons]
      refine ⟨fun z hz => ?_, dd1_lt xs x h.2⟩
      have hz' := (dd1_mem z xs x).1 hz
      have h1 := h.1 x (by simp)
      have hax : mvLt a x = true := by
        rw [Bool.not_eq_true', lt_f] at h1
        rw [lt_iff]
        by_cases c1 : a.1 = x.1
        · by_cases c2 : a.2.1 = x.2.1
          · by_cases c3 : a.2.2.1 = x.2.2.1
            · exact absurd (mv_eq c1 c2 c3).symm e
            · omega
          · omega
        · omega
      rcases List.mem_cons.1 hz' with rfl | hz2
      · exact hax
      · have h2 := (List.pairwise_cons.1 h.2).1 z hz2
        rw [Bool.not_eq_true', lt_f] at h2
        rw [lt_iff] at hax ⊢
        omega
theorem dd_lt {l : List Mv} (h : l.Pairwise (fun x y => (!mvLt y x) = true)) : (dd l).Pairwise (fun x y => mvLt x y = true) := by
  cases l with
  | nil => simp [dd]
  | cons x xs => exact dd1_lt xs x h
theorem sort_pw (l : List Mv) : (sortMoves l).Pairwise (fun x y => (!mvLt y x) = true) := by
  unfold sortMoves
  apply List.pairwise_mergeSort
  · intro a b c h1 h2
    rw [Bool.not_eq_true', lt_f] at *
    omega
  · intro a b
    rw [Bool.or_eq_true, Bool.not_eq_true', Bool.not_eq_true', lt_f, lt_f]
    omega
theorem sort_mem (z : Mv) (l : List Mv) : z ∈ sortMoves l ↔ z ∈ l := (List.mergeSort_perm l _).mem_iff
theorem sort_len (l : List Mv) : (sortMoves l).length = l.length := List.length_mergeSort l
theorem lt_irrefl (x : Mv) : mvLt x x = false := by rw [lt_f]; omega
/-- two lists in strict order with the same moves are the same -/
theorem lt_unique : ∀ {l m : List Mv}, l.Pairwise (fun x y => mvLt x y = true) → m.Pairwise (fun x y => mvLt x y = true) → (∀ z, z ∈ l ↔ z ∈ m) → l = m
  | [], [], _, _, _ => rfl
  | [], y :: m, _, _, h => by have := (h y).2 (by simp); simp at this
  | x :: l, [], _, _, h => by have := (h x).1 (by simp); simp at this
  | x :: l, y :: m, hl, hm, h => by
    rw [List.pairwise_cons] at hl hm
    have e : x = y := by
      rcases List.mem_cons.1 ((h x).1 (by simp)) with e | e
      · exact e
      · rcases List.mem_cons.1 ((h y).2 (by simp)) with e2 | e2
        · exact e2.symm
        · have a := hm.1 x e
          have b := hl.1 y e2
          rw [lt_iff] at a b
          omega
    subst e
    congr 1
    refine lt_unique hl.2 hm.2 fun z => ⟨fun hz => ?_, fun hz => ?_⟩
    · rcases List.mem_cons.1 ((h z).1 (by simp [hz])) with e | e
      · subst e; have := hl.1 z hz; rw [lt_irrefl] at this; cases this
      · exact e
    · rcases List.mem_cons.1 ((h z).2 (by simp [hz])) with e | e
      · subst e; have := hm.1 z hz; rw [lt_irrefl] at this; cases this
      · exact e

/-! ### compacting -/
abbrev d0 : Mv := ((0 : Int), ((0 : Int), ((0 : Int), ())))
theorem get_take {xs : List Mv} {j : Nat} (h : j < xs.length) : xs.take (j + 1) = xs.take j ++ [getD' xs j d0] := by
  rw [List.take_succ_eq_append_getElem h]
  simp [getD', h]
theorem dd_take {xs : List Mv} {j : Nat} (h : j < xs.length) (hj : 1 ≤ j) : dd (xs.take (j + 1)) = dd (xs.take j) ++ (if getD' xs (j - 1) d0 = getD' xs j d0 then [] else [getD' xs j d0]) := by
  have hne : xs.take j ≠ [] := by
    intro e
    have := congrArg List.length e
    rw [List.length_take] at this
    simp only [List.length_nil] at this
    omega
  rw [get_take h, dd_snoc hne]
  have : (xs.take j).getLast hne = getD' xs (j - 1) d0 := by
    rw [List.getLast_eq_getElem]
    simp only [List.getElem_take, List.length_take, getD']
    rw [List.getD_eq_getElem?_getD, List.getElem?_eq_getElem (by omega)]
    simp only [Option.getD_some]
    congr 1
    omega
  rw [this]
theorem compact5 (xs : List Mv) (k0 : Nat) (hk0 : 1 ≤ k0) (hk1 : k0 < xs.length) (hx : xs.length ≤ 1000000) (hd : dd (xs.take (k0 + 1)) = xs.take k0) :
    ∃ r, iterW (movesList_L5 (((k0 : Int), ()), (xs, ()))) (((k0 : Int), (1 : Int), ()), (xs, ())) = some r ∧ (∃ k : Nat, r.1.1 = (k : Int) ∧ k ≤ xs.length ∧ r.2.1.length = xs.length ∧ r.2.1.take k = dd xs) := by
  refine iterW_meas (fun x => ∃ (k k2 : Nat), x.1.1 = (k : Int) ∧ x.1.2.1 = (k2 : Int) ∧ 1 ≤ k2 ∧ k0 + k2 ≤ xs.length ∧ k0 ≤ k ∧ k + 1 ≤ k0 + k2 ∧ x.2.1.length = xs.length ∧ (∀ j, k0 + k2 ≤ j + 1 → getD' x.2.1 j d0 = getD' xs j d0) ∧ x.2.1.take k = dd (xs.take (k0 + k2))) (fun x => xs.length - x.1.2.1.toNat) _ ?_ _ ⟨k0, 1, rfl, rfl, by omega, by omega, by omega, by omega, rfl, fun _ _ => rfl, by rw [hd]⟩
  rintro ⟨⟨k, k2, ⟨⟩⟩, ys, ⟨⟩⟩ ⟨K, K2, e1, e2, h1, h2, h3, h4, h5, h6, h7⟩
  simp only at e1 e2 h5 h6 h7
  subst e1 e2
  unfold movesList_L5
  simp only [Int.toNat_natCast]
  by_cases hlt : K2 < xs.length - k0
  · left
    have c1 : decide ((K2 : Int) < ((xs.length - k0 : Nat) : Int)) = true := by simp; omega
    have c2 : inb (K2 : Int) (xs.length - k0) = true := inb_iff.2 ⟨by omega, by omega⟩
    have w1 : w64 ((K2 : Int) - 1) = ((K2 - 1 : Nat) : Int) := by rw [w64_id (by omega) (by omega)]; omega
    have c3 : inb ((K2 - 1 : Nat) : Int) (xs.length - k0) = true := inb_iff.2 ⟨by omega, by omega⟩
    have w2 : w64 ((K2 : Int) + 1) = ((K2 + 1 : Nat) : Int) := by rw [w64_id (by omega) (by omega)]; omega
    have w3 : w64 ((K : Int) + 1) = ((K + 1 : Nat) : Int) := by rw [w64_id (by omega) (by omega)]; omega
    have c4 : inb (K : Int) ys.length = true := inb_iff.2 ⟨by omega, by omega⟩
    have g1 : getD' ys (k0 + K2) d0 = getD' xs (k0 + K2) d0 := h6 _ (by omega)
    have g2 : getD' ys (k0 + (K2 - 1)) d0 = getD' xs (k0 + (K2 - 1)) d0 := h6 _ (by omega)
    have hdd := dd_take (xs := xs) (j := k0 + K2) (by omega) (by omega)
    simp only [c1, cond_true, c2, req_true, w1, Int.toNat_natCast, c3, w2, w3, c4, mv_beq, g1, g2]
    by_cases he : getD' xs (k0 + K2) d0 = getD' xs (k0 + (K2 - 1)) d0
    · refine ⟨(((K : Int), ((K2 + 1 : Nat) : Int), ()), (ys, ())), by simp [he], ⟨K, K2 + 1, rfl, rfl, by omega, by omega, by omega, by omega, h5, fun j hj => h6 j (by omega), ?_⟩, by simp; omega⟩
      rw [show k0 + (K2 + 1) = k0 + K2 + 1 by omega, hdd, if_pos (by rw [he]; congr 1; omega), List.append_nil]
      exact h7
    · refine ⟨((((K + 1 : Nat) : Int), ((K2 + 1 : Nat) : Int), ()), (ys.set K (getD' xs (k0 + K2) d0), ())), by simp [he], ⟨K + 1, K2 + 1, rfl, rfl, by omega, by omega, by omega, by omega, by simp [h5], fun j hj => ?_, ?_⟩, by simp; omega⟩
      · rw [← h6 j (by omega)]
        simp only [getD']
        simp only [List.getD_eq_getElem?_getD]
        rw [List.getElem?_set_ne (by omega)]
      · rw [show k0 + (K2 + 1) = k0 + K2 + 1 by omega, hdd, if_neg (by intro e; apply he; rw [← e]; congr 1; omega), ← h7]
        rw [List.take_succ_eq_append_getElem (by simp; omega)]
        simp [List.take_set_of_le]
  · right
    have c1 : decide ((K2 : Int) < ((xs.length - k0 : Nat) : Int)) = false := by simp; omega
    refine ⟨(((K : Int), ()), (ys, ())), by simp only [c1, cond_false], K, rfl, by omega, h5, ?_⟩
    rw [h7, show k0 + K2 = xs.length by omega, List.take_length]
theorem compact4 (xs : List Mv) (hx : xs.length ≤ 1000000) (h2 : 2 ≤ xs.length) :
    (Option.bind (α := ((Unit) × ((List Mv) × Unit)) ⊕ (((List Mv) × Unit) × (Unit))) (iterW movesList_L4 (((1 : Int), ()), (xs, ()))) (Sum.elim (fun x23 => some ((x23.2.1, ()), ())) some)) = some ((dd xs, ()), ()) := by
  obtain ⟨r, hr, hq⟩ := iterW_meas (f := movesList_L4) (fun x => ∃ k : Nat, x = (((k : Int), ()), (xs, ())) ∧ 1 ≤ k ∧ k ≤ xs.length ∧ dd (xs.take k) = xs.take k) (fun x => xs.length - x.1.1.toNat) (fun r => r = .inl ((), (xs, ())) ∧ dd xs = xs ∨ r = .inr ((dd xs, ()), ())) (by
    rintro x ⟨k, rfl, h1, h3, h4⟩
    unfold movesList_L4
    simp only [Int.toNat_natCast]
    by_cases hlt : k < xs.length
    · have c1 : decide ((k : Int) < ((xs.length : Nat) : Int)) = true := by simp; omega
      have c2 : inb (k : Int) xs.length = true := inb_iff.2 ⟨by omega, by omega⟩
      have w1 : w64 ((k : Int) - 1) = ((k - 1 : Nat) : Int) := by rw [w64_id (by omega) (by omega)]; omega
      have c3 : inb ((k - 1 : Nat) : Int) xs.length = true := inb_iff.2 ⟨by omega, by omega⟩
      have w2 : w64 ((k : Int) + 1) = ((k + 1 : Nat) : Int) := by rw [w64_id (by omega) (by omega)]; omega
      have c4 : boundsI (k : Int) ((xs.length : Nat) : Int) xs.length = true := by simp [boundsI]; omega
      have hdd := dd_take hlt h1
      simp only [c1, cond_true, c2, req_true, w1, Int.toNat_natCast, c3, c4, mv_beq]
      by_cases he : getD' xs k d0 = getD' xs (k - 1) d0
      · right
        rw [if_pos he.symm, List.append_nil, h4] at hdd
        obtain ⟨r, hr, K, e1, e2, e3, e4⟩ := compact5 xs k h1 hlt hx hdd
        obtain ⟨⟨k', ⟨⟩⟩, ys, ⟨⟩⟩ := r
        simp only at e1 e3 e4
        subst e1
        refine ⟨.inr ((dd xs, ()), ()), ?_, .inr rfl⟩
        rw [hr]
        have c5 : boundsI (K : Int) ((ys.length : Nat) : Int) ys.length = true := by simp [boundsI]; omega
        have c6 : ∀ l : List Mv, K ≤ l.length → boundsI 0 (K : Int) l.length = true := fun l hl => by simp [boundsI]; omega
        simp only [he, decide_true, cond_true, Option.bind_some, c5, req_true, Int.toNat_natCast]
        rw [c6 _ (by simp; omega), req_true, Option.bind_some, Sum.elim_inr, List.take_append_of_le_length (by simp; omega), List.take_take, Nat.min_self, e4]
      · left
        refine ⟨((((k + 1 : Nat) : Int), ()), (xs, ())), ?_, ⟨k + 1, rfl, by omega, by omega, ?_⟩, by simp; omega⟩
        · simp only [he, decide_false, cond_false, Option.bind_some, Sum.elim_inl, w2]
        · rw [hdd, if_neg (fun e => he e.symm), h4, ← get_take hlt]
    · right
      have c1 : decide ((k : Int) < ((xs.length : Nat) : Int)) = false := by simp; omega
      refine ⟨.inl ((), (xs, ())), by simp only [c1, cond_false], .inl ⟨rfl, ?_⟩⟩
      have : k = xs.length := by omega
      rw [this, List.take_length] at h4
      exact h4) (((1 : Int), ()), (xs, ())) ⟨1, rfl, by omega, by omega, by
        cases xs with
        | nil => rfl
        | cons x l => rfl⟩
  rw [hr]
  rcases hq with ⟨rfl, e⟩ | rfl
  · rw [e]; rfl
  · rfl
end Go.Proofs.YtocnfflklfeocaaGreat
namespace Go.Proofs.YtocnfflklfeocaaGreat
open Go.Den
set_option linter.unusedVariables false
set_option linter.unusedSimpArgs false
set_option maxRecDepth 100000

def handOf (p : Place) : List Int := getD' [p.2.1.1, p.2.1.2.1] (p.2.2.1).toNat []
theorem handOf_eq {r : Rules} {p : Place} (h : Valid r p) : handOf p = if p.turn = 0 then p.h0 else p.h1 := by
  unfold handOf
  rcases h.turn with e | e
  · rw [if_pos e, show p.2.2.1 = 0 from e]; rfl
  · rw [if_neg (by omega), show p.2.2.1 = 1 from e]; rfl
theorem hand_len {r : Rules} {p : Place} (h : Valid r p) : (handOf p).length = r.pieces.length := by
  rw [handOf_eq h]; split
  · exact h.l0
  · exact h.l1
theorem hand_rng {r : Rules} {p : Place} (h : Valid r p) : ∀ c ∈ handOf p, 0 ≤ c ∧ c ≤ 1000 := by
  rw [handOf_eq h]; split
  · exact h.hand0
  · exact h.hand1
def handI (p : Place) (k : Int) : Int := (handOf p).getD k.toNat 0
theorem at_hand {p : Place} {k : Int} (h0 : 0 ≤ k) (h1 : k < (((handOf p).length : Nat) : Int)) : at? (getD' [p.2.1.1, p.2.1.2.1] (p.2.2.1).toNat []) k = some (handI p k) := by
  show at? (handOf p) k = _
  rw [at?_eq _ k h0 h1]
  unfold handI
  rw [List.getD_eq_getElem?_getD, List.getElem?_eq_getElem (by omega)]
  rfl
theorem handI_rng {r : Rules} {p : Place} (h : Valid r p) (k : Int) : 0 ≤ handI p k ∧ handI p k ≤ 1000 := by
  unfold handI
  rw [List.getD_eq_getElem?_getD]
  cases e : (handOf p)[k.toNat]? with
  | none => simp
  | some c => exact hand_rng h c (List.mem_of_getElem? e)

/-! ### columns -/
def colF (p : Place) (W x0 : Int) : Nat → Bool
  | 0 => true
  | y + 1 => colF p W x0 y && (cellI p (x0 + (y : Int) * W) != 0)
theorem colF_any (p : Place) (W x0 : Int) : ∀ y, colF p W x0 y = !((List.range y).any fun i => cellI p (x0 + (i : Int) * W) == 0)
  | 0 => rfl
  | y + 1 => by rw [colF, colF_any p W x0 y, List.range_succ, List.any_append]; simp [bne]
def filledB (r : Rules) (p : Place) (s : Int) : Bool := colF p r.width (s.tmod r.width) (s.tdiv r.width).toNat
theorem div_eq {W s : Int} (hW : 1 ≤ W) (h0 : 0 ≤ s) : s = s.tmod W + ((s.tdiv W).toNat : Int) * W := by
  have h1 := Int.tmod_add_tdiv_mul s W
  have h2 : 0 ≤ s.tdiv W := by rw [Int.tdiv_eq_ediv_of_nonneg h0]; exact Int.ediv_nonneg h0 (by omega)
  rw [Int.toNat_of_nonneg h2]
  exact h1.symm
theorem mulN {y W : Int} (hy : 0 ≤ y) (hW : 0 ≤ W) : 0 ≤ y * W := Int.mul_nonneg hy hW
theorem filled_iter {r : Rules} {p : Place} (h : Valid r p) {x0 : Int} (hx : 0 ≤ x0 ∧ x0 < r.width) : ∀ (y : Nat), (y : Int) ≤ r.height →
    (Option.bind (α := ((Unit) × (Unit)) ⊕ Bool) (iterW (movesFilled_L1 p r) ((x0 + (y : Int) * r.width - r.width, ()), ())) (Sum.elim (fun x3 => some true) some)) = some (colF p r.width x0 y)
  | 0, hy => by
    rw [iterW_inr (r := .inl ((), ())) (by
      unfold movesFilled_L1
      have : decide (x0 + ((0 : Nat) : Int) * r.width - r.width ≥ 0) = false := by simp; omega
      simp only [this, cond_false])]
    rfl
  | y + 1, hy => by
    have hr := h.r0
    have := hr.w8; have := hr.h8; have := hr.w1; have := hr.h1
    have ha := hr.area
    have hb : onB r x0 (y : Int) = true := onB_iff.2 ⟨hx.1, hx.2, by omega, by omega⟩
    have hs := sq_rng hr hb
    have hm := mul_rng (show 0 ≤ r.width by omega) (show (0 : Int) ≤ (y : Int) by omega) (show (y : Int) < r.height by omega)
    have e : x0 + ((y + 1 : Nat) : Int) * r.width - r.width = x0 + (y : Int) * r.width := by
      rw [show ((y + 1 : Nat) : Int) = (y : Int) + 1 by omega, Int.add_mul]; omega
    rw [e]
    have hat := at_cell (p := p) (s := x0 + (y : Int) * r.width) (by omega) (by rw [h.cells]; omega)
    have hge : decide (x0 + (y : Int) * r.width ≥ 0) = true := by simp; omega
    cases hc : (cellI p (x0 + (y : Int) * r.width) == 0) with
    | true =>
      rw [iterW_inr (r := .inr false) (by
        unfold movesFilled_L1
        simp only [hge, cond_true, hat, Option.bind_some, hc])]
      simp [colF, bne, hc]
    | false =>
      rw [iterW_inl (y := ((x0 + (y : Int) * r.width - r.width, ()), ())) (by
        unfold movesFilled_L1
        simp only [hge, cond_true, hat, Option.bind_some, hc, cond_false]
        rw [w64_id (n := x0 + (y : Int) * r.width - r.2.1) (by show _ ≤ x0 + (y : Int) * r.width - r.width; omega) (by show x0 + (y : Int) * r.width - r.width ≤ _; omega)]), filled_iter h hx y (by omega)]
      simp [colF, bne, hc]
theorem filled_spec {r : Rules} {p : Place} (h : Valid r p) {s : Int} (h0 : 0 ≤ s) (h1 : s < r.width * r.height) : movesFilled r p s = some (filledB r p s) := by
  have hr := h.r0
  have := hr.w8; have := hr.h8; have := hr.w1; have := hr.h1
  have ha := hr.area
  have hd := div_rng hr h0 h1
  have e := div_eq hr.w1 h0
  unfold movesFilled filledB
  rw [w64_id (n := s - r.2.1) (by show _ ≤ s - r.width; omega) (by show s - r.width ≤ _; omega)]
  have := filled_iter h hd.1 (s.tdiv r.width).toNat (by omega)
  rw [← e] at this
  exact this
def putOk (r : Rules) (p : Place) (s : Int) : Bool := (cellI p s == 0) && (!r.falls || filledB r p s)
def putsAt (r : Rules) (p : Place) (s : Nat) : List Mv := bif putOk r p (s : Int) then (List.range (handOf p).length).flatMap (fun k : Nat => bif decide (handI p (k : Int) > 0) then [((-1 : Int), ((s : Int), ((k : Int), ())))] else []) else []
theorem fm_len1 {A : Type} (n : Nat) (F : Nat → List A) (h : ∀ k, (F k).length ≤ 1) : ((List.range n).flatMap F).length ≤ n := by
  have := flatMap_len F 1 (List.range n) (fun k _ => h k)
  simpa using this
theorem putsAt_len {r : Rules} {p : Place} (h : Valid r p) (s : Nat) : (putsAt r p s).length ≤ 6 := by
  unfold putsAt
  cases putOk r p (s : Int)
  · simp
  · rw [cond_true]
    refine Nat.le_trans (fm_len1 _ _ fun k => ?_) (by rw [hand_len h]; exact h.r0.t6)
    cases decide (handI p (k : Int) > 0) <;> simp
theorem area_len {r : Rules} {p : Place} (h : Valid r p) : p.1.length ≤ 64 := by
  have := h.cells
  have := h.r0.area
  have h1 : ((p.1.length : Nat) : Int) = r.width * r.height := h.cells
  omega
theorem puts_spec {r : Rules} {p : Place} (h : Valid r p) : movesPuts r p = some ((List.range p.1.length).flatMap (putsAt r p)) := by
  have hr := h.r0
  have := hr.w8; have := hr.h8; have := hr.w1; have := hr.h1
  have ha := hr.area
  have hlen : ((p.1.length : Nat) : Int) = r.width * r.height := h.cells
  have h64 := area_len h
  have hh : (handOf p).length ≤ 6 := by rw [hand_len h]; exact hr.t6
  unfold movesPuts
  rw [iter_app (A := Mv) p.1.length 6 (movesPuts_L1 p r) (putsAt r p) (fun a => ((a, ()), ())) [] (fun i _ => putsAt_len h i) (fun i hi a hal => ?_) (fun a => ?_)]
  · simp
  · unfold movesPuts_L1
    have c1 : decide ((i : Int) < ((p.1.length : Nat) : Int)) = true := by simp; omega
    have hat := at_cell (p := p) (s := (i : Int)) (by omega) (by show (i : Int) < ((p.1.length : Nat) : Int); omega)
    simp only [c1, cond_true, hat, Option.bind_some]
    have hf := filled_spec h (s := (i : Int)) (by omega) (by omega)
    have hfil : (i : Int) < r.width → filledB r p (i : Int) = true := fun hlt => by
      unfold filledB
      rw [Int.tdiv_eq_ediv_of_nonneg (by omega), Int.ediv_eq_zero_of_lt (by omega) hlt]
      rfl
    rw [hf]
    have hg : ∀ b c : Bool, gopt b false (some c) = some (b && c) := fun b c => by cases b <;> rfl
    rw [hg, Option.bind_some]
    have hcond : ((cellI p (i : Int) != (0 : Int)) || ((r.2.2.2.2.2.1 && (decide ((i : Int) ≥ r.2.1))) && (!(((r.2.2.2.2.2.1 && (decide ((i : Int) ≥ r.2.1))) && (!(cellI p (i : Int) != (0 : Int)))) && filledB r p (i : Int))))) = !putOk r p (i : Int) := by
      unfold putOk
      rw [show r.2.2.2.2.2.1 = r.falls from rfl]
      by_cases hlt : (i : Int) < r.width
      · rw [hfil hlt, show decide ((i : Int) ≥ r.2.1) = false by simp; exact hlt]
        simp only [bne]
        cases (cellI p (i : Int) == 0) <;> cases r.falls <;> rfl
      · rw [show decide ((i : Int) ≥ r.2.1) = true by simp; show r.width ≤ (i : Int); omega]
        simp only [bne]
        cases (cellI p (i : Int) == 0) <;> cases r.falls <;> cases filledB r p (i : Int) <;> rfl
    rw [hcond, w64_id (n := (i : Int) + 1) (by omega) (by omega)]
    unfold putsAt
    cases hp : putOk r p (i : Int) with
    | false => simp
    | true =>
      have hin : inb p.2.2.1 2 = true := inb_iff.2 (by have := h.turn; show 0 ≤ p.turn ∧ p.turn < ((2 : Nat) : Int); omega)
      simp only [Bool.not_true, cond_false, cond_true, hin, req_true]
      rw [iter_app (A := Mv) (handOf p).length 1 (movesPuts_L2 p ((a, (i : Int), ()), ())) (fun k => bif decide (handI p (k : Int) > 0) then [((-1 : Int), ((i : Int), ((k : Int), ())))] else []) (fun a => ((a, ()), ())) a (fun k _ => by cases decide (handI p (k : Int) > 0) <;> simp) (fun k hk a2 ha2 => ?_) (fun a2 => ?_)]
      · rfl
      · unfold movesPuts_L2
        have c2 : decide ((k : Int) < (((getD' [p.2.1.1, p.2.1.2.1] (p.2.2.1).toNat []).length : Nat) : Int)) = true := by
          have : k < (getD' [p.2.1.1, p.2.1.2.1] (p.2.2.1).toNat []).length := hk
          simp; exact this
        have hat2 := at_hand (p := p) (k := (k : Int)) (by omega) (by omega)
        simp only [c2, cond_true, hat2, Option.bind_some]
        rw [w64_id (n := (k : Int) + 1) (by omega) (by omega)]
        cases decide (handI p (k : Int) > 0)
        · simp
        · have hroom : room (a2.length + [((-1 : Int), ((i : Int), ((k : Int), ())))].length) 24 = true := room_ok (by
            simp only [List.length_singleton, List.length_nil] at *
            have : i * 6 ≤ 64 * 6 := Nat.mul_le_mul_right _ (by omega)
            omega)
          simp only [cond_true, hroom, req_true, Option.bind_some]
      · unfold movesPuts_L2
        have c2 : decide ((((handOf p).length : Nat) : Int) < (((getD' [p.2.1.1, p.2.1.2.1] (p.2.2.1).toNat []).length : Nat) : Int)) = false := by
          show decide ((((handOf p).length : Nat) : Int) < (((handOf p).length : Nat) : Int)) = false
          simp
        simp only [c2, cond_false]
  · unfold movesPuts_L1
    simp

/-! ### moves of pieces -/
def lastB (r : Rules) (pl t : Int) : Bool := bif pl == 0 then t.tdiv r.width == r.height - 1 else t.tdiv r.width == 0
theorem isLast_spec {r : Rules} (hr : VR0 r) (pl : Int) {t : Int} (h0 : 0 ≤ t) (h1 : t < r.width * r.height) : rulesIsLast r pl t = some (lastB r pl t) := by
  have := hr.w8; have := hr.h8; have := hr.w1; have := hr.h1
  have hd := div_rng hr h0 h1
  have hq : (r.2.1 != 0) = true := bne_t (by show ¬ r.width = 0; omega)
  have w1 : w64 (t.tdiv r.2.1) = t.tdiv r.width := w64_id (by show _ ≤ t.tdiv r.width; omega) (by show t.tdiv r.width ≤ _; omega)
  have w2 : w64 (r.2.2.1 - 1) = r.height - 1 := w64_id (by show _ ≤ r.height - 1; omega) (by show r.height - 1 ≤ _; omega)
  unfold rulesIsLast lastB
  rw [hq, req_true, req_true, w1, w2]
  exact cond_some _ _ _
def pieceI (r : Rules) (k : Int) : Piece := r.pieces.getD k.toNat (0, 0, 0, [], ())
theorem at_piece {r : Rules} {k : Int} (h0 : 0 ≤ k) (h1 : k < ((r.pieces.length : Nat) : Int)) : at? r.2.2.2.1 k = some (pieceI r k) ∧ pieceI r k ∈ r.pieces := by
  have h1' : k < ((r.2.2.2.1.length : Nat) : Int) := h1
  rw [at?_eq r.2.2.2.1 k h0 h1]
  unfold pieceI
  rw [List.getD_eq_getElem?_getD, List.getElem?_eq_getElem (by show k.toNat < r.2.2.2.1.length; omega)]
  exact ⟨rfl, List.getElem_mem _⟩
def kindOf (c : Int) : Int := (c - 1).tdiv 2
theorem kind_rng {r : Rules} {p : Place} (h : Valid r p) {s : Int} (hm : cellI p s > 0) : w64 ((w64 (cellI p s - 1)).tdiv 2) = kindOf (cellI p s) ∧ 0 ≤ kindOf (cellI p s) ∧ kindOf (cellI p s) < ((r.pieces.length : Nat) : Int) := by
  have hc := cell_rng h s
  have ht := h.r0.t6
  rw [w64_id (n := cellI p s - 1) (by omega) (by omega)]
  unfold kindOf
  rw [Int.tdiv_eq_ediv_of_nonneg (by omega)]
  refine ⟨w64_id (by omega) (by omega), by omega, by omega⟩
def becomes (r : Rules) (p : Place) (k t : Int) : Int := bif decide ((pieceI r k).2.2.1 > 0) && lastB r p.turn t then (pieceI r k).2.2.1 - 1 else k
def goAt (r : Rules) (p : Place) (s : Nat) : List Mv := bif mineB p (cellI p (s : Int)) then (pieceI r (kindOf (cellI p (s : Int)))).2.2.2.1.flatMap (fun w => (wayS r p (s : Int) w).map fun t => ((s : Int), (t, (becomes r p (kindOf (cellI p (s : Int))) t, ())))) else []
theorem flatMap_range {A C : Type} (l : List C) (F : C → List A) (d : C) : (List.range l.length).flatMap (fun i => F (l.getD i d)) = l.flatMap F := by
  induction l with
  | nil => rfl
  | cons x l ih =>
    rw [List.length_cons, List.range_succ_eq_map, List.flatMap_cons, List.flatMap_cons, List.flatMap_map]
    have e : (fun a => F ((x :: l).getD a.succ d)) = fun i => F (l.getD i d) := by funext i; simp
    rw [e, ih]
    rfl
theorem map_range {A C : Type} (l : List C) (F : C → A) (d : C) : (List.range l.length).flatMap (fun i => [F (l.getD i d)]) = l.map F := by
  rw [flatMap_range l (fun x => [F x]) d]
  induction l with
  | nil => rfl
  | cons x l ih => rw [List.flatMap_cons, List.map_cons, ih]; rfl
theorem way_len {r : Rules} {p : Place} {s : Int} {w : RWay} (hw : WayOk w) : (wayS r p s w).length ≤ 7 := by
  obtain ⟨_, _, _, h4, _⟩ := hw
  exact Nat.le_trans (wayL_len _ _ _ _ _ _) (by omega)
theorem goAt_len {r : Rules} {p : Place} (h : Valid r p) (s : Nat) : (goAt r p s).length ≤ 112 := by
  unfold goAt
  cases hm : mineB p (cellI p (s : Int)) with
  | false => simp
  | true =>
    have hc : cellI p (s : Int) > 0 := by unfold mineB at hm; simp at hm; exact hm.1
    have hk := kind_rng h hc
    have hmem := (at_piece (r := r) hk.2.1 hk.2.2).2
    rw [cond_true]
    refine Nat.le_trans (flatMap_len _ 7 _ fun w hw => ?_) ?_
    · rw [List.length_map]; exact way_len (h.wayOk hmem hw)
    · have := h.r0.ways _ hmem
      omega
def movesRaw (r : Rules) (p : Place) : List Mv := (List.range p.1.length).flatMap (putsAt r p) ++ (List.range p.1.length).flatMap (goAt r p)
theorem list_raw {r : Rules} {p : Place} (h : Valid r p) : iterW (movesList_L1 p r) (((List.range p.1.length).flatMap (putsAt r p), (0 : Int), ()), ()) = some ((movesRaw r p, ()), ()) := by
  have hr := h.r0
  have := hr.w8; have := hr.h8; have := hr.w1; have := hr.h1
  have ha := hr.area
  have hlen : ((p.1.length : Nat) : Int) = r.width * r.height := h.cells
  have h64 := area_len h
  have hpl : ((List.range p.1.length).flatMap (putsAt r p)).length ≤ 64 * 6 := by
    refine Nat.le_trans (flatMap_len _ 6 _ fun i _ => putsAt_len h i) ?_
    rw [List.length_range]; exact Nat.mul_le_mul_right _ h64
  unfold movesRaw
  generalize (List.range p.1.length).flatMap (putsAt r p) = pl at hpl
  refine iter_app (A := Mv) p.1.length 112 (movesList_L1 p r) (goAt r p) (fun a => ((a, ()), ())) pl (fun i _ => goAt_len h i) (fun i hi a hal => ?_) (fun a => ?_)
  · have hal2 : a.length ≤ 64 * 6 + 64 * 112 := by
      have : i * 112 ≤ 64 * 112 := Nat.mul_le_mul_right _ (by omega)
      omega
    unfold movesList_L1
    have c1 : decide ((i : Int) < ((p.1.length : Nat) : Int)) = true := by simp; omega
    have hat := at_cell (p := p) (s := (i : Int)) (by omega) (by show (i : Int) < ((p.1.length : Nat) : Int); omega)
    have hc := cell_small h (i : Int)
    have hi2 : (i : Int) < r.width * r.height := by omega
    simp only [c1, cond_true, hat, Option.bind_some, show ∀ b, imp b true = true from fun b => by cases b <;> rfl, req_true]
    have hcond : ((cellI p (i : Int) == (0 : Int)) || (((w64 (cellI p (i : Int) - (1 : Int))).tmod (2 : Int)) != p.2.2.1)) = !mineB p (cellI p (i : Int)) := by
      rw [w64_id (n := cellI p (i : Int) - 1) (by omega) (by omega)]
      unfold mineB
      rw [show p.turn = p.2.2.1 from rfl]
      by_cases hz : cellI p (i : Int) = 0
      · simp [hz]
      · rw [beq_f hz, show decide (cellI p (i : Int) > 0) = true by simp; omega]
        simp [bne]
    rw [hcond, w64_id (n := (i : Int) + 1) (by omega) (by omega)]
    unfold goAt
    cases hm : mineB p (cellI p (i : Int)) with
    | false => simp
    | true =>
      have hcp : cellI p (i : Int) > 0 := by unfold mineB at hm; simp at hm; exact hm.1
      have hk := kind_rng h hcp
      obtain ⟨hpa, hmem⟩ := at_piece (r := r) hk.2.1 hk.2.2
      simp only [Bool.not_true, cond_false, hk.1, hpa, Option.bind_some, cond_true]
      generalize hK : kindOf (cellI p (i : Int)) = K at *
      have hways := h.r0.ways _ hmem
      have hWl : (pieceI r K).2.2.2.1.length ≤ 16 := hways
      rw [iter_app (A := Mv) (pieceI r K).2.2.2.1.length 7 (movesList_L2 (pieceI r K) r p ((a, (i : Int), ()), ()) (cellI p (i : Int))) (fun j => (wayS r p (i : Int) ((pieceI r K).2.2.2.1.getD j (0, 0, 0, 0, ()))).map fun t => ((i : Int), (t, (becomes r p K t, ())))) (fun a => ((a, ()), ())) a (fun j hj => ?_) (fun j hj a2 ha2 => ?_) (fun a2 => ?_)]
      · rw [flatMap_range (pieceI r K).2.2.2.1 (fun w => (wayS r p (i : Int) w).map fun t => ((i : Int), (t, (becomes r p K t, ())))) (0, 0, 0, 0, ())]
        rfl
      · rw [List.length_map, List.getD_eq_getElem?_getD, List.getElem?_eq_getElem hj]
        exact way_len (h.wayOk hmem (List.getElem_mem hj))
      · have ha22 : a2.length ≤ 64 * 6 + 64 * 112 + 112 := by
          have : j * 7 ≤ 16 * 7 := Nat.mul_le_mul_right _ (by omega)
          omega
        unfold movesList_L2
        have c2 : decide ((j : Int) < (((pieceI r K).2.2.2.1.length : Nat) : Int)) = true := by simp; omega
        have hatw : at? (pieceI r K).2.2.2.1 (j : Int) = some ((pieceI r K).2.2.2.1.getD j (0, 0, 0, 0, ())) := by
          rw [at?_eq _ _ (by omega) (by omega), List.getD_eq_getElem?_getD, List.getElem?_eq_getElem hj]; rfl
        have hwm : (pieceI r K).2.2.2.1.getD j (0, 0, 0, 0, ()) ∈ (pieceI r K).2.2.2.1 := by
          rw [List.getD_eq_getElem?_getD, List.getElem?_eq_getElem hj]; exact List.getElem_mem hj
        have hwo := h.wayOk hmem hwm
        simp only [c2, cond_true, hatw, Option.bind_some]
        generalize (pieceI r K).2.2.2.1.getD j (0, 0, 0, 0, ()) = w at *
        rw [way_spec h hwo (by omega) hi2, Option.bind_some]
        have hwl := way_len (r := r) (p := p) (s := (i : Int)) hwo
        have hwr : ∀ t ∈ wayS r p (i : Int) w, 0 ≤ t ∧ t < r.width * r.height := fun t ht => way_mem_rng hr ht
        generalize wayS r p (i : Int) w = T at *
        rw [iter_app (A := Mv) T.length 1 (movesList_L3 T r (cellI p (i : Int)) p ((a, (i : Int), ()), ())) (fun t => [((i : Int), (T.getD t 0, (becomes r p K (T.getD t 0), ())))]) (fun a => ((a, ()), ())) a2 (fun _ _ => by simp) (fun t ht a3 ha3 => ?_) (fun a3 => ?_)]
        · rw [map_range T (fun t => ((i : Int), (t, (becomes r p K t, ())))) 0]
          simp only [Option.bind_some]
          rw [w64_id (n := (j : Int) + 1) (by omega) (by omega)]
        · unfold movesList_L3
          have c3 : decide ((t : Int) < ((T.length : Nat) : Int)) = true := by simp; omega
          have c4 : inb (t : Int) T.length = true := inb_iff.2 ⟨by omega, by omega⟩
          have hg : getD' T t (0 : Int) = T.getD t 0 := rfl
          have htr := hwr (T.getD t 0) (by rw [List.getD_eq_getElem?_getD, List.getElem?_eq_getElem ht]; exact List.getElem_mem ht)
          simp only [c3, cond_true, c4, req_true, hk.1, hpa, Option.bind_some, Int.toNat_natCast, hg]
          generalize T.getD t 0 = tt at *
          rw [isLast_spec hr p.2.2.1 htr.1 htr.2]
          have hpr := h.r0.prom _ hmem
          have ht6 := h.r0.t6
          have hgo : ∀ b c : Bool, gopt b false (some c) = some (b && c) := fun b c => by cases b <;> rfl
          rw [hgo, Option.bind_some, w64_id (n := (pieceI r K).2.2.1 - 1) (by omega) (by omega), w64_id (n := (t : Int) + 1) (by omega) (by omega)]
          unfold becomes
          rw [show p.turn = p.2.2.1 from rfl]
          have hroom : room (a3.length + 1) 24 = true := room_ok (by omega)
          cases decide ((pieceI r K).2.2.1 > 0) <;> cases lastB r p.2.2.1 tt <;> simp [hroom, req_true]
        · unfold movesList_L3
          simp
      · unfold movesList_L2
        simp
  · unfold movesList_L1
    simp
theorem raw_len {r : Rules} {p : Place} (h : Valid r p) : (movesRaw r p).length ≤ 10000 := by
  have h64 := area_len h
  unfold movesRaw
  rw [List.length_append]
  have h1 : ((List.range p.1.length).flatMap (putsAt r p)).length ≤ 64 * 6 := by
    refine Nat.le_trans (flatMap_len _ 6 _ fun i _ => putsAt_len h i) ?_
    rw [List.length_range]; exact Nat.mul_le_mul_right _ h64
  have h2 : ((List.range p.1.length).flatMap (goAt r p)).length ≤ 64 * 112 := by
    refine Nat.le_trans (flatMap_len _ 112 _ fun i _ => goAt_len h i) ?_
    rw [List.length_range]; exact Nat.mul_le_mul_right _ h64
  omega
theorem list_dd {r : Rules} {p : Place} (h : Valid r p) : movesList r p = some (dd (sortMoves (movesRaw r p))) := by
  unfold movesList
  rw [puts_spec h, Option.bind_some, list_raw h, Option.bind_some]
  have hl := raw_len h
  have hb : Nat.blt (movesRaw r p).length 4611686018427387904 = true := by
    rw [Nat.blt_eq]; omega
  simp only [hb, req_true]
  have hs := sort_len (movesRaw r p)
  generalize sortMoves (movesRaw r p) = xs at hs
  by_cases h2 : xs.length < 2
  · have c : decide (((xs.length : Nat) : Int) < 2) = true := by simp; omega
    rw [c, cond_true]
    have : dd xs = xs := by
      match xs, h2 with
      | [], _ => rfl
      | [x], _ => rfl
    rw [this]; rfl
  · have c : decide (((xs.length : Nat) : Int) < 2) = false := by simp; omega
    rw [c, cond_false, compact4 xs (by omega) (by omega)]
    rfl
end Go.Proofs.YtocnfflklfeocaaGreat
namespace Go.Proofs.YtocnfflklfeocaaGreat
open Go.Den
set_option linter.unusedVariables false
set_option linter.unusedSimpArgs false
set_option maxRecDepth 100000

theorem iter_appO {A R : Type} (n B : Nat) (c : Int) (f : (((List A) × Int × Unit) × Unit) → Option ((((List A) × Int × Unit) × Unit) ⊕ R)) (F : Nat → List A) (fin : List A → R) (a0 : List A) (hF : ∀ i, i < n → (F i).length ≤ B)
    (hs : ∀ i, i < n → ∀ a : List A, a.length ≤ a0.length + i * B → f ((a, c + (i : Int), ()), ()) = some (.inl ((a ++ F i, c + (i : Int) + 1, ()), ()))) (he : ∀ a, f ((a, c + (n : Int), ()), ()) = some (.inr (fin a))) :
    iterW f ((a0, c, ()), ()) = some (fin (a0 ++ (List.range n).flatMap F)) := by
  have hl : ∀ i, i ≤ n → (a0 ++ (List.range i).flatMap F).length ≤ a0.length + i * B := fun i hi => by
    have := flatMap_len F B (List.range i) (fun x hx => hF x (by rw [List.mem_range] at hx; omega))
    rw [List.length_range] at this
    rw [List.length_append]
    omega
  have := iterW_states (f := f) n (fun i => ((a0 ++ (List.range i).flatMap F, c + (i : Int), ()), ())) (fin (a0 ++ (List.range n).flatMap F)) (fun i hi => by
    rw [hs i hi _ (hl i (by omega)), List.range_succ, List.flatMap_append, ← List.append_assoc]
    simp [Int.add_assoc]) (he _)
  simpa using this

def mvOk (r : Rules) (p : Place) (m : Mv) : Bool := decide ((-1 ≤ m.1 ∧ m.1 < ((p.1.length : Nat) : Int)) ∧ (0 ≤ m.2.1 ∧ m.2.1 < ((p.1.length : Nat) : Int)) ∧ (0 ≤ m.2.2.1 ∧ m.2.2.1 < ((r.pieces.length : Nat) : Int)))
def goOk (r : Rules) (p : Place) (m : Mv) : Bool := mineB p (cellI p m.1) && ((becomes r p (kindOf (cellI p m.1)) m.2.1 == m.2.2.1) && (pieceI r (kindOf (cellI p m.1))).2.2.2.1.any (fun w => decide (m.2.1 ∈ wayS r p m.1 w)))
def allowedB (r : Rules) (p : Place) (m : Mv) : Bool := mvOk r p m && (bif m.1 == -1 then decide (handI p m.2.2.1 > 0) && putOk r p m.2.1 else goOk r p m)
def colFrom (p : Place) (W x0 : Int) : Nat → Nat → Bool
  | _, 0 => true
  | i, n + 1 => (cellI p (x0 + (i : Int) * W) != 0) && colFrom p W x0 (i + 1) n
theorem colFrom_any (p : Place) (W x0 : Int) : ∀ n i, colFrom p W x0 i n = !((List.range n).any fun j => cellI p (x0 + ((i + j : Nat) : Int) * W) == 0)
  | 0, i => rfl
  | n + 1, i => by
    rw [colFrom, colFrom_any p W x0 n (i + 1), List.range_succ_eq_map, List.any_cons, List.any_map, Bool.not_or]
    have e : ((fun j => cellI p (x0 + ((i + j : Nat) : Int) * W) == 0) ∘ Nat.succ) = fun j => cellI p (x0 + ((i + 1 + j : Nat) : Int) * W) == 0 := by
      funext j
      simp only [Function.comp]
      rw [show i + j.succ = i + 1 + j by omega]
    rw [e]
    rfl
theorem colFrom_colF (p : Place) (W x0 : Int) (y : Nat) : colFrom p W x0 0 y = colF p W x0 y := by
  rw [colFrom_any, colF_any]
  simp
def at3 (r : Rules) (p : Place) (i j k : Nat) : List Mv := bif allowedB r p ((i : Int) - 1, ((j : Int), ((k : Int), ()))) then [((i : Int) - 1, ((j : Int), ((k : Int), ())))] else []
def at2 (r : Rules) (p : Place) (i j : Nat) : List Mv := (List.range r.2.2.2.1.length).flatMap (at3 r p i j)
def at1 (r : Rules) (p : Place) (i : Nat) : List Mv := (List.range p.1.length).flatMap (at2 r p i)
/-- the moves of a valid position -/
def movesOf (r : Rules) (p : Place) : List Mv := (List.range (p.1.length + 1)).flatMap (at1 r p)
theorem at3_len (r : Rules) (p : Place) (i j k : Nat) : (at3 r p i j k).length ≤ 1 := by unfold at3; cases allowedB r p ((i : Int) - 1, ((j : Int), ((k : Int), ()))) <;> simp
theorem at2_len {r : Rules} {p : Place} (h : Valid r p) (i j : Nat) : (at2 r p i j).length ≤ 6 := Nat.le_trans (fm_len1 _ _ (at3_len r p i j)) h.r0.t6
theorem at1_len {r : Rules} {p : Place} (h : Valid r p) (i : Nat) : (at1 r p i).length ≤ 384 := by
  refine Nat.le_trans (flatMap_len _ 6 _ fun j _ => at2_len h i j) ?_
  have := area_len h
  rw [List.length_range]; omega
theorem pw_range (n : Nat) (F : Nat → List Mv) (h1 : ∀ i, i < n → (F i).Pairwise (fun x y => mvLt x y = true)) (h2 : ∀ i j, i < j → ∀ x ∈ F i, ∀ y ∈ F j, mvLt x y = true) : ((List.range n).flatMap F).Pairwise (fun x y => mvLt x y = true) := by
  rw [List.pairwise_flatMap]
  exact ⟨fun i hi => h1 i (List.mem_range.1 hi), List.pairwise_lt_range.imp fun hij => h2 _ _ hij⟩
theorem at3_mem {r : Rules} {p : Place} {i j k : Nat} {x : Mv} (h : x ∈ at3 r p i j k) : x = ((i : Int) - 1, ((j : Int), ((k : Int), ()))) ∧ allowedB r p x = true := by
  unfold at3 at h
  cases hb : allowedB r p ((i : Int) - 1, ((j : Int), ((k : Int), ()))) with
  | false => simp [hb] at h
  | true =>
    rw [hb, cond_true, List.mem_singleton] at h
    rw [h]; exact ⟨rfl, hb⟩
theorem at2_mem {r : Rules} {p : Place} {i j : Nat} {x : Mv} (h : x ∈ at2 r p i j) : x.1 = (i : Int) - 1 ∧ x.2.1 = (j : Int) ∧ allowedB r p x = true := by
  obtain ⟨k, _, hk⟩ := List.mem_flatMap.1 h
  obtain ⟨e, h2⟩ := at3_mem hk
  refine ⟨by rw [e], by rw [e], h2⟩
theorem at1_mem {r : Rules} {p : Place} {i : Nat} {x : Mv} (h : x ∈ at1 r p i) : x.1 = (i : Int) - 1 ∧ allowedB r p x = true := by
  obtain ⟨j, _, hj⟩ := List.mem_flatMap.1 h
  obtain ⟨h1, _, h3⟩ := at2_mem hj
  exact ⟨h1, h3⟩
theorem movesOf_mem {r : Rules} {p : Place} (x : Mv) : x ∈ movesOf r p ↔ allowedB r p x = true := by
  constructor
  · intro h
    obtain ⟨i, _, hi⟩ := List.mem_flatMap.1 h
    exact (at1_mem hi).2
  · intro h
    have hok : mvOk r p x = true := by unfold allowedB at h; simp only [Bool.and_eq_true] at h; exact h.1
    unfold mvOk at hok
    rw [decide_eq_true_eq] at hok
    obtain ⟨⟨a1, a2⟩, ⟨b1, b2⟩, c1, c2⟩ := hok
    have c2' : x.2.2.1 < ((r.2.2.2.1.length : Nat) : Int) := c2
    have e : (((((x.1 + 1).toNat : Nat) : Int) - 1, (((x.2.1.toNat : Nat) : Int), (((x.2.2.1.toNat : Nat) : Int), ()))) : Mv) = x := mv_eq (by show (((x.1 + 1).toNat : Nat) : Int) - 1 = x.1; omega) (by show ((x.2.1.toNat : Nat) : Int) = x.2.1; omega) (by show ((x.2.2.1.toNat : Nat) : Int) = x.2.2.1; omega)
    refine List.mem_flatMap.2 ⟨(x.1 + 1).toNat, List.mem_range.2 (by omega), List.mem_flatMap.2 ⟨x.2.1.toNat, List.mem_range.2 (by omega), List.mem_flatMap.2 ⟨x.2.2.1.toNat, List.mem_range.2 (by omega), ?_⟩⟩⟩
    unfold at3
    rw [e, h, cond_true, List.mem_singleton]
theorem movesOf_lt (r : Rules) (p : Place) : (movesOf r p).Pairwise (fun x y => mvLt x y = true) := by
  refine pw_range _ _ (fun i _ => pw_range _ _ (fun j _ => pw_range _ _ (fun k _ => ?_) fun k k' hk x hx y hy => ?_) fun j j' hj x hx y hy => ?_) fun i i' hi x hx y hy => ?_
  · unfold at3
    cases allowedB r p ((i : Int) - 1, ((j : Int), ((k : Int), ()))) <;> simp
  · obtain ⟨ex, _⟩ := at3_mem hx
    obtain ⟨ey, _⟩ := at3_mem hy
    have e1 : x.1 = (i : Int) - 1 := by rw [ex]
    have e2 : x.2.1 = (j : Int) := by rw [ex]
    have e3 : x.2.2.1 = (k : Int) := by rw [ex]
    have f1 : y.1 = (i : Int) - 1 := by rw [ey]
    have f2 : y.2.1 = (j : Int) := by rw [ey]
    have f3 : y.2.2.1 = (k' : Int) := by rw [ey]
    rw [lt_iff]; omega
  · obtain ⟨e1, e2, _⟩ := at2_mem hx
    obtain ⟨f1, f2, _⟩ := at2_mem hy
    rw [lt_iff]; omega
  · obtain ⟨e1, _⟩ := at1_mem hx
    obtain ⟨f1, _⟩ := at1_mem hy
    rw [lt_iff]; omega
theorem raw_mem {r : Rules} {p : Place} (h : Valid r p) (x : Mv) : x ∈ movesRaw r p ↔ allowedB r p x = true := by
  have hr := h.r0
  have hlen : ((p.1.length : Nat) : Int) = r.width * r.height := h.cells
  have hh := hand_len h
  unfold movesRaw
  rw [List.mem_append]
  constructor
  · rintro (hx | hx)
    · obtain ⟨s, hs, hx⟩ := List.mem_flatMap.1 hx
      rw [List.mem_range] at hs
      unfold putsAt at hx
      cases hp : putOk r p (s : Int) with
      | false => simp [hp] at hx
      | true =>
        rw [hp, cond_true] at hx
        obtain ⟨k, hk, hx⟩ := List.mem_flatMap.1 hx
        rw [List.mem_range] at hk
        cases hd : decide (handI p (k : Int) > 0) with
        | false => simp [hd] at hx
        | true =>
          rw [hd, cond_true, List.mem_singleton] at hx
          have hok : mvOk r p x = true := by
            unfold mvOk
            rw [decide_eq_true_eq, hx]
            simp only
            omega
          unfold allowedB
          rw [hok, Bool.true_and, hx]
          simp only [beq_t rfl, cond_true, hd, hp, Bool.and_self]
    · obtain ⟨s, hs, hx⟩ := List.mem_flatMap.1 hx
      rw [List.mem_range] at hs
      unfold goAt at hx
      cases hm : mineB p (cellI p (s : Int)) with
      | false => simp [hm] at hx
      | true =>
        have hcp : cellI p (s : Int) > 0 := by unfold mineB at hm; simp at hm; exact hm.1
        have hk := kind_rng h hcp
        obtain ⟨hpa, hmem⟩ := at_piece (r := r) hk.2.1 hk.2.2
        rw [hm, cond_true] at hx
        obtain ⟨w, hw, hx⟩ := List.mem_flatMap.1 hx
        obtain ⟨t, ht, hx⟩ := List.mem_map.1 hx
        have htr : 0 ≤ t ∧ t < r.width * r.height := way_mem_rng hr ht
        have hpr := hr.prom _ hmem
        have hbr : 0 ≤ becomes r p (kindOf (cellI p (s : Int))) t ∧ becomes r p (kindOf (cellI p (s : Int))) t < ((r.pieces.length : Nat) : Int) := by
          unfold becomes
          cases hb : (decide ((pieceI r (kindOf (cellI p (s : Int)))).2.2.1 > 0) && lastB r p.turn t) with
          | false => exact hk.2
          | true =>
            simp only [Bool.and_eq_true, decide_eq_true_eq] at hb
            rw [cond_true]; omega
        have hok : mvOk r p x = true := by
          unfold mvOk
          rw [decide_eq_true_eq, ← hx]
          simp only
          omega
        unfold allowedB goOk
        rw [hok, Bool.true_and, ← hx]
        simp only
        rw [beq_f (by omega), cond_false, hm, Bool.true_and, beq_t rfl, Bool.true_and, List.any_eq_true]
        exact ⟨w, hw, by simpa using ht⟩
  · intro hx
    unfold allowedB at hx
    rw [Bool.and_eq_true] at hx
    obtain ⟨hok, hx⟩ := hx
    unfold mvOk at hok
    rw [decide_eq_true_eq] at hok
    obtain ⟨⟨a1, a2⟩, ⟨b1, b2⟩, c1, c2⟩ := hok
    by_cases hm : x.1 = -1
    · rw [beq_t hm, cond_true, Bool.and_eq_true] at hx
      left
      have e1 : ((x.2.1.toNat : Nat) : Int) = x.2.1 := by omega
      have e2 : ((x.2.2.1.toNat : Nat) : Int) = x.2.2.1 := by omega
      refine List.mem_flatMap.2 ⟨x.2.1.toNat, List.mem_range.2 (by omega), ?_⟩
      unfold putsAt
      rw [e1, hx.2, cond_true]
      refine List.mem_flatMap.2 ⟨x.2.2.1.toNat, List.mem_range.2 (by omega), ?_⟩
      rw [e2, hx.1, cond_true, List.mem_singleton]
      exact mv_eq hm rfl rfl
    · rw [beq_f hm, cond_false] at hx
      unfold goOk at hx
      simp only [Bool.and_eq_true, beq_iff_eq, List.any_eq_true, decide_eq_true_eq] at hx
      obtain ⟨h1, h2, w, hw, ht⟩ := hx
      right
      have e1 : ((x.1.toNat : Nat) : Int) = x.1 := by omega
      refine List.mem_flatMap.2 ⟨x.1.toNat, List.mem_range.2 (by omega), ?_⟩
      unfold goAt
      rw [e1, h1, cond_true]
      refine List.mem_flatMap.2 ⟨w, hw, List.mem_map.2 ⟨x.2.1, ht, ?_⟩⟩
      exact mv_eq rfl rfl h2
/-- THE PROGRAM's MOVES ARE THE REFERENCE's -/
theorem list_spec {r : Rules} {p : Place} (h : Valid r p) : movesList r p = some (movesOf r p) := by
  rw [list_dd h]
  congr 1
  refine lt_unique (dd_lt (sort_pw _)) (movesOf_lt r p) fun z => ?_
  rw [dd_mem, sort_mem, raw_mem h, movesOf_mem]
end Go.Proofs.YtocnfflklfeocaaGreat
namespace Go.Proofs.YtocnfflklfeocaaGreat
open Go.Den
set_option linter.unusedVariables false
set_option linter.unusedSimpArgs false
set_option maxRecDepth 100000

def own (r : Rules) (p : Place) (pl x y : Int) : Bool := onB r x y && (decide (cellI p (sq r x y) > 0) && ((cellI p (sq r x y) - 1).tmod 2 == pl))
def runB (r : Rules) (p : Place) (pl : Int) (n : Nat) (x y dx dy : Int) : Bool := (List.range n).all fun i => own r p pl (x + (i : Int) * dx) (y + (i : Int) * dy)
theorem runB_cons (r : Rules) (p : Place) (pl : Int) (n : Nat) (x y dx dy : Int) : runB r p pl (n + 1) x y dx dy = (own r p pl x y && runB r p pl n (x + dx) (y + dy) dx dy) := by
  unfold runB
  rw [List.range_succ_eq_map, List.all_cons, List.all_map]
  have e : ((fun i : Nat => own r p pl (x + (i : Int) * dx) (y + (i : Int) * dy)) ∘ Nat.succ) = fun i : Nat => own r p pl (x + dx + (i : Int) * dx) (y + dy + (i : Int) * dy) := by
    funext i
    simp only [Function.comp]
    have e1 : x + ((i.succ : Nat) : Int) * dx = x + dx + (i : Int) * dx := by rw [show ((i.succ : Nat) : Int) = (i : Int) + 1 by omega, Int.add_mul]; omega
    have e2 : y + ((i.succ : Nat) : Int) * dy = y + dy + (i : Int) * dy := by rw [show ((i.succ : Nat) : Int) = (i : Int) + 1 by omega, Int.add_mul]; omega
    rw [e1, e2]
  rw [e]
  simp
theorem runB_iff {r : Rules} {p : Place} {pl : Int} {n : Nat} {x y dx dy : Int} : runB r p pl n x y dx dy = true ↔ ∀ i : Nat, i < n → own r p pl (x + (i : Int) * dx) (y + (i : Int) * dy) = true := by
  unfold runB
  rw [List.all_eq_true]
  exact ⟨fun h i hi => h i (List.mem_range.2 hi), fun h i hi => h i (List.mem_range.1 hi)⟩
theorem runB_rev {r : Rules} {p : Place} {pl : Int} {n : Nat} {x y dx dy : Int} (h : runB r p pl n x y dx dy = true) : runB r p pl n (x + ((n : Int) - 1) * dx) (y + ((n : Int) - 1) * dy) (-dx) (-dy) = true := by
  rw [runB_iff] at *
  intro i hi
  have := h (n - 1 - i) (by omega)
  have e1 : x + ((n : Int) - 1) * dx + (i : Int) * (-dx) = x + ((n - 1 - i : Nat) : Int) * dx := by
    rw [show ((n - 1 - i : Nat) : Int) = (n : Int) - 1 - (i : Int) by omega, Int.sub_mul ((n : Int) - 1), Int.mul_neg]; omega
  have e2 : y + ((n : Int) - 1) * dy + (i : Int) * (-dy) = y + ((n - 1 - i : Nat) : Int) * dy := by
    rw [show ((n - 1 - i : Nat) : Int) = (n : Int) - 1 - (i : Int) by omega, Int.sub_mul ((n : Int) - 1), Int.mul_neg]; omega
  rw [e1, e2]; exact this
theorem own_on {r : Rules} {p : Place} {pl x y : Int} (h : own r p pl x y = true) : onB r x y = true := by unfold own at h; rw [Bool.and_eq_true] at h; exact h.1
abbrev dX (d : Nat) : Int := getD' [(1 : Int), (0 : Int), (1 : Int), (1 : Int)] d 0
abbrev dY (d : Nat) : Int := getD' [(0 : Int), (1 : Int), (1 : Int), (-1 : Int)] d 0
abbrev eX (d : Nat) : Int := getD' [(-1 : Int), (0 : Int), (-1 : Int), (1 : Int)] d 0
abbrev eY (d : Nat) : Int := getD' [(0 : Int), (-1 : Int), (-1 : Int), (-1 : Int)] d 0
def lineB (r : Rules) (p : Place) (pl c : Int) : Bool := (List.range p.1.length).any fun s => (List.range 4).any fun d => runB r p pl c.toNat ((s : Int).tmod r.width) ((s : Int).tdiv r.width) (dX d) (dY d)
def linedB (r : Rules) (p : Place) (pl c : Int) : Bool := (List.range r.height.toNat).any fun y => (List.range r.width.toNat).any fun x => (List.range 4).any fun d => runB r p pl c.toNat (x : Int) (y : Int) (eX d) (eY d)
theorem sq_div {r : Rules} {x y : Int} (h : onB r x y = true) : (sq r x y).tmod r.width = x ∧ (sq r x y).tdiv r.width = y := by
  obtain ⟨h1, h2, h3, h4⟩ := onB_iff.1 h
  have h0 : 0 ≤ sq r x y := by unfold sq; have := Int.mul_nonneg h3 (show 0 ≤ r.width by omega); omega
  rw [Int.tmod_eq_emod_of_nonneg h0, Int.tdiv_eq_ediv_of_nonneg h0]
  unfold sq
  rw [Int.add_comm, Int.add_mul_emod_self_right, Int.add_mul_ediv_right _ _ (by omega), Int.emod_eq_of_lt h1 h2, Int.ediv_eq_zero_of_lt h1 h2]
  omega
theorem lineB_of {r : Rules} {p : Place} (h : Valid r p) {pl c x y : Int} {d : Nat} (hc : 1 ≤ c) (hd : d < 4) (hr : runB r p pl c.toNat x y (dX d) (dY d) = true) : lineB r p pl c = true := by
  have hon : onB r x y = true := by
    have := runB_iff.1 hr 0 (by omega)
    exact own_on (by simpa using this)
  have hs := sq_rng h.r0 hon
  have hlen : ((p.1.length : Nat) : Int) = r.width * r.height := h.cells
  unfold lineB
  rw [List.any_eq_true]
  refine ⟨(sq r x y).toNat, List.mem_range.2 (by omega), ?_⟩
  rw [List.any_eq_true]
  refine ⟨d, List.mem_range.2 hd, ?_⟩
  rw [Int.toNat_of_nonneg hs.1, (sq_div hon).1, (sq_div hon).2]
  exact hr
theorem linedB_of {r : Rules} {p : Place} (h : Valid r p) {pl c x y : Int} {d : Nat} (hc : 1 ≤ c) (hd : d < 4) (hr : runB r p pl c.toNat x y (eX d) (eY d) = true) : linedB r p pl c = true := by
  have hon : onB r x y = true := by
    have := runB_iff.1 hr 0 (by omega)
    exact own_on (by simpa using this)
  obtain ⟨h1, h2, h3, h4⟩ := onB_iff.1 hon
  unfold linedB
  rw [List.any_eq_true]
  refine ⟨y.toNat, List.mem_range.2 (by omega), ?_⟩
  rw [List.any_eq_true]
  refine ⟨x.toNat, List.mem_range.2 (by omega), ?_⟩
  rw [List.any_eq_true]
  refine ⟨d, List.mem_range.2 hd, ?_⟩
  rw [Int.toNat_of_nonneg h1, Int.toNat_of_nonneg h3]
  exact hr
theorem lined_line {r : Rules} {p : Place} (h : Valid r p) {pl c : Int} (hc : 1 ≤ c) : linedB r p pl c = lineB r p pl c := by
  rw [Bool.eq_iff_iff]
  constructor
  · intro hl
    unfold linedB at hl
    simp only [List.any_eq_true, List.mem_range] at hl
    obtain ⟨y, _, x, _, d, hd, hr⟩ := hl
    have h4 : d = 0 ∨ d = 1 ∨ d = 2 ∨ d = 3 := by omega
    rcases h4 with rfl | rfl | rfl | rfl
    · exact lineB_of h (d := 0) hc (by omega) (runB_rev hr)
    · exact lineB_of h (d := 1) hc (by omega) (runB_rev hr)
    · exact lineB_of h (d := 2) hc (by omega) (runB_rev hr)
    · exact lineB_of h (d := 3) hc (by omega) hr
  · intro hl
    unfold lineB at hl
    simp only [List.any_eq_true, List.mem_range] at hl
    obtain ⟨s, _, d, hd, hr⟩ := hl
    have h4 : d = 0 ∨ d = 1 ∨ d = 2 ∨ d = 3 := by omega
    rcases h4 with rfl | rfl | rfl | rfl
    · exact linedB_of h (d := 0) hc (by omega) (runB_rev hr)
    · exact linedB_of h (d := 1) hc (by omega) (runB_rev hr)
    · exact linedB_of h (d := 2) hc (by omega) (runB_rev hr)
    · exact linedB_of h (d := 3) hc (by omega) hr
theorem dX_rng (d : Nat) : -1 ≤ dX d ∧ dX d ≤ 1 := by
  match d with
  | 0 => decide
  | 1 => decide
  | 2 => decide
  | 3 => decide
  | n + 4 => simp [dX, getD']
theorem dY_rng (d : Nat) : -1 ≤ dY d ∧ dY d ≤ 1 := by
  match d with
  | 0 => decide
  | 1 => decide
  | 2 => decide
  | 3 => decide
  | n + 4 => simp [dY, getD']
theorem line3 {r : Rules} {p : Place} (h : Valid r p) {pl c : Int} (d : Nat) (hc : c ≤ 64) : ∀ (m : Nat) (x y n : Int), 0 ≤ n → n + m = c → (-1 ≤ x ∧ x ≤ 8) → (-1 ≤ y ∧ y ≤ 8) →
    ∃ n', iterW (endsLine_L3 c r p pl (((d : Int), ()), ())) ((x, y, n, ()), ()) = some ((n', ()), ()) ∧ (n' == c) = runB r p pl m x y (dX d) (dY d)
  | 0, x, y, n, h0, hn, hx, hy => by
    refine ⟨n, iterW_inr ?_, ?_⟩
    · unfold endsLine_L3
      have : decide (n < c) = false := by simp; omega
      simp only [this, cond_false, Option.bind_some]
    · rw [beq_t (by omega)]; rfl
  | m + 1, x, y, n, h0, hn, hx, hy => by
    have hr := h.r0
    have := hr.w8; have := hr.h8; have := hr.w1; have := hr.h1
    have ha := hr.area
    have hlt : decide (n < c) = true := by simp; omega
    have hoff : ((((decide (x < (0 : Int))) || (decide (x ≥ r.2.1))) || (decide (y < (0 : Int)))) || (decide (y ≥ r.2.2.1))) = !onB r x y := by
      rw [Bool.eq_iff_iff]
      simp only [Bool.or_eq_true, decide_eq_true_eq, Bool.not_eq_true', onB, decide_eq_false_iff_not]
      show ((x < 0 ∨ x ≥ r.width) ∨ y < 0) ∨ y ≥ r.height ↔ _
      omega
    have hown : (bif (decide (n < c)) then (bif ((((decide (x < (0 : Int))) || (decide (x ≥ r.2.1))) || (decide (y < (0 : Int)))) || (decide (y ≥ r.2.2.1))) then some ((false, ()), ())
        else Option.bind (at? p.1 (w64 ((w64 (y * r.2.1)) + x))) fun d4 =>
        req (imp (decide (d4 > (0 : Int))) true) (some ((((decide (d4 > (0 : Int))) && (((w64 (d4 - (1 : Int))).tmod (2 : Int)) == pl)), ()), ())))
        else some ((false, ()), ())) = some ((own r p pl x y, ()), ()) := by
      rw [hlt, cond_true, hoff]
      unfold own
      cases hb : onB r x y with
      | false => rfl
      | true =>
        have hs := sq_rng hr hb
        obtain ⟨b1, b2, b3, b4⟩ := onB_iff.1 hb
        have hmul := mul_rng (show 0 ≤ r.width by omega) b3 b4
        have w1 : w64 (y * r.2.1) = y * r.2.1 := w64_id (by show _ ≤ y * r.width; omega) (by show y * r.width ≤ _; omega)
        have w2 : w64 (y * r.2.1 + x) = sq r x y := w64_id (by show _ ≤ sq r x y; omega) (by show sq r x y ≤ _; omega)
        have hcs := cell_small h (sq r x y)
        rw [w1, w2, at_cell (p := p) hs.1 (by rw [h.cells]; exact hs.2)]
        simp only [Bool.not_true, cond_false, Option.bind_some, show ∀ b, imp b true = true from fun b => by cases b <;> rfl, req_true, Bool.true_and]
        rw [w64_id (n := cellI p (sq r x y) - 1) (by omega) (by omega)]
    rw [runB_cons]
    cases ho : own r p pl x y with
    | false =>
      refine ⟨n, iterW_inr ?_, ?_⟩
      · unfold endsLine_L3
        rw [hown, ho]
        rfl
      · rw [beq_f (by omega)]; rfl
    | true =>
      obtain ⟨b1, b2, b3, b4⟩ := onB_iff.1 (own_on ho)
      have r1 := dX_rng d
      have r2 := dY_rng d
      obtain ⟨n', e1, e2⟩ := line3 h (pl := pl) d hc m (x + dX d) (y + dY d) (n + 1) (by omega) (by omega) (by omega) (by omega)
      refine ⟨n', ?_, by rw [e2]; simp⟩
      rw [iterW_inl (y := ((x + dX d, y + dY d, n + 1, ()), ())) (by
        unfold endsLine_L3
        rw [hown, ho]
        simp only [Option.bind_some, cond_true, Int.toNat_natCast]
        rw [w64_id (n := x + dX d) (by omega) (by omega), w64_id (n := y + dY d) (by omega) (by omega), w64_id (n := n + 1) (by omega) (by omega)])]
      exact e1
theorem line_spec {r : Rules} {p : Place} (h : Valid r p) (pl : Int) {c : Int} (hc1 : 1 ≤ c) (hc : c ≤ 64) : endsLine r p pl c = some (lineB r p pl c) := by
  have hr := h.r0
  have := hr.w8; have := hr.h8; have := hr.w1; have := hr.h1
  have ha := hr.area
  have hlen : ((p.1.length : Nat) : Int) = r.width * r.height := h.cells
  have hq : (r.2.1 != 0) = true := bne_t (by show ¬ r.width = 0; omega)
  unfold endsLine
  have hL := iterW_any (List.range p.1.length) (fun s => (List.range 4).any fun d => runB r p pl c.toNat ((s : Int).tmod r.width) ((s : Int).tdiv r.width) (dX d) (dY d)) (endsLine_L1 p r c pl) (.inr true) (.inl ((), ())) (fun s hs => by
    have hs' : s < p.1.length := by simpa using hs
    have hdv := div_rng hr (show (0 : Int) ≤ (s : Int) by omega) (show (s : Int) < r.width * r.height by omega)
    have hL2 := iterW_any (List.range 4) (fun d => runB r p pl c.toNat ((s : Int).tmod r.width) ((s : Int).tdiv r.width) (dX d) (dY d)) (endsLine_L2 r c p pl (((s : Int), ()), ())) (.inr (.inr (.inr (.inr true)))) (.inl ((), ())) (fun d hd => by
      have hd' : d < 4 := by simpa using hd
      have w1 : w64 ((s : Int).tdiv r.2.1) = (s : Int).tdiv r.width := w64_id (by show _ ≤ (s : Int).tdiv r.width; omega) (by show (s : Int).tdiv r.width ≤ _; omega)
      obtain ⟨n', e1, e2⟩ := line3 h (pl := pl) (c := c) d hc c.toNat ((s : Int).tmod r.width) ((s : Int).tdiv r.width) 0 (by omega) (by omega) (by omega) (by omega)
      unfold endsLine_L2
      simp only [show decide ((d : Int) < 4) = true by simp; omega, cond_true, show inb (d : Int) 4 = true from inb_iff.2 ⟨by omega, by omega⟩, req_true, hq, w1]
      rw [show ((s : Int).tmod r.2.1) = (s : Int).tmod r.width from rfl, e1, Option.bind_some]
      simp only [List.getElem_range]
      rw [← e2, w64_id (n := (d : Int) + 1) (by omega) (by omega)]
      cases (n' == c) <;> rfl) (by
      unfold endsLine_L2
      rfl)
    unfold endsLine_L1
    simp only [show decide ((s : Int) < ((p.1.length : Nat) : Int)) = true by simp; omega, cond_true, List.getElem_range]
    rw [hL2, w64_id (n := (s : Int) + 1) (by omega) (by omega)]
    cases (List.range 4).any (fun d => runB r p pl c.toNat ((s : Int).tmod r.width) ((s : Int).tdiv r.width) (dX d) (dY d)) <;> rfl) (by
    unfold endsLine_L1
    simp)
  rw [hL]
  unfold lineB
  cases (List.range p.1.length).any (fun s => (List.range 4).any fun d => runB r p pl c.toNat ((s : Int).tmod r.width) ((s : Int).tdiv r.width) (dX d) (dY d)) <;> rfl
theorem eXY_rng (d : Nat) (hd : d < 4) : (-1 ≤ eX d ∧ eX d ≤ 1) ∧ (-1 ≤ eY d ∧ eY d ≤ 1) ∧ ¬ (eX d = 0 ∧ eY d = 0) := by
  have h4 : d = 0 ∨ d = 1 ∨ d = 2 ∨ d = 3 := by omega
  rcases h4 with rfl | rfl | rfl | rfl <;> decide
theorem small_mul {n d : Int} (h0 : 0 ≤ n) (h1 : -1 ≤ d) (h2 : d ≤ 1) : (d = 0 ∧ n * d = 0) ∨ (d = 1 ∧ n * d = n) ∨ (d = -1 ∧ n * d = -n) := by
  have : d = 0 ∨ d = 1 ∨ d = -1 := by omega
  rcases this with rfl | rfl | rfl <;> simp
end Go.Proofs.YtocnfflklfeocaaGreat
namespace Go.Proofs.YtocnfflklfeocaaGreat
open Go.Den
set_option linter.unusedVariables false
set_option linter.unusedSimpArgs false
set_option maxRecDepth 100000

def reachB (r : Rules) (p : Place) (x : End) (mover : Int) : Bool := (List.range p.1.length).any fun s => (cellI p (s : Int) == 2 * x.2.1 + mover + 1) && lastB r mover (s : Int)
def fewOf (p : Place) (x : End) (mover : Int) : Int := ((p.1.countP (fun c => c == 2 * x.2.1 + 1 - mover + 1) : Nat) : Int)
def metB (r : Rules) (p : Place) (x : End) (mover : Int) : Bool := bif x.1 == 0 then lineB r p mover x.2.2.1 else bif x.1 == 1 then reachB r p x mover else decide (fewOf p x mover < x.2.2.1)
structure EndOk (r : Rules) (x : End) : Prop where
  kind : 0 ≤ x.1 ∧ x.1 ≤ 2
  cnt : x.1 = 0 → 1 ≤ x.2.2.1 ∧ x.2.2.1 ≤ 64
  pc : 0 ≤ x.2.1 ∧ x.2.1 ≤ 6
theorem Valid.endOk {r : Rules} {p : Place} (h : Valid r p) {x : End} (hx : x ∈ r.ends) : EndOk r x := by
  obtain ⟨h1, h2, h3⟩ := h.r0.ends x hx
  have ht := h.r0.t6
  refine ⟨h1, fun e => ?_, ?_⟩
  · rw [if_neg (by omega)] at h2; exact h2
  · split at h3 <;> omega
theorem cell_get (p : Place) (i : Nat) (hi : i < p.1.length) : cellI p (i : Int) = p.1[i] := by
  unfold cellI
  rw [List.getD_eq_getElem?_getD, Int.toNat_natCast]
  simp [hi]
theorem holds_spec {r : Rules} {p : Place} (h : Valid r p) {x : End} (hx : EndOk r x) {mover : Int} (hm : mover = 0 ∨ mover = 1) : endsHolds r p x mover = some (metB r p x mover) := by
  have hr := h.r0
  have ha := hr.area
  have h64 := area_len h
  have hlen : ((p.1.length : Nat) : Int) = r.width * r.height := h.cells
  have hp := hx.pc
  unfold endsHolds metB
  by_cases k0 : x.1 = 0
  · rw [beq_t k0, cond_true, cond_true, line_spec h mover (hx.cnt k0).1 (hx.cnt k0).2]
    rfl
  · rw [beq_f k0, cond_false, cond_false]
    by_cases k1 : x.1 = 1
    · rw [beq_t k1, cond_true, cond_true]
      have hL := iterW_any (List.range p.1.length) (fun s => (cellI p (s : Int) == 2 * x.2.1 + mover + 1) && lastB r mover (s : Int)) (endsHolds_L1 p x mover r) (.inr (.inr true)) (.inl ((), ())) (fun s hs => by
        have hs' : s < p.1.length := by simpa using hs
        unfold endsHolds_L1
        simp only [show decide ((s : Int) < ((p.1.length : Nat) : Int)) = true by simp; omega, cond_true, List.getElem_range]
        rw [at_cell (p := p) (s := (s : Int)) (by omega) (by show (s : Int) < ((p.1.length : Nat) : Int); omega), Option.bind_some, isLast_spec hr mover (by omega) (by omega)]
        rw [w64_id (n := 2 * x.2.1) (by omega) (by omega), w64_id (n := 2 * x.2.1 + mover) (by omega) (by omega), w64_id (n := 2 * x.2.1 + mover + 1) (by omega) (by omega), w64_id (n := (s : Int) + 1) (by omega) (by omega)]
        cases (cellI p (s : Int) == 2 * x.2.1 + mover + 1) <;> cases lastB r mover (s : Int) <;> rfl) (by
        unfold endsHolds_L1
        simp)
      rw [hL]
      unfold reachB
      cases (List.range p.1.length).any (fun s => (cellI p (s : Int) == 2 * x.2.1 + mover + 1) && lastB r mover (s : Int)) <;> rfl
    · rw [beq_f k1, cond_false, cond_false, Option.bind_some, Sum.elim_inl]
      have hL := iter_count p.1 (fun c => c == 2 * x.2.1 + 1 - mover + 1) (endsHolds_L2 p x mover) (fun c => ((c, ()), ())) (fun i hi c c0 ci => by
        unfold endsHolds_L2
        simp only [show decide ((i : Int) < ((p.1.length : Nat) : Int)) = true by simp; omega, cond_true]
        rw [at_cell (p := p) (s := (i : Int)) (by omega) (by show (i : Int) < ((p.1.length : Nat) : Int); omega), Option.bind_some, cell_get p i hi]
        rw [w64_id (n := 2 * x.2.1) (by omega) (by omega), w64_id (n := 2 * x.2.1 + 1) (by omega) (by omega), w64_id (n := 2 * x.2.1 + 1 - mover) (by omega) (by omega), w64_id (n := 2 * x.2.1 + 1 - mover + 1) (by omega) (by omega), w64_id (n := (i : Int) + 1) (by omega) (by omega), w64_id (n := c + 1) (by omega) (by omega)]
        cases (p.1[i] == 2 * x.2.1 + 1 - mover + 1) <;> rfl) (fun c => by
        unfold endsHolds_L2
        simp)
      rw [hL]
      rfl
/-- the answer of a condition that is met -/
def endE (r : Rules) (p : Place) (i : Nat) : Option (((Unit) × (Unit)) ⊕ Int) := match r.2.2.2.2.2.2.2.1[i]? with
  | some x => bif metB r p x (1 - p.turn) then some (.inr (bif x.2.2.2.1 then 1 + p.turn else 1 + (1 - p.turn))) else none
  | none => none
def blockedV (r : Rules) (p : Place) : Int := bif r.blocked == 0 then 1 + (1 - p.turn) else bif r.blocked == 1 then 1 + p.turn else 3
def resultOf (r : Rules) (p : Place) : Int := match scan (endE r p) (.inl ((), ())) 0 r.2.2.2.2.2.2.2.1.length with
  | .inl _ => bif (r.quiet != 0) && decide (p.quiet ≥ r.quiet) then 3 else bif decide ((((movesOf r p).length : Nat) : Int) > 0) then 0 else blockedV r p
  | .inr v => v
theorem turn_w {r : Rules} {p : Place} (h : Valid r p) : w64 ((1 : Int) - p.2.2.1) = 1 - p.turn ∧ w64 ((1 : Int) + p.2.2.1) = 1 + p.turn ∧ w64 (1 + (1 - p.turn)) = 1 + (1 - p.turn) ∧ w64 (1 + p.turn) = 1 + p.turn := by
  have ht := h.turn
  refine ⟨w64_id (by show _ ≤ 1 - p.turn; omega) (by show 1 - p.turn ≤ _; omega), w64_id (by show _ ≤ 1 + p.turn; omega) (by show 1 + p.turn ≤ _; omega), w64_id (by omega) (by omega), w64_id (by omega) (by omega)⟩
theorem result_spec {r : Rules} {p : Place} (h : Valid r p) : endsResult r p = some (resultOf r p) := by
  have ht := h.turn
  obtain ⟨t1, t2, t3, t4⟩ := turn_w h
  have h6 : r.2.2.2.2.2.2.2.1.length ≤ 6 := h.r0.ends6
  unfold endsResult resultOf
  have hL := iterW_scan r.2.2.2.2.2.2.2.1.length (endsResult_L1 r p) (endE r p) (.inl ((), ())) (fun i hi => by
    unfold endsResult_L1 endE
    rw [List.getElem?_eq_getElem hi]
    simp only [show decide ((i : Int) < ((r.2.2.2.2.2.2.2.1.length : Nat) : Int)) = true by simp; omega, cond_true]
    rw [at?_eq r.2.2.2.2.2.2.2.1 (i : Int) (by omega) (by omega), Option.bind_some, t1]
    simp only [Int.toNat_natCast]
    rw [holds_spec h (h.endOk (List.getElem_mem hi)) (by omega), Option.bind_some]
    cases metB r p r.2.2.2.2.2.2.2.1[i] (1 - p.turn)
    · simp only [cond_false]
      rw [w64_id (n := (i : Int) + 1) (by omega) (by omega)]
      rfl
    · simp only [cond_true, show decide ((i : Int) ≥ 0) = true by simp, Option.bind_some]
      unfold endsWins
      rw [t3, show p.2.2.1 = p.turn from rfl, t4]
      cases (r.2.2.2.2.2.2.2.1[i]).2.2.2.1 <;> rfl) (by
    unfold endsResult_L1
    simp)
  rw [hL, Option.bind_some]
  cases scan (endE r p) (.inl ((), ())) 0 r.2.2.2.2.2.2.2.1.length with
  | inr v => rfl
  | inl u =>
    simp only [Sum.elim_inl]
    rw [show ((r.2.2.2.2.2.2.2.2.2.1 != (0 : Int)) && (decide (p.2.2.2.1 ≥ r.2.2.2.2.2.2.2.2.2.1))) = ((r.quiet != 0) && decide (p.quiet ≥ r.quiet)) from rfl]
    cases ((r.quiet != 0) && decide (p.quiet ≥ r.quiet))
    · rw [cond_false, cond_false, list_spec h, Option.bind_some]
      cases decide ((((movesOf r p).length : Nat) : Int) > 0)
      · rw [cond_false, cond_false, t1]
        unfold blockedV endsWins
        rw [t3, show p.2.2.1 = p.turn from rfl, t4, show r.2.2.2.2.2.2.2.2.1 = r.blocked from rfl]
        cases (r.blocked == 0) <;> cases (r.blocked == 1) <;> rfl
      · rfl
    · rfl
theorem iter_fold2 {A C R : Type} (n : Nat) (f : ((A × C × Int × Unit) × Unit) → Option (((A × C × Int × Unit) × Unit) ⊕ R)) (a : Nat → A) (c : Nat → C) (res : R)
    (hs : ∀ i, i < n → f ((a i, c i, (i : Int), ()), ()) = some (.inl ((a (i + 1), c (i + 1), ((i : Int) + 1), ()), ()))) (he : f ((a n, c n, (n : Int), ()), ()) = some (.inr res)) :
    iterW f ((a 0, c 0, (0 : Int), ()), ()) = some res :=
  iterW_states (f := f) n (fun i => ((a i, c i, (i : Int), ()), ())) res (fun i hi => by rw [hs i hi]; rfl) he
end Go.Proofs.YtocnfflklfeocaaGreat
namespace Go.Proofs.YtocnfflklfeocaaGreat
open Go.Den
set_option linter.unusedVariables false
set_option linter.unusedSimpArgs false
set_option maxRecDepth 100000

def pieceV (p : Place) (m : Mv) : Int := 2 * m.2.2.1 + p.turn + 1
def cellsA (p : Place) (m : Mv) : List Int := (bif decide (m.1 ≥ 0) then p.1.set m.1.toNat 0 else p.1).set m.2.1.toNat (pieceV p m)
def handD (m : Mv) (h : List Int) : List Int := bif decide (m.1 ≥ 0) then h else h.set m.2.2.1.toNat (h.getD m.2.2.1.toNat 0 - 1)
def handK (r : Rules) (c : Int) (h : List Int) : List Int := bif decide (c > 0) && r.keeps then h.set (kindOf c).toNat (if 1000 < h.getD (kindOf c).toNat 0 + 1 then 1000 else h.getD (kindOf c).toNat 0 + 1) else h
def handA (r : Rules) (p : Place) (m : Mv) (h : List Int) : List Int := handK r (cellI p m.2.1) (handD m h)
def quietA (p : Place) (m : Mv) : Int := bif decide (cellI p m.2.1 > 0) || decide (m.1 < 0) then 0 else if 200 < p.quiet + 1 then 200 else p.quiet + 1
/-- the position after a move -/
def afterOf (r : Rules) (p : Place) (m : Mv) : Place := (cellsA p m, ((bif p.turn == 0 then handA r p m p.2.1.1 else p.2.1.1), (bif p.turn == 0 then p.2.1.2.1 else handA r p m p.2.1.2.1), ()), 1 - p.turn, quietA p m, ())
theorem copy_spec {r : Rules} {p : Place} (h : Valid r p) : placeCopy p = some p := by
  have h64 := area_len h
  have ht := h.r0.t6
  have a0 : p.2.1.1.length = r.pieces.length := h.l0
  have a1 : p.2.1.2.1.length = r.pieces.length := h.l1
  unfold placeCopy
  rw [clone_ok p.1 (by omega), clone_ok p.2.1.1 (by omega), clone_ok p.2.1.2.1 (by omega)]
  simp only [Option.bind_some, agree_self]
theorem allowed_rng {r : Rules} {p : Place} {m : Mv} (ha : allowedB r p m = true) : (-1 ≤ m.1 ∧ m.1 < ((p.1.length : Nat) : Int)) ∧ (0 ≤ m.2.1 ∧ m.2.1 < ((p.1.length : Nat) : Int)) ∧ (0 ≤ m.2.2.1 ∧ m.2.2.1 < ((r.pieces.length : Nat) : Int)) := by
  unfold allowedB mvOk at ha
  rw [Bool.and_eq_true, decide_eq_true_eq] at ha
  exact ha.1
theorem allowed_put {r : Rules} {p : Place} {m : Mv} (ha : allowedB r p m = true) (hm : m.1 = -1) : handI p m.2.2.1 > 0 ∧ cellI p m.2.1 = 0 := by
  unfold allowedB putOk at ha
  rw [beq_t hm, cond_true] at ha
  simp only [Bool.and_eq_true, decide_eq_true_eq, beq_iff_eq] at ha
  exact ⟨ha.2.1, ha.2.2.1⟩
theorem handD_len (m : Mv) (h : List Int) : (handD m h).length = h.length := by unfold handD; cases decide (m.1 ≥ 0) <;> simp
theorem handK_len (r : Rules) (c : Int) (h : List Int) : (handK r c h).length = h.length := by unfold handK; cases (decide (c > 0) && r.keeps) <;> simp
theorem getD_rng {l : List Int} {b : Int} (hb : 0 ≤ b) (h : ∀ c ∈ l, 0 ≤ c ∧ c ≤ b) (i : Nat) : 0 ≤ l.getD i 0 ∧ l.getD i 0 ≤ b := by
  rw [List.getD_eq_getElem?_getD]
  cases e : l[i]? with
  | none => simp; exact hb
  | some c => exact h c (List.mem_of_getElem? e)
theorem handD_rng {r : Rules} {p : Place} {m : Mv} (h : Valid r p) (ha : allowedB r p m = true) : ∀ c ∈ handD m (handOf p), 0 ≤ c ∧ c ≤ 1000 := by
  have hr := hand_rng h
  unfold handD
  cases hd : decide (m.1 ≥ 0) with
  | true => exact hr
  | false =>
    intro c hc
    rw [cond_false] at hc
    have hm : m.1 = -1 := by have := (allowed_rng ha).1.1; simp at hd; omega
    have hp := (allowed_put ha hm).1
    have hg := getD_rng (by omega) hr m.2.2.1.toNat
    rcases List.mem_or_eq_of_mem_set hc with h1 | h1
    · exact hr c h1
    · unfold handI at hp; omega
theorem handK_rng {r : Rules} {c : Int} {h : List Int} (hh : ∀ x ∈ h, 0 ≤ x ∧ x ≤ 1000) : ∀ x ∈ handK r c h, 0 ≤ x ∧ x ≤ 1000 := by
  unfold handK
  cases (decide (c > 0) && r.keeps) with
  | false => exact hh
  | true =>
    intro x hx
    have hg := getD_rng (by omega) hh (kindOf c).toNat
    rcases List.mem_or_eq_of_mem_set hx with h1 | h1
    · exact hh x h1
    · rw [h1]; split <;> omega
theorem make_hand {r : Rules} {p : Place} {m : Mv} (hv : Valid r p) (ha : allowedB r p m = true) (l : List Int) (hl : l = handOf p) :
    (decide (m.1 ≥ 0) = false → inb m.2.2.1 l.length = true ∧ w64 (getD' l m.2.2.1.toNat 0 - 1) = l.getD m.2.2.1.toNat 0 - 1) ∧
    (decide (cellI p m.2.1 > 0) = true → inb (kindOf (cellI p m.2.1)) (handD m l).length = true ∧ w64 (getD' (handD m l) (kindOf (cellI p m.2.1)).toNat 0 + 1) = (handD m l).getD (kindOf (cellI p m.2.1)).toNat 0 + 1) := by
  subst hl
  have hr := hand_rng hv
  have hl := hand_len hv
  obtain ⟨r1, r2, r3⟩ := allowed_rng ha
  refine ⟨fun _ => ⟨inb_iff.2 ⟨r3.1, by rw [hl]; exact r3.2⟩, ?_⟩, fun hc => ⟨?_, ?_⟩⟩
  · have := getD_rng (by omega) hr m.2.2.1.toNat
    exact w64_id (by show _ ≤ (handOf p).getD m.2.2.1.toNat 0 - 1; omega) (by show (handOf p).getD m.2.2.1.toNat 0 - 1 ≤ _; omega)
  · have hk := kind_rng hv (of_decide_eq_true hc)
    exact inb_iff.2 ⟨hk.2.1, by rw [handD_len, hl]; exact hk.2.2⟩
  · have := getD_rng (by omega) (handD_rng hv ha) (kindOf (cellI p m.2.1)).toNat
    exact w64_id (by show _ ≤ (handD m (handOf p)).getD (kindOf (cellI p m.2.1)).toNat 0 + 1; omega) (by show (handD m (handOf p)).getD (kindOf (cellI p m.2.1)).toNat 0 + 1 ≤ _; omega)
theorem make_spec {r : Rules} {p : Place} {m : Mv} (h : Valid r p) (ha : allowedB r p m = true) : movesMake r p m = some (afterOf r p m) := by
  obtain ⟨r1, r2, r3⟩ := allowed_rng ha
  have ht6 := h.r0.t6
  have hq := h.quiet
  have htn := h.turn
  have h64 := area_len h
  have hto : inb m.2.1 p.1.length = true := inb_iff.2 r2
  have wv : w64 (w64 (w64 (2 * m.2.2.1) + p.2.2.1) + 1) = pieceV p m := by
    unfold pieceV
    rw [show p.2.2.1 = p.turn from rfl, w64_id (n := 2 * m.2.2.1) (by omega) (by omega), w64_id (n := 2 * m.2.2.1 + p.turn) (by omega) (by omega), w64_id (by omega) (by omega)]
  have wq : w64 (p.2.2.2.1 + 1) = p.quiet + 1 := w64_id (by show _ ≤ p.quiet + 1; omega) (by show p.quiet + 1 ≤ _; omega)
  have wt : w64 (1 - p.2.2.1) = 1 - p.turn := (turn_w h).1
  have hcell : getD' p.1 m.2.1.toNat 0 = cellI p m.2.1 := rfl
  have hin : inb p.2.2.1 2 = true := inb_iff.2 (by show 0 ≤ p.turn ∧ p.turn < ((2 : Nat) : Int); omega)
  have wk : decide (cellI p m.2.1 > 0) = true → w64 ((w64 (cellI p m.2.1 - 1)).tdiv 2) = kindOf (cellI p m.2.1) := fun hc => (kind_rng h (of_decide_eq_true hc)).1
  have hho : handOf p = if p.turn = 0 then p.2.1.1 else p.2.1.2.1 := handOf_eq h
  have hneg : decide (m.1 < 0) = !decide (m.1 ≥ 0) := by
    rw [Bool.eq_iff_iff]
    simp only [decide_eq_true_eq, Bool.not_eq_true', decide_eq_false_iff_not]
    omega
  unfold movesMake afterOf
  rw [copy_spec h, Option.bind_some]
  simp only [hcell, hto, req_true, wv, wq, wt, hin, hneg]
  rcases htn with e | e
  · have e' : p.2.2.1 = 0 := e
    rw [if_pos e] at hho
    obtain ⟨k1, k2⟩ := make_hand h ha p.2.1.1 hho.symm
    simp only [e', e, show ((0 : Int) == 0) = true from rfl, cond_true]
    unfold handA cellsA quietA handK
    simp only [hneg]
    cases hd : decide (m.1 ≥ 0) with
    | true =>
      have hf : inb m.1 p.1.length = true := inb_iff.2 ⟨of_decide_eq_true hd, r1.2⟩
      have hD : handD m p.2.1.1 = p.2.1.1 := by unfold handD; rw [hd]; rfl
      rw [hD] at k2 ⊢
      simp only [cond_true, hf, req_true, Option.bind_some, List.length_set, hto]
      cases hc : decide (cellI p m.2.1 > 0) with
      | false => rfl
      | true =>
        obtain ⟨k3, k4⟩ := k2 hc
        cases hk : r.2.2.2.2.2.2.1 with
        | false => rw [show r.keeps = false from hk]; rfl
        | true =>
          rw [show r.keeps = true from hk]
          simp only [Bool.true_and, cond_true, wk hc, k3, req_true, k4, Option.bind_some]
          rfl
    | false =>
      obtain ⟨k5, k6⟩ := k1 hd
      have hD : handD m p.2.1.1 = p.2.1.1.set m.2.2.1.toNat (p.2.1.1.getD m.2.2.1.toNat 0 - 1) := by unfold handD; rw [hd]; rfl
      have hz : decide (cellI p m.2.1 > 0) = false := by
        have := (allowed_put ha (by simp at hd; omega)).2
        rw [this]; rfl
      rw [hD]
      simp only [cond_false, k5, k6, req_true, Option.bind_some, hz, Bool.false_and, hto]
      rfl
  · have e' : p.2.2.1 = 1 := e
    rw [if_neg (by omega)] at hho
    obtain ⟨k1, k2⟩ := make_hand h ha p.2.1.2.1 hho.symm
    simp only [e', e, show ((1 : Int) == 0) = false from rfl, cond_false]
    unfold handA cellsA quietA handK
    simp only [hneg]
    cases hd : decide (m.1 ≥ 0) with
    | true =>
      have hf : inb m.1 p.1.length = true := inb_iff.2 ⟨of_decide_eq_true hd, r1.2⟩
      have hD : handD m p.2.1.2.1 = p.2.1.2.1 := by unfold handD; rw [hd]; rfl
      rw [hD] at k2 ⊢
      simp only [cond_true, hf, req_true, Option.bind_some, List.length_set, hto]
      cases hc : decide (cellI p m.2.1 > 0) with
      | false => rfl
      | true =>
        obtain ⟨k3, k4⟩ := k2 hc
        cases hk : r.2.2.2.2.2.2.1 with
        | false => rw [show r.keeps = false from hk]; rfl
        | true =>
          rw [show r.keeps = true from hk]
          simp only [Bool.true_and, cond_true, wk hc, k3, req_true, k4, Option.bind_some]
          rfl
    | false =>
      obtain ⟨k5, k6⟩ := k1 hd
      have hD : handD m p.2.1.2.1 = p.2.1.2.1.set m.2.2.1.toNat (p.2.1.2.1.getD m.2.2.1.toNat 0 - 1) := by unfold handD; rw [hd]; rfl
      have hz : decide (cellI p m.2.1 > 0) = false := by
        have := (allowed_put ha (by simp at hd; omega)).2
        rw [this]; rfl
      rw [hD]
      simp only [cond_false, k5, k6, req_true, Option.bind_some, hz, Bool.false_and, hto]
      rfl
theorem after_valid {r : Rules} {p : Place} {m : Mv} (h : Valid r p) (ha : allowedB r p m = true) : Valid r (afterOf r p m) := by
  obtain ⟨r1, r2, r3⟩ := allowed_rng ha
  have htn := h.turn
  have hq := h.quiet
  have hK := handK_rng (r := r) (c := cellI p m.2.1) (handD_rng h ha)
  have hho := handOf_eq h
  refine ⟨h.r0, ?_, ?_, ?_, ?_, ?_, ?_, ?_, ?_⟩
  · show ((((bif decide (m.1 ≥ 0) then p.1.set m.1.toNat 0 else p.1).set m.2.1.toNat (pieceV p m)).length : Nat) : Int) = _
    have : ((bif decide (m.1 ≥ 0) then p.1.set m.1.toNat 0 else p.1).set m.2.1.toNat (pieceV p m)).length = p.1.length := by cases decide (m.1 ≥ 0) <;> simp
    rw [this]; exact h.cells
  · show (bif p.turn == 0 then handA r p m p.2.1.1 else p.2.1.1).length = _
    cases (p.turn == 0)
    · exact h.l0
    · rw [cond_true]; unfold handA; rw [handK_len, handD_len]; exact h.l0
  · show (bif p.turn == 0 then p.2.1.2.1 else handA r p m p.2.1.2.1).length = _
    cases (p.turn == 0)
    · rw [cond_false]; unfold handA; rw [handK_len, handD_len]; exact h.l1
    · exact h.l1
  · intro c hc
    have hc : c ∈ (bif decide (m.1 ≥ 0) then p.1.set m.1.toNat 0 else p.1).set m.2.1.toNat (pieceV p m) := hc
    rcases List.mem_or_eq_of_mem_set hc with h1 | h1
    · cases hd : decide (m.1 ≥ 0) with
      | false => rw [hd, cond_false] at h1; exact h.cell c h1
      | true =>
        rw [hd, cond_true] at h1
        rcases List.mem_or_eq_of_mem_set h1 with h2 | h2
        · exact h.cell c h2
        · have := h.r0.t1; omega
    · rw [h1]; unfold pieceV; omega
  · intro c hc
    have hc : c ∈ (bif p.turn == 0 then handA r p m p.2.1.1 else p.2.1.1) := hc
    rcases htn with e | e
    · rw [beq_t e, cond_true] at hc
      rw [if_pos e] at hho
      have hc : c ∈ handK r (cellI p m.2.1) (handD m p.h0) := hc
      rw [← hho] at hc
      exact hK c hc
    · rw [beq_f (by omega), cond_false] at hc; exact h.hand0 c hc
  · intro c hc
    have hc : c ∈ (bif p.turn == 0 then p.2.1.2.1 else handA r p m p.2.1.2.1) := hc
    rcases htn with e | e
    · rw [beq_t e, cond_true] at hc; exact h.hand1 c hc
    · rw [beq_f (by omega), cond_false] at hc
      rw [if_neg (by omega)] at hho
      have hc : c ∈ handK r (cellI p m.2.1) (handD m p.h1) := hc
      rw [← hho] at hc
      exact hK c hc
  · show 1 - p.turn = 0 ∨ 1 - p.turn = 1
    omega
  · show 0 ≤ quietA p m ∧ quietA p m ≤ 200
    unfold quietA
    cases (decide (cellI p m.2.1 > 0) || decide (m.1 < 0))
    · rw [cond_false]; split <;> omega
    · simp
/-! ### the reference -/
def newC (p : Place) (m : Mv) (i : Nat) : Int := bif ((i : Int) == m.2.1) then pieceV p m else bif ((i : Int) == m.1) then 0 else p.1.getD i 0
theorem newC_list {p : Place} {m : Mv} (h1 : -1 ≤ m.1) (h2 : 0 ≤ m.2.1 ∧ m.2.1 < ((p.1.length : Nat) : Int)) : (List.range p.1.length).map (newC p m) = cellsA p m := by
  have hl : (cellsA p m).length = p.1.length := by unfold cellsA; cases decide (m.1 ≥ 0) <;> simp
  apply List.ext_getElem?
  intro i
  by_cases hi : i < p.1.length
  · rw [List.getElem?_map, List.getElem?_range hi, Option.map_some]
    unfold newC cellsA
    have hg : p.1[i]? = some (p.1.getD i 0) := by rw [List.getD_eq_getElem?_getD, List.getElem?_eq_getElem hi]; rfl
    have hl2 : (bif decide (m.1 ≥ 0) then p.1.set m.1.toNat 0 else p.1).length = p.1.length := by cases decide (m.1 ≥ 0) <;> simp
    rw [List.getElem?_set]
    by_cases e : (i : Int) = m.2.1
    · rw [beq_t e, cond_true, if_pos (by omega), if_pos (by rw [hl2]; omega)]
    · rw [beq_f e, cond_false, if_neg (by omega)]
      by_cases c : m.1 ≥ 0
      · rw [show decide (m.1 ≥ 0) = true by simp; omega, cond_true, List.getElem?_set]
        by_cases e2 : (i : Int) = m.1
        · rw [beq_t e2, cond_true, if_pos (by omega), if_pos (by omega)]
        · rw [beq_f e2, cond_false, if_neg (by omega), hg]
      · rw [show decide (m.1 ≥ 0) = false by simp; omega, cond_false, beq_f (by omega), cond_false, hg]
  · rw [List.getElem?_eq_none (by simp; omega), List.getElem?_eq_none (by rw [hl]; omega)]
def newH (r : Rules) (p : Place) (m : Mv) (h : List Int) (i : Nat) : Int :=
  let n := bif (m.1 == -1) && ((i : Int) == m.2.2.1) then h.getD i 0 - 1 else h.getD i 0
  bif ((r.keeps && decide (cellI p m.2.1 > 0)) && ((i : Int) == kindOf (cellI p m.2.1))) && decide (n < 1000) then n + 1 else n
theorem newH_list {r : Rules} {p : Place} {m : Mv} (hv : Valid r p) (ha : allowedB r p m = true) (l : List Int) (hl : l = handOf p) : (List.range l.length).map (newH r p m l) = handA r p m l := by
  obtain ⟨r1, r2, r3⟩ := allowed_rng ha
  have hlen : (handA r p m l).length = l.length := by unfold handA; rw [handK_len, handD_len]
  have hDr : ∀ c ∈ handD m l, 0 ≤ c ∧ c ≤ 1000 := by rw [hl]; exact handD_rng hv ha
  have hDl := handD_len m l
  have hgD : ∀ (xs : List Int) (i : Nat), i < xs.length → xs[i]? = some (xs.getD i 0) := fun xs i hi => by rw [List.getD_eq_getElem?_getD, List.getElem?_eq_getElem hi]; rfl
  have hd : ∀ i, i < l.length → (handD m l).getD i 0 = bif (m.1 == -1) && ((i : Int) == m.2.2.1) then l.getD i 0 - 1 else l.getD i 0 := fun i hi => by
    by_cases c : m.1 ≥ 0
    · have : handD m l = l := by unfold handD; rw [show decide (m.1 ≥ 0) = true by simp; omega]; rfl
      rw [this, beq_f (by omega), Bool.false_and, cond_false]
    · have : handD m l = l.set m.2.2.1.toNat (l.getD m.2.2.1.toNat 0 - 1) := by unfold handD; rw [show decide (m.1 ≥ 0) = false by simp; omega]; rfl
      rw [this, beq_t (by omega), Bool.true_and, List.getD_eq_getElem?_getD, List.getElem?_set]
      by_cases e : (i : Int) = m.2.2.1
      · rw [beq_t e, cond_true, if_pos (by omega), if_pos (by omega), show m.2.2.1.toNat = i by omega]; rfl
      · rw [beq_f e, cond_false, if_neg (by omega), ← List.getD_eq_getElem?_getD]
  apply List.ext_getElem?
  intro i
  by_cases hi : i < l.length
  · rw [List.getElem?_map, List.getElem?_range hi, Option.map_some]
    unfold newH
    simp only
    rw [← hd i hi]
    have hb := getD_rng (by omega) hDr i
    unfold handA
    obtain ⟨D0, hD0⟩ : ∃ D0, handD m l = D0 := ⟨_, rfl⟩
    rw [hD0] at hb hDl ⊢
    unfold handK
    cases hc : decide (cellI p m.2.1 > 0) with
    | false => simp only [Bool.and_false, Bool.false_and, cond_false]; exact (hgD D0 i (by omega)).symm
    | true =>
      have hk := kind_rng hv (of_decide_eq_true hc)
      cases hkp : r.keeps with
      | false => simp only [Bool.and_false, Bool.false_and, cond_false]; exact (hgD D0 i (by omega)).symm
      | true =>
        simp only [Bool.true_and, cond_true]
        rw [List.getElem?_set]
        by_cases e : (i : Int) = kindOf (cellI p m.2.1)
        · have ei : (kindOf (cellI p m.2.1)).toNat = i := by omega
          rw [beq_t e, Bool.true_and, if_pos ei, ei, if_pos (by omega)]
          by_cases c : D0.getD i 0 < 1000
          · rw [show decide (D0.getD i 0 < 1000) = true by simp; simpa using c, cond_true, if_neg (by omega)]
          · rw [show decide (D0.getD i 0 < 1000) = false by simp; simpa using c, cond_false, if_pos (by omega)]
            congr 1; omega
        · rw [beq_f e, Bool.false_and, cond_false, if_neg (by omega), hgD D0 i (by omega)]
  · rw [List.getElem?_eq_none (by simp; omega), List.getElem?_eq_none (by rw [hlen]; omega)]
theorem map_succ {A : Type} (F : Nat → A) (i : Nat) : (List.range (i + 1)).map F = (List.range i).map F ++ [F i] := by rw [List.range_succ, List.map_append]; rfl
end Go.Proofs.YtocnfflklfeocaaGreat
namespace Go.Proofs.YtocnfflklfeocaaGreat
open Go.Den
set_option linter.unusedVariables false
set_option linter.unusedSimpArgs false
set_option maxRecDepth 100000

theorem place_eta (p q : Place) (h1 : p.1 = q.1) (h2 : p.2.1.1 = q.2.1.1) (h3 : p.2.1.2.1 = q.2.1.2.1) (h4 : p.2.2.1 = q.2.2.1) (h5 : p.2.2.2.1 = q.2.2.2.1) : p = q := by
  obtain ⟨a, ⟨b, c, ⟨⟩⟩, d, e, ⟨⟩⟩ := p
  obtain ⟨a', ⟨b', c', ⟨⟩⟩, d', e', ⟨⟩⟩ := q
  simp only at h1 h2 h3 h4 h5
  subst h1 h2 h3 h4 h5
  rfl
def handsOf (r : Rules) : List Int := r.2.2.2.1.map fun x => x.2.1
def beginOf (r : Rules) : Place := (r.2.2.2.2.1, (handsOf r, handsOf r, ()), 0, 0, ())
theorem begin_valid {r : Rules} (h : VR0 r) : Valid r (beginOf r) := by
  have hh : ∀ c ∈ handsOf r, 0 ≤ c ∧ c ≤ 1000 := fun c hc => by
    obtain ⟨x, hx, rfl⟩ := List.mem_map.1 hc
    have := h.hand x hx
    omega
  have hl : (handsOf r).length = r.pieces.length := by unfold handsOf; simp
  exact ⟨h, h.start, hl, hl, h.startC, hh, hh, .inl rfl, by show (0 : Int) ≤ 0 ∧ (0 : Int) ≤ 200; omega⟩
theorem map_take {A B : Type} (l : List A) (f : A → B) (i : Nat) (hi : i < l.length) : (l.take (i + 1)).map f = (l.take i).map f ++ [f l[i]] := by
  rw [List.take_succ_eq_append_getElem hi, List.map_append]; rfl
theorem begin_spec (r : Rules) (hr : Rng tyRules r) : placeBegin r = some (if ruleErr r = 0 then (beginOf r, 0, ()) else (([], ([], [], ()), 0, 0, ()), ruleErr r, ())) := by
  unfold placeBegin
  rw [check_spec r hr, Option.bind_some]
  by_cases c : ruleErr r = 0
  · have h := rules_valid c
    have hs : ((r.2.2.2.2.1.length : Nat) : Int) = r.width * r.height := h.start
    have ha := h.area
    have ht : r.2.2.2.1.length ≤ 6 := h.t6
    rw [bne_f c, cond_false, if_pos c, clone_ok _ (by omega), Option.bind_some]
    have hL := iterW_states (f := placeBegin_L1 r) r.2.2.2.1.length (fun i => (((i : Int), ()), ((r.2.2.2.2.1, ((r.2.2.2.1.take i).map (fun x => x.2.1), ((r.2.2.2.1.take i).map (fun x => x.2.1), ((0 : Int), ((0 : Int), ()))))), ()))) ((), ((r.2.2.2.2.1, (handsOf r, (handsOf r, ((0 : Int), ((0 : Int), ()))))), ())) (fun i hi => by
      unfold placeBegin_L1
      simp only [show decide ((i : Int) < ((r.2.2.2.1.length : Nat) : Int)) = true by simp; omega, cond_true]
      rw [at?_eq _ _ (by omega) (by omega), Option.bind_some]
      simp only [Int.toNat_natCast]
      have hroom : ∀ z : Int, room (((r.2.2.2.1.take i).map (fun x => x.2.1)).length + [z].length) 8 = true := fun z => room_ok (by simp; omega)
      simp only [hroom, req_true, agree_self, Option.bind_some]
      rw [w64_id (n := (i : Int) + 1) (by omega) (by omega), map_take _ _ i hi]
      rfl) (by
      unfold placeBegin_L1
      simp only [show decide (((r.2.2.2.1.length : Nat) : Int) < ((r.2.2.2.1.length : Nat) : Int)) = false by simp, cond_false, List.take_length]
      rfl)
    have hL' : iterW (placeBegin_L1 r) (((0 : Int), ()), ((r.2.2.2.2.1, (([] : List Int), (([] : List Int), ((0 : Int), ((0 : Int), ()))))), ())) = _ := hL
    rw [hL', Option.bind_some]
    rfl
  · rw [bne_t c, cond_true, if_neg c]
theorem index_spec (s : List Mv) (v : Mv) (hs : s.length ≤ 1000000000) : slicesContains_Move s v = some (decide (v ∈ s)) := by
  unfold slicesContains_Move slicesIndex_Move
  have hL := iterW_scan s.length (slicesIndex_Move_L1 s v) (fun i => if v = s.getD i d0 then some (.inr (i : Int)) else none) (.inl ((), ())) (fun i hi => by
    unfold slicesIndex_Move_L1
    simp only [show decide ((i : Int) < ((s.length : Nat) : Int)) = true by simp; omega, cond_true]
    rw [at?_eq s _ (by omega) (by omega), Option.bind_some, w64_id (n := (i : Int) + 1) (by omega) (by omega)]
    simp only [Int.toNat_natCast, List.getD_eq_getElem?_getD, List.getElem?_eq_getElem hi, Option.getD_some, mv_beq]
    by_cases e : v = s[i]
    · simp [e]
    · simp [e]) (by unfold slicesIndex_Move_L1; simp)
  rw [hL]
  have key : ∀ k i, i + k = s.length → (Option.bind (Option.bind (some (scan (fun i => if v = s.getD i d0 then some (Sum.inr (i : Int)) else none) (Sum.inl ((), ())) i k)) (Sum.elim (fun _ : Unit × Unit => some (-1 : Int)) some)) fun r2 => some (decide (r2 ≥ (0 : Int)))) = some (decide (v ∈ s.drop i)) := by
    intro k
    induction k with
    | zero =>
      intro i hi
      rw [show i = s.length by omega, List.drop_length]
      simp [scan]
    | succ k ih =>
      intro i hi
      have hil : i < s.length := by omega
      have hmem : (v ∈ s.drop i) ↔ v = s[i] ∨ v ∈ s.drop (i + 1) := by rw [List.drop_eq_getElem_cons hil, List.mem_cons]
      unfold scan
      have hg : s.getD i d0 = s[i] := by simp [List.getD_eq_getElem?_getD, hil]
      by_cases e : v = s[i]
      · rw [decide_eq_true (hmem.2 (.inl e))]
        simp only [hg, if_pos e, Option.bind_some, Sum.elim_inr]
        simp
      · simp only [hg, if_neg e]
        rw [ih (i + 1) (by omega)]
        have h2 : (v ∈ s.drop (i + 1)) ↔ v ∈ s.drop i := ⟨fun h => hmem.2 (.inr h), fun h => (hmem.1 h).resolve_left e⟩
        simp only [h2]
  have := key s.length 0 (by omega)
  simpa using this
theorem movesOf_len {r : Rules} {p : Place} (h : Valid r p) : (movesOf r p).length ≤ 100000 := by
  have h64 := area_len h
  refine Nat.le_trans (flatMap_len _ 384 _ fun i _ => at1_len h i) ?_
  rw [List.length_range]
  omega
end Go.Proofs.YtocnfflklfeocaaGreat
namespace Go.Proofs.YtocnfflklfeocaaGreat
open Go.Den
set_option linter.unusedVariables false
set_option linter.unusedSimpArgs false
set_option maxRecDepth 100000

theorem rep_eta (r : Rules) : (r.1, (r.2.1, (r.2.2.1, (r.2.2.2.1, (r.2.2.2.2.1, (r.2.2.2.2.2.1, (r.2.2.2.2.2.2.1, (r.2.2.2.2.2.2.2.1, (r.2.2.2.2.2.2.2.2.1, (r.2.2.2.2.2.2.2.2.2.1, (r.2.2.2.2.2.2.2.2.2.2.1, ()))))))))))) = r := rfl
theorem pl_eta (p : Place) : (p.1, ((p.2.1.1, (p.2.1.2.1, ())), p.2.2)) = p := rfl
theorem gd_eq {A : Type} (xs : List A) (i : Nat) (hi : i < xs.length) (d : A) : getD' xs i d = xs[i] := by simp [getD', hi]
theorem ltd {A : Type} (xs : List A) (i : Nat) (hi : i < xs.length) : decide ((i : Int) < ((xs.length : Nat) : Int)) = true := by simp; omega
theorem nltd {A : Type} (xs : List A) : decide (((xs.length : Nat) : Int) < ((xs.length : Nat) : Int)) = false := by simp
theorem inbN {A : Type} (xs : List A) (i : Nat) (hi : i < xs.length) : inb (i : Int) xs.length = true := inb_iff.2 ⟨by omega, by omega⟩
theorem eq_ints (a b : List Int) (ha : a.length ≤ 1000000000) : slicesEqual_int a b = some (decide (a = b)) := by
  unfold slicesEqual_int
  by_cases hl : a.length = b.length
  · have e : (((a.length : Nat) : Int) != ((b.length : Nat) : Int)) = false := bne_f (by omega)
    rw [e, cond_false]
    have hL := iterW_any (List.range a.length) (fun i => a.getD i 0 != b.getD i 0) (slicesEqual_int_L1 a b) (.inr false) (.inl ((), ())) (fun i hi => by
      have hi' : i < a.length := by simpa using hi
      unfold slicesEqual_int_L1
      simp only [show decide ((i : Int) < ((a.length : Nat) : Int)) = true by simp; omega, cond_true, List.getElem_range]
      rw [at?_eq a _ (by omega) (by omega), at?_eq b _ (by omega) (by omega), Option.bind_some, Option.bind_some, w64_id (n := (i : Int) + 1) (by omega) (by omega)]
      simp only [Int.toNat_natCast, List.getD_eq_getElem?_getD, List.getElem?_eq_getElem hi', List.getElem?_eq_getElem (show i < b.length by omega), Option.getD_some]
      cases (a[i] != b[i]) <;> rfl) (by unfold slicesEqual_int_L1; simp)
    rw [hL]
    cases hany : (List.range a.length).any (fun i => a.getD i 0 != b.getD i 0) with
    | true =>
      rw [List.any_eq_true] at hany
      obtain ⟨i, _, h⟩ := hany
      have : ¬ a = b := fun e => by subst e; simp at h
      simp [this]
    | false =>
      rw [List.any_eq_false] at hany
      have : a = b := by
        apply List.ext_getElem hl
        intro i h1 h2
        have := hany i (List.mem_range.2 h1)
        simpa [List.getD_eq_getElem?_getD, h1, h2] using this
      simp [this]
  · have e : (((a.length : Nat) : Int) != ((b.length : Nat) : Int)) = true := bne_t (by omega)
    rw [e, cond_true]
    have : ¬ a = b := fun h => hl (by rw [h])
    simp [this]
/-- the same position, but for Quiet -/
def same0 (p q : Place) : Bool := ((decide (p.1 = q.1) && decide (p.2.1.1 = q.2.1.1)) && decide (p.2.1.2.1 = q.2.1.2.1)) && (p.2.2.1 == q.2.2.1)
theorem same_spec {r : Rules} {p q : Place} (h : Valid r p) : placeSame p q = some (same0 p q) := by
  have h64 := area_len h
  have t6 := h.r0.t6
  have l0 : p.2.1.1.length = r.pieces.length := h.l0
  have l1 : p.2.1.2.1.length = r.pieces.length := h.l1
  unfold placeSame same0
  rw [eq_ints _ _ (by omega), eq_ints _ _ (by omega), eq_ints _ _ (by omega)]
  have hg : ∀ b c : Bool, gopt b false (some c) = some (b && c) := fun b c => by cases b <;> rfl
  simp only [hg, Option.bind_some, Option.some.injEq]
  cases decide (p.1 = q.1) <;> cases decide (p.2.1.1 = q.2.1.1) <;> cases decide (p.2.1.2.1 = q.2.1.2.1) <;> cases (p.2.2.1 == q.2.2.1) <;> rfl
theorem pcopy_spec {r : Rules} {p : Place} (h : Valid r p) : placeCopy p = some p := by
  have h64 := area_len h
  have t6 := h.r0.t6
  have l0 : p.2.1.1.length = r.pieces.length := h.l0
  have l1 : p.2.1.2.1.length = r.pieces.length := h.l1
  unfold placeCopy
  simp only [agree_self]
  rw [clone_ok _ (by omega), Option.bind_some, clone_ok _ (by omega), Option.bind_some, clone_ok _ (by omega)]
  rfl
theorem clone_ways (s : List (Int × Int × Int × Int × Unit)) (h : s.length ≤ 1000000) : slicesClone_RuleWay s = some s := by
  unfold slicesClone_RuleWay
  have : room (([] : List (Int × Int × Int × Int × Unit)).length + s.length) 32 = true := room_ok (by simp; omega)
  rw [this]
  cases s with
  | nil => simp [req_true, agree_self]
  | cons a l => simp [req_true]
theorem clone_ends (s : List (Int × Int × Int × Bool × Unit)) (h : s.length ≤ 1000000) : slicesClone_RuleEnd s = some s := by
  unfold slicesClone_RuleEnd
  have : room (([] : List (Int × Int × Int × Bool × Unit)).length + s.length) 32 = true := room_ok (by simp; omega)
  rw [this]
  cases s with
  | nil => simp [req_true, agree_self]
  | cons a l => simp [req_true]
theorem rcopy_spec {r : Rules} (h : VR0 r) : rulesCopy r = some r := by
  have t6 : r.2.2.2.1.length ≤ 6 := h.t6
  have e6 : r.2.2.2.2.2.2.2.1.length ≤ 6 := h.ends6
  have hs : ((r.2.2.2.2.1.length : Nat) : Int) = r.width * r.height := h.start
  have ha := h.area
  unfold rulesCopy
  simp only [agree_self]
  have hL := iterW_states (f := rulesCopy_L1 r) r.2.2.2.1.length (fun i => (((i : Int), ()), ((r.1, (r.2.1, (r.2.2.1, (r.2.2.2.1.take i, r.2.2.2.2)))), ()))) ((), ((r.1, (r.2.1, (r.2.2.1, (r.2.2.2.1, r.2.2.2.2)))), ())) (fun i hi => by
    unfold rulesCopy_L1
    simp only [show decide ((i : Int) < ((r.2.2.2.1.length : Nat) : Int)) = true by simp; omega, cond_true]
    rw [at?_eq _ _ (by omega) (by omega), Option.bind_some]
    simp only [Int.toNat_natCast]
    rw [clone_ways _ (by have : r.2.2.2.1[i].2.2.2.1.length ≤ 16 := h.ways _ (List.getElem_mem hi); omega), Option.bind_some]
    have hroom : ∀ z : Piece, room ((r.2.2.2.1.take i).length + [z].length) 48 = true := fun z => room_ok (by simp; omega)
    rw [hroom, req_true, w64_id (n := (i : Int) + 1) (by omega) (by omega), List.take_succ_eq_append_getElem hi]
    rfl) (by
    unfold rulesCopy_L1
    simp only [show decide (((r.2.2.2.1.length : Nat) : Int) < ((r.2.2.2.1.length : Nat) : Int)) = false by simp, cond_false, List.take_length])
  have hL' : iterW (rulesCopy_L1 r) (((0 : Int), ()), ((r.1, (r.2.1, (r.2.2.1, (([] : List Piece), r.2.2.2.2)))), ())) = _ := hL
  rw [hL', Option.bind_some, clone_ok _ (by omega), Option.bind_some, clone_ends _ (by omega)]
  rfl
theorem valid_ok {r : Rules} {p : Place} (c : ruleErr r = 0) (h : Valid r p) : placeErr r p = 0 := by
  unfold placeErr
  rw [if_neg (by simp [c])]
  have h1 : formBad r p = false := by
    unfold formBad
    rw [bne_f h.cells, bne_f (by have := h.l0; omega), bne_f (by have := h.l1; omega)]
    rfl
  have h2 : placeBad r p = false := by
    unfold placeBad
    have a1 : p.cells.any (outC r) = false := by
      rw [List.any_eq_false]
      intro x hx
      have := h.cell x hx
      simp [outC]; omega
    have a2 : (p.h0 ++ p.h1).any outH = false := by
      rw [List.any_eq_false]
      intro x hx
      have : 0 ≤ x ∧ x ≤ 1000 := (List.mem_append.1 hx).elim (h.hand0 x) (h.hand1 x)
      simp [outH]; omega
    have a3 : outT p = false := by
      have hq := h.quiet
      have ht := h.turn
      simp [outT]; omega
    rw [a1, a2, a3]
    rfl
  rw [h1, h2]
  rfl
/-! ### games -/
def dP : Place := ([], (([], ([], ())), ((0 : Int), ((0 : Int), ()))))
def lastP (l : List Place) : Place := getD' l (l.length - 1) dP
/-- how often the last position occurs -/
def timesOf (l : List Place) : Nat := l.countP fun p => same0 p (lastP l)
/-- the result of a game -/
def gameRes (r : Rules) (l : List Place) : Int := bif ((resultOf r (lastP l) == 0) && (r.repeats != 0)) && decide (((timesOf l : Nat) : Int) ≥ r.repeats) then 3 else resultOf r (lastP l)
structure OKG (r : Rules) (s : List Place × List Mv) : Prop where
  ok : ruleErr r = 0
  all : ∀ p ∈ s.1, Valid r p
  len : s.1.length = s.2.length + 1
  most : s.2.length ≤ 400
theorem last_mem {l : List Place} (h : 0 < l.length) : lastP l ∈ l := by
  unfold lastP
  rw [gd_eq l (l.length - 1) (by omega)]
  exact List.getElem_mem _
theorem OKG.last {r : Rules} {s : List Place × List Mv} (h : OKG r s) : Valid r (lastP s.1) := h.all _ (last_mem (by have := h.len; omega))
/-- one more move: its error -/
def stepG (r : Rules) (s : List Place × List Mv) (m : Mv) : Int := if gameRes r s.1 = 0 then if allowedB r (lastP s.1) m = true then if s.2.length = 400 then 9 else 0 else 13 else 14
def nextG (r : Rules) (s : List Place × List Mv) (m : Mv) : List Place × List Mv := (s.1 ++ [afterOf r (lastP s.1) m], s.2 ++ [m])
theorem next_ok {r : Rules} {s : List Place × List Mv} {m : Mv} (h : OKG r s) (c : stepG r s m = 0) : OKG r (nextG r s m) := by
  unfold stepG at c
  by_cases c1 : gameRes r s.1 = 0
  · rw [if_pos c1] at c
    by_cases c2 : allowedB r (lastP s.1) m = true
    · rw [if_pos c2] at c
      by_cases c3 : s.2.length = 400
      · rw [if_pos c3] at c; cases c
      · have hl := h.len
        have hm := h.most
        refine ⟨h.ok, fun p hp => ?_, by unfold nextG; simp; omega, by unfold nextG; simp; omega⟩
        rcases List.mem_append.1 hp with hp | hp
        · exact h.all p hp
        · rw [List.mem_singleton.1 hp]; exact after_valid h.last c2
    · rw [if_neg c2] at c; cases c
  · rw [if_neg c1] at c; cases c
/-- a round of a loop that counts how often the last position occurs -/
noncomputable def cntF (L : List Place) (c i : Int) : Option (((Int × Int × Unit) × Unit) ⊕ ((Int × Unit) × Unit)) :=
  bif (decide (i < ((L.length : Nat) : Int))) then (req (inb i L.length) (Option.bind (req (inb (w64 (((L.length : Nat) : Int) - 1)) L.length) (Option.bind (placeSame (getD' L i.toNat dP) (getD' L (w64 (((L.length : Nat) : Int) - 1)).toNat dP)) fun x => some ((x, ()), ()))) fun x : (Bool × Unit) × Unit =>
    Option.bind (bif x.1.1 then some ((w64 (c + 1), ()), ()) else some ((c, ()), ())) fun y : (Int × Unit) × Unit => some (Sum.inl ((y.1.1, w64 (i + 1), ()), ()))))
  else some (Sum.inr ((c, ()), ()))
theorem w_last {A : Type} {L : List A} (h0 : 0 < L.length) (h : L.length ≤ 1000000000) : w64 (((L.length : Nat) : Int) - 1) = ((L.length - 1 : Nat) : Int) := by
  rw [w64_id (by omega) (by omega)]; omega
theorem cnt_loop {r : Rules} {L : List Place} (hv : ∀ p ∈ L, Valid r p) (h0 : 0 < L.length) (h1 : L.length ≤ 1000000) (f : ((Int × Int × Unit) × Unit) → Option (((Int × Int × Unit) × Unit) ⊕ ((Int × Unit) × Unit)))
    (hf : ∀ c i, f ((c, i, ()), ()) = cntF L c i) : iterW f (((0 : Int), (0 : Int), ()), ()) = some ((((timesOf L : Nat) : Int), ()), ()) := by
  have hw := w_last h0 (by omega)
  have := iter_count L (fun p => same0 p (lastP L)) f (fun c => ((c, ()), ())) (fun i hi c hc0 hc1 => by
    rw [hf]
    unfold cntF
    rw [ltd L i hi, cond_true, inbN L i hi, req_true, hw, inbN L _ (by omega), req_true, Int.toNat_natCast, Int.toNat_natCast, gd_eq L i hi, same_spec (hv _ (List.getElem_mem hi)), Option.bind_some, Option.bind_some]
    show Option.bind (bif same0 L[i] (lastP L) then _ else _) _ = _
    rw [w64_id (n := c + 1) (by omega) (by omega), w64_id (n := (i : Int) + 1) (by omega) (by omega)]
    cases same0 L[i] (lastP L) <;> rfl) (fun c => by
    rw [hf]
    unfold cntF
    rw [nltd, cond_false])
  rw [this]
  rfl
abbrev Game := Rules × List Place × List Mv × Unit
theorem atP {L : List Place} (h0 : 0 < L.length) : at? L ((L.length - 1 : Nat) : Int) = some (lastP L) := by
  rw [at?_eq _ _ (by omega) (by omega)]
  unfold lastP
  rw [gd_eq L _ (by omega)]
  simp
/-- the methods of games that only read -/
theorem gcount_spec {r : Rules} {s : List Place × List Mv} (h : OKG r s) : plainGameCount (r, (s.1, (s.2, ()))) = some ((timesOf s.1 : Nat) : Int) := by
  obtain ⟨l, ms⟩ := s
  have hl : l.length = ms.length + 1 := h.len
  have hm : ms.length ≤ 400 := h.most
  have hw := w_last (L := l) (by omega) (by omega)
  have := iter_count l (fun p => same0 p (lastP l)) (plainGameCount_L1 (r, (l, (ms, ())))) (fun c => ((c, ()), ())) (fun i hi c hc0 hc1 => by
    unfold plainGameCount_L1
    simp only [agree_self]
    rw [ltd l i hi, cond_true, at?_eq l _ (by omega) (by omega), Option.bind_some, hw, atP (by omega), Option.bind_some]
    simp only [Int.toNat_natCast]
    rw [same_spec (h.all _ (List.getElem_mem hi)), Option.bind_some, Option.bind_some]
    show Option.bind (bif same0 l[i] (lastP l) then _ else _) _ = _
    rw [w64_id (n := c + 1) (by omega) (by omega), w64_id (n := (i : Int) + 1) (by omega) (by omega)]
    cases same0 l[i] (lastP l) <;> rfl) (fun c => by
    unfold plainGameCount_L1
    simp only
    rw [nltd, cond_false])
  unfold plainGameCount
  rw [this]
  rfl
theorem gresult_spec {r : Rules} {s : List Place × List Mv} (h : OKG r s) : plainGameResult (r, (s.1, (s.2, ()))) = some (gameRes r s.1) := by
  have hl := h.len
  have hm := h.most
  have hw := w_last (L := s.1) (by omega) (by omega)
  have hrep : r.2.2.2.2.2.2.2.2.2.2.1 = r.repeats := rfl
  unfold plainGameResult
  simp only [agree_self, hw, atP (show 0 < s.1.length by omega), result_spec h.last, Option.bind_some, gcount_spec h, hrep]
  unfold gameRes
  cases hc : ((resultOf r (lastP s.1) == 0) && (r.repeats != 0)) with
  | true =>
    simp only [gopt, cond_true, Option.bind_some, Bool.true_and]
    cases decide (((timesOf s.1 : Nat) : Int) ≥ r.repeats) <;> rfl
  | false => rfl
theorem gposition_spec {r : Rules} {s : List Place × List Mv} (h : OKG r s) : plainGamePosition (r, (s.1, (s.2, ()))) = some (lastP s.1) := by
  have hl := h.len
  have hm := h.most
  have hw := w_last (L := s.1) (by omega) (by omega)
  unfold plainGamePosition
  simp only [hw, atP (show 0 < s.1.length by omega), pcopy_spec h.last, Option.bind_some, pl_eta]
theorem play_spec {r : Rules} {s : List Place × List Mv} (h : OKG r s) (m : Mv) : plainGamePlay (r, (s.1, (s.2, ()))) m = some (if stepG r s m = 0 then ((r, ((nextG r s m).1, ((nextG r s m).2, ()))), 0) else ((r, (s.1, (s.2, ()))), stepG r s m)) := by
  obtain ⟨l, ms⟩ := s
  have hl : l.length = ms.length + 1 := h.len
  have hm : ms.length ≤ 400 := h.most
  have hv := h.last
  simp only at hv
  have hw := w_last (L := l) (by omega) (by omega)
  have hi := inbN l (l.length - 1) (by omega)
  have hla : getD' l (l.length - 1) (([], (([], ([], ())), ((0 : Int), ((0 : Int), ())))) : Place) = lastP l := rfl
  have hres := gresult_spec h
  simp only at hres
  unfold plainGamePlay
  simp only [agree_self, hw, hi, req_true, Int.toNat_natCast, hla, hres, Option.bind_some]
  unfold stepG
  by_cases c1 : gameRes r l = 0
  · rw [bne_f c1, cond_false]
    simp only [if_pos c1]
    rw [list_spec hv, Option.bind_some, index_spec _ _ (by have := movesOf_len hv; omega), Option.bind_some, Option.bind_some]
    have hmem : decide (m ∈ movesOf r (lastP l)) = allowedB r (lastP l) m := by rw [Bool.eq_iff_iff, decide_eq_true_eq, movesOf_mem]
    rw [hmem]
    by_cases c2 : allowedB r (lastP l) m = true
    · simp only [if_pos c2]
      rw [c2, Bool.not_true, cond_false]
      by_cases c3 : ms.length = 400
      · rw [beq_t (by omega), cond_true]
        simp only [if_pos c3]
        rfl
      · rw [beq_f (by omega), cond_false, make_spec hv c2, Option.bind_some]
        simp only [if_neg c3, if_true]
        have hroom : ∀ z : Place, room (l.length + [z].length) 88 = true := fun z => room_ok (by simp; omega)
        have hroom2 : room (ms.length + [m].length) 24 = true := room_ok (by simp; omega)
        rw [hroom, req_true, Option.bind_some]
        simp only
        rw [hroom2, req_true]
        rfl
    · simp only [if_neg c2]
      rw [show allowedB r (lastP l) m = false by simpa using c2]
      rfl
  · rw [bne_t c1, cond_true]
    simp only [if_neg c1]
    rfl
/-- moves, one after the other -/
def runG (r : Rules) : List Mv → List Place × List Mv → (List Place × List Mv) ⊕ Int
  | [], s => .inl s
  | m :: k, s => if stepG r s m = 0 then runG r k (nextG r s m) else .inr (stepG r s m)
theorem run_ok {r : Rules} : ∀ (k : List Mv) (s s' : List Place × List Mv), OKG r s → runG r k s = .inl s' → OKG r s' ∧ s'.2 = s.2 ++ k
  | [], s, s', h, e => by cases e; exact ⟨h, by simp⟩
  | m :: k, s, s', h, e => by
    unfold runG at e
    split at e
    · rename_i c
      obtain ⟨a, b⟩ := run_ok k _ _ (next_ok h c) e
      refine ⟨a, ?_⟩
      rw [b]
      unfold nextG
      simp
    · cases e
def flG (g : Game) : ByteArray × Int × Int × (List (Int × Int × Int × (List (Int × Int × Int × Int × Unit)) × Unit)) × (List Int) × Bool × Bool × (List (Int × Int × Int × Bool × Unit)) × Int × Int × Int × (List Place) × (List Mv) × Unit :=
  (g.1.1, (g.1.2.1, (g.1.2.2.1, (g.1.2.2.2.1, (g.1.2.2.2.2.1, (g.1.2.2.2.2.2.1, (g.1.2.2.2.2.2.2.1, (g.1.2.2.2.2.2.2.2.1, (g.1.2.2.2.2.2.2.2.2.1, (g.1.2.2.2.2.2.2.2.2.2.1, (g.1.2.2.2.2.2.2.2.2.2.2.1, (g.2.1, (g.2.2.1, ())))))))))))))
def gm (r : Rules) (s : List Place × List Mv) : Game := (r, (s.1, (s.2, ())))
/-- a loop over moves that plays them -/
theorem play_loop {r : Rules} {T R : Type} (l : List Mv) (hlen : l.length ≤ 1000000000) (f : T → Option (T ⊕ R)) (st : Int → Game → T) (bad : Int → R) (fin : List Place × List Mv → R)
    (hf : ∀ i s, f (st i (gm r s)) = bif (decide (i < ((l.length : Nat) : Int))) then (Option.bind (at? l i) fun m => Option.bind (plainGamePlay (r, (s.1, (s.2, ()))) m) fun x => bif (x.2 != 0) then some (.inr (bad x.2)) else some (.inl (st (w64 (i + 1)) x.1))) else some (.inr (fin s))) :
    ∀ (k : Nat) (i : Nat) (s : List Place × List Mv), i + k = l.length → OKG r s → iterW f (st (i : Int) (gm r s)) = some (match runG r (l.drop i) s with
      | .inl s' => fin s'
      | .inr e => bad e)
  | 0, i, s, hi, h => by
    have : i = l.length := by omega
    subst this
    refine iterW_inr ?_
    rw [hf, nltd, cond_false, List.drop_length]
    rfl
  | k + 1, i, s, hi, h => by
    have hil : i < l.length := by omega
    have hL := hf (i : Int) s
    rw [ltd l i hil, cond_true, at?_eq l _ (by omega) (by omega), Option.bind_some, play_spec h, Option.bind_some] at hL
    simp only [Int.toNat_natCast] at hL
    rw [List.drop_eq_getElem_cons hil]
    unfold runG
    by_cases c : stepG r s l[i] = 0
    · rw [if_pos c] at hL
      simp only [bne_self_eq_false, cond_false] at hL
      rw [w64_id (by omega) (by omega)] at hL
      rw [iterW_inl hL, if_pos c]
      exact play_loop l hlen f st bad fin hf k (i + 1) _ (by omega) (next_ok h c)
    · rw [if_neg c] at hL
      simp only [bne_t c, cond_true] at hL
      rw [iterW_inr hL, if_neg c]
theorem begin_okG {r : Rules} (c : ruleErr r = 0) : OKG r ([beginOf r], []) := ⟨c, fun p hp => by rw [List.mem_singleton.1 hp]; exact begin_valid (rules_valid c), rfl, by simp⟩
/-- a game out of the moves of its beginning -/
def gameOf (r : Rules) (l : List Mv) : (List Place × List Mv) ⊕ Int := runG r l ([beginOf r], [])
abbrev FlP := List Int × List Int × List Int × Int × Int × Unit
def flp (p : Place) : FlP := (p.1, (p.2.1.1, (p.2.1.2.1, p.2.2)))
def runRes (r : Rules) (l : List Mv) : Place × Int × Int × Unit := if ruleErr r = 0 then (match gameOf r l with
    | .inl s => (lastP s.1, (gameRes r s.1, (0, ())))
    | .inr e => (dP, (0, (e, ())))) else (dP, (0, (ruleErr r, ())))
theorem run_spec (r : Rules) (l : List Mv) (hr : Rng tyRules r) (hl : l.length ≤ 1000000000) : plainRun r l = some (runRes r l) := by
  unfold plainRun runRes
  rw [begin_spec r hr, Option.bind_some]
  by_cases c : ruleErr r = 0
  · simp only [if_pos c]
    rw [show ((0 : Int) != 0) = false from rfl, cond_false]
    simp only [agree_self]
    rw [rcopy_spec (rules_valid c), Option.bind_some]
    have hP := play_loop (r := r) l hl (plainRun_L2 l) (fun i g => ((i, ()), (flp dP, (flG g, ())))) (fun e => .inr (dP, (0, (e, ())))) (fun s => .inl ((), (flp dP, (flG (gm r s), ()))))
      (fun i s => by rfl) l.length 0 ([beginOf r], []) (by omega) (begin_okG c)
    rw [List.drop_zero] at hP
    have hP' : iterW (plainRun_L2 l) (((0 : Int), ()), ((([] : List Int), (([] : List Int), (([] : List Int), ((0 : Int), ((0 : Int), ()))))), (r.1, (r.2.1, (r.2.2.1, (r.2.2.2.1, (r.2.2.2.2.1, (r.2.2.2.2.2.1, (r.2.2.2.2.2.2.1, (r.2.2.2.2.2.2.2.1, (r.2.2.2.2.2.2.2.2.1, (r.2.2.2.2.2.2.2.2.2.1, (r.2.2.2.2.2.2.2.2.2.2.1, ([((beginOf r).1, (((beginOf r).2.1.1, ((beginOf r).2.1.2.1, ())), (beginOf r).2.2))], (([] : List Mv), ()))))))))))))), ())) = _ := hP
    try simp only [Option.bind_some, bne_self_eq_false, cond_false]
    rw [hP', Option.bind_some]
    unfold gameOf
    cases hg : runG r l ([beginOf r], []) with
    | inr e => rfl
    | inl s =>
      have hok := (run_ok l _ _ (begin_okG c) hg).1
      simp only [Sum.elim_inl]
      change Option.bind (plainGamePosition (r, (s.1, (s.2, ())))) (fun r16 => Option.bind (plainGameResult (r, (s.1, (s.2, ())))) fun r17 => some ((r16.1, ((r16.2.1.1, (r16.2.1.2.1, ())), r16.2.2)), (r17, ((0 : Int), ())))) = _
      rw [gposition_spec hok, Option.bind_some, gresult_spec hok, Option.bind_some]
  · simp only [if_neg c]
    rw [bne_t c, cond_true, cond_true]
    rfl
end Go.Proofs.YtocnfflklfeocaaGreat
namespace Go.Proofs.YtocnfflklfeocaaGreat
open Go.Den
set_option linter.unusedVariables false
set_option linter.unusedSimpArgs false
set_option maxRecDepth 100000

theorem all_spec (r : Rules) (p : Place) (hr : Rng tyRules r) (hn : p.1.length ≤ 9223372036854775807) : movesAll r p = some (if placeErr r p = 0 then movesOf r p else [], placeErr r p, ()) := by
  unfold movesAll
  rw [place_spec r p hr hn, Option.bind_some]
  by_cases c : placeErr r p = 0
  · rw [bne_f c, cond_false, if_pos c, list_spec (valid_of c), c]; rfl
  · rw [bne_t c, cond_true, if_neg c]
theorem legal_spec (r : Rules) (p : Place) (m : Mv) (hr : Rng tyRules r) (hn : p.1.length ≤ 9223372036854775807) : movesLegal r p m = some (if placeErr r p = 0 then allowedB r p m else false, placeErr r p, ()) := by
  unfold movesLegal
  rw [all_spec r p hr hn, Option.bind_some]
  by_cases c : placeErr r p = 0
  · have hv := valid_of c
    simp only [if_pos c]
    rw [index_spec _ _ (by have := movesOf_len hv; omega), Option.bind_some]
    have : decide (m ∈ movesOf r p) = allowedB r p m := by
      rw [Bool.eq_iff_iff, decide_eq_true_eq, movesOf_mem]
    rw [this]
  · simp only [if_neg c]
    rw [index_spec _ _ (by simp)]
    simp
def emptyP : Place := ([], ([], [], ()), 0, 0, ())
theorem after_spec (r : Rules) (p : Place) (m : Mv) (hr : Rng tyRules r) (hn : p.1.length ≤ 9223372036854775807) : movesAfter r p m = some (if placeErr r p = 0 then if allowedB r p m = true then (afterOf r p m, 0, ()) else (emptyP, 13, ()) else (emptyP, placeErr r p, ())) := by
  unfold movesAfter
  rw [legal_spec r p m hr hn, Option.bind_some]
  by_cases c : placeErr r p = 0
  · have hv := valid_of c
    simp only [if_pos c]
    rw [c, show ((0 : Int) != 0) = false from rfl, cond_false]
    cases ha : allowedB r p m with
    | false => rfl
    | true =>
      rw [Bool.not_true, cond_false, make_spec hv ha, Option.bind_some]
      rfl
  · simp only [if_neg c]
    rw [bne_t c, cond_true]
    rfl
end Go.Proofs.YtocnfflklfeocaaGreat
namespace Go.Proofs.YtocnfflklfeocaaGreat
open Go.Den
set_option linter.unusedVariables false
set_option linter.unusedSimpArgs false
set_option maxRecDepth 100000

theorem endsOf_spec (r : Rules) (p : Place) (hr : Rng tyRules r) (hn : p.1.length ≤ 9223372036854775807) : endsOf r p = some (if placeErr r p = 0 then resultOf r p else 0, placeErr r p, ()) := by
  unfold endsOf
  rw [place_spec r p hr hn, Option.bind_some]
  by_cases c : placeErr r p = 0
  · rw [bne_f c, cond_false, if_pos c, result_spec (valid_of c), c]; rfl
  · rw [bne_t c, cond_true, if_neg c]
/-! ### claims -/
def repRes (r : Rules) (l : List Mv) : Int × Int × Unit := if ruleErr r = 0 then (match gameOf r l with
    | .inl s => (((timesOf s.1 : Nat) : Int), (0, ()))
    | .inr e => (0, (e, ()))) else (0, (ruleErr r, ()))
def quietRes (r : Rules) (l : List Mv) : Int × Int × Unit := ((runRes r l).1.quiet, (runRes r l).2.2)
theorem tic_rng : Rng tyRules law3Tic := rngB_ok _ _ (by decide +kernel)
theorem tic_ok : ruleErr law3Tic = 0 := by decide +kernel
/-! ### the reference -/
theorem times_L1 (L : List Place) (h0 : 0 < L.length) (h1 : L.length ≤ 1000000) (hv : ∀ r' : Unit, True) (i : Nat) (c : Int) : ref3Times_L1 L ((c, (i : Int), ()), ()) = cntF L c (i : Int) := by
  have e : ref3Times_L1 L ((c, (i : Int), ()), ()) = bif (decide ((i : Int) < ((L.length : Nat) : Int))) then (Option.bind (at? L (i : Int)) fun a => Option.bind (at? L (w64 (((L.length : Nat) : Int) - 1))) fun b => Option.bind (placeSame a b) fun x => Option.bind (bif x then some ((w64 (c + 1), ()), ()) else some ((c, ()), ())) fun y : (Int × Unit) × Unit => some (Sum.inl ((y.1.1, w64 ((i : Int) + 1), ()), ()))) else some (Sum.inr ((c, ()), ())) := rfl
  rw [e]
  unfold cntF
  have hw := w_last h0 (by omega)
  by_cases hi : i < L.length
  · rw [ltd L i hi, cond_true, cond_true, hw, inbN L i hi, inbN L _ (by omega), req_true, req_true]
    rw [at?_eq L _ (by omega) (by omega), at?_eq L ((L.length - 1 : Nat) : Int) (by omega) (by omega), Option.bind_some, Option.bind_some]
    simp only [Int.toNat_natCast]
    rw [gd_eq L i hi, gd_eq L _ (by omega)]
    cases placeSame L[i] (L[L.length - 1]'(by omega)) <;> rfl
  · rw [decide_eq_false (by omega), cond_false, cond_false]
theorem times3_spec {r : Rules} {L : List Place} (hv : ∀ p ∈ L, Valid r p) (h0 : 0 < L.length) (h1 : L.length ≤ 1000000) : ref3Times L = some ((timesOf L : Nat) : Int) := by
  have hw := w_last h0 (by omega)
  unfold ref3Times
  have := iter_count L (fun p => same0 p (lastP L)) (ref3Times_L1 L) (fun c => ((c, ()), ())) (fun i hi c hc0 hc1 => by
    rw [times_L1 L h0 h1 (fun _ => trivial)]
    unfold cntF
    rw [ltd L i hi, cond_true, inbN L i hi, req_true, hw, inbN L _ (by omega), req_true, Int.toNat_natCast, Int.toNat_natCast, gd_eq L i hi, same_spec (hv _ (List.getElem_mem hi)), Option.bind_some, Option.bind_some]
    show Option.bind (bif same0 L[i] (lastP L) then _ else _) _ = _
    rw [w64_id (n := c + 1) (by omega) (by omega), w64_id (n := (i : Int) + 1) (by omega) (by omega)]
    cases same0 L[i] (lastP L) <;> rfl) (fun c => by
    rw [times_L1 L h0 h1 (fun _ => trivial)]
    unfold cntF
    rw [nltd, cond_false])
  rw [this]
  rfl
theorem res3_spec {r : Rules} {L : List Place} (c : ruleErr r = 0) (hr : Rng tyRules r) (hv : ∀ p ∈ L, Valid r p) (h0 : 0 < L.length) (h1 : L.length ≤ 1000000) : ref3Result r L = some (gameRes r L) := by
  have hw := w_last h0 (by omega)
  have hl := hv _ (last_mem h0)
  have h64 := area_len hl
  have hrep := (rules_valid c).repeats
  unfold ref3Result
  rw [hw, at?_eq L _ (by omega) (by omega), Option.bind_some]
  simp only [Int.toNat_natCast]
  have hla : L[L.length - 1]'(by omega) = lastP L := by unfold lastP; rw [gd_eq L (L.length - 1) (by omega)]
  rw [hla, endsOf_spec r _ hr (by omega), valid_ok c hl, Option.bind_some, times3_spec hv h0 h1]
  unfold gameRes
  simp only [if_true, beq_self_eq_true, Bool.true_and]
  have hq : decide (r.2.2.2.2.2.2.2.2.2.2.1 > 0) = (r.repeats != 0) := by
    rw [Bool.eq_iff_iff]
    simp only [decide_eq_true_eq, bne_iff_ne]
    show r.repeats > 0 ↔ r.repeats ≠ 0
    omega
  rw [hq]
  show Option.bind (gopt ((resultOf r (lastP L) == 0) && (r.repeats != 0)) 0 (some ((timesOf L : Nat) : Int))) (fun x => bif ((resultOf r (lastP L) == 0) && (r.repeats != 0)) && decide (x ≥ r.repeats) then some 3 else some (resultOf r (lastP L))) = _
  cases ((resultOf r (lastP L) == 0) && (r.repeats != 0)) with
  | false => rfl
  | true =>
    simp only [gopt, cond_true, Option.bind_some, Bool.true_and]
    cases decide (((timesOf L : Nat) : Int) ≥ r.repeats) <;> rfl
def placesRes (r : Rules) (l : List Mv) : List Place × Int × Unit := if ruleErr r = 0 then (match gameOf r l with
    | .inl s => (s.1, (0, ()))
    | .inr e => ([], (e, ()))) else ([], (ruleErr r, ()))
theorem places_L1 (l : List Mv) (r : Rules) (ps : List Place) (i : Int) : ref3Places_L1 l r ((ps, i, ()), ()) = bif (decide (i < ((l.length : Nat) : Int))) then (Option.bind (at? l i) fun m => Option.bind (ref3Result r ps) fun x => bif (x != 0) then some (Sum.inr (Sum.inr (([] : List Place), (14, ()))))
    else req (inb (w64 (((ps.length : Nat) : Int) - 1)) ps.length) (Option.bind (movesAfter r (getD' ps (w64 (((ps.length : Nat) : Int) - 1)).toNat dP) m) fun z => bif (z.2.1 != 0) then some (Sum.inr (Sum.inr (([] : List Place), (13, ())))) else bif (decide (((ps.length : Nat) : Int) > 400)) then some (Sum.inr (Sum.inr (([] : List Place), (9, ()))))
      else req (room (ps.length + 1) 88) (some (Sum.inl ((ps ++ [z.1], w64 (i + 1), ()), ())))))
    else some (Sum.inr (Sum.inl ((ps, ()), ()))) := by
  unfold ref3Places_L1
  simp only [agree_self]
  first
  | rfl
  | cases decide (i < ((l.length : Nat) : Int)) with
    | false => rfl
    | true =>
      simp only [cond_true]
      congr 1
      funext m
      congr 1
      funext x
      cases (x != 0) with
      | true => rfl
      | false =>
        simp only [cond_false]
        cases inb (w64 (((ps.length : Nat) : Int) - 1)) ps.length with
        | false => rfl
        | true =>
          simp only [req_true]
          show Option.bind (Option.bind (movesAfter r (getD' ps (w64 (((ps.length : Nat) : Int) - 1)).toNat dP) m) _) _ = _
          cases movesAfter r (getD' ps (w64 (((ps.length : Nat) : Int) - 1)).toNat dP) m <;> rfl
theorem places_iter {r : Rules} (hr : Rng tyRules r) (l : List Mv) (hlen : l.length ≤ 1000000000) : ∀ (k : Nat) (i : Nat) (s : List Place × List Mv), i + k = l.length → OKG r s → iterW (ref3Places_L1 l r) ((s.1, (i : Int), ()), ()) = some (match runG r (l.drop i) s with
      | .inl s' => .inl ((s'.1, ()), ())
      | .inr e => .inr (([] : List Place), (e, ())))
  | 0, i, s, hi, h => by
    have : i = l.length := by omega
    subst this
    refine iterW_inr ?_
    rw [places_L1, nltd, cond_false, List.drop_length]
    rfl
  | k + 1, i, s, hi, h => by
    have hil : i < l.length := by omega
    have hl := h.len
    have hm := h.most
    have hv := h.last
    have h64 := area_len hv
    have hw := w_last (L := s.1) (by omega) (by omega)
    have hL := places_L1 l r s.1 (i : Int)
    rw [ltd l i hil, cond_true, at?_eq l _ (by omega) (by omega), Option.bind_some, res3_spec h.ok hr h.all (by omega) (by omega), Option.bind_some, hw, inbN s.1 _ (by omega), req_true] at hL
    simp only [Int.toNat_natCast] at hL
    have hla : getD' s.1 (s.1.length - 1) dP = lastP s.1 := rfl
    rw [hla, after_spec r _ _ hr (by omega), if_pos (valid_ok h.ok hv), Option.bind_some] at hL
    rw [List.drop_eq_getElem_cons hil]
    unfold runG
    by_cases c1 : gameRes r s.1 = 0
    · rw [bne_f c1, cond_false] at hL
      by_cases c2 : allowedB r (lastP s.1) l[i] = true
      · rw [if_pos c2] at hL
        simp only [bne_self_eq_false, cond_false] at hL
        by_cases c3 : s.2.length = 400
        · have e : stepG r s l[i] = 9 := by unfold stepG; rw [if_pos c1, if_pos c2, if_pos c3]
          rw [decide_eq_true (by omega), cond_true] at hL
          rw [iterW_inr hL, e, if_neg (by decide)]
        · have e : stepG r s l[i] = 0 := by unfold stepG; rw [if_pos c1, if_pos c2, if_neg c3]
          rw [decide_eq_false (by omega), cond_false, room_ok (n := s.1.length + 1) (by omega), req_true, w64_id (by omega) (by omega)] at hL
          rw [iterW_inl hL, if_pos e]
          exact places_iter hr l hlen k (i + 1) (nextG r s l[i]) (by omega) (next_ok h e)
      · have e : stepG r s l[i] = 13 := by unfold stepG; rw [if_pos c1, if_neg c2]
        rw [if_neg c2] at hL
        simp only [bne_t (show ¬ (13 : Int) = 0 by decide), cond_true] at hL
        rw [iterW_inr hL, e, if_neg (by decide)]
    · have e : stepG r s l[i] = 14 := by unfold stepG; rw [if_neg c1]
      rw [bne_t c1, cond_true] at hL
      rw [iterW_inr hL, e, if_neg (by decide)]
theorem places_spec (r : Rules) (l : List Mv) (hr : Rng tyRules r) (hl : l.length ≤ 1000000000) : ref3Places r l = some (placesRes r l) := by
  unfold ref3Places placesRes
  rw [begin_spec r hr, Option.bind_some]
  by_cases c : ruleErr r = 0
  · simp only [if_pos c]
    rw [show ((0 : Int) != 0) = false from rfl, cond_false]
    have hP := places_iter hr l hl l.length 0 ([beginOf r], []) (by omega) (begin_okG c)
    rw [List.drop_zero] at hP
    have hP' : iterW (ref3Places_L1 l r) ((([((beginOf r).1, (((beginOf r).2.1.1, ((beginOf r).2.1.2.1, ())), (beginOf r).2.2))]), (0 : Int), ()), ()) = _ := hP
    rw [hP', Option.bind_some]
    unfold gameOf
    cases runG r l ([beginOf r], []) <;> rfl
  · simp only [if_neg c]
    rw [bne_t c, cond_true]
end Go.Proofs.YtocnfflklfeocaaGreat
namespace Go.Proofs.YtocnfflklfeocaaGreat
open Go.Den
set_option linter.unusedVariables false
set_option linter.unusedSimpArgs false
set_option maxRecDepth 100000

abbrev RTag := ByteArray × ByteArray × Unit
abbrev RNode := Int × Mv × ByteArray × Unit
abbrev Rec := List RTag × ByteArray × List RNode × Int × Unit
abbrev tyTag : Ty := .st .str (.st .str .nil)
abbrev tyMv : Ty := .st (.int .i64) (.st (.int .i64) (.st (.int .i64) .nil))
abbrev tyNode : Ty := .st (.int .i64) (.st tyMv (.st .str .nil))
abbrev tyRec : Ty := .st (.sl tyTag) (.st .str (.st (.sl tyNode) (.st (.int .i64) .nil)))
theorem at_nat {A : Type} (xs : List A) (i : Nat) (h : i < xs.length) : at? xs (i : Int) = some xs[i] := by
  rw [at?_eq xs _ (Int.natCast_nonneg i) (Int.ofNat_lt.2 h)]
  simp only [Int.toNat_natCast]
def badC (w : List UInt8) (c : UInt8) : Bool := (decide (((c.toNat : Nat) : Int) < 32) || decide (((c.toNat : Nat) : Int) > 126)) || w.any (· == c)
def fineT (s w : ByteArray) : Bool := !(s.data.toList.any (badC w.data.toList))
theorem ba_len (s : ByteArray) : s.data.toList.length = s.size := by rw [Array.length_toList]; rfl
theorem strAt_list (s : ByteArray) (i : Nat) (h : i < s.data.toList.length) : strAt s (i : Int) = some s.data.toList[i] := by
  have h' : i < s.size := by rw [← ba_len]; exact h
  have h0 : decide ((0 : Int) ≤ (i : Int)) = true := by simp
  unfold strAt
  rw [h0, cond_true, Int.toNat_natCast, getElem?_pos s i h', ByteArray.getElem_eq_getElem_data, Array.getElem_toList]
theorem bo_get (s : ByteArray) (i : Nat) (h : i < s.data.toList.length) : getD' (bytesOf s) i 0 = ((s.data.toList[i].toNat : Nat) : Int) := by
  unfold getD' bytesOf
  rw [List.getD_eq_getElem?_getD, List.getElem?_map, List.getElem?_eq_getElem h]
  rfl
theorem bo_len (s : ByteArray) : (bytesOf s).length = s.data.toList.length := by unfold bytesOf; rw [List.length_map]
theorem idx_any (c : UInt8) : ∀ l : List UInt8, decide (Go.Lib.indexByte l c ≥ 0) = l.any (· == c)
  | [] => rfl
  | b :: l => by
    have ih := idx_any c l
    have hg := Go.Lib.indexByte_ge l c
    rw [List.any_cons, ← ih, show Go.Lib.indexByte (b :: l) c = if b == c then 0 else if Go.Lib.indexByte l c == -1 then -1 else Go.Lib.indexByte l c + 1 from rfl]
    by_cases h : (b == c) = true
    · rw [if_pos h, h]; rfl
    · rw [if_neg h, Bool.eq_false_iff.2 h, Bool.false_or]
      by_cases h2 : (Go.Lib.indexByte l c == -1) = true
      · have : Go.Lib.indexByte l c = -1 := by simpa using h2
        rw [if_pos h2, this]
      · have : ¬ Go.Lib.indexByte l c = -1 := by simpa using h2
        rw [if_neg h2, Bool.eq_iff_iff]
        simp only [decide_eq_true_eq]
        omega
theorem printable_spec (s w : ByteArray) (hs : s.size ≤ 9223372036854775807) : recordPrintable s w = some (fineT s w) := by
  have hl := ba_len s
  unfold recordPrintable fineT
  have hL := iterW_any s.data.toList (badC w.data.toList) (recordPrintable_L1 s w) (.inr false) (.inl ((), ())) (fun i hi => by
    unfold recordPrintable_L1
    have h3 : (i : Int) < (s.size : Int) := by omega
    have hg : ∀ b (c : UInt8), gopt b 0 (some c) = some (bif b then c else 0) := fun b c => by cases b <;> rfl
    simp only [h3, decide_true, cond_true, strAt_list s i hi, Option.bind_some, hg, w64_id (n := (i : Int) + 1) (by omega) (by omega)]
    generalize s.data.toList[i] = c
    have hx : decide (indexByteS w ((c.toNat : Nat) : Int) ≥ 0) = w.data.toList.any (· == c) := by
      unfold indexByteS
      rw [Int.toNat_natCast, ← idx_any, show (c.toNat).toUInt8 = c from UInt8.ofNat_toNat]
    unfold badC
    cases h1 : decide (((c.toNat : Nat) : Int) < 32)
    · simp only [Bool.not_false, cond_true, Bool.false_or]
      cases h2 : decide (((c.toNat : Nat) : Int) > 126)
      · simp only [Bool.not_false, cond_true, Bool.false_or, hx]
        rfl
      · simp only [Bool.true_or, cond_true]
    · simp only [Bool.true_or, cond_true]) (by
    unfold recordPrintable_L1
    rw [hl]
    simp)
  rw [hL]
  cases s.data.toList.any (badC w.data.toList) <;> rfl
theorem any_cast (w : List UInt8) (c : UInt8) : (w.map fun b => ((b.toNat : Nat) : Int)).any (fun b => ((c.toNat : Nat) : Int) == b) = w.any (· == c) := by
  rw [List.any_map]
  congr 1
  funext b
  show (((c.toNat : Nat) : Int) == ((b.toNat : Nat) : Int)) = (b == c)
  rw [Bool.eq_iff_iff]
  simp only [beq_iff_eq]
  constructor
  · intro h; exact (UInt8.toNat_inj.1 (by omega)).symm
  · intro h; rw [h]
theorem fine_spec (s w : ByteArray) (hs : s.size ≤ 140737488355328) (hw : w.size ≤ 140737488355328) : ref3Fine s w = some (fineT s w) := by
  have hl := ba_len s
  have hl2 := ba_len w
  unfold ref3Fine fineT
  rw [Nat.ble_eq_true_of_le hs, req_true]
  have hL := iterW_any s.data.toList (badC w.data.toList) (ref3Fine_L1 s w) (.inr false) (.inl ((), ())) (fun i hi => by
    unfold ref3Fine_L1
    have h3 : (i : Int) < (((bytesOf s).length : Nat) : Int) := by rw [bo_len]; omega
    have hin : inb (i : Int) (bytesOf s).length = true := inb_iff.2 ⟨by omega, h3⟩
    simp only [h3, decide_true, cond_true, hin, req_true, Nat.ble_eq_true_of_le hw, Int.toNat_natCast, bo_get s i hi]
    have hL2 := iterW_any (bytesOf w) (fun b => getD' (bytesOf s) i 0 == b) (ref3Fine_L2 w s (((i : Int), ()), ())) (.inr (.inr (.inr (.inr false)))) (.inl ((), ())) (fun j hj => by
      unfold ref3Fine_L2
      have h4 : (j : Int) < (((bytesOf w).length : Nat) : Int) := by omega
      have hj2 : inb (j : Int) (bytesOf w).length = true := inb_iff.2 ⟨by omega, h4⟩
      have hjs : j < w.data.toList.length := by rw [← bo_len]; exact hj
      simp only [h4, decide_true, cond_true, hj2, req_true, Int.toNat_natCast, w64_id (n := (j : Int) + 1) (by rw [bo_len] at hj; omega) (by rw [bo_len] at hj; omega)]
      rw [show getD' (bytesOf w) j 0 = (bytesOf w)[j] by simp [getD', hj]]
      rfl) (by unfold ref3Fine_L2; simp)
    rw [bo_get s i hi] at hL2
    rw [hL2, Option.bind_some, w64_id (n := (i : Int) + 1) (by omega) (by omega)]
    generalize s.data.toList[i] = c
    have ha : (bytesOf w).any (fun b => ((c.toNat : Nat) : Int) == b) = w.data.toList.any (· == c) := any_cast _ c
    rw [ha]
    unfold badC
    cases w.data.toList.any (· == c)
    · simp only [cond_false, Sum.elim_inl, Bool.or_false]
      cases (decide (((c.toNat : Nat) : Int) < 32) || decide (((c.toNat : Nat) : Int) > 126)) <;> rfl
    · simp only [cond_true, Sum.elim_inr, Bool.or_true, Option.bind_some]) (by
    unfold ref3Fine_L1
    rw [bo_len]
    simp)
  rw [hL]
  cases s.data.toList.any (badC w.data.toList) <;> rfl
theorem bo_ch (s : ByteArray) (i : Nat) (h : i < s.size) : getD' (bytesOf s) i 0 = ((ch s i : Nat) : Int) := by
  have h' : i < s.data.toList.length := by rw [ba_len]; exact h
  rw [bo_get s i h']
  unfold ch
  rw [getElem?_pos s i h, ByteArray.getElem_eq_getElem_data, Array.getElem_toList]
  rfl
theorem name3_spec (s : ByteArray) (hs : s.size ≤ 9223372036854775807) : ref3Name s = some (nameOk s) := by
  unfold ref3Name
  by_cases h0 : s.size = 0 ∨ 8 < s.size
  · have e : ((s.toList == (ByteArray.mk #[]).toList) || (decide (((s.size : Nat) : Int) > 8))) = true := by
      rw [empty_iff]
      simp only [Bool.or_eq_true, decide_eq_true_eq]
      omega
    have hn : nameOk s = false := by
      unfold nameOk
      rw [show decide (1 ≤ s.size ∧ s.size ≤ 8) = false by simp only [decide_eq_false_iff_not]; omega, Bool.and_false]
    rw [e, hn]
    rfl
  · have e : ((s.toList == (ByteArray.mk #[]).toList) || (decide (((s.size : Nat) : Int) > 8))) = false := by
      rw [empty_iff]
      simp only [Bool.or_eq_false_iff, decide_eq_false_iff_not]
      omega
    obtain ⟨c, hc1, hc2⟩ := strAt_eq s 0 (by omega)
    have hc1 : strAt s 0 = some c := hc1
    have hg : ∀ b (c : UInt8), gopt b 0 (some c) = some (bif b then c else 0) := fun b c => by cases b <;> rfl
    rw [e, hc1]
    simp only [hg, Bool.not_false, cond_true, Option.bind_some, Bool.false_or, hc2]
    have hd : decide (1 ≤ s.size ∧ s.size ≤ 8) = true := by simp only [decide_eq_true_eq]; omega
    by_cases h1 : 65 ≤ ch s 0 ∧ ch s 0 ≤ 90
    · have e1 : decide (((ch s 0 : Nat) : Int) < 65) = false := by simp only [decide_eq_false_iff_not]; omega
      have e2 : decide (((ch s 0 : Nat) : Int) > 90) = false := by simp only [decide_eq_false_iff_not]; omega
      simp only [e1, Bool.not_false, cond_true, hc2, e2, Bool.or_self, cond_false]
      rw [Nat.ble_eq_true_of_le (show s.size ≤ 140737488355328 by omega), req_true]
      have hL := iterW_any (List.range s.size) (nameBad s) (ref3Name_L1 s) (.inr false) (.inl ((), ())) (fun i hi => by
        have hi' : i < s.size := by simpa using hi
        unfold ref3Name_L1
        have h3 : (i : Int) < (((bytesOf s).length : Nat) : Int) := by rw [bo_len, ba_len]; omega
        have hin : inb (i : Int) (bytesOf s).length = true := inb_iff.2 ⟨by omega, h3⟩
        simp only [h3, decide_true, cond_true, hin, req_true, Int.toNat_natCast, bo_ch s i hi', List.getElem_range, w64_id (n := (i : Int) + 1) (by omega) (by omega)]
        have hb : ((decide (((ch s i : Nat) : Int) < 65) || decide (((ch s i : Nat) : Int) > 90)) && (decide (((ch s i : Nat) : Int) < 48) || decide (((ch s i : Nat) : Int) > 57))) = nameBad s i := by
          unfold nameBad
          rw [Bool.eq_iff_iff]
          simp only [Bool.and_eq_true, Bool.or_eq_true, decide_eq_true_eq, Bool.not_eq_true', Bool.or_eq_false_iff, decide_eq_false_iff_not]
          by_cases hz : i = 0
          · subst hz; omega
          · omega
        rw [hb]
        rfl) (by
        unfold ref3Name_L1
        rw [bo_len, ba_len, List.length_range]
        simp)
      rw [hL]
      unfold nameOk
      rw [hd, Bool.and_true]
      cases (List.range s.size).any (nameBad s) <;> rfl
    · have hn : nameOk s = false := by
        unfold nameOk
        have : (List.range s.size).any (nameBad s) = true := by
          rw [List.any_eq_true]
          refine ⟨0, List.mem_range.2 (by omega), ?_⟩
          unfold nameBad
          simp only [Bool.not_eq_true', Bool.or_eq_false_iff, decide_eq_false_iff_not]
          omega
        rw [this]; rfl
      rw [hn]
      cases e1 : decide (((ch s 0 : Nat) : Int) < 65)
      · simp only [decide_eq_false_iff_not] at e1
        simp only [Bool.not_false, cond_true, hc2, show decide (((ch s 0 : Nat) : Int) > 90) = true by simp only [decide_eq_true_eq]; omega, Bool.or_true]
      · simp only [Bool.true_or, cond_true]
/-! tags, comments -/
def cErr (s : ByteArray) : Int := if 60 < s.size then 2 else if fineT s (ByteArray.mk #[123, 125]) = false then 3 else 0
theorem comment_spec (s : ByteArray) (hs : s.size ≤ 9223372036854775807) : recordComment s = some (cErr s) := by
  unfold recordComment cErr
  by_cases h : 60 < s.size
  · rw [if_pos h, show decide (((s.size : Nat) : Int) > 60) = true by simp only [decide_eq_true_eq]; omega]; rfl
  · rw [if_neg h, show decide (((s.size : Nat) : Int) > 60) = false by simp only [decide_eq_false_iff_not]; omega, cond_false, printable_spec _ _ (by omega), Option.bind_some]
    cases fineT s (ByteArray.mk #[123, 125]) <;> rfl
def tErrD (pre : List RTag) (d : RTag) : Int := if nameOk d.1 = false then 6 else if 40 < d.2.1.size then 2 else if fineT d.2.1 (ByteArray.mk #[34]) = false then 3 else if pre.any (fun u => u.1.toList == d.1.toList) = true then 7 else 0
def tErr (ts : List RTag) (i : Nat) : Int := match ts[i]? with
  | none => 0
  | some d => tErrD (ts.take i) d
theorem tErr_at (ts : List RTag) (i : Nat) (h : i < ts.length) : tErr ts i = tErrD (ts.take i) ts[i] := by
  unfold tErr
  rw [List.getElem?_eq_getElem h]
theorem tags_spec (x : Rec) (hx : Rng tyRec x) : recordTags x = some (firstNZ (tErr x.1) x.1.length) := by
  have hn : x.1.length ≤ 9223372036854775807 := hx.1.1
  unfold recordTags
  have := loopNZ x.1.length (recordTags_L1 x) (tErr x.1) ((), ()) (some 0) (fun i hi => by
    have hd1 : (x.1[i]).1.size ≤ 9223372036854775807 := (hx.1.2 _ (List.getElem_mem hi)).1
    have hd2 : (x.1[i]).2.1.size ≤ 9223372036854775807 := (hx.1.2 _ (List.getElem_mem hi)).2.1
    rw [tErr_at _ _ hi]
    unfold recordTags_L1
    simp only [show decide ((i : Int) < ((x.1.length : Nat) : Int)) = true by simp; omega, cond_true]
    rw [at_nat _ _ hi, Option.bind_some]
    generalize x.1[i] = d at hd1 hd2
    unfold tErrD
    rw [name_spec _ (by omega), Option.bind_some]
    cases nameOk d.1
    · rfl
    · simp only [Bool.not_true, cond_false, if_neg (show ¬ (true = false) by decide)]
      by_cases h1 : 40 < d.2.1.size
      · rw [if_pos h1, show decide (((d.2.1.size : Nat) : Int) > 40) = true by simp only [decide_eq_true_eq]; omega]; rfl
      · rw [if_neg h1, show decide (((d.2.1.size : Nat) : Int) > 40) = false by simp only [decide_eq_false_iff_not]; omega, cond_false, printable_spec _ _ (by omega), Option.bind_some]
        cases fineT d.2.1 (ByteArray.mk #[34])
        · rfl
        · simp only [Bool.not_true, cond_false, if_neg (show ¬ (true = false) by decide)]
          rw [show boundsI 0 (i : Int) x.1.length = true by simp only [boundsI, Bool.and_eq_true, decide_eq_true_eq]; omega, req_true]
          have hl : (x.1.take i).length = i := by rw [List.length_take]; omega
          have hL := iterW_any (x.1.take i) (fun u => u.1.toList == d.1.toList) (recordTags_L2 x (((i : Int), ()), ()) d) (.inr (.inr (.inr 7))) (.inl ((), ())) (fun j hj => by
            have hj' : j < i := by rw [List.length_take] at hj; omega
            unfold recordTags_L2
            simp only [Int.toNat_natCast, List.drop_zero, hl]
            simp only [show decide ((j : Int) < ((i : Nat) : Int)) = true by simp; omega, cond_true]
            rw [at_nat _ _ hj, Option.bind_some]
            simp only [Int.toNat_natCast, show decide ((j : Int) ≥ 0) = true by simp, cond_true, w64_id (n := (j : Int) + 1) (by omega) (by omega)]
            rfl) (by
            unfold recordTags_L2
            simp only [Int.toNat_natCast, List.drop_zero, hl]
            simp)
          rw [hL, Option.bind_some, w64_id (n := (i : Int) + 1) (by omega) (by omega)]
          cases (x.1.take i).any (fun u => u.1.toList == d.1.toList) <;> rfl) (by
    unfold recordTags_L1
    simp)
  rw [this]
  split
  · rename_i h; rw [h]
  · rfl
theorem refTags_spec (x : Rec) (hx : Rng tyRec x) (z : Option Int) : Option.bind (iterW (ref3RecordFault_L1 x) ((0, ()), ())) (Sum.elim (fun _ => z) some) = if firstNZ (tErr x.1) x.1.length = 0 then z else some (firstNZ (tErr x.1) x.1.length) := by
  have hn : x.1.length ≤ 9223372036854775807 := hx.1.1
  refine loopNZ x.1.length (ref3RecordFault_L1 x) (tErr x.1) ((), ()) z (fun i hi => ?_) (by unfold ref3RecordFault_L1; simp)
  have hd1 : (x.1[i]).1.size ≤ 9223372036854775807 := (hx.1.2 _ (List.getElem_mem hi)).1
  have hd2 : (x.1[i]).2.1.size ≤ 9223372036854775807 := (hx.1.2 _ (List.getElem_mem hi)).2.1
  rw [tErr_at _ _ hi]
  unfold ref3RecordFault_L1
  simp only [show decide ((i : Int) < ((x.1.length : Nat) : Int)) = true by simp; omega, cond_true]
  rw [at_nat _ _ hi, Option.bind_some]
  generalize x.1[i] = d at hd1 hd2
  unfold tErrD
  rw [name3_spec _ (by omega), Option.bind_some]
  cases nameOk d.1
  · rfl
  · simp only [Bool.not_true, cond_false, if_neg (show ¬ (true = false) by decide)]
    by_cases h1 : 40 < d.2.1.size
    · rw [if_pos h1, show decide (((d.2.1.size : Nat) : Int) > 40) = true by simp only [decide_eq_true_eq]; omega]; rfl
    · rw [if_neg h1, show decide (((d.2.1.size : Nat) : Int) > 40) = false by simp only [decide_eq_false_iff_not]; omega, cond_false, fine_spec _ _ (by omega) (by decide), Option.bind_some]
      cases fineT d.2.1 (ByteArray.mk #[34])
      · rfl
      · simp only [Bool.not_true, cond_false, if_neg (show ¬ (true = false) by decide)]
        have hL := iterW_any (x.1.take i) (fun u => u.1.toList == d.1.toList) (ref3RecordFault_L2 (((i : Int), ()), ()) x d) (.inr (.inr (.inr (.inr 7)))) (.inl ((), ())) (fun j hj => by
          have hj' : j < i := by rw [List.length_take] at hj; omega
          unfold ref3RecordFault_L2
          simp only [show decide ((j : Int) < (i : Int)) = true by simp; omega, cond_true]
          rw [at_nat _ _ (show j < x.1.length by omega), Option.bind_some]
          simp only [Int.toNat_natCast, w64_id (n := (j : Int) + 1) (by omega) (by omega), List.getElem_take]
          rfl) (by
          unfold ref3RecordFault_L2
          simp only [List.length_take, Nat.min_eq_left (Nat.le_of_lt hi)]
          simp)
        rw [hL, Option.bind_some, w64_id (n := (i : Int) + 1) (by omega) (by omega)]
        cases (x.1.take i).any (fun u => u.1.toList == d.1.toList) <;> rfl
end Go.Proofs.YtocnfflklfeocaaGreat
namespace Go.Proofs.YtocnfflklfeocaaGreat
open Go.Den
set_option linter.unusedVariables false
set_option maxRecDepth 100000
theorem ref3Way_Mono : Mono ref3Way_G := by
  intro self self' hself x
  unfold ref3Way_G ref3Way_F
  repeat (first | exact Le.refl _ | assumption | apply hself | apply Le.cond | apply Le.req | apply Le.gopt | apply Le.map | apply Le.agreeW | refine Le.iterW (fun _ => ?_) _ | refine Le.bind ?_ (Le.elim (fun _ => ?_) (fun _ => ?_)) | refine Le.bind ?_ (fun _ => ?_))
end Go.Proofs.YtocnfflklfeocaaGreat
namespace Go.Proofs.YtocnfflklfeocaaGreat
open Go.Den
set_option linter.unusedVariables false
set_option linter.unusedSimpArgs false
set_option maxRecDepth 100000

def rpar (ns : List RNode) (i : Nat) : Int := ((ns[i]?).map (·.1)).getD (-1)
def rmv (ns : List RNode) (i : Nat) : Mv := ((ns[i]?).map (·.2.1)).getD (0, (0, (0, ())))
def chainN (ns : List RNode) : Nat → Int → List Nat
  | 0, _ => []
  | f + 1, n => if n < 0 then [] else n.toNat :: chainN ns f (rpar ns n.toNat)
/-- the parents of the first k nodes lie ahead of them -/
def Down (ns : List RNode) (k : Nat) : Prop := ∀ i, i < k → rpar ns i < (i : Int)
theorem Down.mono {ns : List RNode} {k j : Nat} (h : Down ns k) (hj : j ≤ k) : Down ns j := fun i hi => h i (by omega)
theorem chain_fuel {ns : List RNode} : ∀ (f g : Nat) (n : Int), Down ns (n + 1).toNat → n < (f : Int) → n < (g : Int) → chainN ns f n = chainN ns g n
  | 0, 0, n, _, _, _ => rfl
  | 0, g + 1, n, _, h, _ => by
    show [] = if n < 0 then [] else _
    rw [if_pos (by omega)]
  | f + 1, 0, n, _, _, h => by
    show (if n < 0 then [] else _) = []
    rw [if_pos (by omega)]
  | f + 1, g + 1, n, hd, h1, h2 => by
    show (if n < 0 then [] else _) = if n < 0 then [] else _
    by_cases h : n < 0
    · rw [if_pos h, if_pos h]
    · rw [if_neg h, if_neg h]
      have := hd n.toNat (by omega)
      rw [chain_fuel f g (rpar ns n.toNat) (hd.mono (by omega)) (by omega) (by omega)]
/-- the numbers of the nodes on the way up -/
def wayN (ns : List RNode) (n : Int) : List Nat := chainN ns (n + 1).toNat n
theorem wayN_neg (ns : List RNode) {n : Int} (h : n < 0) : wayN ns n = [] := by
  unfold wayN
  rw [show (n + 1).toNat = 0 by omega]
  rfl
theorem wayN_pos {ns : List RNode} {n : Int} (h : 0 ≤ n) (hd : Down ns (n + 1).toNat) : wayN ns n = n.toNat :: wayN ns (rpar ns n.toNat) := by
  have hp := hd n.toNat (by omega)
  unfold wayN
  rw [show (n + 1).toNat = n.toNat + 1 by omega]
  show (if n < 0 then [] else n.toNat :: chainN ns n.toNat (rpar ns n.toNat)) = _
  rw [if_neg (by omega), chain_fuel n.toNat (rpar ns n.toNat + 1).toNat (rpar ns n.toNat) (hd.mono (by omega)) (by omega) (by omega)]
def wayM (ns : List RNode) (n : Int) : List Mv := ((wayN ns n).map (rmv ns)).reverse
/-- what is on a way is at most its end -/
theorem wayN_le {ns : List RNode} : ∀ (k : Nat) (n : Int), (n + 1).toNat ≤ k → Down ns (n + 1).toNat → ∀ j ∈ wayN ns n, (j : Int) ≤ n
  | 0, n, hk, _, j, hj => by rw [wayN_neg ns (by omega)] at hj; cases hj
  | k + 1, n, hk, hd, j, hj => by
    by_cases h : n < 0
    · rw [wayN_neg ns h] at hj; cases hj
    · have hp := hd n.toNat (by omega)
      rw [wayN_pos (by omega) hd] at hj
      rcases List.mem_cons.1 hj with rfl | hj
      · omega
      · have := wayN_le k (rpar ns n.toNat) (by omega) (hd.mono (by omega)) j hj
        omega
theorem wayN_len {ns : List RNode} : ∀ (k : Nat) (n : Int), (n + 1).toNat ≤ k → Down ns (n + 1).toNat → (wayN ns n).length ≤ k
  | 0, n, hk, _ => by rw [wayN_neg ns (by omega)]; exact Nat.le_refl _
  | k + 1, n, hk, hd => by
    by_cases h : n < 0
    · rw [wayN_neg ns h]; exact Nat.zero_le _
    · have hp := hd n.toNat (by omega)
      rw [wayN_pos (by omega) hd, List.length_cons]
      have := wayN_len k (rpar ns n.toNat) (by omega) (hd.mono (by omega))
      omega
theorem at_node {ns : List RNode} {n : Int} (h0 : 0 ≤ n) (h1 : n < ((ns.length : Nat) : Int)) : ∃ d, at? ns n = some d ∧ d.1 = rpar ns n.toNat ∧ d.2.1 = rmv ns n.toNat := by
  have hl : n.toNat < ns.length := by omega
  refine ⟨ns[n.toNat], at?_eq _ _ h0 h1, ?_, ?_⟩
  · unfold rpar; rw [List.getElem?_eq_getElem hl]; rfl
  · unfold rmv; rw [List.getElem?_eq_getElem hl]; rfl
/-! record.Way -/
theorem way_L1 (x : Rec) (hn : x.2.2.1.length ≤ 1000) : ∀ s : ((List Mv × Int × Unit) × Unit), (s.1.2.1 < ((x.2.2.1.length : Nat) : Int) ∧ Down x.2.2.1 (s.1.2.1 + 1).toNat ∧ s.1.1.length + (s.1.2.1 + 1).toNat ≤ 2000) →
    iterW (recordWay_L1 x) s = some ((s.1.1 ++ (wayN x.2.2.1 s.1.2.1).map (rmv x.2.2.1), ()), ()) := by
  refine iterW_fun _ (fun s : ((List Mv × Int × Unit) × Unit) => (s.1.2.1 + 1).toNat) (fun s => ((s.1.1 ++ (wayN x.2.2.1 s.1.2.1).map (rmv x.2.2.1), ()), ())) ?_
  rintro ⟨⟨acc, n, ⟨⟩⟩, ⟨⟩⟩ ⟨h1, hd, hl⟩
  simp only at h1 hd hl ⊢
  by_cases h : n < 0
  · refine .inr ?_
    unfold recordWay_L1
    simp only [show decide (n ≥ 0) = false by simp; omega, cond_false, wayN_neg _ h, List.map_nil, List.append_nil]
  · refine .inl ?_
    have hp := hd n.toNat (by omega)
    obtain ⟨d, e1, e2, e3⟩ := at_node (ns := x.2.2.1) (n := n) (by omega) h1
    refine ⟨((acc ++ [rmv x.2.2.1 n.toNat], rpar x.2.2.1 n.toNat, ()), ()), ?_, ⟨by simp only; omega, hd.mono (by simp only; omega), by simp only [List.length_append, List.length_cons, List.length_nil]; omega⟩, by simp only; omega, ?_⟩
    · unfold recordWay_L1
      simp only [show decide (n ≥ 0) = true by simp; omega, cond_true]
      rw [e1]
      simp only [Option.bind_some]
      rw [room_ok (by simp only [List.length_cons, List.length_nil]; omega), req_true, e2, e3]
    · simp only
      rw [wayN_pos (by omega) hd, List.map_cons, List.append_assoc]
      rfl
def revK (xs : List Mv) (k : Nat) : List Mv := (List.range xs.length).map fun t => if t < k ∨ xs.length - k ≤ t then xs.getD (xs.length - 1 - t) (0, (0, (0, ()))) else xs.getD t (0, (0, (0, ())))
theorem revK_len (xs : List Mv) (k : Nat) : (revK xs k).length = xs.length := by simp [revK]
theorem revK_get (xs : List Mv) (k t : Nat) (h : t < xs.length) : getD' (revK xs k) t (0, (0, (0, ()))) = if t < k ∨ xs.length - k ≤ t then xs.getD (xs.length - 1 - t) (0, (0, (0, ()))) else xs.getD t (0, (0, (0, ()))) := by
  unfold getD' revK
  rw [List.getD_eq_getElem?_getD, List.getElem?_map, List.getElem?_range h]
  rfl
theorem revK_step (xs : List Mv) (k : Nat) (h : k + 1 < xs.length - k) : ((revK xs k).set k (getD' (revK xs k) (xs.length - 1 - k) (0, (0, (0, ()))))).set (xs.length - 1 - k) (getD' (revK xs k) k (0, (0, (0, ())))) = revK xs (k + 1) := by
  rw [revK_get xs k k (by omega), revK_get xs k (xs.length - 1 - k) (by omega), if_neg (by omega), if_neg (by omega)]
  apply List.ext_getElem
  · simp [revK_len]
  · intro t h1 h2
    have ht : t < xs.length := by rw [revK_len] at h2; exact h2
    have e : ∀ j, (revK xs j)[t]? = some (if t < j ∨ xs.length - j ≤ t then xs.getD (xs.length - 1 - t) (0, (0, (0, ()))) else xs.getD t (0, (0, (0, ())))) := fun j => by
      unfold revK
      rw [List.getElem?_map, List.getElem?_range ht]
      rfl
    have e1 : (revK xs (k + 1))[t] = if t < k + 1 ∨ xs.length - (k + 1) ≤ t then xs.getD (xs.length - 1 - t) (0, (0, (0, ()))) else xs.getD t (0, (0, (0, ()))) := by
      have := e (k + 1)
      rw [List.getElem?_eq_getElem h2] at this
      exact Option.some.inj this
    have hk : t < (revK xs k).length := by rw [revK_len]; exact ht
    have e2 : (revK xs k)[t] = if t < k ∨ xs.length - k ≤ t then xs.getD (xs.length - 1 - t) (0, (0, (0, ()))) else xs.getD t (0, (0, (0, ()))) := by
      have := e k
      rw [List.getElem?_eq_getElem hk] at this
      exact Option.some.inj this
    rw [e1, List.getElem_set, List.getElem_set, e2]
    by_cases c1 : xs.length - 1 - k = t
    · rw [if_pos c1, if_pos (by omega), show xs.length - 1 - t = k by omega]
    · rw [if_neg c1]
      by_cases c2 : k = t
      · rw [if_pos c2, if_pos (by omega), c2]
      · rw [if_neg c2]
        by_cases c3 : t < k ∨ xs.length - k ≤ t
        · rw [if_pos c3, if_pos (by omega)]
        · rw [if_neg c3, if_neg (by omega)]
theorem revK_zero (xs : List Mv) : revK xs 0 = xs := by
  apply List.ext_getElem
  · exact revK_len xs 0
  · intro t h1 h2
    have e : (revK xs 0)[t]? = some (xs.getD t (0, (0, (0, ())))) := by
      unfold revK
      rw [List.getElem?_map, List.getElem?_range h2]
      show some (if t < 0 ∨ xs.length - 0 ≤ t then _ else _) = _
      rw [if_neg (by omega)]
    rw [List.getElem?_eq_getElem h1] at e
    rw [Option.some.inj e]
    simp [List.getD_eq_getElem?_getD, h2]
theorem revK_all (xs : List Mv) (k : Nat) (h : xs.length ≤ 2 * k + 1) (hk : 2 * k ≤ xs.length) : revK xs k = xs.reverse := by
  apply List.ext_getElem
  · rw [revK_len, List.length_reverse]
  · intro t h1 h2
    have ht : t < xs.length := by rw [revK_len] at h1; exact h1
    have e : (revK xs k)[t]? = some (if t < k ∨ xs.length - k ≤ t then xs.getD (xs.length - 1 - t) (0, (0, (0, ()))) else xs.getD t (0, (0, (0, ())))) := by
      unfold revK
      rw [List.getElem?_map, List.getElem?_range ht]
      rfl
    rw [List.getElem?_eq_getElem h1] at e
    rw [Option.some.inj e, List.getElem_reverse]
    by_cases c : t < k ∨ xs.length - k ≤ t
    · rw [if_pos c]
      simp [List.getD_eq_getElem?_getD, show xs.length - 1 - t < xs.length by omega]
    · rw [if_neg c]
      have : t = xs.length - 1 - t := by omega
      simp only [← this]
      simp [List.getD_eq_getElem?_getD, ht]
theorem way_L2 (xs : List Mv) (hx : xs.length ≤ 1000000) : iterW recordWay_L2 ((0, (w64 (((xs.length : Nat) : Int) - 1)), ()), (xs, ())) = some ((), (xs.reverse, ())) := by
  have := iterW_states (f := recordWay_L2) (xs.length / 2) (fun k => (((k : Int), ((xs.length : Nat) : Int) - 1 - (k : Int), ()), (revK xs k, ()))) ((), (xs.reverse, ())) (fun k hk => by
    unfold recordWay_L2
    have e1 : (((xs.length : Nat) : Int) - 1 - (k : Int)).toNat = xs.length - 1 - k := by omega
    simp only [show decide ((k : Int) < ((xs.length : Nat) : Int) - 1 - (k : Int)) = true by simp; omega, cond_true]
    rw [show inb (((xs.length : Nat) : Int) - 1 - (k : Int)) (revK xs k).length = true from inb_iff.2 (by rw [revK_len]; omega), show inb (k : Int) (revK xs k).length = true from inb_iff.2 (by rw [revK_len]; omega)]
    simp only [req_true, Int.toNat_natCast, e1]
    rw [show ∀ y, inb (((xs.length : Nat) : Int) - 1 - (k : Int)) ((revK xs k).set k y).length = true from fun y => inb_iff.2 (by rw [List.length_set, revK_len]; omega), req_true, revK_step xs k (by omega), w64_id (by omega) (by omega), w64_id (by omega) (by omega), show ((k + 1 : Nat) : Int) = (k : Int) + 1 by omega, show ((xs.length : Nat) : Int) - 1 - ((k : Int) + 1) = ((xs.length : Nat) : Int) - 1 - (k : Int) - 1 by omega]) (by
    unfold recordWay_L2
    simp only [show decide (((xs.length / 2 : Nat) : Int) < ((xs.length : Nat) : Int) - 1 - ((xs.length / 2 : Nat) : Int)) = false by simp only [decide_eq_false_iff_not]; omega, cond_false]
    rw [revK_all xs _ (by omega) (by omega)])
  simp only [Int.natCast_zero, Int.sub_zero, revK_zero] at this
  rw [w64_id (by omega) (by omega)]
  exact this
theorem way_rec (x : Rec) (hn : x.2.2.1.length ≤ 1000) {n : Int} (h0 : -1 ≤ n) (h1 : n < ((x.2.2.1.length : Nat) : Int)) (hd : Down x.2.2.1 (n + 1).toNat) : recordWay x n = some (wayM x.2.2.1 n) := by
  unfold recordWay
  have e := way_L1 x hn (([], n, ()), ()) ⟨h1, hd, by simp only [List.length_nil]; omega⟩
  simp only [List.nil_append] at e
  have hl := wayN_len _ n (Nat.le_refl _) hd
  rw [e, Option.bind_some]
  simp only
  rw [way_L2 _ (by rw [List.length_map]; omega), Option.bind_some]
  rfl
/-! the reference's ways -/
theorem ref3Way_spec (ns : List RNode) (hn : ns.length ≤ 1000) : ∀ x : List RNode × Int × Unit, (x.1 = ns ∧ -1 ≤ x.2.1 ∧ x.2.1 < ((ns.length : Nat) : Int) ∧ Down ns (x.2.1 + 1).toNat ∧ ∀ i, i < (x.2.1 + 1).toNat → -1 ≤ rpar ns i) → fixW ref3Way_G x = some (wayM ns x.2.1, (true, ())) := by
  refine fixW_ind ref3Way_Mono _ (fun x => (x.2.1 + 1).toNat) (fun x => (wayM ns x.2.1, (true, ()))) ?_
  rintro φ ⟨l, n, ⟨⟩⟩ ⟨rfl, h0, h1, hd, hm⟩ hφ
  simp only at h0 h1 hd hm hφ ⊢
  have hn : l.length ≤ 1000 := hn
  unfold ref3Way_G ref3Way_F
  simp only
  by_cases h : n = -1
  · subst h
    simp only [beq_self_eq_true, cond_true]
    rw [show wayM l (-1) = [] by unfold wayM; rw [wayN_neg l (by omega)]; rfl]
  · obtain ⟨d, e1, e2, e3⟩ := at_node (ns := l) (n := n) (by omega) h1
    have hp := hd n.toNat (by omega)
    have hp2 := hm n.toNat (by omega)
    rw [beq_f h, cond_false, show (decide (n < 0) || decide (n ≥ ((l.length : Nat) : Int))) = false by simp only [Bool.or_eq_false_iff, decide_eq_false_iff_not]; omega]
    have hgat : ∀ z, gat true z l n = some d := fun z => by show at? l n = _; exact e1
    simp only [Bool.not_false, hgat, Option.bind_some, Bool.false_or, e2, show decide (rpar l n.toNat ≥ n) = false by simp only [decide_eq_false_iff_not]; omega, cond_false]
    rw [e1]
    simp only [Option.bind_some, e2]
    rw [hφ (l, rpar l n.toNat, ()) ⟨rfl, hp2, by simp only; omega, hd.mono (by simp only; omega), fun i hi => hm i (by simp only at hi; omega)⟩ (by simp only; omega), Option.bind_some]
    have hl := wayN_len _ (rpar l n.toNat) (Nat.le_refl _) (hd.mono (by omega))
    rw [room_ok (by unfold wayM; simp only [List.length_reverse, List.length_map, List.length_cons, List.length_nil]; omega), req_true, e3]
    have : wayM l n = wayM l (rpar l n.toNat) ++ [rmv l n.toNat] := by
      unfold wayM
      rw [wayN_pos (by omega) hd, List.map_cons, List.reverse_cons]
    rw [this]
theorem way3 (ns : List RNode) (hn : ns.length ≤ 1000) {n : Int} (h0 : -1 ≤ n) (h1 : n < ((ns.length : Nat) : Int)) (hd : Down ns (n + 1).toNat) (hm : ∀ i, i < (n + 1).toNat → -1 ≤ rpar ns i) : ref3Way ns n = some (wayM ns n, (true, ())) :=
  ref3Way_spec ns hn (ns, n, ()) ⟨rfl, h0, h1, hd, hm⟩
/-! on a way -/
theorem on_L1 (a : Int) (x : Rec) : ∀ s : ((Int × Unit) × Unit), (s.1.1 < ((x.2.2.1.length : Nat) : Int) ∧ Down x.2.2.1 (s.1.1 + 1).toNat) →
    iterW (recordOn_L1 a x) s = some (if 0 ≤ a ∧ a.toNat ∈ wayN x.2.2.1 s.1.1 then .inr true else .inl ((), ())) := by
  refine iterW_fun _ (fun s : ((Int × Unit) × Unit) => (s.1.1 + 1).toNat) (fun s => if 0 ≤ a ∧ a.toNat ∈ wayN x.2.2.1 s.1.1 then (Sum.inr true : (Unit × Unit) ⊕ Bool) else Sum.inl ((), ())) ?_
  rintro ⟨⟨n, ⟨⟩⟩, ⟨⟩⟩ ⟨h1, hd⟩
  simp only at h1 hd ⊢
  by_cases h : n < 0
  · refine .inr ?_
    unfold recordOn_L1
    simp only [show decide (n ≥ 0) = false by simp; omega, cond_false, wayN_neg _ h]
    rw [if_neg (by simp)]
  · have hp := hd n.toNat (by omega)
    have hw := wayN_pos (ns := x.2.2.1) (by omega) hd
    by_cases ha : n = a
    · refine .inr ?_
      subst ha
      unfold recordOn_L1
      simp only [show decide (n ≥ 0) = true by simp; omega, cond_true, beq_self_eq_true]
      rw [if_pos ⟨by omega, by rw [hw]; exact List.mem_cons_self⟩]
    · refine .inl ⟨((rpar x.2.2.1 n.toNat, ()), ()), ?_, ⟨by simp only; omega, hd.mono (by simp only; omega)⟩, by simp only; omega, ?_⟩
      · obtain ⟨d, e1, e2, e3⟩ := at_node (ns := x.2.2.1) (n := n) (by omega) h1
        unfold recordOn_L1
        simp only [show decide (n ≥ 0) = true by simp; omega, cond_true, beq_f ha, cond_false]
        rw [e1, Option.bind_some, e2]
      · simp only
        rw [hw]
        have : (0 ≤ a ∧ a.toNat ∈ n.toNat :: wayN x.2.2.1 (rpar x.2.2.1 n.toNat)) ↔ (0 ≤ a ∧ a.toNat ∈ wayN x.2.2.1 (rpar x.2.2.1 n.toNat)) := by
          rw [List.mem_cons]
          constructor
          · rintro ⟨q1, q2 | q2⟩
            · omega
            · exact ⟨q1, q2⟩
          · rintro ⟨q1, q2⟩; exact ⟨q1, .inr q2⟩
        simp only [this]
theorem on_spec (x : Rec) (a : Int) {n : Int} (h1 : n < ((x.2.2.1.length : Nat) : Int)) (hd : Down x.2.2.1 (n + 1).toNat) : recordOn x a n = some (decide (0 ≤ a ∧ a.toNat ∈ wayN x.2.2.1 n) || (a == -1)) := by
  unfold recordOn
  rw [on_L1 a x ((n, ()), ()) ⟨h1, hd⟩, Option.bind_some]
  by_cases h : 0 ≤ a ∧ a.toNat ∈ wayN x.2.2.1 n
  · simp only [if_pos h, decide_eq_true h, Bool.true_or]; rfl
  · simp only [if_neg h, decide_eq_false h, Bool.false_or]; rfl
theorem above_L1 (a : Int) (ha : 0 ≤ a) (ns : List RNode) : ∀ s : ((Int × Unit) × Unit), (s.1.1 < ((ns.length : Nat) : Int) ∧ Down ns (s.1.1 + 1).toNat) →
    ∃ r, iterW (ref3Above_L1 a ns) s = some r ∧ (r.1.1 == a) = decide (a.toNat ∈ wayN ns s.1.1) := by
  have key : ∀ k (n : Int), (n + 1).toNat ≤ k → n < ((ns.length : Nat) : Int) → Down ns (n + 1).toNat → ∃ r, iterW (ref3Above_L1 a ns) ((n, ()), ()) = some r ∧ (r.1.1 == a) = decide (a.toNat ∈ wayN ns n) := by
    intro k
    induction k with
    | zero =>
      intro n hk h1 hd
      refine ⟨((n, ()), ()), iterW_inr ?_, ?_⟩
      · unfold ref3Above_L1
        simp only [show (decide (n > a) && decide (n ≥ 0)) = false by simp; omega, cond_false]
      · simp only [wayN_neg ns (show n < 0 by omega)]
        rw [beq_f (by omega)]
        simp
    | succ k ih =>
      intro n hk h1 hd
      by_cases h : n > a
      · have hp := hd n.toNat (by omega)
        obtain ⟨d, e1, e2, e3⟩ := at_node (ns := ns) (n := n) (by omega) h1
        obtain ⟨r, q1, q2⟩ := ih (rpar ns n.toNat) (by omega) (by omega) (hd.mono (by omega))
        refine ⟨r, ?_, ?_⟩
        · rw [iterW_inl (y := ((rpar ns n.toNat, ()), ()))]
          · exact q1
          · unfold ref3Above_L1
            simp only [show (decide (n > a) && decide (n ≥ 0)) = true by simp; omega, cond_true]
            rw [e1, Option.bind_some, e2]
        · rw [q2, wayN_pos (by omega) hd]
          congr 1
          rw [List.mem_cons, eq_iff_iff]
          constructor
          · exact .inr
          · rintro (q | q)
            · omega
            · exact q
      · refine ⟨((n, ()), ()), iterW_inr ?_, ?_⟩
        · unfold ref3Above_L1
          simp only [show (decide (n > a) && decide (n ≥ 0)) = false by simp; omega, cond_false]
        · simp only
          by_cases e : n = a
          · subst e
            rw [beq_self_eq_true, wayN_pos ha hd]
            simp
          · rw [beq_f e]
            have : ¬ a.toNat ∈ wayN ns n := fun hm => by
              have := wayN_le _ n (Nat.le_refl _) hd _ hm
              omega
            simp [this]
  rintro ⟨⟨n, ⟨⟩⟩, ⟨⟩⟩ ⟨h1, hd⟩
  exact key _ n (Nat.le_refl _) h1 hd
theorem above_spec (ns : List RNode) {a n : Int} (ha : 0 ≤ a) (h1 : n < ((ns.length : Nat) : Int)) (hd : Down ns (n + 1).toNat) : ref3Above ns a n = some (decide (a.toNat ∈ wayN ns n)) := by
  obtain ⟨r, q1, q2⟩ := above_L1 a ha ns ((n, ()), ()) ⟨h1, hd⟩
  unfold ref3Above
  rw [q1, Option.bind_some, q2]
end Go.Proofs.YtocnfflklfeocaaGreat
