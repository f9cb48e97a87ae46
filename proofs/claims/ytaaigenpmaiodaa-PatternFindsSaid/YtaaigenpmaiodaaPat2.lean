/- Patterns: the program and the reference find the same. No condition of its own. -/
import Derived.Test.YtaaigenpmaiodaaPat1
namespace Go.Proofs.Ytaaigenpmaiodaa
open Go.Den
set_option linter.unusedVariables false
set_option linter.unusedSimpArgs false
set_option maxRecDepth 100000

theorem idx_eq {r : Rules} {p : Place} {s : Int} (q : Sq r p s) (u v : Nat) : (s.tdiv r.width + (v : Int)) * r.width + s.tmod r.width + (u : Int) = s + (v : Int) * r.width + (u : Int) := by
  have := q.e
  rw [Int.add_mul, Int.mul_comm (s.tdiv r.width) r.width]
  omega
theorem cellP_at {x : Patt} {i : Nat} (hi : i < x.2.2.1.length) : at? x.2.2.1 (i : Int) = some (cellP x i) := by
  rw [at?_eq x.2.2.1 _ (by omega) (by omega)]
  unfold cellP
  rw [List.getD_eq_getElem?_getD, List.getElem?_eq_getElem hi]
  rfl
theorem at_L1 (x : Patt) (p : Place) (s : Int) (r : Rules) (i : Int) : patternAt_L1 x p s r ((i, ()), ()) = bif (decide (i < ((x.2.2.1.length : Nat) : Int))) then (Option.bind (at? x.2.2.1 i) fun d => req (x.1 != 0) (req (x.1 != 0) (Option.bind (at? p.1 (w64 ((w64 (s + (w64 ((w64 (i.tdiv x.1)) * r.width)))) + (i.tmod x.1)))) fun c => Option.bind (patternFits d c) fun b => bif (!b) then some (Sum.inr (Sum.inr false)) else some (Sum.inl ((w64 (i + 1), ()), ())))))
  else some (Sum.inr (Sum.inl ((), ()))) := rfl
theorem at_spec {r : Rules} {x : Patt} {p : Place} {s : Int} (hR : Right r x) (h : Valid r p) (q : Sq r p s) : patternAt r x p s = some (atB r x p s) := by
  obtain ⟨w, g, hw, hg, w1, w8, g1, g8, hl⟩ := right_nat hR
  have hW := q.w
  have hH := q.h
  have hc := q.c
  have hd := q.d
  have ht := h.turn
  have hxt := hR.t
  have hlen := q.len
  have h64 := area_len h
  have hl64 : x.2.2.1.length ≤ 64 := by
    rw [hl]
    exact Nat.mul_le_mul w8 g8
  unfold patternAt atB
  have hw0 : (r.2.1 != 0) = true := bne_t (by show ¬ r.width = 0; omega)
  have himp : ∀ b, imp b true = true := fun b => by cases b <;> rfl
  rw [hw0, himp, req_true, req_true]
  have e1 : w64 (s.tmod r.2.1 + x.1) = s.tmod r.width + x.1 := w64_id (by show _ ≤ s.tmod r.width + x.1; omega) (by show s.tmod r.width + x.1 ≤ _; omega)
  have e2 : w64 (s.tdiv r.2.1) = s.tdiv r.width := w64_id (by show _ ≤ s.tdiv r.width; omega) (by show s.tdiv r.width ≤ _; omega)
  rw [e1, e2, w64_id (n := s.tdiv r.width + x.2.1) (by omega) (by omega)]
  have hb : (((decide (s.tmod r.width + x.1 > r.2.1)) || (decide (s.tdiv r.width + x.2.1 > r.2.2.1))) || ((decide (x.2.2.2.1 ≥ 0)) && (x.2.2.2.1 != p.2.2.1))) = ((((x.2.2.2.1 != -1) && (x.2.2.2.1 != p.turn)) || (decide (s.tmod r.width + x.1 > r.width))) || (decide (s.tdiv r.width + x.2.1 > r.height))) := by
    have : decide (x.2.2.2.1 ≥ 0) = (x.2.2.2.1 != -1) := by rw [Bool.eq_iff_iff]; simp; omega
    rw [this]
    show (((decide (s.tmod r.width + x.1 > r.width)) || (decide (s.tdiv r.width + x.2.1 > r.height))) || ((x.2.2.2.1 != -1) && (x.2.2.2.1 != p.turn))) = _
    cases decide (s.tmod r.width + x.1 > r.width) <;> cases decide (s.tdiv r.width + x.2.1 > r.height) <;> cases ((x.2.2.2.1 != -1) && (x.2.2.2.1 != p.turn)) <;> rfl
  rw [hb]
  cases hc2 : ((((x.2.2.2.1 != -1) && (x.2.2.2.1 != p.turn)) || (decide (s.tmod r.width + x.1 > r.width))) || (decide (s.tdiv r.width + x.2.1 > r.height))) with
  | true => rfl
  | false =>
    rw [cond_false, cond_false]
    simp only [Bool.or_eq_false_iff, decide_eq_false_iff_not] at hc2
    obtain ⟨⟨_, b1⟩, b2⟩ := hc2
    have hx0 : (x.1 != 0) = true := bne_t (by omega)
    have hL := iterW_any (List.range x.2.2.1.length) (offB r x p s x.1.toNat) (patternAt_L1 x p s r) (.inr false) (.inl ((), ())) (fun i hi => by
      have hi' : i < x.2.2.1.length := by simpa using hi
      have hu : i % w < w := Nat.mod_lt _ (by omega)
      have hv : i / w < g := by rw [hl] at hi'; exact Nat.div_lt_of_lt_mul hi'
      have hin := in_board (W := r.width) (H := r.height) hu hv hc.1 hd.1 (by omega) (by omega)
      rw [idx_eq q] at hin
      have t1 : (i : Int).tdiv x.1 = ((i / w : Nat) : Int) := by rw [hw]; rfl
      have t2 : (i : Int).tmod x.1 = ((i % w : Nat) : Int) := by rw [hw]; rfl
      have hwn : x.1.toNat = w := by rw [hw]; rfl
      have hoff : offB r x p s x.1.toNat i = !fitB (cellP x i) (cellI p (s + ((i / w : Nat) : Int) * r.width + ((i % w : Nat) : Int))) := by unfold offB; rw [hwn]
      rw [at_L1, List.getElem_range, hoff, t1, t2]
      generalize i / w = v at hv hin ⊢
      generalize i % w = u at hu hin ⊢
      have hm : (v : Int) * r.width ≤ 8 * 8 := Int.mul_le_mul (by omega) (by omega) (by omega) (by omega)
      have hm0 : 0 ≤ (v : Int) * r.width := Int.mul_nonneg (by omega) (by omega)
      have hs1 := q.s1
      have hs0 := q.s0
      rw [decide_eq_true (by omega), cond_true, cellP_at hi', Option.bind_some, hx0, req_true, req_true, w64_id (n := (v : Int)) (by omega) (by omega), w64_id (n := (v : Int) * r.width) (by omega) (by omega), w64_id (n := s + (v : Int) * r.width) (by omega) (by omega), w64_id (n := s + (v : Int) * r.width + (u : Int)) (by omega) (by omega),
        at_cell hin.1 (by show _ < ((p.1.length : Nat) : Int); omega), Option.bind_some, fits_spec' _ _ (cell_rng h _).1, Option.bind_some, w64_id (n := (i : Int) + 1) (by omega) (by omega)]
      cases fitB (cellP x i) (cellI p (s + (v : Int) * r.width + (u : Int))) <;> rfl) (by
      rw [at_L1, List.length_range, nltd, cond_false])
    rw [hL, Option.bind_some]
    cases (List.range x.2.2.1.length).any (offB r x p s x.1.toNat) <;> rfl
/-! ### the reference -/
theorem rfit_L2 (x : Patt) (p : Place) (Y v : Int) (r : Rules) (X u : Int) : ref3Fits_L2 x p Y ((v, ()), ()) r X ((u, ()), ()) = bif (decide (u < x.1)) then (Option.bind (at? p.1 (w64 ((w64 ((w64 ((w64 (Y + v)) * r.width)) + X)) + u))) fun c => Option.bind (at? x.2.2.1 (w64 ((w64 (v * x.1)) + u))) fun d =>
    req (imp (((d == (-2 : Int)) && (decide (c > (0 : Int)))) && (!((d == c) || (d == (-1 : Int))))) true) (req (imp (((d == (-3 : Int)) && (decide (c > (0 : Int)))) && (!(((d == c) || (d == (-1 : Int))) || (((d == (-2 : Int)) && (decide (c > (0 : Int)))) && ((c.tmod (2 : Int)) == (1 : Int)))))) true) (bif (!fitB d c) then some (Sum.inr (Sum.inr (Sum.inr (Sum.inr (Sum.inr false))))) else some (Sum.inl ((w64 (u + 1), ()), ())))))
  else some (Sum.inr (Sum.inl ((), ()))) := rfl
theorem rfit_L1 (x : Patt) (p : Place) (Y : Int) (r : Rules) (X v : Int) : ref3Fits_L1 x p Y r X ((v, ()), ()) = bif (decide (v < x.2.1)) then (Option.bind (α := ((Unit) × (Unit)) ⊕ (((Int × Unit) × (Unit)) ⊕ (((Unit) × (Unit)) ⊕ Bool))) (Option.bind (α := ((Unit) × (Unit)) ⊕ (((Unit) × (Unit)) ⊕ (((Int × Unit) × (Unit)) ⊕ (((Unit) × (Unit)) ⊕ Bool)))) (iterW (ref3Fits_L2 x p Y ((v, ()), ()) r X) (((0 : Int), ()), ())) (Sum.elim (fun _ => some (Sum.inl ((), ()))) some)) (Sum.elim (fun _ => some (Sum.inl ((w64 (v + 1), ()), ()))) some))
  else some (Sum.inr (Sum.inl ((), ()))) := rfl
theorem any_grid (w g : Nat) (hw : 0 < w) (f : Nat → Bool) : (List.range (w * g)).any f = (List.range g).any fun v => (List.range w).any fun u => f (v * w + u) := by
  rw [Bool.eq_iff_iff, List.any_eq_true, List.any_eq_true]
  constructor
  · rintro ⟨i, hi, h⟩
    have hi := List.mem_range.1 hi
    refine ⟨i / w, List.mem_range.2 (Nat.div_lt_of_lt_mul hi), ?_⟩
    rw [List.any_eq_true]
    refine ⟨i % w, List.mem_range.2 (Nat.mod_lt _ hw), ?_⟩
    rw [Nat.mul_comm, Nat.div_add_mod]
    exact h
  · rintro ⟨v, hv, h⟩
    have hv := List.mem_range.1 hv
    rw [List.any_eq_true] at h
    obtain ⟨u, hu, h⟩ := h
    have hu := List.mem_range.1 hu
    refine ⟨v * w + u, List.mem_range.2 ?_, h⟩
    calc v * w + u < v * w + w := by omega
      _ = (v + 1) * w := by rw [Nat.add_mul]; omega
      _ ≤ g * w := Nat.mul_le_mul_right _ hv
      _ = w * g := Nat.mul_comm _ _
theorem rfit_spec {r : Rules} {x : Patt} {p : Place} {s : Int} (hR : Right r x) (h : Valid r p) (q : Sq r p s) : ref3Fits r x p (s.tmod r.width) (s.tdiv r.width) = some (atB r x p s) := by
  obtain ⟨w, g, hw, hg, w1, w8, g1, g8, hl⟩ := right_nat hR
  have hW := q.w
  have hH := q.h
  have hc := q.c
  have hd := q.d
  have ht := h.turn
  have hlen := q.len
  have h64 := area_len h
  have hl64 : x.2.2.1.length ≤ 64 := by
    rw [hl]
    exact Nat.mul_le_mul w8 g8
  unfold ref3Fits atB
  rw [w64_id (n := s.tmod r.width + x.1) (by omega) (by omega), w64_id (n := s.tdiv r.width + x.2.1) (by omega) (by omega)]
  show (bif ((((x.2.2.2.1 != -1) && (x.2.2.2.1 != p.turn)) || (decide (s.tmod r.width + x.1 > r.width))) || (decide (s.tdiv r.width + x.2.1 > r.height))) then _ else _) = _
  cases hc2 : ((((x.2.2.2.1 != -1) && (x.2.2.2.1 != p.turn)) || (decide (s.tmod r.width + x.1 > r.width))) || (decide (s.tdiv r.width + x.2.1 > r.height))) with
  | true => rfl
  | false =>
    rw [cond_false, cond_false]
    simp only [Bool.or_eq_false_iff, decide_eq_false_iff_not] at hc2
    obtain ⟨⟨_, b1⟩, b2⟩ := hc2
    have hwn : x.1.toNat = w := by rw [hw]; rfl
    have hL2 : ∀ v, v < g → iterW (ref3Fits_L2 x p (s.tdiv r.width) (((v : Int), ()), ()) r (s.tmod r.width)) (((0 : Int), ()), ()) = some (bif (List.range w).any (fun u => offB r x p s w (v * w + u)) then .inr (.inr (.inr (.inr false))) else .inl ((), ())) := fun v hv => by
      have := iterW_any (List.range w) (fun u => offB r x p s w (v * w + u)) (ref3Fits_L2 x p (s.tdiv r.width) (((v : Int), ()), ()) r (s.tmod r.width)) (.inr (.inr (.inr (.inr false)))) (.inl ((), ())) (fun u hu => by
        have hu' : u < w := by simpa using hu
        have hin := in_board (W := r.width) (H := r.height) hu' hv hc.1 hd.1 (by omega) (by omega)
        have hm : (s.tdiv r.width + (v : Int)) * r.width ≤ 16 * 8 := Int.mul_le_mul (by omega) (by omega) (by omega) (by omega)
        have hm0 : 0 ≤ (s.tdiv r.width + (v : Int)) * r.width := Int.mul_nonneg (by omega) (by omega)
        have hvw : v * w ≤ 8 * 8 := Nat.mul_le_mul (by omega) w8
        have hiv : v * w + u < x.2.2.1.length := by
          rw [hl]
          calc v * w + u < v * w + w := by omega
            _ = (v + 1) * w := by rw [Nat.add_mul]; omega
            _ ≤ g * w := Nat.mul_le_mul_right _ hv
            _ = w * g := Nat.mul_comm _ _
        have t3 : (v : Int) * x.1 = ((v * w : Nat) : Int) := by rw [hw]; push_cast; rfl
        have himp : ∀ b, imp b true = true := fun b => by cases b <;> rfl
        rw [rfit_L2, decide_eq_true (show (u : Int) < x.1 by omega), cond_true, w64_id (n := s.tdiv r.width + (v : Int)) (by omega) (by omega), w64_id (n := (s.tdiv r.width + (v : Int)) * r.width) (by omega) (by omega), w64_id (n := (s.tdiv r.width + (v : Int)) * r.width + s.tmod r.width) (by omega) (by omega), w64_id (n := (s.tdiv r.width + (v : Int)) * r.width + s.tmod r.width + (u : Int)) (by omega) (by omega),
          at_cell hin.1 (by show _ < ((p.1.length : Nat) : Int); omega), Option.bind_some, t3, w64_id (n := ((v * w : Nat) : Int)) (by omega) (by omega), w64_id (n := ((v * w : Nat) : Int) + (u : Int)) (by omega) (by omega), show ((v * w : Nat) : Int) + (u : Int) = ((v * w + u : Nat) : Int) by push_cast; rfl, cellP_at hiv, Option.bind_some, himp, himp, req_true, req_true, w64_id (n := (u : Int) + 1) (by omega) (by omega), List.getElem_range, idx_eq q]
        unfold offB
        have d1 : (v * w + u) / w = v := by rw [Nat.mul_comm, Nat.mul_add_div (by omega), Nat.div_eq_of_lt hu']; omega
        have d2 : (v * w + u) % w = u := by rw [Nat.mul_comm, Nat.mul_add_mod, Nat.mod_eq_of_lt hu']
        rw [d1, d2]
        cases fitB (cellP x (v * w + u)) (cellI p (s + (v : Int) * r.width + (u : Int))) <;> rfl) (by
        rw [rfit_L2, List.length_range, hw, decide_eq_false (by omega), cond_false])
      exact this
    have hL1 := iterW_any (List.range g) (fun v => (List.range w).any fun u => offB r x p s w (v * w + u)) (ref3Fits_L1 x p (s.tdiv r.width) r (s.tmod r.width)) (.inr false) (.inl ((), ())) (fun v hv => by
      have hv' : v < g := by simpa using hv
      rw [rfit_L1, decide_eq_true (show (v : Int) < x.2.1 by omega), cond_true, hL2 v hv', Option.bind_some, w64_id (n := (v : Int) + 1) (by omega) (by omega), List.getElem_range]
      cases (List.range w).any (fun u => offB r x p s w (v * w + u)) <;> rfl) (by
      rw [rfit_L1, List.length_range, hg, decide_eq_false (by omega), cond_false])
    rw [hL1, Option.bind_some, hwn, hl, any_grid w g (by omega)]
    cases (List.range g).any (fun v => (List.range w).any fun u => offB r x p s w (v * w + u)) <;> rfl
/-! ### all squares -/
/-- the squares of a position where the pattern is -/
def hitsL (r : Rules) (x : Patt) (p : Place) : List Int := ((List.range p.1.length).filter fun s : Nat => atB r x p (s : Int)).map fun s : Nat => (s : Int)
theorem list_L1' (p : Place) (r : Rules) (x : Patt) (acc : List Int) (i : Int) : patternList_L1 p r x ((acc, i, ()), ()) = bif (decide (i < ((p.1.length : Nat) : Int))) then (Option.bind (patternAt r x p i) fun b => Option.bind (bif b then req (room (acc.length + 1) 8) (some ((acc ++ [i], ()), ())) else some ((acc, ()), ())) fun y : (List Int × Unit) × Unit => some (Sum.inl ((y.1.1, w64 (i + 1), ()), ())))
  else some (Sum.inr ((acc, ()), ())) := rfl
theorem flat_filter (n : Nat) (q : Nat → Bool) : (List.range n).flatMap (fun i => if q i = true then [(i : Int)] else []) = ((List.range n).filter q).map fun s : Nat => (s : Int) := by
  induction List.range n with
  | nil => rfl
  | cons a l ih =>
    rw [List.flatMap_cons, ih]
    by_cases c : q a = true
    · rw [if_pos c, List.filter_cons_of_pos c]; rfl
    · rw [if_neg c, List.filter_cons_of_neg c]; rfl
theorem plist_spec {r : Rules} {x : Patt} {p : Place} (hR : Right r x) (h : Valid r p) : patternList r x p = some (hitsL r x p) := by
  have h64 := area_len h
  unfold patternList hitsL
  have hI := iter_app p.1.length 1 (patternList_L1 p r x) (fun i => if atB r x p (i : Int) = true then [(i : Int)] else []) (fun a => ((a, ()), ())) [] (fun _ _ => by split <;> simp) (fun i hi a ha => by
    have q := sq_of h (s := (i : Int)) (by omega) (by omega)
    rw [list_L1', ltd p.1 i hi, cond_true, at_spec hR h q, Option.bind_some, room_ok (n := a.length + 1) (by simp at ha; omega), req_true, w64_id (n := (i : Int) + 1) (by omega) (by omega)]
    cases atB r x p (i : Int) <;> simp) (fun a => by rw [list_L1', nltd, cond_false])
  rw [hI, Option.bind_some, List.nil_append, flat_filter p.1.length (fun s : Nat => atB r x p (s : Int))]
theorem hits_len (r : Rules) (x : Patt) (p : Place) : (hitsL r x p).length ≤ p.1.length := by
  unfold hitsL
  rw [List.length_map]
  exact Nat.le_trans (List.length_filter_le _ _) (by simp)
end Go.Proofs.Ytaaigenpmaiodaa
