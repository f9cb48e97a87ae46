/- The law PatternCuts in plain Lean. No condition of its own. -/
import Derived.Test.YtcdpkebphgeipaaPatternCutsB
import Derived.Test.YtcdpkebphgeipaaPatternCutsK
namespace Go.Proofs.Ytcdpkebphgeipaa
open Go.Den
set_option linter.unusedVariables false
set_option linter.unusedSimpArgs false
set_option maxRecDepth 100000

theorem patterns_true : law3Patterns = some true := law3Patterns_m 40 _ (by decide +kernel)
/-- the first y rows of a piece -/
def cutl (xs : List Int) (s V w y : Nat) : List Int := (List.range (y * w)).map fun k => getD' xs (s + k / w * V + k % w) 0
theorem cut_part {xs : List Int} {l w : Nat} (h : l + w ≤ xs.length) : (xs.take (l + w)).drop l = (List.range w).map fun j => getD' xs (l + j) 0 := by
  apply List.ext_getElem?
  intro k
  rw [get_mapr, List.getElem?_drop, List.getElem?_take]
  by_cases c : k < w
  · rw [if_pos (by omega), if_pos c, List.getElem?_eq_getElem (by omega)]
    simp [getD', show l + k < xs.length by omega]
  · rw [if_neg (by omega), if_neg c]
theorem cut_step {xs : List Int} {s V w y : Nat} (hw : 0 < w) (h : s + y * V + w ≤ xs.length) : cutl xs s V w y ++ (xs.take (s + y * V + w)).drop (s + y * V) = cutl xs s V w (y + 1) := by
  rw [cut_part h]
  unfold cutl
  rw [Nat.succ_mul, List.range_add, List.map_append, List.map_map]
  congr 1
  apply List.map_congr_left
  intro j hj
  have hj := List.mem_range.1 hj
  have e1 : (y * w + j) / w = y := by rw [Nat.add_comm, Nat.add_mul_div_right _ _ hw, Nat.div_eq_of_lt hj, Nat.zero_add]
  have e2 : (y * w + j) % w = j := by rw [Nat.add_comm, Nat.add_mul_mod_self_right, Nat.mod_eq_of_lt hj]
  simp only [Function.comp, e1, e2]
theorem cut_len (xs : List Int) (s V w y : Nat) : (cutl xs s V w y).length = y * w := by simp [cutl]
theorem cut_at {xs : List Int} {s V w h u v : Nat} (hu : u < w) (hv : v < h) : v * w + u < h * w ∧ getD' (cutl xs s V w h) (v * w + u) 0 = getD' xs (s + v * V + u) 0 := by
  have hlt : v * w + u < h * w := by
    have : v * w + w ≤ h * w := by rw [← Nat.succ_mul]; exact Nat.mul_le_mul_right _ hv
    omega
  refine ⟨hlt, ?_⟩
  unfold cutl
  have e1 : (v * w + u) / w = v := by rw [Nat.add_comm, Nat.add_mul_div_right _ _ (by omega), Nat.div_eq_of_lt hu, Nat.zero_add]
  have e2 : (v * w + u) % w = u := by rw [Nat.add_comm, Nat.add_mul_mod_self_right, Nat.mod_eq_of_lt hu]
  rw [getD_mapr hlt, e1, e2]
/-- where a piece lies -/
structure Piece' (r : Rules) (p : Place) (square width height : Int) (s V w h : Nat) : Prop where
  es : square = (s : Int)
  eV : r.width = (V : Int)
  ew : width = (w : Int)
  eh : height = (h : Int)
  hV : 1 ≤ V ∧ V ≤ 8
  hw : 1 ≤ w ∧ w ≤ 8
  hh : 1 ≤ h ∧ h ≤ 8
  len : p.1.length ≤ 64
  fit : ∀ y, y < h → s + y * V + w ≤ p.1.length
theorem piece_of {r : Rules} {p : Place} {square width height : Int} (ok : ruleErr r = 0) (hl : ((p.1.length : Nat) : Int) = r.width * r.height) (hs : 0 ≤ square ∧ square < ((p.1.length : Nat) : Int)) (hw : 1 ≤ width) (hh : 1 ≤ height) (h1 : width ≤ r.width - square.tmod r.width) (h2 : height ≤ r.height - square.tdiv r.width) :
    ∃ s V w h, Piece' r p square width height s V w h := by
  obtain ⟨⟨bw, bh⟩, _⟩ := ruleErr_zero ok
  obtain ⟨s, rfl⟩ := Int.eq_ofNat_of_zero_le hs.1
  obtain ⟨V, eV⟩ := Int.eq_ofNat_of_zero_le (show 0 ≤ r.width by omega)
  obtain ⟨U, eU⟩ := Int.eq_ofNat_of_zero_le (show 0 ≤ r.height by omega)
  obtain ⟨w, rfl⟩ := Int.eq_ofNat_of_zero_le (show 0 ≤ width by omega)
  obtain ⟨h, rfl⟩ := Int.eq_ofNat_of_zero_le (show 0 ≤ height by omega)
  rw [eV] at h1 h2 bw hl
  rw [eU] at h2 bh hl
  rw [← Int.ofNat_tmod] at h1
  rw [← Int.ofNat_tdiv] at h2
  have hl : p.1.length = V * U := by rw [← Int.natCast_mul] at hl; exact Int.ofNat.inj hl
  have hb : V * U ≤ 64 := Nat.mul_le_mul (show V ≤ 8 by omega) (show U ≤ 8 by omega)
  have hm := Nat.div_add_mod s V
  have hm2 : s % V < V := Nat.mod_lt _ (by omega)
  generalize s / V = d at *
  generalize s % V = m at *
  refine ⟨s, V, w, h, rfl, eV, rfl, rfl, by omega, by omega, by omega, by omega, fun y hy => ?_⟩
  have h3 : (d + y + 1) * V ≤ U * V := Nat.mul_le_mul_right _ (by omega)
  rw [Nat.add_mul, Nat.add_mul, Nat.one_mul] at h3
  rw [hl, Nat.mul_comm V U]
  rw [Nat.mul_comm] at hm
  omega
theorem cut_spec (r : Rules) (p : Place) (square width height : Int) {s V w h : Nat} (q : Piece' r p square width height s V w h) :
    iterW (patternCut_L1 height square r width p) (((0 : Int), ()), ((width, (height, ([], (p.2.2.1, ())))), ())) = some ((), ((width, (height, (cutl p.1 s V w h, (p.2.2.1, ())))), ())) := by
  have hV := q.hV; have hw := q.hw; have hh := q.hh; have hlen := q.len
  have := iterW_states (f := patternCut_L1 height square r width p) h (fun y => (((y : Int), ()), ((width, (height, (cutl p.1 s V w y, (p.2.2.1, ())))), ()))) ((), ((width, (height, (cutl p.1 s V w h, (p.2.2.1, ())))), ())) (fun y hy => ?_) ?_
  · have e0 : cutl p.1 s V w 0 = [] := by simp [cutl]
    simp only [e0] at this
    exact this
  · have hf := q.fit y hy
    have hyV : y * V ≤ 64 := Nat.mul_le_mul (show y ≤ 8 by omega) hV.2
    have hyw : y * w ≤ 64 := Nat.mul_le_mul (show y ≤ 8 by omega) hw.2
    have a1 : w64 (square + w64 ((y : Int) * r.2.1)) = ((s + y * V : Nat) : Int) := by
      rw [show r.2.1 = (V : Int) from q.eV, ← Int.natCast_mul, w64_id (n := ((y * V : Nat) : Int)) (by omega) (by omega), q.es, ← Int.natCast_add]
      exact w64_id (by omega) (by omega)
    have a2 : w64 (((s + y * V : Nat) : Int) + width) = ((s + y * V + w : Nat) : Int) := by
      rw [q.ew, ← Int.natCast_add]
      exact w64_id (by omega) (by omega)
    unfold patternCut_L1
    simp only [a1, a2, Int.toNat_natCast]
    rw [show decide ((y : Int) < height) = true by rw [q.eh]; simp; omega, cond_true, show boundsI ((s + y * V : Nat) : Int) ((s + y * V + w : Nat) : Int) p.1.length = true by simp only [boundsI, Bool.and_eq_true, decide_eq_true_eq]; omega, req_true,
      room_ok (by rw [cut_len]; simp; omega), req_true, cut_step (by omega) hf, w64_id (n := (y : Int) + 1) (by omega) (by omega)]
    rfl
  · unfold patternCut_L1
    rw [q.eh]
    simp
theorem law_loop1 (x : Patt) {W H : Nat} (hx : x.1 = (W : Int)) (hW : 1 ≤ W ∧ W ≤ 8) (hl : x.2.2.1.length = W * H) (hb : W * H ≤ 64) :
    iterW (law3PatternCuts_L1 x ((x.1, (x.2.1, (mv W H x.2.2.1, x.2.2.2))), ((0 : Int), ()))) (((0 : Int), ()), ()) = some (.inl ((), ())) := by
  refine iterW_states (f := law3PatternCuts_L1 x _) x.2.2.1.length (fun i => (((i : Int), ()), ())) _ (fun i hi => ?_) ?_
  · have hm := Nat.mod_lt i (show W > 0 by omega)
    have hd := Nat.div_add_mod i W
    rw [Nat.mul_comm] at hd
    obtain ⟨m1, m2⟩ := mv_at hl (by omega) hi
    have a1 : w64 (w64 (w64 (w64 (w64 ((i : Int).tdiv x.1) * x.1) + x.1) - 1) - (i : Int).tmod x.1) = ((i / W * W + (W - 1 - i % W) : Nat) : Int) := by
      have hdd : i / W * W ≤ i := by omega
      have hdl : i / W ≤ i := Nat.div_le_self i W
      rw [hx, ← Int.ofNat_tdiv, ← Int.ofNat_tmod]
      generalize i / W = d at *
      generalize i % W = m at *
      rw [w64_id (n := ((d : Nat) : Int)) (by omega) (by omega), ← Int.natCast_mul]
      generalize d * W = f at *
      rw [w64_id (n := ((f : Nat) : Int)) (by omega) (by omega), w64_id (n := ((f : Nat) : Int) + (W : Int)) (by omega) (by omega), w64_id (n := ((f : Nat) : Int) + (W : Int) - 1) (by omega) (by omega), w64_id (by omega) (by omega)]
      omega
    unfold law3PatternCuts_L1
    simp only [a1, mv_len, bne_self_eq_false, Bool.or_false, Bool.false_or, Bool.not_false, imp, cond_true, gat, Int.toNat_natCast]
    rw [show decide ((i : Int) < ((x.2.2.1.length : Nat) : Int)) = true by simp; omega, cond_true, bne_t (show ¬ x.1 = 0 by omega), req_true, req_true, inb_iff.2 ⟨by omega, by omega⟩, req_true, at?_eq _ _ (by omega) (by omega), Option.bind_some, m2]
    have e : getD' x.2.2.1 i 0 = x.2.2.1[((i : Int)).toNat]'(by simpa using hi) := by simp [getD', hi]
    rw [e, w64_id (n := (i : Int) + 1) (by omega) (by omega)]
    simp
  · unfold law3PatternCuts_L1
    simp
theorem law_loop3 (r : Rules) (p : Place) (square width height : Int) {s V w h : Nat} (q : Piece' r p square width height s V w h) (u : Nat) (hu : u < w) (t : Unit) (e : Int):
    iterW (law3PatternCuts_L3 height width (((u : Int), ()), ()) ((width, (height, (cutl p.1 s V w h, (p.2.2.1, ())))), ((0 : Int), ())) p square r) (((0 : Int), ()), ()) = some (.inl ((), ())) := by
  have hV := q.hV; have hw := q.hw; have hh := q.hh; have hlen := q.len
  refine iterW_states (f := law3PatternCuts_L3 height width (((u : Int), ()), ()) _ p square r) h (fun i => (((i : Int), ()), ())) _ (fun v hv => ?_) ?_
  · obtain ⟨c1, c2⟩ := cut_at (xs := p.1) (s := s) (V := V) hu hv
    have hf := q.fit v hv
    have hvV : v * V ≤ 64 := Nat.mul_le_mul (show v ≤ 8 by omega) hV.2
    have hvw : v * w ≤ 64 := Nat.mul_le_mul (show v ≤ 8 by omega) hw.2
    have a1 : w64 (w64 ((v : Int) * width) + (u : Int)) = ((v * w + u : Nat) : Int) := by
      rw [q.ew, ← Int.natCast_mul, w64_id (n := ((v * w : Nat) : Int)) (by omega) (by omega), ← Int.natCast_add]
      exact w64_id (by omega) (by omega)
    have a2 : w64 (w64 (square + w64 ((v : Int) * r.2.1)) + (u : Int)) = ((s + v * V + u : Nat) : Int) := by
      rw [show r.2.1 = (V : Int) from q.eV, ← Int.natCast_mul, w64_id (n := ((v * V : Nat) : Int)) (by omega) (by omega), q.es, ← Int.natCast_add, w64_id (n := ((s + v * V : Nat) : Int)) (by omega) (by omega), ← Int.natCast_add]
      exact w64_id (by omega) (by omega)
    unfold law3PatternCuts_L3
    simp only [a1, a2, cut_len, Int.toNat_natCast]
    rw [show decide ((v : Int) < height) = true by rw [q.eh]; simp; omega, cond_true, inb_iff.2 ⟨by omega, by omega⟩, req_true, at?_eq _ _ (by omega) (by omega), Option.bind_some, c2]
    have e : getD' p.1 (s + v * V + u) 0 = p.1[(((s + v * V + u : Nat) : Int)).toNat]'(by simp; omega) := by
      simp only [Int.toNat_natCast]
      simp [getD', show s + v * V + u < p.1.length by omega]
    rw [e, w64_id (n := (v : Int) + 1) (by omega) (by omega)]
    simp
  · unfold law3PatternCuts_L3
    rw [q.eh]
    simp
theorem law_loop2 (r : Rules) (p : Place) (square width height : Int) {s V w h : Nat} (q : Piece' r p square width height s V w h) :
    iterW (law3PatternCuts_L2 width height ((width, (height, (cutl p.1 s V w h, (p.2.2.1, ())))), ((0 : Int), ())) p square r) (((0 : Int), ()), ()) = some (.inl ((), ())) := by
  refine iterW_states (f := law3PatternCuts_L2 width height _ p square r) w (fun i => (((i : Int), ()), ())) _ (fun u hu => ?_) ?_
  · have hw := q.hw
    unfold law3PatternCuts_L2
    rw [show decide ((u : Int) < width) = true by rw [q.ew]; simp; omega, cond_true, law_loop3 r p square width height q u hu () 0]
    simp only [Option.bind_some, Sum.elim_inl]
    rw [w64_id (n := (u : Int) + 1) (by omega) (by omega)]
    rfl
  · unfold law3PatternCuts_L2
    rw [q.ew]
    simp
abbrev tyPlace : Ty := .st (.sl (.int .i64)) (.st (.st (.sl (.int .i64)) (.st (.sl (.int .i64)) .nil)) (.st (.int .i64) (.st (.int .i64) .nil)))
abbrev tyPatt : Ty := .st (.int .i64) (.st (.int .i64) (.st (.sl (.int .i64)) (.st (.int .i64) .nil)))
/-- the first part: the mirror -/
theorem part1 (r : Rules) (x : Patt) (hr : Rng tyRules r) (hn : x.2.2.1.length ≤ 9223372036854775807) : ∃ r8 r9, patternMirror r x = some r8 ∧ law3PatternFault r x = some r9 ∧
    (Option.bind (α := (((Unit) × (Unit)) ⊕ Bool)) (bif (r9 != (0 : Int)) then (bif ((r8.2.1 != r9) || (decide (((r8.1.2.2.1.length : Nat) : Int) > (0 : Int)))) then some (Sum.inr false)
  else some (Sum.inl ((), ())))
  else Option.bind (α := ((Unit) × (Unit)) ⊕ (((Unit) × (Unit)) ⊕ Bool)) (iterW (law3PatternCuts_L1 x r8) (((0 : Int), ()), ())) (Sum.elim (fun x12 =>
  some (Sum.inl ((), ()))) some)) some) = some (.inl ((), ())) := by
  obtain ⟨c, h1, h2, h3⟩ := patt_some r x hr hn
  by_cases hc : c = 0
  · subst hc
    have hR := h3 rfl
    obtain ⟨W, H, e1, e2, hW, hH, hl, hm⟩ := mirror_spec r x hr hR h1
    refine ⟨_, 0, hm, h2, ?_⟩
    have hb : W * H ≤ 64 := Nat.mul_le_mul hW.2 hH.2
    rw [law_loop1 x e1 hW hl hb]
    rfl
  · have hm : patternMirror r x = some (((0 : Int), ((0 : Int), ([], ((0 : Int), ())))), (c, ())) := by
      unfold patternMirror
      rw [h1, Option.bind_some, bne_t hc, cond_true]
    refine ⟨_, c, hm, h2, ?_⟩
    rw [bne_t hc]
    simp
theorem cond_neg {square len width height W D Q : Int} (h : ((((((decide (square < (0 : Int))) || (decide (square ≥ len))) || (decide (width < (1 : Int)))) || (decide (height < (1 : Int)))) || (decide (width > D))) || (decide (height > Q))) = false) : (0 ≤ square ∧ square < len) ∧ 1 ≤ width ∧ 1 ≤ height ∧ width ≤ D ∧ height ≤ Q := by
  simp only [Bool.or_eq_false_iff, decide_eq_false_iff_not] at h
  omega
/-- the second part: the piece -/
theorem part2 (r : Rules) (p : Place) (square width height : Int) (hr : Rng tyRules r) (hp : Rng tyPlace p) : ∃ r7 r14, patternCut r p square width height = some r7 ∧ placeCheck r p = some r14 ∧
  (bif (r14 != (0 : Int)) then some ((r7.2.1 == r14) && (((r7.1.2.2.1.length : Nat) : Int) == (0 : Int)))
  else req (imp (!((((decide (square < (0 : Int))) || (decide (square ≥ ((p.1.length : Nat) : Int)))) || (decide (width < (1 : Int)))) || (decide (height < (1 : Int))))) (r.2.1 != 0)) (req (imp (!(((((decide (square < (0 : Int))) || (decide (square ≥ ((p.1.length : Nat) : Int)))) || (decide (width < (1 : Int)))) || (decide (height < (1 : Int)))) || (decide (width > (w64 (r.2.1 - (square.tmod r.2.1))))))) (r.2.1 != 0)) (bif ((((((decide (square < (0 : Int))) || (decide (square ≥ ((p.1.length : Nat) : Int)))) || (decide (width < (1 : Int)))) || (decide (height < (1 : Int)))) || (decide (width > (w64 (r.2.1 - (square.tmod r.2.1)))))) || (decide (height > (w64 (r.2.2.1 - (w64 (square.tdiv r.2.1))))))) then some ((r7.2.1 == (4 : Int)) && (((r7.1.2.2.1.length : Nat) : Int) == (0 : Int)))
  else bif (((((r7.2.1 != (0 : Int)) || (r7.1.1 != width)) || (r7.1.2.1 != height)) || (r7.1.2.2.2.1 != p.2.2.1)) || (((r7.1.2.2.1.length : Nat) : Int) != (w64 (width * height)))) then some false
  else Option.bind (α := ((Unit) × (Unit)) ⊕ Bool) (iterW (law3PatternCuts_L2 width height r7 p square r) (((0 : Int), ()), ())) (Sum.elim (fun x20 =>
  some true) some)))) = some true := by
  have hpl : p.1.length ≤ 9223372036854775807 := Nat.le_trans hp.1.1 (by decide)
  obtain ⟨c, h1, h2⟩ := place_some r p hr hpl pieces_le
  by_cases hc : c = 0
  · subst hc
    obtain ⟨ok, hl⟩ := h2 rfl
    obtain ⟨⟨bw, bh⟩, _⟩ := ruleErr_zero ok
    have hW : (r.2.1 != 0) = true := bne_t (by show ¬ r.width = 0; omega)
    have him : ∀ b, imp b true = true := fun b => by cases b <;> rfl
    cases hb : ((((((decide (square < (0 : Int))) || (decide (square ≥ ((p.1.length : Nat) : Int)))) || (decide (width < (1 : Int)))) || (decide (height < (1 : Int)))) || (decide (width > (w64 (r.2.1 - (square.tmod r.2.1)))))) || (decide (height > (w64 (r.2.2.1 - (w64 (square.tdiv r.2.1))))))) with
    | true =>
      refine ⟨(((0 : Int), ((0 : Int), ([], ((0 : Int), ())))), ((4 : Int), ())), 0, ?_, h1, ?_⟩
      · unfold patternCut
        rw [h1, Option.bind_some, hW, him, him, req_true, req_true, hb]
        rfl
      · rw [hW, him, him, req_true, req_true]
        rfl
    | false =>
      obtain ⟨g1, g2, g3, g4, g5⟩ := cond_neg (W := 0) hb
      have t1 : 0 ≤ square.tmod r.2.1 := Int.tmod_nonneg _ g1.1
      have t2 : 0 ≤ square.tdiv r.2.1 := Int.tdiv_nonneg g1.1 (by show 0 ≤ r.width; omega)
      have t3 : square.tdiv r.2.1 ≤ square := Int.tdiv_le_self _ g1.1
      have t4 : square.tmod r.2.1 ≤ square := by
        have := Int.tmod_lt_of_pos square (show 0 < r.2.1 by show 0 < r.width; omega)
        have h0 := Int.mul_tdiv_add_tmod square r.2.1
        have h3 : 0 ≤ r.2.1 * square.tdiv r.2.1 := Int.mul_nonneg (by show 0 ≤ r.width; omega) t2
        omega
      have bW : r.2.1 ≤ 8 := bw.2
      have bW1 : 1 ≤ r.2.1 := bw.1
      have bH : r.2.2.1 ≤ 8 := bh.2
      have bH1 : 1 ≤ r.2.2.1 := bh.1
      have hmx : ((p.1.length : Nat) : Int) ≤ 9223372036854775807 := by omega
      rw [w64_id (n := r.2.1 - square.tmod r.2.1) (by omega) (by omega)] at g4
      rw [w64_id (n := square.tdiv r.2.1) (by omega) (by omega), w64_id (n := r.2.2.1 - square.tdiv r.2.1) (by omega) (by omega)] at g5
      obtain ⟨s, V, w, h, q⟩ := piece_of ok hl g1 g2 g3 g4 g5
      refine ⟨((width, (height, (cutl p.1 s V w h, (p.2.2.1, ())))), ((0 : Int), ())), 0, ?_, h1, ?_⟩
      · unfold patternCut
        rw [h1, Option.bind_some, hW, him, him, req_true, req_true, hb, cut_spec r p square width height q]
        rfl
      · rw [hW, him, him, req_true, req_true, law_loop2 r p square width height q]
        have hh := q.hh; have hw := q.hw
        have hbd : h * w ≤ 64 := Nat.mul_le_mul hh.2 hw.2
        have e : w64 (width * height) = ((h * w : Nat) : Int) := by
          rw [q.ew, q.eh, ← Int.natCast_mul, Nat.mul_comm]
          exact w64_id (by omega) (by omega)
        simp [e, cut_len]
  · refine ⟨(((0 : Int), ((0 : Int), ([], ((0 : Int), ())))), (c, ())), c, ?_, h1, ?_⟩
    · unfold patternCut
      rw [h1, Option.bind_some, bne_t hc, cond_true]
    · rw [bne_t hc]
      simp
theorem bindS {α : Type} (x : Option α) : Option.bind x some = x := by cases x <;> rfl
theorem law3PatternCuts_true (r : Rules) (p : Place) (x : Patt) (square width height : Int) (hr : Rng tyRules r) (hp : Rng tyPlace p) (hx : Rng tyPatt x) (h4 : Rng (.int .i64) square) (h5 : Rng (.int .i64) width) (h6 : Rng (.int .i64) height) : law3PatternCuts r p x square width height = some true := by
  unfold law3PatternCuts
  rw [patterns_true, Option.bind_some]
  simp only [Bool.not_true, cond_false]
  cases law3Great r with
  | true => rfl
  | false =>
    rw [cond_false]
    obtain ⟨r7, r14, a1, a2, a3⟩ := part2 r p square width height hr hp
    obtain ⟨r8, r9, b1, b2, b3⟩ := part1 r x hr (Nat.le_trans hx.2.2.1.1 (by decide))
    rw [bindS] at b3
    rw [a1, Option.bind_some, b1, Option.bind_some, b2, Option.bind_some, b3]
    simp only [Option.bind_some, Sum.elim_inl]
    rw [a2, Option.bind_some]
    exact a3
end Go.Proofs.Ytcdpkebphgeipaa
