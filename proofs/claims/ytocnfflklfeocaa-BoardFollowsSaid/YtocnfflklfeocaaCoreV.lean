/- What is wrong with a position, as the program and the reference compute it; what a valid one is. No condition of its own. -/
import Derived.Test.YtocnfflklfeocaaRulesCore
import Derived.Test.YtocnfflklfeocaaDenL
namespace Go.Proofs.Ytocnfflklfeocaa
open Go.Den
set_option linter.unusedVariables false
set_option linter.unusedSimpArgs false
set_option maxRecDepth 100000

abbrev Place := (List Int) × ((List Int) × (List Int) × Unit) × Int × Int × Unit
abbrev Place.cells (p : Place) : List Int := p.1
abbrev Place.h0 (p : Place) : List Int := p.2.1.1
abbrev Place.h1 (p : Place) : List Int := p.2.1.2.1
abbrev Place.turn (p : Place) : Int := p.2.2.1
abbrev Place.quiet (p : Place) : Int := p.2.2.2.1
abbrev tyPlace : Ty := .st (.sl (.int .i64)) (.st (.st (.sl (.int .i64)) (.st (.sl (.int .i64)) .nil)) (.st (.int .i64) (.st (.int .i64) .nil)))
theorem agree_self {α : Type} (x : Option α) : agree x x = x := by simp [agree]
theorem clone_ok (s : List Int) (h : s.length ≤ 1000000) : slicesClone_int s = some s := by
  unfold slicesClone_int
  have : room (([] : List Int).length + s.length) 8 = true := room_ok (by simp; omega)
  rw [this]
  cases s with
  | nil => simp [req_true, agree_self]
  | cons a l => simp [req_true]
theorem concat2 (a b : List Int) (ha : a.length ≤ 1000) (hb : b.length ≤ 1000) : slicesConcat_int [a, b] = some (a ++ b) := by
  have w1 : w64 (0 + ((a.length : Nat) : Int)) = (a.length : Int) := by rw [Int.zero_add]; exact w64_id (by omega) (by omega)
  have w2 : w64 ((a.length : Int) + ((b.length : Nat) : Int)) = ((a.length + b.length : Nat) : Int) := by rw [w64_id (by omega) (by omega)]; omega
  have w3 : w64 ((0 : Int) + 1) = 1 := by decide
  have w4 : w64 ((1 : Int) + 1) = 2 := by decide
  have g0 : at? [a, b] 0 = some a := rfl
  have g1 : at? [a, b] 1 = some b := rfl
  have l1 : iterW (slicesConcat_int_L1 [a, b]) (((0 : Int), (0 : Int), ()), ()) = some (((((a.length + b.length : Nat) : Int)), ()), ()) := by
    have s0 : slicesConcat_int_L1 [a, b] (((0 : Int), (0 : Int), ()), ()) = some (.inl ((((a.length : Nat) : Int), (1 : Int), ()), ())) := by
      unfold slicesConcat_int_L1
      simp only [g0, w1, w3, Option.bind_some]
      rw [show decide (((a.length : Nat) : Int) < 0) = false by simp]
      rfl
    have s1 : slicesConcat_int_L1 [a, b] ((((a.length : Nat) : Int), (1 : Int), ()), ()) = some (.inl ((((a.length + b.length : Nat) : Int), (2 : Int), ()), ())) := by
      unfold slicesConcat_int_L1
      simp only [g1, w2, w4, Option.bind_some]
      rw [show decide (((a.length + b.length : Nat) : Int) < 0) = false by simp; omega]
      rfl
    have s2 : slicesConcat_int_L1 [a, b] ((((a.length + b.length : Nat) : Int), (2 : Int), ()), ()) = some (.inr ((((a.length + b.length : Nat) : Int), ()), ())) := rfl
    rw [iterW_inl s0, iterW_inl s1, iterW_inr s2]
  have l2 : iterW (slicesConcat_int_L2 [a, b]) ((([] : List Int), (0 : Int), ()), ()) = some ((a ++ b, ()), ()) := by
    have s0 : slicesConcat_int_L2 [a, b] ((([] : List Int), (0 : Int), ()), ()) = some (.inl ((a, (1 : Int), ()), ())) := by
      unfold slicesConcat_int_L2
      simp only [g0, w3, Option.bind_some]
      rw [room_ok (by simp; omega)]
      rfl
    have s1 : slicesConcat_int_L2 [a, b] ((a, (1 : Int), ()), ()) = some (.inl ((a ++ b, (2 : Int), ()), ())) := by
      unfold slicesConcat_int_L2
      simp only [g1, w4, Option.bind_some]
      rw [room_ok (by omega)]
      rfl
    have s2 : slicesConcat_int_L2 [a, b] ((a ++ b, (2 : Int), ()), ()) = some (.inr ((a ++ b, ()), ())) := rfl
    rw [iterW_inl s0, iterW_inl s1, iterW_inr s2]
  unfold slicesConcat_int
  simp only [l1, Option.bind_some]
  rw [show decide (((a.length + b.length : Nat) : Int) < 0) = false by simp; omega]
  have w5 : w64 (((a.length + b.length : Nat) : Int) - 0) = ((a.length + b.length : Nat) : Int) := by rw [Int.sub_zero]; exact w64_id (by omega) (by omega)
  simp only [w5, cond_false]
  by_cases c : a.length + b.length = 0
  · rw [c]
    simp only [Int.natCast_zero, show decide ((0 : Int) > 0) = false by decide, cond_false, Option.bind_some]
    rw [l2]
    rfl
  · have c1 : decide (((a.length + b.length : Nat) : Int) > 0) = true := by simp; omega
    have c2 : decide (0 < ((a.length + b.length : Nat) : Int)) = true := by simp; omega
    have c3 : room ((((a.length + b.length : Nat) : Int)).toNat) 8 = true := room_ok (by omega)
    have c4 : ∀ l : List Int, boundsI 0 0 l.length = true := fun l => by simp [boundsI]
    simp only [c1, c2, c3, c4, cond_true, Bool.and_self, req_true, Option.bind_some, List.take_zero]
    rw [l2]
    rfl

def outC (r : Rules) (d : Int) : Bool := decide (d < 0) || decide (d > 2 * ((r.pieces.length : Nat) : Int))
def outH (d : Int) : Bool := decide (d < 0) || decide (d > 1000)
def outT (p : Place) : Bool := (((p.turn != 0) && (p.turn != 1)) || decide (p.quiet < 0)) || decide (p.quiet > 200)
def placeBad (r : Rules) (p : Place) : Bool := p.cells.any (outC r) || ((p.h0 ++ p.h1).any outH || outT p)
def formBad (r : Rules) (p : Place) : Bool := ((((p.cells.length : Nat) : Int) != r.width * r.height) || (((p.h0.length : Nat) : Int) != ((r.pieces.length : Nat) : Int))) || (((p.h1.length : Nat) : Int) != ((r.pieces.length : Nat) : Int))
def placeErr (r : Rules) (p : Place) : Int := if ruleErr r ≠ 0 then ruleErr r else bif formBad r p then 3 else bif placeBad r p then 4 else 0

structure VR0 (r : Rules) : Prop where
  w1 : 1 ≤ r.width
  w8 : r.width ≤ 8
  h1 : 1 ≤ r.height
  h8 : r.height ≤ 8
  t1 : 1 ≤ r.pieces.length
  t6 : r.pieces.length ≤ 6
  hand : ∀ q ∈ r.pieces, 0 ≤ q.2.1 ∧ q.2.1 ≤ 64
  prom : ∀ q ∈ r.pieces, 0 ≤ q.2.2.1 ∧ q.2.2.1 ≤ ((r.pieces.length : Nat) : Int)
  ways : ∀ q ∈ r.pieces, q.2.2.2.1.length ≤ 16
  way : ∀ q ∈ r.pieces, ∀ w ∈ q.2.2.2.1, (-7 ≤ w.1 ∧ w.1 ≤ 7) ∧ (-7 ≤ w.2.1 ∧ w.2.1 ≤ 7) ∧ ¬ (w.1 = 0 ∧ w.2.1 = 0) ∧ (1 ≤ w.2.2.1 ∧ w.2.2.1 ≤ 7) ∧ (0 ≤ w.2.2.2.1 ∧ w.2.2.2.1 ≤ 2)
  start : ((r.start.length : Nat) : Int) = r.width * r.height
  startC : ∀ c ∈ r.start, 0 ≤ c ∧ c ≤ 2 * ((r.pieces.length : Nat) : Int)
  ends6 : r.ends.length ≤ 6
  ends : ∀ x ∈ r.ends, (0 ≤ x.1 ∧ x.1 ≤ 2) ∧ (if x.1 = 1 then x.2.2.1 = 0 else 1 ≤ x.2.2.1 ∧ x.2.2.1 ≤ 64) ∧ (if x.1 = 0 then x.2.1 = 0 else 0 ≤ x.2.1 ∧ x.2.1 ≤ ((r.pieces.length : Nat) : Int) - 1)
  blocked : 0 ≤ r.blocked ∧ r.blocked ≤ 2
  quiet : 0 ≤ r.quiet ∧ r.quiet ≤ 200
  repeats : r.repeats = 0 ∨ (2 ≤ r.repeats ∧ r.repeats ≤ 5)
structure Valid (r : Rules) (p : Place) : Prop where
  r0 : VR0 r
  cells : ((p.cells.length : Nat) : Int) = r.width * r.height
  l0 : p.h0.length = r.pieces.length
  l1 : p.h1.length = r.pieces.length
  cell : ∀ c ∈ p.cells, 0 ≤ c ∧ c ≤ 2 * ((r.pieces.length : Nat) : Int)
  hand0 : ∀ c ∈ p.h0, 0 ≤ c ∧ c ≤ 1000
  hand1 : ∀ c ∈ p.h1, 0 ≤ c ∧ c ≤ 1000
  turn : p.turn = 0 ∨ p.turn = 1
  quiet : 0 ≤ p.quiet ∧ p.quiet ≤ 200

theorem mem_idx {α : Type} {l : List α} {x : α} (h : x ∈ l) : ∃ i, i < l.length ∧ l[i]? = some x := by
  obtain ⟨i, hi, e⟩ := List.mem_iff_getElem.1 h
  exact ⟨i, hi, by rw [List.getElem?_eq_getElem hi, e]⟩
theorem rules_valid {r : Rules} (h : ruleErr r = 0) : VR0 r := by
  unfold ruleErr at h
  split at h
  · cases h
  split at h
  · cases h
  rename_i _ h2
  have h2 := Decidable.not_not.1 h2
  split at h
  · cases h
  rename_i h3
  split at h
  · cases h
  rename_i h4
  split at h
  · rename_i h5; exact absurd h h5
  rename_i h5
  have h5 := firstNZ_zero (Decidable.not_not.1 h5)
  split at h
  · cases h
  rename_i h6
  have h6 := Decidable.not_not.1 h6
  split at h
  · rename_i h7; exact absurd h h7
  rename_i h7
  have h7 := firstNZ_zero (Decidable.not_not.1 h7)
  split at h
  · rename_i h8; exact absurd h h8
  rename_i h8
  have h8 := Decidable.not_not.1 h8
  unfold endsErr at h8
  split at h8
  · cases h8
  rename_i h9
  have h8 := firstNZ_zero h8
  have hp : ∀ q ∈ r.pieces, (0 ≤ q.2.1 ∧ q.2.1 ≤ 64) ∧ (0 ≤ q.2.2.1 ∧ q.2.2.1 ≤ ((r.pieces.length : Nat) : Int)) ∧ q.2.2.2.1.length ≤ 16 ∧ q.2.2.2.1.any badWay = false := fun q hq => by
    obtain ⟨i, hi, e⟩ := mem_idx hq
    have := h5 i hi
    unfold pErr at this
    rw [e] at this
    simp only at this
    cases c1 : (decide (q.1 < 65) || decide (q.1 > 90))
    · cases c2 : (r.pieces.take i).any (fun q' => q'.1 == q.1)
      · cases c3 : ((!(rulesWithin q.2.1 0 64)) || (!(rulesWithin q.2.2.1 0 ((r.pieces.length : Nat) : Int))))
        · cases c4 : decide (((q.2.2.2.1.length : Nat) : Int) > 16)
          · cases c5 : q.2.2.2.1.any badWay
            · simp only [Bool.or_eq_false_iff, Bool.not_eq_false'] at c3
              simp only [decide_eq_false_iff_not] at c4
              exact ⟨within_iff.1 c3.1, within_iff.1 c3.2, by omega, rfl⟩
            · simp [c1, c2, c3, c4, c5] at this
          · simp [c1, c2, c3, c4] at this
        · simp [c1, c2, c3] at this
      · simp [c1, c2] at this
    · simp [c1] at this
  refine ⟨h2.1.1, h2.1.2, h2.2.1, h2.2.2, by omega, by omega, fun q hq => (hp q hq).1, fun q hq => (hp q hq).2.1, fun q hq => (hp q hq).2.2.1, fun q hq w hw => ?_, h6, fun c hc => ?_, by omega, fun x hx => ?_, ?_, ?_, ?_⟩
  · have := (hp q hq).2.2.2
    rw [List.any_eq_false] at this
    have := this w hw
    unfold badWay at this
    simp only [Bool.not_eq_true, Bool.or_eq_false_iff, Bool.not_eq_false', within_iff, Bool.and_eq_false_iff, beq_eq_false_iff_ne] at this
    refine ⟨this.1.1.1.1, this.1.1.1.2, fun h => ?_, this.1.2, this.2⟩
    rcases this.1.1.2 with h' | h'
    · exact h' h.1
    · exact h' h.2
  · obtain ⟨i, hi, e⟩ := mem_idx hc
    have := h7 i hi
    unfold sErr at this
    rw [List.getD_eq_getElem?_getD, e] at this
    cases c1 : rulesWithin c 0 (2 * ((r.pieces.length : Nat) : Int))
    · simp [c1] at this
    · exact within_iff.1 c1
  · obtain ⟨i, hi, e⟩ := mem_idx hx
    have := h8 i hi
    unfold eErr at this
    rw [e] at this
    simp only at this
    cases c1 : rulesWithin x.1 0 2
    · simp [c1] at this
    · cases c2 : (!(bif x.1 == 1 then x.2.2.1 == 0 else rulesWithin x.2.2.1 1 64)) || (!(bif x.1 == 0 then x.2.1 == 0 else rulesWithin x.2.1 0 (((r.pieces.length : Nat) : Int) - 1)))
      · simp only [Bool.or_eq_false_iff, Bool.not_eq_false'] at c2
        refine ⟨within_iff.1 c1, ?_, ?_⟩
        · have := c2.1
          by_cases e1 : x.1 = 1
          · rw [if_pos e1]; simpa [e1] using this
          · rw [if_neg e1]; rw [beq_f e1, cond_false] at this; exact within_iff.1 this
        · have := c2.2
          by_cases e1 : x.1 = 0
          · rw [if_pos e1]; simpa [e1] using this
          · rw [if_neg e1]; rw [beq_f e1, cond_false] at this; exact within_iff.1 this
      · simp [c1, c2] at this
  all_goals
    unfold lastErr at h
    cases c1 : (((!(rulesWithin r.blocked (0 : Int) (2 : Int))) || (!(rulesWithin r.quiet (0 : Int) (200 : Int)))) || ((r.repeats != (0 : Int)) && (!(rulesWithin r.repeats (2 : Int) (5 : Int)))))
    · simp only [Bool.or_eq_false_iff, Bool.not_eq_false', within_iff, Bool.and_eq_false_iff, bne_eq_false_iff_eq] at c1
      first
      | exact c1.1.1
      | exact c1.1.2
      | exact c1.2
    · simp [c1] at h
theorem VR0.area {r : Rules} (h : VR0 r) : 1 ≤ r.width * r.height ∧ r.width * r.height ≤ 64 := by
  have h1 : r.width * r.height ≤ 8 * 8 := Int.mul_le_mul h.w8 h.h8 (by have := h.h1; omega) (by omega)
  have h2 : 1 * 1 ≤ r.width * r.height := Int.mul_le_mul h.w1 h.h1 (by omega) (by have := h.w1; omega)
  omega
theorem sound_spec (r : Rules) (p : Place) (hr : VR0 r) (hn : p.1.length ≤ 9223372036854775807) : placeSound r p = some (bif formBad r p then 3 else bif placeBad r p then 4 else 0) := by
  have ha := hr.area
  have ht := hr.t6
  unfold placeSound formBad
  rw [show r.2.1 * r.2.2.1 = r.width * r.height from rfl, w64_id (n := r.width * r.height) (by omega) (by omega)]
  cases hb : ((((((p.1.length : Nat) : Int) != r.width * r.height) || (((p.2.1.1.length : Nat) : Int) != ((r.2.2.2.1.length : Nat) : Int))) || (((p.2.1.2.1.length : Nat) : Int) != ((r.2.2.2.1.length : Nat) : Int)))) with
  | true => rfl
  | false =>
    simp only [Bool.or_eq_false_iff, bne_eq_false_iff_eq] at hb
    obtain ⟨⟨b1, b2⟩, b3⟩ := hb
    have ht' : r.2.2.2.1.length ≤ 6 := ht
    rw [cond_false, cond_false, concat2 _ _ (by omega) (by omega), Option.bind_some]
    unfold placeBad
    have hl2 : (p.2.1.1 ++ p.2.1.2.1).length ≤ 2000 := by simp; omega
    show _ = some (bif (p.1.any (outC r) || ((p.2.1.1 ++ p.2.1.2.1).any outH || outT p)) then (4 : Int) else 0)
    generalize p.2.1.1 ++ p.2.1.2.1 = l at hl2
    have i1 : iterW (placeSound_L1 p r l) (((0 : Int), ()), ()) = some (bif p.1.any (outC r) then .inr ((true, ()), ()) else .inl ((), ())) := by
      refine iterW_any p.1 (outC r) (placeSound_L1 p r l) (.inr ((true, ()), ())) (.inl ((), ())) (fun i hi => ?_) ?_
      · unfold placeSound_L1
        simp only [show decide ((i : Int) < ((p.1.length : Nat) : Int)) = true by simp; omega, cond_true]
        rw [at?_eq _ _ (by omega) (by omega)]
        simp only [Option.bind_some, Int.toNat_natCast, List.getElem?_eq_getElem hi]
        rw [w64_id (n := (i : Int) + 1) (by omega) (by omega), show decide ((i : Int) ≥ 0) = true by simp]
        rw [w64_id (n := (2 : Int) * ((r.2.2.2.1.length : Nat) : Int)) (by omega) (by omega)]
        unfold outC
        generalize (decide (p.1[i] < (0 : Int)) || decide (p.1[i] > ((2 : Int) * ((r.2.2.2.1.length : Nat) : Int)))) = q
        cases q <;> rfl
      · unfold placeSound_L1
        simp
    have i2 : iterW (placeSound_L3 l p) (((0 : Int), ()), ()) = some (bif l.any outH then .inr ((true, ()), ()) else .inl ((), ())) := by
      refine iterW_any l outH (placeSound_L3 l p) (.inr ((true, ()), ())) (.inl ((), ())) (fun i hi => ?_) ?_
      · unfold placeSound_L3
        simp only [show decide ((i : Int) < ((l.length : Nat) : Int)) = true by simp; omega, cond_true, Int.toNat_natCast, show inb (i : Int) l.length = true from inb_iff.2 ⟨by omega, by omega⟩, req_true, show decide ((i : Int) ≥ 0) = true by simp]
        rw [w64_id (n := (i : Int) + 1) (by omega) (by omega)]
        have e : getD' l i (0 : Int) = l[i] := by simp [getD', hi]
        have e' : outH l[i] = (decide (getD' l i (0 : Int) < (0 : Int)) || decide (getD' l i (0 : Int) > (1000 : Int))) := by rw [e]; rfl
        rw [e']
        generalize (decide (getD' l i (0 : Int) < (0 : Int)) || decide (getD' l i (0 : Int) > (1000 : Int))) = q
        cases q <;> simp
      · unfold placeSound_L3
        simp
    have e4 : iterW (placeSound_L4 p r l) (((0 : Int), ()), ()) = _ := i1
    have e6 : iterW (placeSound_L6 l p) (((0 : Int), ()), ()) = _ := i2
    simp only [i1, i2, e4, e6, agree_self, Option.bind_some]
    unfold outT
    cases p.1.any (outC r)
    · cases l.any outH
      · simp only [cond_false, Sum.elim_inl, Option.bind_some, Bool.false_or]
        exact (cond_some _ _ _)
      · rfl
    · rfl
theorem place_spec (r : Rules) (p : Place) (hr : Rng tyRules r) (hn : p.1.length ≤ 9223372036854775807) : placeCheck r p = some (placeErr r p) := by
  unfold placeCheck placeErr
  rw [check_spec r hr, Option.bind_some]
  by_cases c : ruleErr r = 0
  · rw [bne_f c, cond_false, if_neg (by simpa using c), sound_spec r p (rules_valid c) hn]
    rfl
  · rw [bne_t c, cond_true, if_pos c]
theorem placeError_spec (r : Rules) (p : Place) (hr : Rng tyRules r) (hn : p.1.length ≤ 9223372036854775807) : ref1PlaceError r p = some (placeErr r p) := by
  unfold ref1PlaceError placeErr
  rw [error_spec r hr, Option.bind_some]
  by_cases c : ruleErr r = 0
  · have hv := rules_valid c
    have ha := hv.area
    have ht : r.2.2.2.1.length ≤ 6 := hv.t6
    rw [bne_f c, cond_false, if_neg (by simpa using c)]
    unfold formBad
    rw [show r.2.1 * r.2.2.1 = r.width * r.height from rfl, w64_id (n := r.width * r.height) (by omega) (by omega)]
    cases hb : ((((((p.1.length : Nat) : Int) != r.width * r.height) || (((p.2.1.1.length : Nat) : Int) != ((r.2.2.2.1.length : Nat) : Int))) || (((p.2.1.2.1.length : Nat) : Int) != ((r.2.2.2.1.length : Nat) : Int)))) with
    | true => rfl
    | false =>
      simp only [Bool.or_eq_false_iff, bne_eq_false_iff_eq] at hb
      obtain ⟨⟨b1, b2⟩, b3⟩ := hb
      rw [cond_false, cond_false]
      have i1 : ∀ b0, iterW (ref1PlaceError_L1 p r) ((b0, (0 : Int), ()), ()) = some ((((b0 && p.1.all (fun d => !outC r d)), ()), ())) := fun b0 => by
        refine iter_all p.1 (fun d => !outC r d) _ (fun b => ((b, ()), ())) b0 (fun i hi b => ?_) (fun b => ?_)
        · unfold ref1PlaceError_L1
          simp only [show decide ((i : Int) < ((p.1.length : Nat) : Int)) = true by simp; omega, cond_true]
          rw [at?_eq _ _ (by omega) (by omega), w64_id (n := (i : Int) + 1) (by omega) (by omega), w64_id (n := (2 : Int) * ((r.2.2.2.1.length : Nat) : Int)) (by omega) (by omega)]
          have : ref1In (p.1[(i : Int).toNat]'(by omega)) 0 (2 * ((r.2.2.2.1.length : Nat) : Int)) = !outC r p.1[i] := by
            unfold ref1In outC
            rw [Bool.eq_iff_iff]
            simp
          rw [Option.bind_some, this]
        · unfold ref1PlaceError_L1
          simp
      have i3 : ∀ (x6 : (Bool × Int × Unit) × Unit) (l : List Int) (b0 : Bool), getD' [p.2.1.1, p.2.1.2.1] (x6.1.2.1).toNat [] = l → l.length ≤ 6 → iterW (ref1PlaceError_L3 p x6) ((b0, (0 : Int), ()), ()) = some ((((b0 && l.all (fun d => !outH d)), ()), ())) := fun x6 l b0 hl hl6 => by
        refine iter_all l (fun d => !outH d) _ (fun b => ((b, ()), ())) b0 (fun i hi b => ?_) (fun b => ?_)
        · unfold ref1PlaceError_L3
          rw [hl]
          simp only [show decide ((i : Int) < ((l.length : Nat) : Int)) = true by simp; omega, cond_true]
          rw [at?_eq _ _ (by omega) (by omega), w64_id (n := (i : Int) + 1) (by omega) (by omega)]
          have : ref1In (l[(i : Int).toNat]'(by omega)) 0 1000 = !outH l[i] := by
            unfold ref1In outH
            rw [Bool.eq_iff_iff]
            simp
          rw [Option.bind_some, this]
        · unfold ref1PlaceError_L3
          rw [hl]
          simp
      have i2 : ∀ b0, iterW (ref1PlaceError_L2 p) ((b0, (0 : Int), ()), ()) = some ((((b0 && p.2.1.1.all (fun d => !outH d)) && p.2.1.2.1.all (fun d => !outH d), ()), ())) := fun b0 => by
        rw [iterW_inl (y := ((b0 && p.2.1.1.all (fun d => !outH d), (1 : Int), ()), ())) (by
          unfold ref1PlaceError_L2
          rw [i3 _ p.2.1.1 _ rfl (by omega)]
          rfl)]
        rw [iterW_inl (y := ((((b0 && p.2.1.1.all (fun d => !outH d)) && p.2.1.2.1.all (fun d => !outH d)), (2 : Int), ()), ())) (by
          unfold ref1PlaceError_L2
          rw [i3 _ p.2.1.2.1 _ rfl (by omega)]
          rfl)]
        exact iterW_inr rfl
      rw [i1, Option.bind_some, i2, Option.bind_some]
      have : (!((((ref1In p.2.2.1 (0 : Int) (1 : Int)) && (ref1In p.2.2.2.1 (0 : Int) (200 : Int))) && p.1.all (fun d => !outC r d)) && p.2.1.1.all (fun d => !outH d) && p.2.1.2.1.all (fun d => !outH d))) = placeBad r p := by
        have e1 : (ref1In p.2.2.1 (0 : Int) (1 : Int) && ref1In p.2.2.2.1 (0 : Int) (200 : Int)) = !outT p := by
          unfold ref1In outT
          rw [Bool.eq_iff_iff]
          simp only [Bool.and_eq_true, decide_eq_true_eq, Bool.not_eq_true', Bool.or_eq_false_iff, Bool.and_eq_false_iff, bne_eq_false_iff_eq, decide_eq_false_iff_not]
          show _ ↔ (((p.2.2.1 = 0 ∨ p.2.2.1 = 1) ∧ ¬ p.2.2.2.1 < 0) ∧ ¬ p.2.2.2.1 > 200)
          omega
        rw [e1]
        unfold placeBad
        rw [← List.not_any_eq_all_not, ← List.not_any_eq_all_not, ← List.not_any_eq_all_not, List.any_append]
        show (!(!outT p && !p.1.any (outC r) && !p.2.1.1.any outH && !p.2.1.2.1.any outH)) = (p.1.any (outC r) || (p.2.1.1.any outH || p.2.1.2.1.any outH || outT p))
        cases outT p <;> cases p.1.any (outC r) <;> cases p.2.1.1.any outH <;> cases p.2.1.2.1.any outH <;> rfl
      simp only [this]
      exact cond_some _ _ _
  · rw [bne_t c, cond_true, if_pos c]
theorem valid_of {r : Rules} {p : Place} (h : placeErr r p = 0) : Valid r p := by
  unfold placeErr at h
  split at h
  · rename_i c; exact absurd h c
  rename_i c
  have hv := rules_valid (Decidable.not_not.1 c)
  cases c1 : formBad r p
  · rw [c1, cond_false] at h
    cases c2 : placeBad r p
    · unfold formBad at c1
      unfold placeBad outT at c2
      simp only [Bool.or_eq_false_iff, bne_eq_false_iff_eq, List.any_eq_false, Bool.and_eq_false_iff, decide_eq_false_iff_not, List.mem_append, outC, outH, decide_eq_true_eq, Bool.not_eq_true] at c1 c2
      obtain ⟨⟨a1, a2⟩, a3⟩ := c1
      obtain ⟨b1, b2, ⟨b3, b4⟩, b5⟩ := c2
      exact ⟨hv, a1, by omega, by omega, fun c hc => by have := b1 c hc; omega, fun c hc => by have := b2 c (.inl hc); omega, fun c hc => by have := b2 c (.inr hc); omega, b3, by omega⟩
    · rw [c2] at h; cases h
  · rw [c1] at h; cases h
end Go.Proofs.Ytocnfflklfeocaa
