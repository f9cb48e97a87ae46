/- Games: what claims and the reference compute; three in a row. No condition of its own. -/
import Derived.Test.YticeklcmijbjfaaGreatGameP
import Derived.Test.YticeklcmijbjfaaGreatCoreT
namespace Go.Proofs.YticeklcmijbjfaaGreat
open Go.Den
set_option linter.unusedVariables false
set_option linter.unusedSimpArgs false
set_option maxRecDepth 100000

theorem endsOf_spec (r : Rules) (p : Place) (hr : Rng tyRules r) (hn : p.1.length ≤ 9223372036854775807) : endsOf r p = some (if placeErr r p = 0 then resultOf r p else 0, placeErr r p, ()) := by
  unfold endsOf
  rw [place_spec r p hr hn, Option.bind_some]
  by_cases c : placeErr r p = 0
  · rw [bne_f c, cond_false, if_pos c, result_spec (valid_of c), c]; rfl
  · rw [bne_t c, cond_true, if_neg c]
/-! ### claims -/
def repRes (r : Rules) (l : List Mv) : Int × Int × Unit := if ruleErr r = 0 then (match gameOf r l with
    | .inl s => (((timesOf s.1 : Nat) : Int), (0, ()))
    | .inr e => (0, (e, ()))) else (0, (ruleErr r, ()))
def quietRes (r : Rules) (l : List Mv) : Int × Int × Unit := ((runRes r l).1.quiet, (runRes r l).2.2)
theorem tic_rng : Rng tyRules law3Tic := rngB_ok _ _ (by decide +kernel)
theorem tic_ok : ruleErr law3Tic = 0 := by decide +kernel
/-! ### the reference -/
theorem times_L1 (L : List Place) (h0 : 0 < L.length) (h1 : L.length ≤ 1000000) (hv : ∀ r' : Unit, True) (i : Nat) (c : Int) : ref3Times_L1 L ((c, (i : Int), ()), ()) = cntF L c (i : Int) := by
  have e : ref3Times_L1 L ((c, (i : Int), ()), ()) = bif (decide ((i : Int) < ((L.length : Nat) : Int))) then (Option.bind (at? L (i : Int)) fun a => Option.bind (at? L (w64 (((L.length : Nat) : Int) - 1))) fun b => Option.bind (placeSame a b) fun x => Option.bind (bif x then some ((w64 (c + 1), ()), ()) else some ((c, ()), ())) fun y : (Int × Unit) × Unit => some (Sum.inl ((y.1.1, w64 ((i : Int) + 1), ()), ()))) else some (Sum.inr ((c, ()), ())) := rfl
  rw [e]
  unfold cntF
  have hw := w_last h0 (by omega)
  by_cases hi : i < L.length
  · rw [ltd L i hi, cond_true, cond_true, hw, inbN L i hi, inbN L _ (by omega), req_true, req_true]
    rw [at?_eq L _ (by omega) (by omega), at?_eq L ((L.length - 1 : Nat) : Int) (by omega) (by omega), Option.bind_some, Option.bind_some]
    simp only [Int.toNat_natCast]
    rw [gd_eq L i hi, gd_eq L _ (by omega)]
    cases placeSame L[i] (L[L.length - 1]'(by omega)) <;> rfl
  · rw [decide_eq_false (by omega), cond_false, cond_false]
theorem times3_spec {r : Rules} {L : List Place} (hv : ∀ p ∈ L, Valid r p) (h0 : 0 < L.length) (h1 : L.length ≤ 1000000) : ref3Times L = some ((timesOf L : Nat) : Int) := by
  have hw := w_last h0 (by omega)
  unfold ref3Times
  have := iter_count L (fun p => same0 p (lastP L)) (ref3Times_L1 L) (fun c => ((c, ()), ())) (fun i hi c hc0 hc1 => by
    rw [times_L1 L h0 h1 (fun _ => trivial)]
    unfold cntF
    rw [ltd L i hi, cond_true, inbN L i hi, req_true, hw, inbN L _ (by omega), req_true, Int.toNat_natCast, Int.toNat_natCast, gd_eq L i hi, same_spec (hv _ (List.getElem_mem hi)), Option.bind_some, Option.bind_some]
    show Option.bind (bif same0 L[i] (lastP L) then _ else _) _ = _
    rw [w64_id (n := c + 1) (by omega) (by omega), w64_id (n := (i : Int) + 1) (by omega) (by omega)]
    cases same0 L[i] (lastP L) <;> rfl) (fun c => by
    rw [times_L1 L h0 h1 (fun _ => trivial)]
    unfold cntF
    rw [nltd, cond_false])
  rw [this]
  rfl
theorem res3_spec {r : Rules} {L : List Place} (c : ruleErr r = 0) (hr : Rng tyRules r) (hv : ∀ p ∈ L, Valid r p) (h0 : 0 < L.length) (h1 : L.length ≤ 1000000) : ref3Result r L = some (gameRes r L) := by
  have hw := w_last h0 (by omega)
  have hl := hv _ (last_mem h0)
  have h64 := area_len hl
  have hrep := (rules_valid c).repeats
  unfold ref3Result
  rw [hw, at?_eq L _ (by omega) (by omega), Option.bind_some]
  simp only [Int.toNat_natCast]
  have hla : L[L.length - 1]'(by omega) = lastP L := by unfold lastP; rw [gd_eq L (L.length - 1) (by omega)]
  rw [hla, endsOf_spec r _ hr (by omega), valid_ok c hl, Option.bind_some, times3_spec hv h0 h1]
  unfold gameRes
  simp only [if_true, beq_self_eq_true, Bool.true_and]
  have hq : decide (r.2.2.2.2.2.2.2.2.2.2.1 > 0) = (r.repeats != 0) := by
    rw [Bool.eq_iff_iff]
    simp only [decide_eq_true_eq, bne_iff_ne]
    show r.repeats > 0 ↔ r.repeats ≠ 0
    omega
  rw [hq]
  show Option.bind (gopt ((resultOf r (lastP L) == 0) && (r.repeats != 0)) 0 (some ((timesOf L : Nat) : Int))) (fun x => bif ((resultOf r (lastP L) == 0) && (r.repeats != 0)) && decide (x ≥ r.repeats) then some 3 else some (resultOf r (lastP L))) = _
  cases ((resultOf r (lastP L) == 0) && (r.repeats != 0)) with
  | false => rfl
  | true =>
    simp only [gopt, cond_true, Option.bind_some, Bool.true_and]
    cases decide (((timesOf L : Nat) : Int) ≥ r.repeats) <;> rfl
def placesRes (r : Rules) (l : List Mv) : List Place × Int × Unit := if ruleErr r = 0 then (match gameOf r l with
    | .inl s => (s.1, (0, ()))
    | .inr e => ([], (e, ()))) else ([], (ruleErr r, ()))
theorem places_L1 (l : List Mv) (r : Rules) (ps : List Place) (i : Int) : ref3Places_L1 l r ((ps, i, ()), ()) = bif (decide (i < ((l.length : Nat) : Int))) then (Option.bind (at? l i) fun m => Option.bind (ref3Result r ps) fun x => bif (x != 0) then some (Sum.inr (Sum.inr (([] : List Place), (14, ()))))
    else req (inb (w64 (((ps.length : Nat) : Int) - 1)) ps.length) (Option.bind (movesAfter r (getD' ps (w64 (((ps.length : Nat) : Int) - 1)).toNat dP) m) fun z => bif (z.2.1 != 0) then some (Sum.inr (Sum.inr (([] : List Place), (13, ())))) else bif (decide (((ps.length : Nat) : Int) > 400)) then some (Sum.inr (Sum.inr (([] : List Place), (9, ()))))
      else req (room (ps.length + 1) 88) (some (Sum.inl ((ps ++ [z.1], w64 (i + 1), ()), ())))))
    else some (Sum.inr (Sum.inl ((ps, ()), ()))) := by
  unfold ref3Places_L1
  simp only [agree_self]
  first
  | rfl
  | cases decide (i < ((l.length : Nat) : Int)) with
    | false => rfl
    | true =>
      simp only [cond_true]
      congr 1
      funext m
      congr 1
      funext x
      cases (x != 0) with
      | true => rfl
      | false =>
        simp only [cond_false]
        cases inb (w64 (((ps.length : Nat) : Int) - 1)) ps.length with
        | false => rfl
        | true =>
          simp only [req_true]
          show Option.bind (Option.bind (movesAfter r (getD' ps (w64 (((ps.length : Nat) : Int) - 1)).toNat dP) m) _) _ = _
          cases movesAfter r (getD' ps (w64 (((ps.length : Nat) : Int) - 1)).toNat dP) m <;> rfl
theorem places_iter {r : Rules} (hr : Rng tyRules r) (l : List Mv) (hlen : l.length ≤ 1000000000) : ∀ (k : Nat) (i : Nat) (s : List Place × List Mv), i + k = l.length → OKG r s → iterW (ref3Places_L1 l r) ((s.1, (i : Int), ()), ()) = some (match runG r (l.drop i) s with
      | .inl s' => .inl ((s'.1, ()), ())
      | .inr e => .inr (([] : List Place), (e, ())))
  | 0, i, s, hi, h => by
    have : i = l.length := by omega
    subst this
    refine iterW_inr ?_
    rw [places_L1, nltd, cond_false, List.drop_length]
    rfl
  | k + 1, i, s, hi, h => by
    have hil : i < l.length := by omega
    have hl := h.len
    have hm := h.most
    have hv := h.last
    have h64 := area_len hv
    have hw := w_last (L := s.1) (by omega) (by omega)
    have hL := places_L1 l r s.1 (i : Int)
    rw [ltd l i hil, cond_true, at?_eq l _ (by omega) (by omega), Option.bind_some, res3_spec h.ok hr h.all (by omega) (by omega), Option.bind_some, hw, inbN s.1 _ (by omega), req_true] at hL
    simp only [Int.toNat_natCast] at hL
    have hla : getD' s.1 (s.1.length - 1) dP = lastP s.1 := rfl
    rw [hla, after_spec r _ _ hr (by omega), if_pos (valid_ok h.ok hv), Option.bind_some] at hL
    rw [List.drop_eq_getElem_cons hil]
    unfold runG
    by_cases c1 : gameRes r s.1 = 0
    · rw [bne_f c1, cond_false] at hL
      by_cases c2 : allowedB r (lastP s.1) l[i] = true
      · rw [if_pos c2] at hL
        simp only [bne_self_eq_false, cond_false] at hL
        by_cases c3 : s.2.length = 400
        · have e : stepG r s l[i] = 9 := by unfold stepG; rw [if_pos c1, if_pos c2, if_pos c3]
          rw [decide_eq_true (by omega), cond_true] at hL
          rw [iterW_inr hL, e, if_neg (by decide)]
        · have e : stepG r s l[i] = 0 := by unfold stepG; rw [if_pos c1, if_pos c2, if_neg c3]
          rw [decide_eq_false (by omega), cond_false, room_ok (n := s.1.length + 1) (by omega), req_true, w64_id (by omega) (by omega)] at hL
          rw [iterW_inl hL, if_pos e]
          exact places_iter hr l hlen k (i + 1) (nextG r s l[i]) (by omega) (next_ok h e)
      · have e : stepG r s l[i] = 13 := by unfold stepG; rw [if_pos c1, if_neg c2]
        rw [if_neg c2] at hL
        simp only [bne_t (show ¬ (13 : Int) = 0 by decide), cond_true] at hL
        rw [iterW_inr hL, e, if_neg (by decide)]
    · have e : stepG r s l[i] = 14 := by unfold stepG; rw [if_neg c1]
      rw [bne_t c1, cond_true] at hL
      rw [iterW_inr hL, e, if_neg (by decide)]
theorem places_spec (r : Rules) (l : List Mv) (hr : Rng tyRules r) (hl : l.length ≤ 1000000000) : ref3Places r l = some (placesRes r l) := by
  unfold ref3Places placesRes
  rw [begin_spec r hr, Option.bind_some]
  by_cases c : ruleErr r = 0
  · simp only [if_pos c]
    rw [show ((0 : Int) != 0) = false from rfl, cond_false]
    have hP := places_iter hr l hl l.length 0 ([beginOf r], []) (by omega) (begin_okG c)
    rw [List.drop_zero] at hP
    have hP' : iterW (ref3Places_L1 l r) ((([((beginOf r).1, (((beginOf r).2.1.1, ((beginOf r).2.1.2.1, ())), (beginOf r).2.2))]), (0 : Int), ()), ()) = _ := hP
    rw [hP', Option.bind_some]
    unfold gameOf
    cases runG r l ([beginOf r], []) <;> rfl
  · simp only [if_neg c]
    rw [bne_t c, cond_true]
end Go.Proofs.YticeklcmijbjfaaGreat
