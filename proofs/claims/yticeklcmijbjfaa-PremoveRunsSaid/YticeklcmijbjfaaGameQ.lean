/- Games: what claims and the reference compute; three in a row. No condition of its own. -/
import Derived.Test.YticeklcmijbjfaaGameP
import Derived.Test.YticeklcmijbjfaaCoreT
namespace Go.Proofs.Yticeklcmijbjfaa
open Go.Den
set_option linter.unusedVariables false
set_option linter.unusedSimpArgs false
set_option maxRecDepth 100000

theorem endsOf_spec (r : Rules) (p : Place) (hr : Rng tyRules r) (hn : p.1.length ≤ 9223372036854775807) : endsOf r p = some (if placeErr r p = 0 then resultOf r p else 0, placeErr r p, ()) := by
  unfold endsOf
  rw [place_spec r p hr hn, Option.bind_some]
  by_cases c : placeErr r p = 0
  · rw [bne_f c, cond_false, if_pos c, result_spec (valid_of c), c]; rfl
  · rw [bne_t c, cond_true, if_neg c]
/-! ### claims -/
def repRes (r : Rules) (l : List Mv) : Int × Int × Unit := if ruleErr r = 0 then (match gameOf r l with
    | .inl s => (((timesOf s.1 : Nat) : Int), (0, ()))
    | .inr e => (0, (e, ()))) else (0, (ruleErr r, ()))
def quietRes (r : Rules) (l : List Mv) : Int × Int × Unit := ((runRes r l).1.quiet, (runRes r l).2.2)
theorem tic_rng : Rng tyRules law3Tic := rngB_ok _ _ (by decide +kernel)
theorem tic_ok : ruleErr law3Tic = 0 := by decide +kernel
/-! ### the reference -/
theorem times_L1 (L : List Place) (h0 : 0 < L.length) (h1 : L.length ≤ 1000000) (hv : ∀ r' : Unit, True) (i : Nat) (c : Int) : ref3Times_L1 L ((c, (i : Int), ()), ()) = cntF L c (i : Int) := by
  have e : ref3Times_L1 L ((c, (i : Int), ()), ()) = bif (decide ((i : Int) < ((L.length : Nat) : Int))) then (Option.bind (at? L (i : Int)) fun a => Option.bind (at? L (w64 (((L.length : Nat) : Int) - 1))) fun b => Option.bind (placeSame a b) fun x => Option.bind (bif x then some ((w64 (c + 1), ()), ()) else some ((c, ()), ())) fun y : (Int × Unit) × Unit => some (Sum.inl ((y.1.1, w64 ((i : Int) + 1), ()), ()))) else some (Sum.inr ((c, ()), ())) := rfl
  rw [e]
  unfold cntF
  have hw := w_last h0 (by omega)
  by_cases hi : i < L.length
  · rw [ltd L i hi, cond_true, cond_true, hw, inbN L i hi, inbN L _ (by omega), req_true, req_true]
    rw [at?_eq L _ (by omega) (by omega), at?_eq L ((L.length - 1 : Nat) : Int) (by omega) (by omega), Option.bind_some, Option.bind_some]
    simp only [Int.toNat_natCast]
    rw [gd_eq L i hi, gd_eq L _ (by omega)]
    cases placeSame L[i] (L[L.length - 1]'(by omega)) <;> rfl
  · rw [decide_eq_false (by omega), cond_false, cond_false]
theorem times3_spec {r : Rules} {L : List Place} (hv : ∀ p ∈ L, Valid r p) (h0 : 0 < L.length) (h1 : L.length ≤ 1000000) : ref3Times L = some ((timesOf L : Nat) : Int) := by
  have hw := w_last h0 (by omega)
  unfold ref3Times
  have := iter_count L (fun p => same0 p (lastP L)) (ref3Times_L1 L) (fun c => ((c, ()), ())) (fun i hi c hc0 hc1 => by
    rw [times_L1 L h0 h1 (fun _ => trivial)]
    unfold cntF
    rw [ltd L i hi, cond_true, inbN L i hi, req_true, hw, inbN L _ (by omega), req_true, Int.toNat_natCast, Int.toNat_natCast, gd_eq L i hi, same_spec (hv _ (List.getElem_mem hi)), Option.bind_some, Option.bind_some]
    show Option.bind (bif same0 L[i] (lastP L) then _ else _) _ = _
    rw [w64_id (n := c + 1) (by omega) (by omega), w64_id (n := (i : Int) + 1) (by omega) (by omega)]
    cases same0 L[i] (lastP L) <;> rfl) (fun c => by
    rw [times_L1 L h0 h1 (fun _ => trivial)]
    unfold cntF
    rw [nltd, cond_false])
  rw [this]
  rfl
theorem res3_spec {r : Rules} {L : List Place} (c : ruleErr r = 0) (hr : Rng tyRules r) (hv : ∀ p ∈ L, Valid r p) (h0 : 0 < L.length) (h1 : L.length ≤ 1000000) : ref3Result r L = some (gameRes r L) := by
  have hw := w_last h0 (by omega)
  have hl := hv _ (last_mem h0)
  have h64 := area_len hl
  have hrep := (rules_valid c).repeats
  unfold ref3Result
  rw [hw, at?_eq L _ (by omega) (by omega), Option.bind_some]
  simp only [Int.toNat_natCast]
  have hla : L[L.length - 1]'(by omega) = lastP L := by unfold lastP; rw [gd_eq L (L.length - 1) (by omega)]
  rw [hla, endsOf_spec r _ hr (by omega), valid_ok c hl, Option.bind_some, times3_spec hv h0 h1]
  unfold gameRes
  simp only [if_true, beq_self_eq_true, Bool.true_and]
  have hq : decide (r.2.2.2.2.2.2.2.2.2.2.1 > 0) = (r.repeats != 0) := by
    rw [Bool.eq_iff_iff]
    simp only [decide_eq_true_eq, bne_iff_ne]
    show r.repeats > 0 ↔ r.repeats ≠ 0
    omega
  rw [hq]
  show Option.bind (gopt ((resultOf r (lastP L) == 0) && (r.repeats != 0)) 0 (some ((timesOf L : Nat) : Int))) (fun x => bif ((resultOf r (lastP L) == 0) && (r.repeats != 0)) && decide (x ≥ r.repeats) then some 3 else some (resultOf r (lastP L))) = _
  cases ((resultOf r (lastP L) == 0) && (r.repeats != 0)) with
  | false => rfl
  | true =>
    simp only [gopt, cond_true, Option.bind_some, Bool.true_and]
    cases decide (((timesOf L : Nat) : Int) ≥ r.repeats) <;> rfl
def placesRes (r : Rules) (l : List Mv) : List Place × Int × Unit := if ruleErr r = 0 then (match gameOf r l with
    | .inl s => (s.1, (0, ()))
    | .inr e => ([], (e, ()))) else ([], (ruleErr r, ()))
end Go.Proofs.Yticeklcmijbjfaa
