/- The law ZobKeys in plain Lean: it is true. Conditions: numbers in range. -/
import Derived.Test.YtmieohplcoeadaaZobKeysS
import Derived.Test.YtmieohplcoeadaaCoreK
namespace Go.Proofs.Ytmieohplcoeadaa
open Go.Den
set_option linter.unusedVariables false
set_option linter.unusedSimpArgs false
set_option maxRecDepth 100000

theorem three_rng : Rng tyRules law1Three := rngB_ok _ _ (by decide +kernel)
theorem won_ok : placeErr law1Three law1Won = 0 := by decide +kernel
theorem zkey_spec (r : Rules) (p : Place) (hr : Rng tyRules r) (hn : p.1.length ≤ 9223372036854775807) : zobKey r p = some (if placeErr r p = 0 then keyOf p else 0, placeErr r p, ()) := by
  unfold zobKey
  rw [place_spec r p hr hn, Option.bind_some]
  by_cases c : placeErr r p = 0
  · rw [bne_f c, cond_false, if_pos c, key_spec (valid_of c), c]; rfl
  · rw [bne_t c, cond_true, if_neg c]
theorem change_spec (r : Rules) (p : Place) (m : Mv) (hr : Rng tyRules r) (hn : p.1.length ≤ 9223372036854775807) : zobChange r p m = some (if placeErr r p = 0 then if allowedB r p m = true then (keyOf (afterOf r p m), 0, ()) else (0, 13, ()) else (0, placeErr r p, ())) := by
  unfold zobChange
  rw [after_spec r p m hr hn, Option.bind_some]
  by_cases c : placeErr r p = 0
  · have hv := valid_of c
    simp only [if_pos c]
    cases ha : allowedB r p m with
    | false => rfl
    | true =>
      simp only [if_true]
      rw [show ((0 : Int) != 0) = false from rfl, cond_false]
      have hk := key_spec (after_valid hv ha)
      rw [show zobOf ((afterOf r p m).1, (((afterOf r p m).2.1.1, ((afterOf r p m).2.1.2.1, ())), (afterOf r p m).2.2)) = _ from hk]
      rfl
  · simp only [if_neg c]
    rw [bne_t c, cond_true]
theorem law1ZobKeys_true (r : Rules) (p : Place) (m : Mv) (n : Int) (hr : Rng tyRules r) (hp : Rng tyPlace p) (hm : Rng (.st (.int .i64) (.st (.int .i64) (.st (.int .i64) .nil))) m) (hnr : Rng (.int .i64) n) : law1ZobKeys r p m n = some true := by
  have hn : p.1.length ≤ 9223372036854775807 := hp.1.1
  have hw := valid_of won_ok
  have e1 := zkey_spec law1Three law1Won three_rng (by decide)
  rw [if_pos won_ok, won_ok] at e1
  have e2 := rkey_spec hw
  have hmx : ∀ k, (zobMix k != ref1Mixed k) = false := fun k => bne_f (mix_eq k)
  unfold law1ZobKeys law1ZobKeys_V
  rw [e1]
  simp only [Option.bind_some]
  rw [e2]
  simp only [Option.bind_some, hmx, bne_self_eq_false, Bool.or_self, cond_false]
  rw [zkey_spec r p hr hn, change_spec r p m hr hn, placeError_spec r p hr hn]
  simp only [Option.bind_some]
  by_cases c : placeErr r p = 0
  · have hv := valid_of c
    simp only [if_pos c]
    rw [c, rkey_spec hv, allowed_spec hv]
    simp only [bne_self_eq_false, cond_false, Bool.not_false, gopt, cond_true, Option.bind_some, Bool.or_self]
    cases ha : allowedB r p m with
    | false => rfl
    | true =>
      rw [refAfter_spec hv ha]
      have hk := rkey_spec (after_valid hv ha)
      simp only [if_true, Bool.not_true, cond_false, show ((0 : Int) == 0) = true from rfl, cond_true, Option.bind_some]
      rw [show ref1Key ((afterOf r p m).1, (((afterOf r p m).2.1.1, ((afterOf r p m).2.1.2.1, ())), (afterOf r p m).2.2)) = _ from hk]
      simp
  · simp only [if_neg c]
    rw [bne_t c, cond_true]
    simp
end Go.Proofs.Ytmieohplcoeadaa
