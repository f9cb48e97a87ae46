/- PlaceChecks: the plain law. No condition of its own. -/
import Derived.Test.YtjikbbjjnndcbaaDoorPlaceY
import Derived.Test.YtjikbbjjnndcbaaDoorPlaceA
import Derived.Test.YtjikbbjjnndcbaaDoorDenQ
namespace Go.Proofs.YtjikbbjjnndcbaaDoor
open Go.Den
set_option linter.unusedVariables false
set_option linter.unusedSimpArgs false
set_option maxRecDepth 100000

theorem pthree_rng : Rng tyRules law1Three := rngB_ok _ _ (by decide +kernel)
theorem pthree_ok : ruleErr law1Three = 0 := by decide +kernel
/-- place.Text -/
theorem text_spec (r : Rules) (p : Place) (hr : Rng tyRules r) (hn : p.1.length ≤ 9223372036854775807) : placeText_i r p = some (if placeErr r p = 0 then textT r p else e0T, placeErr r p, ()) := by
  unfold placeText_i
  rw [place_spec r p hr hn, Option.bind_some]
  by_cases c : placeErr r p = 0
  · have hv := valid_of c
    have hc : ruleErr r = 0 := by
      unfold placeErr at c
      split at c
      · rename_i h; exact absurd c h
      · rename_i h; exact Decidable.not_not.1 h
    rw [bne_f c, cond_false, if_pos c, placeText_spec (caps_of hc) hv, Option.bind_some, c]
  · rw [bne_t c, cond_true, if_neg c]
theorem pthree_valid : Valid law1Three (beginOf law1Three) := begin_valid (rules_valid pthree_ok)
theorem pthree_err : placeErr law1Three (beginOf law1Three) = 0 := by decide +kernel
theorem pthree_form : placeErr law1Three ([], ([], [], ()), 0, 0, ()) = 3 := by decide +kernel
theorem pthree_text : textT law1Three (beginOf law1Three) = ByteArray.mk #[51, 47, 51, 47, 51, 32, 65, 53, 32, 65, 53, 32, 49, 32, 48] := by
  have d3 : dec 3 = one 51 := dec_small (by decide) (by decide)
  have d5 : dec 5 = one 53 := dec_small (by decide) (by decide)
  have d1 : dec 1 = one 49 := dec_small (by decide) (by decide)
  have d0 : dec 0 = one 48 := dec_small (by decide) (by decide)
  have hrow : ∀ y : Int, rowC law1Three (beginOf law1Three) y = [0, 0, 0] → rowT law1Three (rowC law1Three (beginOf law1Three) y) = one 51 := fun y hy => by
    rw [hy]
    show gapT (e0T, 3) = one 51
    unfold gapT
    simp only [show decide ((3 : Int) > 0) = true by decide, cond_true, d3, e0_app]
  have hrows : boardTl law1Three (beginOf law1Three) = [one 51, one 51, one 51] := by
    show [rowT _ _, rowT _ _, rowT _ _] = _
    rw [hrow _ (by decide +kernel), hrow _ (by decide +kernel), hrow _ (by decide +kernel)]
  have hb : boardT law1Three (beginOf law1Three) = ByteArray.mk #[51, 47, 51, 47, 51] := by
    unfold boardT
    rw [hrows]
    exact ba_ext (by decide +kernel)
  have hh : handT law1Three [5] = ByteArray.mk #[65, 53] := by
    have hf : handF law1Three [5] = ByteArray.mk #[65, 53] := by
      show handS law1Three [5] 0 e0T = _
      unfold handS
      simp only [show decide (([5] : List Int).getD 0 0 > 0) = true by decide, cond_true, show ([5] : List Int).getD 0 0 = 5 from rfl, d5, e0_app]
      exact ba_ext (by decide +kernel)
    unfold handT
    rw [hf]
    rfl
  unfold textT
  show (((((((boardT law1Three (beginOf law1Three) ++ spT) ++ handT law1Three [5]) ++ spT) ++ handT law1Three [5]) ++ spT) ++ dec 1) ++ spT) ++ dec 0 = _
  rw [hb, hh, d1, d0]
  exact ba_ext (by decide +kernel)
/-- ████ THE LAW, in plain Lean ████ -/
theorem law1PlaceChecks_true (r : Rules) (p : Place) (hr : Rng tyRules r) (hp : Rng tyPlace p) : law1PlaceChecks r p = some true := by
  have hn : p.1.length ≤ 9223372036854775807 := hp.1.1
  unfold law1PlaceChecks
  have hT : ((law1Three).1, (((law1Three).2).1, ((((law1Three).2).2).1, (((((law1Three).2).2).2).1, ((((((law1Three).2).2).2).2).1, (((((((law1Three).2).2).2).2).2).1, ((((((((law1Three).2).2).2).2).2).2).1, (((((((((law1Three).2).2).2).2).2).2).2).1, ((((((((((law1Three).2).2).2).2).2).2).2).2).1, (((((((((((law1Three).2).2).2).2).2).2).2).2).2).1, ((((((((((((law1Three).2).2).2).2).2).2).2).2).2).2).1, ()))))))))))) = law1Three := rfl
  rw [hT, begin_spec law1Three pthree_rng, if_pos pthree_ok, Option.bind_some]
  have e1 : (((beginOf law1Three, (0 : Int), ()) : Place × Int × Unit).1.1, (((beginOf law1Three, (0 : Int), ()) : Place × Int × Unit).1.2.1.1, ((beginOf law1Three, (0 : Int), ()) : Place × Int × Unit).1.2.1.2.1, ()), ((beginOf law1Three, (0 : Int), ()) : Place × Int × Unit).1.2.2) = beginOf law1Three := rfl
  rw [e1, text_spec law1Three (beginOf law1Three) pthree_rng (by decide), if_pos pthree_err, pthree_text, pthree_err, place_spec law1Three _ pthree_rng (by decide), pthree_form]
  simp only [Option.bind_some, agree_self]
  have q1 : ((((0 : Int) != 0) || ((0 : Int) != 0)) || (!((ByteArray.mk #[51, 47, 51, 47, 51, 32, 65, 53, 32, 65, 53, 32, 49, 32, 48]).toList == (ByteArray.mk #[51, 47, 51, 47, 51, 32, 65, 53, 32, 65, 53, 32, 49, 32, 48]).toList))) = false := by simp
  simp only [q1, cond_false, Option.bind_some, show ((3 : Int) != 3) = false by decide]
  rw [placeError_spec r p hr hn, Option.bind_some, text_spec r p hr hn, Option.bind_some, place_spec r p hr hn, Option.bind_some]
  simp only [bne_self_eq_false, Bool.or_self, cond_false]
  have hg : ∃ t, gopt (placeErr r p == 0) ByteArray.empty (ref1PlaceText r p) = some t ∧ (placeErr r p = 0 → t = textT r p) := by
    by_cases c : placeErr r p = 0
    · have hc : ruleErr r = 0 := by
        unfold placeErr at c
        split at c
        · rename_i h; exact absurd c h
        · rename_i h; exact Decidable.not_not.1 h
      exact ⟨textT r p, by rw [beq_t c, refText_spec (caps_of hc) (valid_of c)]; rfl, fun _ => rfl⟩
    · exact ⟨_, by rw [beq_f c]; rfl, fun h => absurd h c⟩
  obtain ⟨t, ht, ht2⟩ := hg
  rw [ht, Option.bind_some]
  have q2 : (((placeErr r p == 0) && (!((if placeErr r p = 0 then textT r p else e0T).toList == t.toList))) || ((placeErr r p != 0) && (!((if placeErr r p = 0 then textT r p else e0T).toList == (ByteArray.mk #[]).toList)))) = false := by
    by_cases c : placeErr r p = 0
    · rw [if_pos c, ht2 c]; simp [c]
    · rw [if_neg c]; simp [c]
  simp only [q2, cond_false]
  rw [begin_spec r hr, Option.bind_some, error_spec r hr, Option.bind_some]
  by_cases c : ruleErr r = 0
  · simp only [if_pos c]
    rw [bne_f c]
    have hv := rules_valid c
    have hbv := begin_valid hv
    have ha := hv.area
    have t6 := hv.t6
    have hbc : (((beginOf r).1.length : Nat) : Int) = r.width * r.height := hbv.cells
    have hl0 : (beginOf r).2.1.1.length = r.pieces.length := hbv.l0
    have hl1 : (beginOf r).2.1.2.1.length = r.pieces.length := hbv.l1
    have e2 : (((beginOf r, (0 : Int), ()) : Place × Int × Unit).1.1, (((beginOf r, (0 : Int), ()) : Place × Int × Unit).1.2.1.1, ((beginOf r, (0 : Int), ()) : Place × Int × Unit).1.2.1.2.1, ()), ((beginOf r, (0 : Int), ()) : Place × Int × Unit).1.2.2) = beginOf r := rfl
    simp only [cond_false, show ((0 : Int) == 0) = true by decide, cond_true, agree_self, refBegin_spec hv, Option.bind_some, e2]
    rw [same_place _ _ (by omega) (by omega) (by omega)]
    simp
  · simp only [if_neg c]
    rw [bne_t c]
    simp
end Go.Proofs.YtjikbbjjnndcbaaDoor
