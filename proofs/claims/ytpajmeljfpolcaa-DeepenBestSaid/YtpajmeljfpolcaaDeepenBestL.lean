/- The law DeepenBest in plain Lean: it is true. Conditions: numbers in range. -/
import Derived.Test.YtpajmeljfpolcaaDeepenBestS
import Derived.Test.YtpajmeljfpolcaaSearchR
namespace Go.Proofs.Ytpajmeljfpolcaa
open Go.Den
set_option linter.unusedVariables false
set_option linter.unusedSimpArgs false
set_option maxRecDepth 100000

/-- the greatest depth that the budget permits, and its positions -/
def deepL (r : Rules) (p : Place) (budget : Int) : Nat → Nat → Int × Int → Int × Int
  | 0, _, s => s
  | k + 1, d, s => if (treeN r d p : Int) ≤ budget then deepL r p budget k (d + 1) ((d : Int), (treeN r d p : Int)) else s
theorem deepL_rng (r : Rules) (p : Place) (budget : Int) : ∀ (k d : Nat) (s : Int × Int), deepL r p budget k d s = s ∨ ((d : Int) ≤ (deepL r p budget k d s).1 ∧ (deepL r p budget k d s).1 < (d : Int) + k)
  | 0, d, s => .inl rfl
  | k + 1, d, s => by
    unfold deepL
    split
    · right
      rcases deepL_rng r p budget k (d + 1) ((d : Int), (treeN r d p : Int)) with h | h
      · rw [h]; simp only; omega
      · omega
    · left; rfl
theorem deep_L1 (depth : Int) (r : Rules) (p : Place) (budget best nodes d : Int) : deepenBest_L1 depth r p budget ((best, nodes, d, ()), ()) =
    bif decide (d ≤ depth) then (Option.bind (perftTree r p d) fun x => bif ((x.2.1 != (0 : Int)) || (decide (x.1 > budget))) then some (Sum.inr ((best, nodes, ()), ())) else some (Sum.inl ((d, x.1, w64 (d + 1), ()), ())))
    else some (Sum.inr ((best, nodes, ()), ())) := rfl
theorem tree_at {r : Rules} {p : Place} (c : placeErr r p = 0) (hr : Rng tyRules r) (hn : p.1.length ≤ 9223372036854775807) {d : Nat} (hd : d ≤ 12) {budget : Int} (hb : budget ≤ 50000) :
    ((treeN r d p : Int) ≤ budget → perftTree r p (d : Int) = some ((treeN r d p : Int), (0, ()))) ∧ (budget < (treeN r d p : Int) → ∃ x : Int × Int × Unit, perftTree r p (d : Int) = some x ∧ ((x.2.1 != (0 : Int)) || (decide (x.1 > budget))) = true) := by
  have hok : okDepth (d : Int) = true := okDepth_iff.2 ⟨by omega, by omega⟩
  constructor
  · intro h
    rw [tree_spec r p _ hr hn, if_pos (treeErr_0 c hok (by rw [Int.toNat_natCast]; omega)), Int.toNat_natCast]
  · intro h
    by_cases h5 : 50000 < treeN r d p
    · refine ⟨_, tree_spec r p _ hr hn, ?_⟩
      have e := treeErr_b c hok (by rw [Int.toNat_natCast]; exact h5)
      rw [if_neg (by omega), e]
      rfl
    · refine ⟨_, tree_spec r p _ hr hn, ?_⟩
      rw [if_pos (treeErr_0 c hok (by rw [Int.toNat_natCast]; omega)), Int.toNat_natCast]
      simp only [bne_self_eq_false, Bool.false_or]
      exact decide_eq_true h
theorem deep_iter {r : Rules} {p : Place} (c : placeErr r p = 0) (hr : Rng tyRules r) (hn : p.1.length ≤ 9223372036854775807) {D : Nat} (hD : D ≤ 12) {budget : Int} (hb : budget ≤ 50000) : ∀ (k d : Nat) (s : Int × Int), d + k = D + 1 →
    iterW (deepenBest_L1 (D : Int) r p budget) ((s.1, s.2, (d : Int), ()), ()) = some (((deepL r p budget k d s).1, (deepL r p budget k d s).2, ()), ())
  | 0, d, s, h => by
    refine iterW_inr ?_
    rw [deep_L1, decide_eq_false (by omega), cond_false]
    rfl
  | k + 1, d, s, h => by
    have hL := deep_L1 (D : Int) r p budget s.1 s.2 (d : Int)
    rw [decide_eq_true (by omega), cond_true] at hL
    obtain ⟨t1, t2⟩ := tree_at c hr hn (d := d) (by omega) hb
    unfold deepL
    by_cases hc : (treeN r d p : Int) ≤ budget
    · rw [t1 hc, Option.bind_some] at hL
      rw [if_pos hc]
      rw [show (((0 : Int) != 0) || decide (((treeN r d p : Nat) : Int) > budget)) = false by simp; omega] at hL
      simp only [cond_false] at hL
      rw [w64_id (by omega) (by omega)] at hL
      rw [iterW_inl hL]
      exact deep_iter c hr hn hD hb k (d + 1) ((d : Int), (treeN r d p : Int)) (by omega)
    · obtain ⟨x, e1, e2⟩ := t2 (by omega)
      rw [e1, Option.bind_some, e2, cond_true] at hL
      rw [iterW_inr hL, if_neg hc]
abbrev Deep := Mv × Int × Int × Int × Unit
def dz : Deep := (((0 : Int), ((0 : Int), ((0 : Int), ()))), ((0 : Int), ((0 : Int), ((0 : Int), ()))))
def deepB (r : Rules) (p : Place) (depth budget : Int) : Deep × Int × Unit :=
  if (deepL r p budget depth.toNat 1 (0, 0)).1 = 0 then (dz, (17, ())) else (((firstOf r ((deepL r p budget depth.toNat 1 (0, 0)).1.toNat - 1) p).1, ((firstOf r ((deepL r p budget depth.toNat 1 (0, 0)).1.toNat - 1) p).2, ((deepL r p budget depth.toNat 1 (0, 0)).1, ((deepL r p budget depth.toNat 1 (0, 0)).2, ())))), (0, ()))
theorem deep_spec (r : Rules) (p : Place) (depth budget : Int) (hr : Rng tyRules r) (hn : p.1.length ≤ 9223372036854775807) : deepenBest r p depth budget = some (if placeErr r p = 0 then if 1 ≤ depth ∧ depth ≤ 12 then if 1 ≤ budget ∧ budget ≤ 50000 then if resultOf r p = 0 then deepB r p depth budget else (dz, (14, ())) else (dz, (4, ())) else (dz, (1, ())) else (dz, (placeErr r p, ()))) := by
  unfold deepenBest
  rw [place_spec r p hr hn, Option.bind_some]
  by_cases c : placeErr r p = 0
  · have hv := valid_of c
    rw [bne_f c, cond_false, if_pos c]
    by_cases cd : 1 ≤ depth ∧ depth ≤ 12
    · rw [if_pos cd, show ((decide (depth < 1)) || (decide (depth > 12))) = false by simp; omega, cond_false]
      by_cases cb : 1 ≤ budget ∧ budget ≤ 50000
      · rw [if_pos cb, show ((decide (budget < 1)) || (decide (budget > 50000))) = false by simp; omega, cond_false, result_spec hv, Option.bind_some]
        by_cases cr : resultOf r p = 0
        · rw [bne_f cr, cond_false, if_pos cr]
          obtain ⟨D, rfl⟩ := Int.eq_ofNat_of_zero_le (show 0 ≤ depth by omega)
          have hI := deep_iter c hr hn (D := D) (by omega) cb.2 D 1 (0, 0) (by omega)
          have hI' : iterW (deepenBest_L1 (D : Int) r p budget) (((0 : Int), (0 : Int), (1 : Int), ()), ()) = _ := hI
          rw [hI', Option.bind_some]
          unfold deepB
          rw [Int.toNat_natCast]
          have hrg := deepL_rng r p budget D 1 (0, 0)
          generalize deepL r p budget D 1 (0, 0) = s at hrg ⊢
          simp only
          by_cases cs : s.1 = 0
          · rw [beq_t cs, cond_true, if_pos cs]; rfl
          · rw [beq_f cs, cond_false, if_neg cs]
            have hs : 1 ≤ s.1 ∧ s.1 ≤ 12 := by
              rcases hrg with h | h
              · rw [h] at cs; exact absurd rfl cs
              · omega
            obtain ⟨e, he⟩ : ∃ e : Nat, s.1 = ((e + 1 : Nat) : Int) := ⟨s.1.toNat - 1, by omega⟩
            rw [he, first_spec hv cr (by omega), Option.bind_some]
            rfl
        · rw [bne_t cr, cond_true, if_neg cr]; rfl
      · rw [if_neg cb, show ((decide (budget < 1)) || (decide (budget > 50000))) = true by simp; omega, cond_true]; rfl
    · rw [if_neg cd, show ((decide (depth < 1)) || (decide (depth > 12))) = true by simp; omega, cond_true]; rfl
  · rw [bne_t c, cond_true, if_neg c]; rfl
abbrev Acc := Int × Int × Int × Int × Int × Int × Unit
theorem law_L1 (depth : Int) (r : Rules) (p : Place) (budget d a1 a2 a3 a4 a5 a6 : Int) : law1DeepenBest_L1 depth r p budget ((d, ()), ((a1, a2, a3, a4, a5, a6, ()), ())) =
    Option.bind (gopt (decide (d ≤ depth)) (0 : Int) (ref1Tree r p d)) fun x => bif ((decide (d ≤ depth)) && (decide (x ≤ budget))) then (Option.bind (ref1Tree r p d) fun y => some (Sum.inl ((w64 (d + 1), ()), ((a1, a2, a3, a4, d, y, ()), ()))))
    else some (Sum.inr ((), ((a1, a2, a3, a4, a5, a6, ()), ()))) := rfl
theorem law_iter {r : Rules} {p : Place} (hv : Valid r p) {D : Nat} (hD : D ≤ 12) {budget : Int} (hb : budget ≤ 50000) (a1 a2 a3 a4 : Int) : ∀ (k d : Nat) (s : Int × Int), d + k = D + 1 →
    iterW (law1DeepenBest_L1 (D : Int) r p budget) (((d : Int), ()), ((a1, a2, a3, a4, s.1, s.2, ()), ())) = some ((), ((a1, a2, a3, a4, (deepL r p budget k d s).1, (deepL r p budget k d s).2, ()), ()))
  | 0, d, s, h => by
    refine iterW_inr ?_
    rw [law_L1, decide_eq_false (by omega)]
    rfl
  | k + 1, d, s, h => by
    have hL := law_L1 (D : Int) r p budget (d : Int) a1 a2 a3 a4 s.1 s.2
    have hd : d ≤ 12 := by omega
    rw [decide_eq_true (by omega), rtree_spec hv hd] at hL
    simp only [gopt, cond_true, Option.bind_some, Bool.true_and] at hL
    obtain ⟨t1, t2, _, _⟩ := treeR_spec r d p
    unfold deepL
    by_cases hc : (treeN r d p : Int) ≤ budget
    · rw [t1 (by omega), decide_eq_true hc, cond_true, w64_id (by omega) (by omega)] at hL
      rw [if_pos hc, iterW_inl hL]
      exact law_iter hv hD hb a1 a2 a3 a4 k (d + 1) ((d : Int), (treeN r d p : Int)) (by omega)
    · have h2 : ¬ treeR r d p ≤ budget := by
        by_cases h5 : (treeN r d p : Int) ≤ 50000
        · rw [t1 h5]; exact hc
        · have := t2 (by omega); omega
      rw [decide_eq_false h2, cond_false] at hL
      rw [iterW_inr hL, if_neg hc]
theorem law_L2 (ms : List Mv) (r : Rules) (p : Place) (i : Int) (y : Acc) : law1DeepenBest_L2 ms r p ((i, ()), (y, ())) =
    bif decide (i < ((ms.length : Nat) : Int)) then req (inb i ms.length) (Option.bind (Option.bind (ref1After r p (getD' ms i.toNat d0)) fun z => Option.bind (ref1Score r z (w64 (y.2.2.2.2.1 - 1))) fun v => some ((law1Step v == y.2.2.2.1, ()), ())) fun x : (Bool × Unit) × Unit =>
      bif x.1.1 then some (Sum.inr ((), (((getD' ms i.toNat d0).1, ((getD' ms i.toNat d0).2.1, ((getD' ms i.toNat d0).2.2.1, y.2.2.2))), ()))) else some (Sum.inl ((w64 (i + 1), ()), (y, ()))))
    else some (Sum.inr ((), (y, ()))) := by
  unfold law1DeepenBest_L2
  simp only [agree_self]
theorem law_find {r : Rules} {q : Place} (h : Valid r q) (c : resultOf r q = 0) (d : Nat) (hd : d ≤ 11) (a1 a2 a3 nodes : Int) : iterW (law1DeepenBest_L2 (movesOf r q) r q) (((0 : Int), ()), ((a1, a2, a3, scoreOf r (d + 1) q, ((d + 1 : Nat) : Int), nodes, ()), ())) = some ((), (((firstOf r d q).1.1, (firstOf r d q).1.2.1, (firstOf r d q).1.2.2.1, scoreOf r (d + 1) q, ((d + 1 : Nat) : Int), nodes, ()), ())) := by
  obtain ⟨i, hi, h1, h2⟩ := first_best h c d
  have hlen := movesOf_len h
  have e0 := open_0 c
  have hst : ∀ j (hj : j < (movesOf r q).length), law1DeepenBest_L2 (movesOf r q) r q (((j : Int), ()), ((a1, a2, a3, scoreOf r (d + 1) q, ((d + 1 : Nat) : Int), nodes, ()), ())) =
      bif nearer (0 - scoreOf r d (afterOf r q (movesOf r q)[j])) == (firstOf r d q).2 then some (Sum.inr ((), (((movesOf r q)[j].1, (movesOf r q)[j].2.1, (movesOf r q)[j].2.2.1, scoreOf r (d + 1) q, ((d + 1 : Nat) : Int), nodes, ()), ()))) else some (Sum.inl ((((j + 1 : Nat) : Int), ()), ((a1, a2, a3, scoreOf r (d + 1) q, ((d + 1 : Nat) : Int), nodes, ()), ()))) := fun j hj => by
    obtain ⟨hal, va⟩ := mem_after h e0.symm hj
    have hs := score_rng r d (afterOf r q (movesOf r q)[j])
    rw [law_L2, lt_dec _ j hj, cond_true, inb_nat _ j hj, req_true, getD'_eq _ j hj, refAfter_spec h hal, Option.bind_some]
    simp only
    rw [w64_id (n := ((d + 1 : Nat) : Int) - 1) (by omega) (by omega), show (((d + 1 : Nat) : Int) - 1) = (d : Int) by omega, rscore_spec va (by omega), Option.bind_some, Option.bind_some, step_eq (by omega), score_first c, w64_id (n := (j : Int) + 1) (by omega) (by omega)]
    rfl
  have := iterW_states (f := law1DeepenBest_L2 (movesOf r q) r q) i (fun j => (((j : Int), ()), ((a1, a2, a3, scoreOf r (d + 1) q, ((d + 1 : Nat) : Int), nodes, ()), ()))) ((), (((firstOf r d q).1.1, (firstOf r d q).1.2.1, (firstOf r d q).1.2.2.1, scoreOf r (d + 1) q, ((d + 1 : Nat) : Int), nodes, ()), ())) (fun j hj => by
    rw [hst j (by omega)]
    have := h2 j hj
    rw [h1, beq_f (by simp only; omega), cond_false]) (by
    rw [hst i hi, h1, beq_t rfl, cond_true])
  exact this
theorem near_deep : deepL law1Three law1Near 50 1 1 (0, 0) = (1, 6) := by decide +kernel
theorem in_1 (n hi : Int) : ref1In n 1 hi = decide (1 ≤ n ∧ n ≤ hi) := by
  unfold ref1In
  rw [Bool.eq_iff_iff]
  simp
theorem law1DeepenBest_true (r : Rules) (p : Place) (depth budget : Int) (hr : Rng tyRules r) (hp : Rng tyPlace p) (hd : Rng (.int .i64) depth) (hb : Rng (.int .i64) budget) : law1DeepenBest r p depth budget = some true := by
  have hn : p.1.length ≤ 9223372036854775807 := hp.1.1
  have e1 : deepenBest law1Three law1Near 1 50 = some (((-1, (2, (0, ()))), (999, (1, (6, ())))), (0, ())) := by
    rw [deep_spec _ _ _ _ three_rng near_n, if_pos near_ok, if_pos (by omega), if_pos (by omega), if_pos near_res]
    unfold deepB
    rw [show (1 : Int).toNat = 1 from rfl, near_deep, if_neg (by decide)]
    show some (((firstOf law1Three 0 law1Near).1, ((firstOf law1Three 0 law1Near).2, _)), _) = _
    rw [near_f1]
  unfold law1DeepenBest
  rw [eta_r, eta_p2, e1, Option.bind_some, scored_true]
  show Option.bind (law1Light r p depth) _ = some true
  rw [light_spec r p depth hr hn, Option.bind_some]
  cases hli : lightB r p depth with
  | false => rfl
  | true =>
    rw [Bool.not_true, cond_false, deep_spec r p depth budget hr hn, placeError_spec r p hr hn]
    simp only [Option.bind_some]
    by_cases c : placeErr r p = 0
    · have hv := valid_of c
      simp only [c, if_true, beq_self_eq_true, Bool.true_and, in_1]
      by_cases cd : 1 ≤ depth ∧ depth ≤ 12
      · rw [decide_eq_true cd, if_pos cd]
        simp only [Bool.not_true, cond_false, Option.bind_some, beq_self_eq_true, Bool.true_and]
        by_cases cb : 1 ≤ budget ∧ budget ≤ 50000
        · rw [decide_eq_true cb, if_pos cb]
          simp only [Bool.not_true, cond_false, Option.bind_some, beq_self_eq_true, Bool.true_and, gopt, cond_true]
          rw [refResult_spec hv, Option.bind_some]
          by_cases cr : resultOf r p = 0
          · rw [bne_f cr, cond_false, if_pos cr, Option.bind_some]
            simp only [beq_self_eq_true, cond_true]
            obtain ⟨D, rfl⟩ := Int.eq_ofNat_of_zero_le (show 0 ≤ depth by omega)
            have hI := law_iter hv (D := D) (by omega) cb.2 0 0 0 0 D 1 (0, 0) (by omega)
            have hI' : iterW (law1DeepenBest_L1 (D : Int) r p budget) (((1 : Int), ()), (((0 : Int), ((0 : Int), ((0 : Int), ((0 : Int), ((0 : Int), ((0 : Int), ())))))), ())) = _ := hI
            rw [hI', Option.bind_some]
            unfold deepB
            rw [Int.toNat_natCast]
            have hrg := deepL_rng r p budget D 1 (0, 0)
            generalize deepL r p budget D 1 (0, 0) = s at hrg ⊢
            simp only
            by_cases cs : s.1 = 0
            · rw [beq_t cs, cond_true, if_pos cs]
              rfl
            · rw [beq_f cs, cond_false, if_neg cs]
              have hs : 1 ≤ s.1 ∧ s.1 ≤ 12 := by
                rcases hrg with h | h
                · rw [h] at cs; exact absurd rfl cs
                · omega
              obtain ⟨e, he⟩ : ∃ e : Nat, s.1 = ((e + 1 : Nat) : Int) := ⟨s.1.toNat - 1, by omega⟩
              have he11 : e ≤ 11 := by omega
              rw [he]
              simp only [Option.bind_some, bne_self_eq_false, cond_false]
              rw [rscore_spec hv (by omega), Option.bind_some, refMoves_spec hv, Option.bind_some]
              have hF := law_find hv cr e he11 0 0 0 s.2
              have hF' : iterW (law1DeepenBest_L2 (movesOf r p) r p) (((0 : Int), ()), (((0 : Int), ((0 : Int), ((0 : Int), (scoreOf r (e + 1) p, (((e + 1 : Nat) : Int), (s.2, ())))))), ())) = _ := hF
              rw [hF', Option.bind_some]
              rw [show (((e + 1 : Nat) : Int)).toNat - 1 = e by omega, ← score_first cr]
              simp
          · rw [bne_t cr, cond_true, if_neg cr]
            rfl
        · rw [decide_eq_false cb, if_neg cb]
          rfl
      · rw [decide_eq_false cd, if_neg cd]
        rfl
    · simp only [if_neg c, beq_f c, bne_t c, Bool.false_and, cond_false, Option.bind_some, gopt, cond_true]
      simp [dz]
end Go.Proofs.Ytpajmeljfpolcaa
