/- The law MinimaxScores in plain Lean: it is true. Conditions: numbers in range. -/
import Derived.Test.YtpajmeljfpolcaaMinimaxScoresS
import Derived.Test.YtpajmeljfpolcaaSearchR
namespace Go.Proofs.Ytpajmeljfpolcaa
open Go.Den
set_option linter.unusedVariables false
set_option linter.unusedSimpArgs false
set_option maxRecDepth 100000

abbrev FlP := List Int × List Int × List Int × Int × Int × Unit
def flp (p : Place) : FlP := (p.1, (p.2.1.1, (p.2.1.2.1, p.2.2)))
/-- the moves of both players, and where they lead -/
def lineOf (r : Rules) : Nat → Place → List Mv × Place
  | 0, p => ([], p)
  | d + 1, p => if resultOf r p = 0 then ((firstOf r d p).1 :: (lineOf r d (afterOf r p (firstOf r d p).1)).1, (lineOf r d (afterOf r p (firstOf r d p).1)).2) else ([], p)
theorem line_len (r : Rules) : ∀ (d : Nat) (p : Place), (lineOf r d p).1.length ≤ d
  | 0, _ => Nat.le_refl _
  | d + 1, p => by
    unfold lineOf
    split
    · have := line_len r d (afterOf r p (firstOf r d p).1)
      simp only [List.length_cons]
      omega
    · exact Nat.zero_le _
theorem line_end {r : Rules} : ∀ (d : Nat) {p : Place}, Valid r p → Valid r (lineOf r d p).2 ∧ ((lineOf r d p).1.length = d ∨ ¬ resultOf r (lineOf r d p).2 = 0)
  | 0, p, h => ⟨h, .inl rfl⟩
  | d + 1, p, h => by
    unfold lineOf
    by_cases c : resultOf r p = 0
    · rw [if_pos c]
      obtain ⟨h1, h2⟩ := line_end d (after_valid h (first_allowed h c d))
      refine ⟨h1, ?_⟩
      rcases h2 with h2 | h2
      · left; simp only [List.length_cons]; omega
      · right; exact h2
    · rw [if_neg c]
      exact ⟨h, .inr c⟩
theorem line_L1 (r : Rules) (d : Int) (acc : List Mv) (q : Place) : minimaxLine_L1 r ((d, acc, ()), (flp q, ())) = Option.bind (gopt (decide (d > 0)) 0 (endsResult r q)) fun x =>
    bif (decide (d > 0)) && (x == 0) then (Option.bind (minimaxFirst r q d) fun b => req (room (acc.length + 1) 24) (Option.bind (movesMake r q b.1) fun z => some (Sum.inl ((w64 (d - 1), acc ++ [b.1], ()), (flp z, ())))))
    else some (Sum.inr ((acc, ()), (flp q, ()))) := rfl
theorem line_iter {r : Rules} : ∀ (d : Nat) (q : Place) (acc : List Mv), Valid r q → d ≤ 12 → acc.length + d ≤ 1000 → iterW (minimaxLine_L1 r) (((d : Int), acc, ()), (flp q, ())) = some ((acc ++ (lineOf r d q).1, ()), (flp (lineOf r d q).2, ()))
  | 0, q, acc, h, hd, ha => by
    refine iterW_inr ?_
    rw [line_L1]
    simp [gopt, lineOf]
  | d + 1, q, acc, h, hd, ha => by
    have hp : decide (((d + 1 : Nat) : Int) > 0) = true := decide_eq_true (by omega)
    have hL := line_L1 r ((d + 1 : Nat) : Int) acc q
    rw [hp] at hL
    simp only [gopt, cond_true, Bool.true_and] at hL
    rw [result_spec h, Option.bind_some] at hL
    unfold lineOf
    by_cases c : resultOf r q = 0
    · have ha1 := first_allowed h c d
      have hroom : room (acc.length + 1) 24 = true := room_ok (by omega)
      rw [beq_t c, cond_true, first_spec h c (by omega), Option.bind_some, hroom, req_true, make_spec h ha1, Option.bind_some, w64_id (by omega) (by omega), show (((d + 1 : Nat) : Int) - 1) = (d : Int) by omega] at hL
      rw [iterW_inl hL, line_iter d _ _ (after_valid h ha1) (by omega) (by simp; omega), if_pos c]
      simp
    · rw [beq_f c, cond_false] at hL
      rw [iterW_inr hL, if_neg c]
      simp
theorem mmline_spec (r : Rules) (p : Place) (depth : Int) (hr : Rng tyRules r) (hn : p.1.length ≤ 9223372036854775807) : minimaxLine r p depth = some (if treeErr r p depth = 0 then ((lineOf r depth.toNat p).1, (0, ())) else ([], (treeErr r p depth, ()))) := by
  unfold minimaxLine
  rw [tree_spec r p depth hr hn]
  by_cases c : treeErr r p depth = 0
  · obtain ⟨hv, hd0, hd1, _⟩ := tree_ok c
    obtain ⟨d, rfl⟩ := Int.eq_ofNat_of_zero_le hd0
    simp only [if_pos c, Option.bind_some]
    rw [show ((0 : Int) != 0) = false from rfl, cond_false]
    have := line_iter d p [] hv (by omega) (by simp; omega)
    have h' : iterW (minimaxLine_L1 r) ((((d : Nat) : Int), ([] : List Mv), ()), ((p.1, (p.2.1.1, (p.2.1.2.1, p.2.2))), ())) = _ := this
    rw [h']
    rfl
  · simp only [if_neg c, Option.bind_some]
    rw [bne_t c, cond_true]
/-! ### the law's loops -/
def mvE (x y : Mv) : Bool := ((x.1 == y.1) && ((x.2.1 == y.2.1) && ((x.2.2.1 == y.2.2.1) && true)))
theorem mvE_eq (x y : Mv) : mvE x y = decide (x = y) := mv_beq x y
theorem law_L2 (ms : List Mv) (r : Rules) (d : Int) (q : Place) (want i : Int) (b : Mv) : law1MinimaxScores_L2 ms r ((d, ()), (flp q, ())) want ((i, ()), (b, ())) =
    bif decide (i < ((ms.length : Nat) : Int)) then req (inb i ms.length) (Option.bind (Option.bind (ref1After r q (getD' ms i.toNat d0)) fun z => Option.bind (ref1Score r z (w64 (d - 1))) fun v => some ((law1Step v == want, ()), ())) fun y : (Bool × Unit) × Unit =>
      bif y.1.1 then some (Sum.inr ((), (getD' ms i.toNat d0, ()))) else some (Sum.inl ((w64 (i + 1), ()), (b, ()))))
    else some (Sum.inr ((), (b, ()))) := by
  unfold law1MinimaxScores_L2
  simp only [agree_self]
  rfl
theorem law_find {r : Rules} {q : Place} (h : Valid r q) (c : resultOf r q = 0) (d : Nat) (hd : d ≤ 11) : iterW (law1MinimaxScores_L2 (movesOf r q) r ((((d + 1 : Nat) : Int), ()), (flp q, ())) (scoreOf r (d + 1) q)) (((0 : Int), ()), (d0, ())) = some ((), ((firstOf r d q).1, ())) := by
  obtain ⟨i, hi, h1, h2⟩ := first_best h c d
  have hlen := movesOf_len h
  have e0 := open_0 c
  have hst : ∀ j (hj : j < (movesOf r q).length), law1MinimaxScores_L2 (movesOf r q) r ((((d + 1 : Nat) : Int), ()), (flp q, ())) (scoreOf r (d + 1) q) (((j : Int), ()), (d0, ())) =
      bif nearer (0 - scoreOf r d (afterOf r q (movesOf r q)[j])) == (firstOf r d q).2 then some (Sum.inr ((), ((movesOf r q)[j], ()))) else some (Sum.inl ((((j + 1 : Nat) : Int), ()), (d0, ()))) := fun j hj => by
    obtain ⟨hal, va⟩ := mem_after h e0.symm hj
    have hs := score_rng r d (afterOf r q (movesOf r q)[j])
    rw [law_L2, lt_dec _ j hj, cond_true, inb_nat _ j hj, req_true, getD'_eq _ j hj, refAfter_spec h hal, Option.bind_some, w64_id (n := ((d + 1 : Nat) : Int) - 1) (by omega) (by omega), show (((d + 1 : Nat) : Int) - 1) = (d : Int) by omega, rscore_spec va (by omega), Option.bind_some, Option.bind_some, step_eq (by omega), score_first c, w64_id (n := (j : Int) + 1) (by omega) (by omega)]
    rfl
  have := iterW_states (f := law1MinimaxScores_L2 (movesOf r q) r ((((d + 1 : Nat) : Int), ()), (flp q, ())) (scoreOf r (d + 1) q)) i (fun j => (((j : Int), ()), (d0, ()))) ((), ((firstOf r d q).1, ())) (fun j hj => by
    rw [hst j (by omega)]
    have := h2 j hj
    rw [h1, beq_f (by simp only; omega), cond_false]) (by
    rw [hst i hi, h1, beq_t rfl, cond_true])
  exact this
theorem law_L1 (r : Rules) (D : Int) (l : List Mv) (e1 e2 : Int) (m0 : Mv) (k0 : Int) (d : Int) (q : Place) : law1MinimaxScores_L1 r D (l, (e1, ())) (m0, (k0, (e2, ()))) ((d, ()), (flp q, ())) =
    Option.bind (gopt (decide (d > 0)) 0 (ref1Result r q)) fun x => bif (decide (d > 0)) && (x == 0) then
      (Option.bind (α := ((Unit) × (FlP × Unit)) ⊕ (((Int × Unit) × (FlP × Unit)) ⊕ (((Unit) × (FlP × Unit)) ⊕ Bool))) (Option.bind (ref1Score r q d) fun v => Option.bind (ref1Moves r q) fun ms => Option.bind (iterW (law1MinimaxScores_L2 ms r ((d, ()), (flp q, ())) v) (((0 : Int), ()), (d0, ()))) fun y =>
        req (imp (!(decide ((w64 (D - d)) ≥ ((l.length : Nat) : Int)))) (inb (w64 (D - d)) l.length)) (bif ((decide ((w64 (D - d)) ≥ ((l.length : Nat) : Int))) || (!mvE (getD' l (w64 (D - d)).toNat d0) y.2.1)) || ((d == D) && ((!mvE y.2.1 m0) || (k0 != v))) then some (Sum.inr (Sum.inr (Sum.inr false)))
        else Option.bind (ref1After r q y.2.1) fun z => some (Sum.inl ((), (flp z, ()))))) (Sum.elim (fun z => some (Sum.inl ((w64 (d - 1), ()), ((z.2.1.1, (z.2.1.2.1, (z.2.1.2.2.1, z.2.1.2.2.2))), ())))) some))
    else some (Sum.inr (Sum.inl ((), (flp q, ())))) := rfl
theorem law_iter {r : Rules} (D : Nat) (hD : D ≤ 12) (l : List Mv) (e1 e2 : Int) (m0 : Mv) (k0 : Int) : ∀ (d : Nat) (q : Place), Valid r q → d ≤ D → l.drop (D - d) = (lineOf r d q).1 → (d = D → resultOf r q = 0 → (m0, k0) = firstOf r (D - 1) q) →
    iterW (law1MinimaxScores_L1 r (D : Int) (l, (e1, ())) (m0, (k0, (e2, ())))) (((d : Int), ()), (flp q, ())) = some (.inl ((), (flp (lineOf r d q).2, ())))
  | 0, q, h, hd, hl, h0 => by
    refine iterW_inr ?_
    rw [law_L1]
    simp [gopt, lineOf]
  | d + 1, q, h, hd, hl, h0 => by
    have hp : decide (((d + 1 : Nat) : Int) > 0) = true := decide_eq_true (by omega)
    have hL := law_L1 r (D : Int) l e1 e2 m0 k0 ((d + 1 : Nat) : Int) q
    rw [hp] at hL
    simp only [gopt, cond_true, Bool.true_and] at hL
    rw [refResult_spec h, Option.bind_some] at hL
    unfold lineOf at hl ⊢
    by_cases c : resultOf r q = 0
    · have ha1 := first_allowed h c d
      rw [if_pos c] at hl ⊢
      have hlen : D - (d + 1) < l.length := by
        refine Decidable.byContradiction fun hh => ?_
        rw [List.drop_eq_nil_of_le (by omega)] at hl
        cases hl
      rw [List.drop_eq_getElem_cons hlen] at hl
      simp only [List.cons.injEq] at hl
      have hDd : w64 ((D : Int) - ((d + 1 : Nat) : Int)) = ((D - (d + 1) : Nat) : Int) := by rw [w64_id (by omega) (by omega)]; omega
      rw [beq_t c, cond_true, rscore_spec h (by omega), Option.bind_some, refMoves_spec h, Option.bind_some, law_find h c d (by omega), Option.bind_some, hDd,
        show decide ((((D - (d + 1) : Nat) : Int)) ≥ ((l.length : Nat) : Int)) = false from decide_eq_false (by omega), inb_nat l _ hlen, Bool.not_false] at hL
      simp only [imp, cond_true, req_true, Bool.false_or] at hL
      rw [getD'_eq l _ hlen, hl.1, mvE_eq, mvE_eq, decide_eq_true rfl, Bool.not_true, Bool.false_or] at hL
      have hb : ((((d + 1 : Nat) : Int) == (D : Int)) && ((!decide ((firstOf r d q).1 = m0)) || (k0 != scoreOf r (d + 1) q))) = false := by
        by_cases hdD : d + 1 = D
        · have := h0 hdD c
          rw [show D - 1 = d by omega] at this
          rw [score_first c, ← this]
          simp
        · rw [beq_f (by omega)]; rfl
      rw [hb, cond_false, refAfter_spec h ha1, Option.bind_some, Option.bind_some, w64_id (by omega) (by omega), show (((d + 1 : Nat) : Int) - 1) = (d : Int) by omega] at hL
      rw [iterW_inl hL]
      refine law_iter D hD l e1 e2 m0 k0 d _ (after_valid h ha1) (by omega) ?_ (fun hh => by omega)
      rw [← hl.2]
      congr 1
      omega
    · rw [beq_f c, cond_false] at hL
      rw [iterW_inr hL, if_neg c]
theorem near_line : lineOf law1Three 3 law1Near = ([(-1, (2, (0, ())))], afterOf law1Three law1Near (-1, (2, (0, ())))) := by decide +kernel
theorem law1MinimaxScores_true (r : Rules) (p : Place) (depth : Int) (hr : Rng tyRules r) (hp : Rng tyPlace p) (hd : Rng (.int .i64) depth) : law1MinimaxScores r p depth = some true := by
  have hn : p.1.length ≤ 9223372036854775807 := hp.1.1
  have e1 : minimaxLine law1Three law1Near 3 = some ([(-1, (2, (0, ())))], (0, ())) := by
    rw [mmline_spec _ _ _ three_rng near_n, if_pos near_e3]
    show some ((lineOf law1Three 3 law1Near).1, _) = _
    rw [near_line]
  unfold law1MinimaxScores
  simp only [agree_self]
  rw [eta_r, eta_p2, e1, Option.bind_some, scored_true]
  have hX : ∀ A : Option Bool, req (imp (!(((0 : Int) != 0) || (((([(-1, (2, (0, ())))] : List Mv).length : Nat) : Int) != 1))) (inb (0 : Int) ([(-1, (2, (0, ())))] : List Mv).length)) A = A := fun _ => rfl
  rw [hX]
  show Option.bind (law1Light r p depth) _ = some true
  rw [light_spec r p depth hr hn, Option.bind_some]
  cases hli : lightB r p depth with
  | false => rfl
  | true =>
    rw [Bool.not_true, cond_false, score_spec r p depth hr hn, best_spec r p depth hr hn, mmline_spec r p depth hr hn, treeErr_spec r p depth hr hn]
    simp only [Option.bind_some]
    by_cases c : treeErr r p depth = 0
    · obtain ⟨hv, hd0, hd1, ht⟩ := tree_ok c
      obtain ⟨d, rfl⟩ := Int.eq_ofNat_of_zero_le hd0
      have hd' : d ≤ 12 := by omega
      simp only [c, if_true, bne_self_eq_false, cond_false, Bool.not_false, gopt, cond_true, Int.toNat_natCast]
      rw [rscore_spec hv hd', Option.bind_some]
      simp only [bne_self_eq_false, Bool.or_self, cond_false]
      by_cases cd : ((d : Nat) : Int) = 0
      · have : d = 0 := by omega
        subst this
        rfl
      · rw [beq_f cd, Bool.not_false, cond_true, if_neg cd, refResult_spec hv, Option.bind_some, Bool.false_or]
        obtain ⟨e, rfl⟩ : ∃ e, d = e + 1 := ⟨d - 1, by omega⟩
        by_cases cr : resultOf r p = 0
        · rw [bne_f cr, cond_false, if_pos cr]
          obtain ⟨vq, hq⟩ := line_end (e + 1) hv
          have hlen := line_len r (e + 1) p
          have hL := law_iter (r := r) (e + 1) hd' (lineOf r (e + 1) p).1 0 0 (firstOf r e p).1 (firstOf r e p).2 (e + 1) p hv (Nat.le_refl _) (by simp) (fun _ _ => rfl)
          have hL' : iterW (law1MinimaxScores_L1 r ((e + 1 : Nat) : Int) ((lineOf r (e + 1) p).1, (0, ())) ((firstOf r (e + 1 - 1) p).1, ((firstOf r (e + 1 - 1) p).2, (0, ())))) ((((e + 1 : Nat) : Int), ()), ((p.1, (p.2.1.1, (p.2.1.2.1, p.2.2))), ())) = _ := hL
          rw [hL', Option.bind_some]
          simp only [Sum.elim_inl]
          rw [show ref1Result r ((flp (lineOf r (e + 1) p).2).1, (((flp (lineOf r (e + 1) p).2).2.1, ((flp (lineOf r (e + 1) p).2).2.2.1, ())), (flp (lineOf r (e + 1) p).2).2.2.2)) = _ from refResult_spec vq]
          simp only [beq_self_eq_true, Bool.and_true, Bool.true_and]
          show Option.bind (bif (!((((lineOf r (e + 1) p).1.length : Nat) : Int) == ((e + 1 : Nat) : Int))) then some (resultOf r (lineOf r (e + 1) p).2) else some 0) (fun x => some (((((lineOf r (e + 1) p).1.length : Nat) : Int) == ((e + 1 : Nat) : Int)) || (x != 0))) = some true
          rcases hq with h1 | h1
          · rw [beq_t (by omega)]
            rfl
          · cases ((((lineOf r (e + 1) p).1.length : Nat) : Int) == ((e + 1 : Nat) : Int)) with
            | true => rfl
            | false =>
              simp only [Bool.not_false, cond_true, Option.bind_some, Bool.false_or]
              rw [bne_t h1]
        · rw [bne_t cr, cond_true, if_neg cr]
          unfold lineOf
          rw [if_neg cr]
          rfl
    · simp only [if_neg c]
      rw [bne_t c, cond_true]
      simp [d0]
end Go.Proofs.Ytpajmeljfpolcaa
