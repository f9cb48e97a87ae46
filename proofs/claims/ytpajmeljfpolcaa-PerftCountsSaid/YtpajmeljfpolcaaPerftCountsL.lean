/- The law PerftCounts in plain Lean: it is true. Conditions: numbers in range. -/
import Derived.Test.YtpajmeljfpolcaaPerftCountsS
import Derived.Test.YtpajmeljfpolcaaSearchR
namespace Go.Proofs.Ytpajmeljfpolcaa
open Go.Den
set_option linter.unusedVariables false
set_option linter.unusedSimpArgs false
set_option maxRecDepth 100000

abbrev Part := Mv × Int × Unit
def dPart : Part := (((0 : Int), ((0 : Int), ((0 : Int), ()))), ((0 : Int), ()))
/-- what Divide returns for a valid position -/
def parts (r : Rules) (d : Nat) (p : Place) : List Part := (openMoves r p).map fun m => (m, ((countN r d (afterOf r p m) : Int), ()))
theorem divide_L1 (ms : List Mv) (r : Rules) (p : Place) (depth : Int) (acc : List Part) (i : Int) : perftDivide_L1 ms r p depth ((acc, i, ()), ()) =
    bif decide (i < ((ms.length : Nat) : Int)) then req (inb i ms.length) (Option.bind (movesMake r p (getD' ms i.toNat d0)) fun q => Option.bind (perftCounterWalk (r, 0, 0, ()) q (w64 (depth - 1))) fun x =>
      req (room (acc.length + 1) 32) (some (Sum.inl ((acc ++ [(getD' ms i.toNat d0, x.1.2.2)], w64 (i + 1), ()), ()))))
    else some (Sum.inr ((acc, ()), ())) := rfl
theorem flat1 {A B : Type} (f : A → B) (l : List A) (d : A) : (List.range l.length).flatMap (fun i => [f (getD' l i d)]) = l.map f := by
  induction l with
  | nil => rfl
  | cons x l ih =>
    rw [List.length_cons, List.range_succ_eq_map, List.flatMap_cons, List.flatMap_map]
    rw [List.map_cons, ← ih]
    rfl
theorem divide_spec (r : Rules) (p : Place) (depth : Int) (hr : Rng tyRules r) (hn : p.1.length ≤ 9223372036854775807) : perftDivide r p depth = some (if placeErr r p = 0 then if depth = 0 then ([], (1, ())) else if treeErr r p depth = 0 then (parts r (depth.toNat - 1) p, (0, ())) else ([], (treeErr r p depth, ())) else ([], (placeErr r p, ()))) := by
  unfold perftDivide
  rw [place_spec r p hr hn, Option.bind_some]
  by_cases c : placeErr r p = 0
  · rw [bne_f c, cond_false, if_pos c]
    by_cases cd : depth = 0
    · rw [beq_t cd, cond_true, if_pos cd]
    · rw [beq_f cd, cond_false, if_neg cd, check_search r p depth hr hn, Option.bind_some]
      by_cases ct : treeErr r p depth = 0
      · obtain ⟨hv, hd0, hd1, ht⟩ := tree_ok ct
        obtain ⟨d, rfl⟩ := Int.eq_ofNat_of_zero_le hd0
        obtain ⟨e, rfl⟩ : ∃ e, d = e + 1 := ⟨d - 1, by omega⟩
        simp only [if_pos ct]
        rw [show ((0 : Int) != 0) = false from rfl, cond_false, endsMoves_spec hv, Option.bind_some]
        simp only [Int.toNat_natCast] at ht ⊢
        have hlen := open_len hv
        unfold parts
        unfold treeN at ht
        generalize hms : openMoves r p = ms at hlen ht ⊢
        have hL := iter_app ms.length 1 (perftDivide_L1 ms r p ((e + 1 : Nat) : Int)) (fun i => [(getD' ms i d0, ((countN r e (afterOf r p (getD' ms i d0)) : Int), ()))]) (fun a => ((a, ()), ())) [] (fun _ _ => by simp) (fun i hi a ha => by
          obtain ⟨hal, va⟩ := mem_after hv hms.symm hi
          have hmem : treeN r e (afterOf r p ms[i]) ≤ (ms.map fun m => treeN r e (afterOf r p m)).sum := by
            have : ∀ (l : List Mv) (m : Mv), m ∈ l → treeN r e (afterOf r p m) ≤ (l.map fun m => treeN r e (afterOf r p m)).sum := by
              intro l
              induction l with
              | nil => intro m hm; cases hm
              | cons x l ih =>
                intro m hm
                rw [List.map_cons, List.sum_cons]
                rcases List.mem_cons.1 hm with rfl | h
                · omega
                · have := ih m h; omega
            exact this ms _ (List.getElem_mem hi)
          obtain ⟨w1, _⟩ := walkS_spec r e (afterOf r p ms[i]) 0 0
          have hg : getD' ms i d0 = ms[i] := getD'_eq ms i hi d0
          rw [divide_L1, lt_dec ms i hi, cond_true, inb_nat ms i hi, req_true, getD'_eq ms i hi, make_spec hv hal, Option.bind_some, w64_id (n := ((e + 1 : Nat) : Int) - 1) (by omega) (by omega),
            show (((e + 1 : Nat) : Int) - 1) = (e : Int) by omega, walk_spec va (by omega), Option.bind_some, w1 (by omega), w64_id (n := (i : Int) + 1) (by omega) (by omega), hg]
          have hroom : room (a.length + 1) 32 = true := room_ok (by simp at ha; omega)
          rw [hroom, req_true]
          simp only [ctOf, Int.zero_add]) (fun a => by
          rw [divide_L1, nlt_dec, cond_false])
        rw [hL, Option.bind_some, List.nil_append, flat1 (fun m => (m, ((countN r e (afterOf r p m) : Int), ()))) ms d0]
        rfl
      · simp only [if_neg ct]
        rw [bne_t ct, cond_true]
  · rw [bne_t c, cond_true, if_neg c]
theorem near_parts : parts law1Three 0 law1Near = [2, 5, 6, 7, 8].map fun i : Int => (((-1 : Int), (i, ((0 : Int), ()))), ((1 : Int), ())) := by
  unfold parts
  rw [near_open]
  rfl
theorem begin_ok : placeErr law1Three (beginOf law1Three) = 0 := by decide +kernel
theorem begin_t2 : treeN law1Three 2 (beginOf law1Three) = 82 := by decide +kernel
theorem begin_c2 : countN law1Three 2 (beginOf law1Three) = 72 := by decide +kernel
theorem begin_e2 : treeErr law1Three (beginOf law1Three) 2 = 0 := treeErr_0 begin_ok rfl (by show ¬ 50000 < treeN law1Three 2 (beginOf law1Three); rw [begin_t2]; omega)
theorem counted_true : law1Counted = some true := by
  have e1 : placeBegin law1Three = some (beginOf law1Three, 0, ()) := by rw [begin_spec _ three_rng, if_pos three_ok]
  have e2 : perftCount law1Three (beginOf law1Three) 2 = some (72, (0, ())) := by
    rw [count_spec _ _ _ three_rng (by decide), if_pos begin_e2]
    show some (((countN law1Three 2 (beginOf law1Three) : Nat) : Int), _) = _
    rw [begin_c2]
    rfl
  have e3 : perftTree law1Three (beginOf law1Three) 2 = some (82, (0, ())) := by
    rw [tree_spec _ _ _ three_rng (by decide), if_pos begin_e2]
    show some (((treeN law1Three 2 (beginOf law1Three) : Nat) : Int), _) = _
    rw [begin_t2]
    rfl
  unfold law1Counted
  simp only [eta_r, agree_self]
  rw [e1, Option.bind_some]
  simp only [eta_p]
  rw [e2, Option.bind_some, Option.bind_some, e3]
  rfl
theorem law_L1 (ps : List Part) (e : Int) (ms : List Mv) (r : Rules) (p : Place) (depth i : Int) : law1PerftCounts_L1 (ps, e, ()) ms r p depth ((i, ()), ()) =
    bif decide (i < ((ps.length : Nat) : Int)) then req (inb i ps.length) (Option.bind (req (inb i ms.length) (req (imp (!(!decide ((getD' ps i.toNat dPart).1 = getD' ms i.toNat d0))) (inb i ms.length)) (bif (!decide ((getD' ps i.toNat dPart).1 = getD' ms i.toNat d0)) then some ((true, ()), ()) else
      Option.bind (ref1After r p (getD' ms i.toNat d0)) fun q => Option.bind (ref1Count r q (w64 (depth - 1))) fun v => some (((getD' ps i.toNat dPart).2.1 != v, ()), ())))) fun x : (Bool × Unit) × Unit => bif x.1.1 then some (Sum.inr (Sum.inr false)) else some (Sum.inl ((w64 (i + 1), ()), ())))
    else some (Sum.inr (Sum.inl ((), ()))) := by
  unfold law1PerftCounts_L1
  simp only [agree_self]
  rw [← mv_beq]
  rfl
theorem law1PerftCounts_true (r : Rules) (p : Place) (depth : Int) (hr : Rng tyRules r) (hp : Rng tyPlace p) (hd : Rng (.int .i64) depth) : law1PerftCounts r p depth = some true := by
  have hn : p.1.length ≤ 9223372036854775807 := hp.1.1
  have e1 : perftDivide law1Three law1Near 1 = some (parts law1Three 0 law1Near, (0, ())) := by
    rw [divide_spec _ _ _ three_rng near_n, if_pos near_ok, if_neg (by decide), if_pos near_e1]
    rfl
  unfold law1PerftCounts
  rw [eta_r, eta_p2, e1, near_parts, Option.bind_some, counted_true]
  rw [light_spec r p depth hr hn]
  simp only [Option.bind_some]
  cases hli : lightB r p depth with
  | false => rfl
  | true =>
    have hX : ∀ (A B C : Option Bool), req (imp (!((((0 : Int) != 0)) || ((((([2, 5, 6, 7, 8] : List Int).map fun i : Int => (((-1 : Int), (i, ((0 : Int), ()))), ((1 : Int), ()))).length : Nat) : Int) != 5))) (inb 0 (([2, 5, 6, 7, 8] : List Int).map fun i : Int => (((-1 : Int), (i, ((0 : Int), ()))), ((1 : Int), ()))).length)) A = A := fun _ _ _ => rfl
    rw [hX _ none none]
    simp only [Bool.not_true, cond_false]
    show Option.bind (perftCount r p depth) _ = some true
    rw [count_spec r p depth hr hn, tree_spec r p depth hr hn, divide_spec r p depth hr hn, treeErr_spec r p depth hr hn]
    simp only [Option.bind_some]
    by_cases c : treeErr r p depth = 0
    · obtain ⟨hv, hd0, hd1, ht⟩ := tree_ok c
      have c0 : placeErr r p = 0 := by
        refine Decidable.byContradiction fun h => ?_
        rw [treeErr_p depth h] at c
        exact h c
      obtain ⟨d, rfl⟩ := Int.eq_ofNat_of_zero_le hd0
      simp only [Int.toNat_natCast] at ht
      simp only [c, c0, if_true, bne_self_eq_false, cond_false, Bool.or_self, Bool.not_false, gopt, cond_true]
      have hd' : d ≤ 12 := by omega
      rw [rcount_spec hv hd' ht, Option.bind_some]
      have t1 := (treeR_spec r d p).1 (by omega)
      simp only [Int.toNat_natCast, bne_self_eq_false, Bool.or_self, Bool.not_false, cond_true]
      rw [rtree_spec hv hd', Option.bind_some, t1]
      simp only [bne_self_eq_false, cond_false]
      by_cases cd : ((d : Nat) : Int) = 0
      · rw [beq_t cd, cond_true, if_pos cd]; rfl
      · rw [beq_f cd, cond_false, if_neg cd, refResult_spec hv, Option.bind_some]
        by_cases cr : resultOf r p = 0
        · rw [bne_f cr, cond_false, refMoves_spec hv, Option.bind_some]
          have hlen := movesOf_len hv
          obtain ⟨e, rfl⟩ : ∃ e, d = e + 1 := ⟨d - 1, by omega⟩
          unfold treeN at ht
          simp only [Nat.add_sub_cancel]
          unfold parts
          rw [← open_0 cr] at hlen ⊢
          generalize hms : openMoves r p = ms at hlen ht ⊢
          simp only [bne_self_eq_false, List.length_map, Bool.or_self, cond_false]
          have hL := iterW_states (f := law1PerftCounts_L1 (ms.map fun m => (m, ((countN r e (afterOf r p m) : Int), ())), (0, ())) ms r p ((e + 1 : Nat) : Int)) ms.length (fun i => (((i : Int), ()), ())) (.inl ((), ())) (fun i hi => by
            obtain ⟨hal, va⟩ := mem_after hv hms.symm hi
            have hle : treeN r e (afterOf r p ms[i]) ≤ 50000 := by
              have := mem_sum (fun m => treeN r e (afterOf r p m)) (List.getElem_mem hi)
              omega
            have hi2 : i < (ms.map fun m => (m, ((countN r e (afterOf r p m) : Int), ()))).length := by rw [List.length_map]; exact hi
            rw [law_L1, lt_dec _ i hi2, cond_true, inb_nat _ i hi2, req_true, inb_nat ms i hi, req_true, getD'_eq ms i hi, getD'_eq _ i hi2, List.getElem_map]
            simp only [decide_true, Bool.not_true, cond_false]
            rw [refAfter_spec hv hal, Option.bind_some, w64_id (n := ((e + 1 : Nat) : Int) - 1) (by omega) (by omega), show (((e + 1 : Nat) : Int) - 1) = (e : Int) by omega, rcount_spec va (by omega) hle]
            simp only [Option.bind_some, bne_self_eq_false, cond_false, Bool.not_false, imp, cond_true, req_true]
            rw [w64_id (n := (i : Int) + 1) (by omega) (by omega)]
            rfl) (by
            rw [law_L1, List.length_map, show decide (((ms.length : Nat) : Int) < ((ms.length : Nat) : Int)) = false by simp, cond_false])
          have hL' : iterW (law1PerftCounts_L1 (ms.map fun m => (m, ((countN r e (afterOf r p m) : Int), ())), (0, ())) ms r p ((e + 1 : Nat) : Int)) (((0 : Int), ()), ()) = _ := hL
          rw [hL']
          rfl
        · rw [bne_t cr, cond_true]
          unfold parts
          rw [open_n cr]
          rfl
    · have hdz : placeErr r p = 0 → ¬ depth = 0 := fun h hz => by
        subst hz
        refine c (treeErr_0 h rfl ?_)
        show ¬ 50000 < treeN r 0 p
        unfold treeN; omega
      simp only [if_neg c]
      rw [bne_t c, cond_true]
      by_cases c0 : placeErr r p = 0
      · simp only [if_pos c0, if_neg (hdz c0)]
        simp
      · simp only [if_neg c0]
        rw [treeErr_p depth c0]
        simp
end Go.Proofs.Ytpajmeljfpolcaa
