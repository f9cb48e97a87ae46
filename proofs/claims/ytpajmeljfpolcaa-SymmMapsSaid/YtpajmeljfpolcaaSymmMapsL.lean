/- The law SymmMaps in plain Lean: it is true. Conditions: numbers in range. -/
import Derived.Test.YtpajmeljfpolcaaSymmMapsB
namespace Go.Proofs.Ytpajmeljfpolcaa
open Go.Den
set_option linter.unusedVariables false
set_option linter.unusedSimpArgs false
set_option maxRecDepth 100000

theorem area {w h : Int} (hb : okB w h) : 1 ≤ w * h ∧ w * h ≤ 64 ∧ w64 (w * h) = w * h := by
  obtain ⟨hw, hh⟩ := hb
  have h1 : w * h ≤ 8 * 8 := Int.mul_le_mul hw.2 hh.2 (by omega) (by omega)
  have h2 : 1 * 1 ≤ w * h := Int.mul_le_mul hw.1 hh.1 (by omega) (by omega)
  exact ⟨by omega, by omega, w64_id (by omega) (by omega)⟩
theorem many_rng (w h : Int) : 4 ≤ manyI w h ∧ manyI w h ≤ 8 := by unfold manyI; split <;> omega
theorem chk_eq (w h : Int) : symmCheck w h = if okB w h then 0 else 4 := by
  unfold symmCheck
  by_cases c : okB w h
  · rw [if_pos c]
    unfold okB at c
    have : ((((decide (w < (1 : Int))) || (decide (w > (8 : Int)))) || (decide (h < (1 : Int)))) || (decide (h > (8 : Int)))) = false := by
      simp only [Bool.or_eq_false_iff, decide_eq_false_iff_not]; omega
    rw [this]; rfl
  · rw [if_neg c]
    unfold okB at c
    have : ((((decide (w < (1 : Int))) || (decide (w > (8 : Int)))) || (decide (h < (1 : Int)))) || (decide (h > (8 : Int)))) = true := by
      simp only [Bool.or_eq_true, decide_eq_true_eq]; omega
    rw [this]; rfl
theorem cnt_eq (w h : Int) : symmCount w h = manyI w h := by
  unfold symmCount manyI
  by_cases e : w = h
  · rw [beq_t e, if_pos e]; rfl
  · rw [beq_f e, if_neg e]; rfl
theorem sym_eq (w h : Int) : ref1Symmetries w h = if okB w h then manyI w h else 0 := by
  unfold ref1Symmetries ref1In manyI
  by_cases c : okB w h
  · rw [if_pos c]
    unfold okB at c
    have : ((!(decide (w ≥ 1) && decide (w ≤ 8))) || !(decide (h ≥ 1) && decide (h ≤ 8))) = false := by
      simp only [Bool.or_eq_false_iff, Bool.not_eq_false', Bool.and_eq_true, decide_eq_true_eq]; omega
    rw [this, cond_false]
    by_cases e : w = h
    · rw [bne_f e, if_pos e]; rfl
    · rw [bne_t e, if_neg e]; rfl
  · rw [if_neg c]
    unfold okB at c
    have : ((!(decide (w ≥ 1) && decide (w ≤ 8))) || !(decide (h ≥ 1) && decide (h ≤ 8))) = true := by
      simp only [Bool.or_eq_true, Bool.not_eq_true', Bool.and_eq_false_iff, decide_eq_false_iff_not]; omega
    rw [this]; rfl
theorem in_iff (n a b : Int) : ref1In n a b = true ↔ a ≤ n ∧ n ≤ b := by
  unfold ref1In
  rw [Bool.and_eq_true, decide_eq_true_eq, decide_eq_true_eq]
theorem in_dec (n a b : Int) : ref1In n a b = decide (a ≤ n ∧ n ≤ b) := by
  rw [Bool.eq_iff_iff, in_iff, decide_eq_true_eq]
/-! ### the program's functions -/
theorem chki_eq (w h s : Int) : symmCheck_i w h [s] = some (if okB w h then if 0 ≤ s ∧ s < manyI w h then 0 else 8 else 4) := by
  have hstep : symmCheck_i_L1 [s] w h (((0 : Int), ()), ()) = bif (decide (s < (0 : Int)) || decide (s ≥ symmCount w h)) then some (Sum.inr (Sum.inr 8)) else some (Sum.inl (((1 : Int), ()), ())) := rfl
  unfold symmCheck_i
  rw [chk_eq]
  by_cases c : okB w h
  · rw [if_pos c, if_pos c, bne_self_eq_false, cond_false]
    by_cases cs : 0 ≤ s ∧ s < manyI w h
    · rw [if_pos cs, iterW_inl (y := (((1 : Int), ()), ())) (by
        have : (decide (s < (0 : Int)) || decide (s ≥ symmCount w h)) = false := by
          rw [cnt_eq, Bool.or_eq_false_iff, decide_eq_false_iff_not, decide_eq_false_iff_not]; omega
        rw [hstep, this]
        rfl), iterW_inr (r := .inl ((), ())) (by rfl)]
      rfl
    · rw [if_neg cs, iterW_inr (r := .inr 8) (by
        have : (decide (s < (0 : Int)) || decide (s ≥ symmCount w h)) = true := by
          rw [cnt_eq, Bool.or_eq_true, decide_eq_true_eq, decide_eq_true_eq]; omega
        rw [hstep, this]
        rfl)]
      rfl
  · rw [if_neg c, if_neg c]
    rfl
theorem map_eq (w h s q : Int) : symmMap w h s q = some (if okB w h then if 0 ≤ s ∧ s < manyI w h then if 0 ≤ q ∧ q < w * h then (mvTo w h s q, (0, ())) else (0, (4, ())) else (0, (8, ())) else (0, (4, ()))) := by
  unfold symmMap
  rw [chki_eq, Option.bind_some]
  by_cases c : okB w h
  · have ha := area c
    simp only [if_pos c]
    by_cases cs : 0 ≤ s ∧ s < manyI w h
    · simp only [if_pos cs]
      rw [bne_self_eq_false, cond_false, ha.2.2]
      by_cases cq : 0 ≤ q ∧ q < w * h
      · rw [if_pos cq, show (decide (q < (0 : Int)) || decide (q ≥ w * h)) = false by rw [Bool.or_eq_false_iff, decide_eq_false_iff_not, decide_eq_false_iff_not]; omega, cond_false, (mv_spec c cs cq).1, Option.bind_some]
      · rw [if_neg cq, show (decide (q < (0 : Int)) || decide (q ≥ w * h)) = true by rw [Bool.or_eq_true, decide_eq_true_eq, decide_eq_true_eq]; omega, cond_true]
    · simp only [if_neg cs]
      rfl
  · simp only [if_neg c]
    rfl
theorem all_eq (w h : Int) : ∃ l : List Int, symmAll w h = some (if okB w h then (l, (0, ())) else ([], (4, ()))) ∧ ((l.length : Nat) : Int) = manyI w h := by
  have hm := many_rng w h
  by_cases c : okB w h
  · refine ⟨(List.range (manyI w h).toNat).flatMap (fun i => [((i : Nat) : Int)]), ?_, ?_⟩
    · unfold symmAll
      rw [chk_eq, if_pos c, if_pos c, bne_self_eq_false, cond_false]
      rw [iter_app (A := Int) (manyI w h).toNat 1 (symmAll_L1 w h) (fun i => [((i : Nat) : Int)]) (fun a => ((a, ()), ())) [] (fun i _ => by simp) (fun i hi a ha => ?_) (fun a => ?_)]
      · rfl
      · unfold symmAll_L1
        simp only [List.length_nil] at ha
        simp only
        rw [cnt_eq, decide_eq_true (by omega), cond_true, room_ok (by simp only [List.length_singleton]; omega), req_true, w64_id (n := (i : Int) + 1) (by omega) (by omega)]
      · unfold symmAll_L1
        simp only
        rw [cnt_eq, decide_eq_false (by omega), cond_false]
    · have : ∀ n, ((List.range n).flatMap (fun i => [((i : Nat) : Int)])).length = n := fun n => by
        induction n with
        | zero => rfl
        | succ n ih => rw [List.range_succ, List.flatMap_append, List.length_append, ih]; rfl
      rw [this]
      omega
  · refine ⟨List.replicate (manyI w h).toNat 0, ?_, by rw [List.length_replicate]; omega⟩
    unfold symmAll
    rw [chk_eq, if_neg c, if_neg c]
    rfl
noncomputable def rawO (w h q : Int) : List Int := (List.range (manyI w h).toNat).flatMap fun i => [mvTo w h ((i : Nat) : Int) q]
noncomputable def orbO (w h q : Int) : List Int := idd (sortInts (rawO w h q))
theorem raw_mem {w h q x : Int} : x ∈ rawO w h q ↔ ∃ i : Nat, (i : Int) < manyI w h ∧ mvTo w h (i : Int) q = x := by
  have hm := many_rng w h
  unfold rawO
  rw [List.mem_flatMap]
  constructor
  · rintro ⟨i, hi, hx⟩
    have := List.mem_range.1 hi
    exact ⟨i, by omega, (List.mem_singleton.1 hx).symm⟩
  · rintro ⟨i, hi, hx⟩
    exact ⟨i, List.mem_range.2 (by omega), List.mem_singleton.2 hx.symm⟩
theorem orb_mem {w h q x : Int} : x ∈ orbO w h q ↔ ∃ i : Nat, (i : Int) < manyI w h ∧ mvTo w h (i : Int) q = x := by
  unfold orbO
  rw [idd_mem, isort_mem, raw_mem]
theorem orb_lt (w h q : Int) : (orbO w h q).Pairwise (fun x y => x < y) := idd_lt (isort_pw _)
theorem orbit_eq (w h q : Int) : symmOrbit w h q = some (if okB w h then if 0 ≤ q ∧ q < w * h then (orbO w h q, (0, ())) else ([], (4, ())) else ([], (4, ()))) := by
  have hm := many_rng w h
  unfold symmOrbit
  rw [chk_eq]
  by_cases c : okB w h
  · have ha := area c
    simp only [if_pos c]
    rw [bne_self_eq_false, cond_false, ha.2.2]
    by_cases cq : 0 ≤ q ∧ q < w * h
    · rw [if_pos cq, show (decide (q < (0 : Int)) || decide (q ≥ w * h)) = false by rw [Bool.or_eq_false_iff, decide_eq_false_iff_not, decide_eq_false_iff_not]; omega, cond_false]
      rw [iter_app (A := Int) (manyI w h).toNat 1 (symmOrbit_L1 w h q) (fun i => [mvTo w h ((i : Nat) : Int) q]) (fun a => ((a, ()), ())) [] (fun i _ => by simp) (fun i hi a hal => ?_) (fun a => ?_)]
      · rw [List.nil_append, Option.bind_some]
        show req (Nat.blt (rawO w h q).length 4611686018427387904) (Option.bind (bif decide ((((sortInts (rawO w h q)).length : Nat) : Int) < 2) then _ else _) _) = _
        have hl : (rawO w h q).length = (manyI w h).toNat := by
          have : ∀ n, ((List.range n).flatMap (fun i => [mvTo w h ((i : Nat) : Int) q])).length = n := fun n => by
            induction n with
            | zero => rfl
            | succ n ih => rw [List.range_succ, List.flatMap_append, List.length_append, ih]; rfl
          exact this _
        have hb : Nat.blt (rawO w h q).length 4611686018427387904 = true := by
          unfold Nat.blt
          exact Nat.ble_eq_true_of_le (by omega)
        rw [hb, req_true, decide_eq_false (by rw [isort_len]; omega), cond_false]
        exact congrArg (fun z => Option.bind z fun x10 : ((List Int) × Int × Unit) × Unit => some (x10.1.1, (x10.1.2.1, ()))) (icompact4 (sortInts (rawO w h q)) (by rw [isort_len]; omega) (by rw [isort_len]; omega))
      · simp only [List.length_nil] at hal
        unfold symmOrbit_L1
        simp only
        rw [cnt_eq, decide_eq_true (by omega), cond_true, (mv_spec c ⟨by omega, by omega⟩ cq).1, Option.bind_some, room_ok (by simp only [List.length_singleton]; omega), req_true, w64_id (n := (i : Int) + 1) (by omega) (by omega)]
      · unfold symmOrbit_L1
        simp only
        rw [cnt_eq, decide_eq_false (by omega), cond_false]
    · rw [if_neg cq, show (decide (q < (0 : Int)) || decide (q ≥ w * h)) = true by rw [Bool.or_eq_true, decide_eq_true_eq, decide_eq_true_eq]; omega, cond_true]
  · simp only [if_neg c]
    rfl
theorem apply_loop {w h s : Int} (hb : okB w h) (hs : 0 ≤ s ∧ s < manyI w h) (cells : List Int) (hl : ((cells.length : Nat) : Int) = w * h) :
    ∃ m : List Int, symmApply w h s cells = some m ∧ m.length = cells.length ∧ ∀ j (hj : j < cells.length), getD' m (mvTo w h s (j : Int)).toNat 0 = cells[j] := by
  have ha := area hb
  obtain ⟨r, h1, h2⟩ := iterW_meas (f := symmApply_L1 cells w h s) (fun y => ∃ (i : Nat) (m : List Int), y = (((i : Int), ()), (m, ())) ∧ i ≤ cells.length ∧ m.length = cells.length ∧ ∀ j (hj : j < cells.length), j < i → getD' m (mvTo w h s (j : Int)).toNat 0 = cells[j]) (fun y => ((cells.length : Int) - y.1.1).toNat) (fun r => ∃ m : List Int, r = ((), (m, ())) ∧ m.length = cells.length ∧ ∀ j (hj : j < cells.length), getD' m (mvTo w h s (j : Int)).toNat 0 = cells[j]) (by
    rintro y ⟨i, m, rfl, hi, hm, hj⟩
    by_cases hlt : i < cells.length
    · left
      obtain ⟨m1, m2, m3, m4⟩ := mv_spec hb hs (q := (i : Int)) ⟨by omega, by omega⟩
      refine ⟨((((i + 1 : Nat) : Int), ()), (m.set (mvTo w h s (i : Int)).toNat cells[i], ())), ?_, ⟨i + 1, _, rfl, by omega, by simp [hm], fun j hj1 hj2 => ?_⟩, by simp only; omega⟩
      · unfold symmApply_L1
        simp only
        rw [decide_eq_true (by omega), cond_true, at?_eq _ _ (by omega) (by omega), Option.bind_some, m1, Option.bind_some, inb_iff.2 ⟨m3.1, by omega⟩, req_true, w64_id (n := (i : Int) + 1) (by omega) (by omega)]
        rfl
      · by_cases e : j = i
        · subst e
          simp only [getD', List.getD_eq_getElem?_getD]
          rw [List.getElem?_set_self (by omega)]
          rfl
        · have hne : ¬ (mvTo w h s (i : Int)).toNat = (mvTo w h s (j : Int)).toNat := fun e2 => by
            have n3 := (mv_spec hb hs (q := (j : Int)) ⟨by omega, by omega⟩).2.2.1
            have := mv_inj hb hs (q := (i : Int)) (q' := (j : Int)) ⟨by omega, by omega⟩ ⟨by omega, by omega⟩ (by omega)
            omega
          rw [← hj j hj1 (by omega)]
          simp only [getD', List.getD_eq_getElem?_getD]
          rw [List.getElem?_set_ne hne]
    · right
      refine ⟨((), (m, ())), ?_, m, rfl, hm, fun j hj1 => hj j hj1 (by omega)⟩
      unfold symmApply_L1
      simp only
      rw [decide_eq_false (by omega), cond_false]) (((0 : Int), ()), (List.replicate cells.length 0, ())) ⟨0, _, rfl, by omega, by simp, fun j _ h0 => by omega⟩
  obtain ⟨m, rfl, h3, h4⟩ := h2
  refine ⟨m, ?_, h3, h4⟩
  unfold symmApply
  rw [Int.toNat_natCast, h1, decide_eq_true (by omega), beq_self_eq_true, room_ok (by omega)]
  rfl
theorem apply_eq (w h s : Int) (cells : List Int) (hn : cells.length ≤ 9223372036854775807) : ∃ m : List Int, symmApply_i w h s cells = some (if okB w h then if 0 ≤ s ∧ s < manyI w h then if ((cells.length : Nat) : Int) = w * h then (m, (0, ())) else ([], (3, ())) else ([], (8, ())) else ([], (4, ()))) ∧
    (okB w h → 0 ≤ s ∧ s < manyI w h → ((cells.length : Nat) : Int) = w * h → m.length = cells.length ∧ ∀ j (hj : j < cells.length), getD' m (mvTo w h s (j : Int)).toNat 0 = cells[j]) := by
  unfold symmApply_i
  rw [chki_eq, Option.bind_some]
  by_cases c : okB w h
  · have ha := area c
    simp only [if_pos c]
    by_cases cs : 0 ≤ s ∧ s < manyI w h
    · simp only [if_pos cs]
      rw [bne_self_eq_false, cond_false, ha.2.2]
      by_cases cl : ((cells.length : Nat) : Int) = w * h
      · obtain ⟨m, h1, h2⟩ := apply_loop c cs cells cl
        refine ⟨m, ?_, fun _ _ _ => h2⟩
        rw [bne_f cl, cond_false, h1, if_pos cl]
        rfl
      · exact ⟨[], by rw [bne_t cl, cond_true, if_neg cl], fun _ _ h => absurd h cl⟩
    · simp only [if_neg cs]
      exact ⟨[], rfl, fun _ h => absurd h cs⟩
  · simp only [if_neg c]
    exact ⟨[], rfl, fun h => absurd h c⟩
theorem same_ints1 (a : List Int) (h : a.length ≤ 1000000) : ref1SameInts a a = some true := by
  unfold ref1SameInts
  have : iterW (ref1SameInts_L1 a a) ((0, ()), ()) = some (.inl ((), ())) := by
    refine iterW_states a.length (fun i => (((i : Int), ()), ())) _ (fun i hi => ?_) ?_
    · unfold ref1SameInts_L1
      have : (i : Int) < (a.length : Int) := by omega
      simp only [this, decide_true, cond_true, at?_eq a (i : Int) (by omega) this, Option.bind_some, bne_self_eq_false, cond_false, w64_id (n := (i : Int) + 1) (by omega) (by omega)]
      rfl
    · unfold ref1SameInts_L1
      simp
  rw [this]
  simp
/-! ### a list in strict order -/
theorem asc_at : ∀ (l : List Int) (q : Int), l.Pairwise (fun x y => x < y) → q ∈ l → ∃ hk : l.countP (fun x => decide (x < q)) < l.length, l[l.countP (fun x => decide (x < q))] = q
  | [], q, _, h => absurd h List.not_mem_nil
  | x :: l, q, hp, h => by
    rw [List.pairwise_cons] at hp
    by_cases e : x = q
    · subst e
      have h0 : (x :: l).countP (fun y => decide (y < x)) = 0 := by
        rw [List.countP_eq_zero]
        intro y hy
        rcases List.mem_cons.1 hy with e | e
        · subst e; simp
        · have := hp.1 y e
          simp; omega
      have hk : (x :: l).countP (fun y => decide (y < x)) < (x :: l).length := by rw [h0]; simp
      refine ⟨hk, ?_⟩
      have : ∀ k (hk : k < (x :: l).length), k = 0 → (x :: l)[k] = x := fun k hk e => by subst e; rfl
      exact this _ hk h0
    · have hq : q ∈ l := (List.mem_cons.1 h).resolve_left (fun e' => e e'.symm)
      obtain ⟨h1, h2⟩ := asc_at l q hp.2 hq
      have hx := hp.1 q hq
      have h0 : (x :: l).countP (fun y => decide (y < q)) = l.countP (fun y => decide (y < q)) + 1 := by rw [List.countP_cons, if_pos (by simpa using hx)]
      have hk : (x :: l).countP (fun y => decide (y < q)) < (x :: l).length := by rw [h0, List.length_cons]; omega
      refine ⟨hk, ?_⟩
      have : ∀ k (hk : k < (x :: l).length) k' (hk' : k' < l.length), k = k' + 1 → (x :: l)[k] = l[k'] := fun k hk k' hk' e => by subst e; rfl
      rw [this _ hk _ h1 h0]
      exact h2
theorem asc_next : ∀ (l : List Int) (q : Int), l.Pairwise (fun x y => x < y) → l.countP (fun x => decide (x < q + 1)) = l.countP (fun x => decide (x < q)) + (if q ∈ l then 1 else 0)
  | [], q, _ => by simp
  | x :: l, q, hp => by
    rw [List.pairwise_cons] at hp
    rw [List.countP_cons, List.countP_cons, asc_next l q hp.2]
    by_cases e : x = q
    · subst e
      have hn : ¬ x ∈ l := fun h => by have := hp.1 x h; omega
      rw [if_neg hn, if_pos (by simp; omega), if_neg (by simp), if_pos (by simp)]
    · have hm : q ∈ x :: l ↔ q ∈ l := ⟨fun h => (List.mem_cons.1 h).resolve_left (fun e' => e e'.symm), fun h => List.mem_cons_of_mem _ h⟩
      by_cases c : x < q
      · rw [if_pos (show decide (x < q + 1) = true by simp; omega), if_pos (show decide (x < q) = true by simpa using c)]
        by_cases c2 : q ∈ l
        · rw [if_pos c2, if_pos (hm.2 c2)]
        · rw [if_neg c2, if_neg (fun h => c2 (hm.1 h))]
      · rw [if_neg (show ¬ decide (x < q + 1) = true by simp; omega), if_neg (show ¬ decide (x < q) = true by simpa using c)]
        by_cases c2 : q ∈ l
        · rw [if_pos c2, if_pos (hm.2 c2)]
        · rw [if_neg c2, if_neg (fun h => c2 (hm.1 h))]
def outO (on : Bool) (l : List Int) : List Int := bif on then l else []
/-! ### the law's loops -/
noncomputable def metB (on : Bool) (w h q x : Int) (n : Nat) : Bool := on && (List.range n).any fun i => mvTo w h ((i : Nat) : Int) q == x
theorem met_loop {w h q : Int} (hb : okB w h) (k x : Int) : iterW (law1SymmMaps_L2 q w h ((k, x, ()), ())) ((false, (0 : Int), ()), ()) = some ((metB (decide (0 ≤ q ∧ q < w * h)) w h q x (manyI w h).toNat, ()), ()) := by
  have ha := area hb
  have hm := many_rng w h
  have w1 : w64 (w * h - 1) = w * h - 1 := w64_id (by omega) (by omega)
  have hin : ref1In q (0 : Int) (w64 (w64 (w * h) - 1)) = decide (0 ≤ q ∧ q < w * h) := by
    rw [ha.2.2, w1, in_dec]
    congr 1
    apply propext
    omega
  by_cases c : 0 ≤ q ∧ q < w * h
  · rw [decide_eq_true c] at hin ⊢
    have := iterW_states (f := law1SymmMaps_L2 q w h ((k, x, ()), ())) (manyI w h).toNat (fun i => ((metB true w h q x i, (i : Int), ()), ())) ((metB true w h q x (manyI w h).toNat, ()), ()) (fun i hi => by
      have hmv := (mv_spec hb (s := (i : Int)) ⟨by omega, by omega⟩ c).2.1
      unfold law1SymmMaps_L2
      simp only
      rw [hin, Bool.true_and, sym_eq, if_pos hb, decide_eq_true (by omega), cond_true, hmv, w64_id (n := (i : Int) + 1) (by omega) (by omega)]
      have e : metB true w h q x (i + 1) = (metB true w h q x i || (mvTo w h (i : Int) q == x)) := by
        unfold metB
        rw [List.range_succ, List.any_append]
        simp
      rw [e]
      cases metB true w h q x i <;> rfl) (by
      unfold law1SymmMaps_L2
      simp only
      rw [hin, Bool.true_and, sym_eq, if_pos hb, decide_eq_false (by omega), cond_false])
    exact this
  · rw [decide_eq_false c] at hin ⊢
    rw [iterW_inr (r := ((false, ()), ())) (by
      unfold law1SymmMaps_L2
      simp only
      rw [hin, Bool.false_and, cond_false])]
    rfl
theorem met_mem {w h q x : Int} (on : Bool) : metB on w h q x (manyI w h).toNat = true ↔ x ∈ outO on (orbO w h q) := by
  have hm := many_rng w h
  unfold metB outO
  cases on with
  | false => simp
  | true =>
    rw [Bool.true_and, cond_true, List.any_eq_true, orb_mem]
    constructor
    · rintro ⟨i, hi, e⟩
      have := List.mem_range.1 hi
      exact ⟨i, by omega, by simpa using e⟩
    · rintro ⟨i, hi, e⟩
      exact ⟨i, List.mem_range.2 (by omega), by simpa using e⟩
theorem out_lt (on : Bool) (w h q : Int) : (outO on (orbO w h q)).Pairwise (fun x y => x < y) := by
  cases on with
  | false => exact List.Pairwise.nil
  | true => exact orb_lt w h q
theorem count_loop {w h q : Int} (hb : okB w h) (e : Int) : iterW (law1SymmMaps_L1 w h q (outO (decide (0 ≤ q ∧ q < w * h)) (orbO w h q), (e, ()))) (((0 : Int), (0 : Int), ()), ()) = some (.inl (((((outO (decide (0 ≤ q ∧ q < w * h)) (orbO w h q)).length : Nat) : Int), ()), ())) := by
  have ha := area hb
  have hmr := many_rng w h
  generalize hon : decide (0 ≤ q ∧ q < w * h) = on
  have hO := out_lt on w h q
  have hmem : ∀ x, metB on w h q x (manyI w h).toNat = true ↔ x ∈ outO on (orbO w h q) := fun x => met_mem on
  have hrng : ∀ x ∈ outO on (orbO w h q), 0 ≤ x ∧ x < w * h := fun x hx => by
    cases on with
    | false => cases hx
    | true =>
      obtain ⟨i, hi, e⟩ := orb_mem.1 hx
      have := (mv_spec hb (s := (i : Int)) ⟨by omega, hi⟩ (of_decide_eq_true hon)).2.2.1
      omega
  have hmet : ∀ k x : Int, iterW (law1SymmMaps_L2 q w h ((k, x, ()), ())) ((false, (0 : Int), ()), ()) = some ((metB on w h q x (manyI w h).toNat, ()), ()) := fun k x => by rw [met_loop hb, hon]
  have hlen : (outO on (orbO w h q)).length ≤ 8 := by
    cases on with
    | false => exact Nat.zero_le _
    | true =>
      show (orbO w h q).length ≤ 8
      have hle : ∀ (l : List Int) (a : Int), (idd1 a l).length ≤ l.length := fun l => by
        induction l with
        | nil => intro a; exact Nat.le_refl _
        | cons x l ih =>
          intro a
          unfold idd1
          split
          · have := ih a; rw [List.length_cons]; omega
          · have := ih x; rw [List.length_cons, List.length_cons]; omega
      have hle2 : ∀ l : List Int, (idd l).length ≤ l.length := fun l => by
        cases l with
        | nil => exact Nat.le_refl _
        | cons x l => unfold idd; have := hle l x; rw [List.length_cons, List.length_cons]; omega
      have hl : (rawO w h q).length = (manyI w h).toNat := by
        have : ∀ n, ((List.range n).flatMap (fun i => [mvTo w h ((i : Nat) : Int) q])).length = n := fun n => by
          induction n with
          | zero => rfl
          | succ n ih => rw [List.range_succ, List.flatMap_append, List.length_append, ih]; rfl
        exact this _
      have := hle2 (sortInts (rawO w h q))
      rw [isort_len, hl] at this
      unfold orbO
      omega
  generalize outO on (orbO w h q) = O at hO hmem hrng hlen
  have := iterW_states (f := law1SymmMaps_L1 w h q (O, (e, ()))) (w * h).toNat (fun i => ((((O.countP (fun x => decide (x < (i : Int))) : Nat) : Int), (i : Int), ()), ())) (.inl ((((O.length : Nat) : Int), ()), ())) (fun i hi => by
    have hc : O.countP (fun x => decide (x < (i : Int))) ≤ O.length := List.countP_le_length
    unfold law1SymmMaps_L1
    simp only
    rw [ha.2.2, decide_eq_true (by omega), cond_true, hmet, Option.bind_some, w64_id (n := (i : Int) + 1) (by omega) (by omega)]
    have hnx := asc_next O (i : Int) hO
    have e1 : (((i + 1 : Nat)) : Int) = (i : Int) + 1 := by omega
    rw [e1, hnx]
    cases hq : metB on w h q (i : Int) (manyI w h).toNat with
    | true =>
      have hm := (hmem (i : Int)).1 hq
      obtain ⟨hk, hg⟩ := asc_at O (i : Int) hO hm
      rw [if_pos hm]
      have hgd : getD' O (((O.countP (fun x => decide (x < (i : Int))) : Nat) : Int)).toNat 0 = (i : Int) := by
        rw [Int.toNat_natCast]
        simp only [getD', List.getD_eq_getElem?_getD]
        rw [List.getElem?_eq_getElem hk, hg]
        rfl
      rw [hgd, decide_eq_false (show ¬ (((O.countP (fun x => decide (x < (i : Int))) : Nat) : Int)) ≥ ((O.length : Nat) : Int) by omega), inb_iff.2 ⟨by omega, by omega⟩, himpM, req_true, w64_id (n := (((O.countP (fun x => decide (x < (i : Int))) : Nat) : Int)) + 1) (by omega) (by omega), bne_self_eq_false]
      rfl
    | false =>
      have hm : ¬ (i : Int) ∈ O := fun h => by rw [(hmem _).2 h] at hq; cases hq
      rw [if_neg hm, Bool.and_false]
      rfl) (by
    have hfull : O.countP (fun x => decide (x < (((w * h).toNat : Nat) : Int))) = O.length := by
      rw [List.countP_eq_length]
      intro x hx
      have := hrng x hx
      rw [decide_eq_true_eq]
      omega
    unfold law1SymmMaps_L1
    simp only
    rw [ha.2.2, decide_eq_false (by omega), cond_false, hfull])
  have h0 : O.countP (fun x => decide (x < ((0 : Nat) : Int))) = 0 := by
    rw [List.countP_eq_zero]
    intro x hx
    have := hrng x hx
    rw [decide_eq_true_eq]
    omega
  simp only [h0] at this
  exact this
theorem cells_loop {w h s : Int} (hb : okB w h) (hs : 0 ≤ s ∧ s < manyI w h) (cells : List Int) (hl : ((cells.length : Nat) : Int) = w * h) (m : List Int) (e : Int) (hm : m.length = cells.length) (hj : ∀ j (hj : j < cells.length), getD' m (mvTo w h s (j : Int)).toNat 0 = cells[j]) :
    iterW (law1SymmMaps_L3 cells w h s (m, (e, ()))) (((0 : Int), ()), ()) = some (.inl ((), ())) := by
  have ha := area hb
  exact iterW_states (f := law1SymmMaps_L3 cells w h s (m, (e, ()))) cells.length (fun i => (((i : Int), ()), ())) (.inl ((), ())) (fun i hi => by
    obtain ⟨m1, m2, m3, m4⟩ := mv_spec hb hs (q := (i : Int)) ⟨by omega, by omega⟩
    unfold law1SymmMaps_L3
    simp only
    rw [decide_eq_true (by omega), cond_true, at?_eq _ _ (by omega) (by omega), Option.bind_some, m2, Option.bind_some, inb_iff.2 ⟨m3.1, by omega⟩, req_true, hj i hi, w64_id (n := (i : Int) + 1) (by omega) (by omega)]
    simp only [Int.toNat_natCast, bne_self_eq_false, cond_false]
    rfl) (by
    unfold law1SymmMaps_L3
    simp only
    rw [decide_eq_false (by omega), cond_false])
/-! ### the law -/
theorem ex1 : symmMap 3 3 5 0 = some ((2 : Int), ((0 : Int), ())) := by
  have h : mvTo 3 3 5 0 = 2 := by decide +kernel
  rw [map_eq, if_pos (by decide), if_pos (by decide), if_pos (by decide), h]
theorem ex2 : symmOrbit 3 2 0 = some ([(0 : Int), (2 : Int), (3 : Int), (5 : Int)], ((0 : Int), ())) := by
  have h : rawO 3 2 0 = [(0 : Int), (2 : Int), (3 : Int), (5 : Int)] := by decide +kernel
  have h2 : orbO 3 2 0 = [(0 : Int), (2 : Int), (3 : Int), (5 : Int)] := ilt_unique (orb_lt 3 2 0) (by decide) fun z => by
    unfold orbO
    rw [idd_mem, isort_mem, h]
  rw [orbit_eq, if_pos (by decide), if_pos (by decide), h2]
theorem ex3 : symmApply_i 2 1 1 [(5 : Int), (6 : Int)] = some ([(6 : Int), (5 : Int)], ((0 : Int), ())) := by
  obtain ⟨m, h1, h2⟩ := apply_eq 2 1 1 [(5 : Int), (6 : Int)] (by decide)
  obtain ⟨h3, h4⟩ := h2 (by decide) (by decide) (by decide)
  have a0 : mvTo 2 1 1 ((0 : Nat) : Int) = 1 := by decide +kernel
  have a1 : mvTo 2 1 1 ((1 : Nat) : Int) = 0 := by decide +kernel
  have b0 := h4 0 (by decide)
  have b1 := h4 1 (by decide)
  rw [a0] at b0
  rw [a1] at b1
  rw [h1, if_pos (by decide), if_pos (by decide), if_pos (by decide)]
  match m, h3, b0, b1 with
  | [a, b], _, b0, b1 =>
    have b0 : b = 5 := b0
    have b1 : a = 6 := b1
    rw [b0, b1]
theorem law1SymmMaps_true (w h s q : Int) (cells : List Int) (hw : Rng (.int .i64) w) (hh : Rng (.int .i64) h) (hs : Rng (.int .i64) s) (hq : Rng (.int .i64) q) (hc : Rng (.sl (.int .i64)) cells) : law1SymmMaps w h s q cells = some true := by
  have hn : cells.length ≤ 9223372036854775807 := hc.1
  have hs1 := same_ints1 [(0 : Int), (2 : Int), (3 : Int), (5 : Int)] (by decide)
  have hs2 := same_ints1 [(6 : Int), (5 : Int)] (by decide)
  obtain ⟨m, hm, hmj⟩ := apply_eq w h s cells hn
  obtain ⟨l, hl, hll⟩ := all_eq w h
  have hmr := many_rng w h
  unfold law1SymmMaps
  simp only [ex1, ex2, ex3, hs1, hs2, Option.bind_some, bne_self_eq_false, Bool.or_self, cond_false, Bool.not_true]
  simp only [map_eq w h s q, hm, orbit_eq w h q, hl, sym_eq, Option.bind_some]
  by_cases c : okB w h
  · have ha := area c
    have w1 : w64 (w * h - 1) = w * h - 1 := w64_id (by omega) (by omega)
    have w2 : w64 (manyI w h - 1) = manyI w h - 1 := w64_id (by omega) (by omega)
    have hin : ref1In q (0 : Int) (w64 (w64 (w * h) - 1)) = decide (0 ≤ q ∧ q < w * h) := by
      rw [ha.2.2, w1, in_dec]
      congr 1
      apply propext
      omega
    have his : ref1In s (0 : Int) (w64 (manyI w h - 1)) = decide (0 ≤ s ∧ s < manyI w h) := by
      rw [w2, in_dec]
      congr 1
      apply propext
      omega
    have hcl := fun e => count_loop (q := q) c e
    simp only [if_pos c, hin, his, beq_f (show ¬ manyI w h = 0 by omega), bne_f hll, cond_false, bne_self_eq_false, Bool.or_self]
    by_cases cq : 0 ≤ q ∧ q < w * h
    · have hcl0 := hcl 0
      rw [decide_eq_true cq] at hcl0 ⊢
      have ho : outO true (orbO w h q) = orbO w h q := rfl
      rw [ho] at hcl0
      simp only [if_pos cq, beq_self_eq_true, Bool.not_true, Bool.false_and, Bool.or_self, cond_false, hcl0, Option.bind_some, Sum.elim_inl, bne_self_eq_false]
      by_cases cs : 0 ≤ s ∧ s < manyI w h
      · rw [decide_eq_true cs]
        simp only [if_pos cs, Bool.not_true, cond_false, bne_self_eq_false, Bool.not_false, Bool.false_and, Bool.true_and, Bool.and_self, gopt, cond_true, (mv_spec c cs cq).2.1, Option.bind_some, Bool.or_self, Bool.and_false]
        by_cases cl : ((cells.length : Nat) : Int) = w * h
        · obtain ⟨h3, h4⟩ := hmj c cs cl
          have hlp := cells_loop c cs cells cl m 0 h3 h4
          simp only [if_pos cl, ha.2.2, bne_f cl, cond_false, h3, bne_self_eq_false, Bool.or_self, hlp, Option.bind_some, Sum.elim_inl]
        · simp only [if_neg cl, ha.2.2, bne_t cl, cond_true]
          rfl
      · rw [decide_eq_false cs]
        simp only [if_neg cs]
        rfl
    · have hcl0 := hcl 4
      rw [decide_eq_false cq] at hcl0 ⊢
      have ho : outO false (orbO w h q) = [] := rfl
      rw [ho] at hcl0
      have e4 : ((4 : Int) == 0) = false := by decide
      simp only [if_neg cq, e4, beq_self_eq_true, Bool.not_true, Bool.false_and, Bool.or_self, cond_false, hcl0, Option.bind_some, Sum.elim_inl, bne_self_eq_false, Bool.and_false]
      by_cases cs : 0 ≤ s ∧ s < manyI w h
      · rw [decide_eq_true cs]
        have e5 : ((4 : Int) != 0) = true := by decide
        simp only [if_pos cs, e5, Bool.not_true, cond_false, bne_self_eq_false, Bool.not_false, Bool.false_and, Bool.true_and, Bool.and_self, gopt, cond_true, Option.bind_some, Bool.or_self, Bool.and_false]
        by_cases cl : ((cells.length : Nat) : Int) = w * h
        · obtain ⟨h3, h4⟩ := hmj c cs cl
          have hlp := cells_loop c cs cells cl m 0 h3 h4
          simp only [if_pos cl, ha.2.2, bne_f cl, cond_false, h3, bne_self_eq_false, Bool.or_self, hlp, Option.bind_some, Sum.elim_inl]
        · simp only [if_neg cl, ha.2.2, bne_t cl, cond_true]
          rfl
      · rw [decide_eq_false cs]
        simp only [if_neg cs]
        rfl
  · simp only [if_neg c]
    rfl
end Go.Proofs.Ytpajmeljfpolcaa
