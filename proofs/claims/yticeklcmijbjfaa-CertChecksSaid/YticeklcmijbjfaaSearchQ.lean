/- Scores: what the program and the reference compute. No condition of its own. -/
import Derived.Test.YticeklcmijbjfaaSearchP
namespace Go.Proofs.Yticeklcmijbjfaa
open Go.Den
set_option linter.unusedVariables false
set_option linter.unusedSimpArgs false
set_option maxRecDepth 100000

def overOf (p : Place) (x : Int) : Int := bif x == 1 + p.turn then 1000 else bif x == 2 - p.turn then -1000 else 0
def nearer (n : Int) : Int := if n > 0 then n - 1 else if n < 0 then n + 1 else 0
/-- the first best move so far, and its score -/
def better (b : Mv × Int) (m : Mv) (n : Int) : Mv × Int := bif decide (n > b.2) then (m, n) else b
def scoreOf (r : Rules) : Nat → Place → Int
  | 0, p => if resultOf r p = 0 then 0 else overOf p (resultOf r p)
  | d + 1, p => if resultOf r p = 0 then ((movesOf r p).foldl (fun b m => better b m (nearer (0 - scoreOf r d (afterOf r p m)))) (d0, -2000)).2 else overOf p (resultOf r p)
/-- the first best move, and its score, d + 1 moves deep -/
def firstOf (r : Rules) (d : Nat) (p : Place) : Mv × Int := (movesOf r p).foldl (fun b m => better b m (nearer (0 - scoreOf r d (afterOf r p m)))) (d0, -2000)
theorem score_first {r : Rules} {d : Nat} {p : Place} (h : resultOf r p = 0) : scoreOf r (d + 1) p = (firstOf r d p).2 := by
  unfold scoreOf firstOf
  rw [if_pos h]
theorem score_over {r : Rules} {d : Nat} {p : Place} (h : ¬ resultOf r p = 0) : scoreOf r d p = overOf p (resultOf r p) := by
  cases d <;> (unfold scoreOf; rw [if_neg h])
theorem nearer_rng {n : Int} (h : -2000 ≤ n ∧ n ≤ 2000) : -2000 ≤ nearer n ∧ nearer n ≤ 2000 := by
  unfold nearer
  split
  · omega
  · split <;> omega
theorem fold_best {A : Type} (f : A → Int) (B : List A → Prop) : ∀ (l : List A) (g : A → Mv) (b : Mv × Int), (-2000 ≤ b.2 ∧ b.2 ≤ 2000) → (∀ x ∈ l, -2000 ≤ f x ∧ f x ≤ 2000) → -2000 ≤ (l.foldl (fun b x => better b (g x) (f x)) b).2 ∧ (l.foldl (fun b x => better b (g x) (f x)) b).2 ≤ 2000
  | [], _, b, hb, _ => hb
  | x :: l, g, b, hb, h => by
    refine fold_best f B l g _ ?_ fun y hy => h y (List.mem_cons_of_mem _ hy)
    show -2000 ≤ (better b (g x) (f x)).2 ∧ (better b (g x) (f x)).2 ≤ 2000
    unfold better
    have := h x List.mem_cons_self
    cases decide (f x > b.2)
    · exact hb
    · exact this
theorem over_rng (p : Place) (x : Int) : -1000 ≤ overOf p x ∧ overOf p x ≤ 1000 := by
  unfold overOf
  cases x == 1 + p.turn
  · cases x == 2 - p.turn <;> simp
  · simp
theorem score_rng (r : Rules) : ∀ (d : Nat) (p : Place), -2000 ≤ scoreOf r d p ∧ scoreOf r d p ≤ 2000
  | 0, p => by
    unfold scoreOf
    have := over_rng p (resultOf r p)
    split <;> omega
  | d + 1, p => by
    unfold scoreOf
    have := over_rng p (resultOf r p)
    split
    · exact fold_best (fun m => nearer (0 - scoreOf r d (afterOf r p m))) (fun _ => True) (movesOf r p) id _ (by simp) fun m _ => nearer_rng (by have := score_rng r d (afterOf r p m); omega)
    · omega
theorem nearer_w {n : Int} (h : -2000 ≤ n ∧ n ≤ 2000) : minimaxNearer n = nearer n := by
  unfold minimaxNearer nearer
  by_cases c : n > 0
  · rw [decide_eq_true c, cond_true, if_pos c, w64_id (by omega) (by omega)]
  · rw [decide_eq_false c, cond_false, if_neg c]
    by_cases c2 : n < 0
    · rw [decide_eq_true c2, cond_true, if_pos c2, w64_id (by omega) (by omega)]
    · rw [decide_eq_false c2, cond_false, if_neg c2]
theorem over_w {r : Rules} {p : Place} (h : Valid r p) (x : Int) : minimaxOver p x = overOf p x := by
  have ht := h.turn
  unfold minimaxOver overOf
  rw [w64_id (by show _ ≤ 1 + p.turn; omega) (by show 1 + p.turn ≤ _; omega), w64_id (n := 2 - p.2.2.1) (by show _ ≤ 2 - p.turn; omega) (by show 2 - p.turn ≤ _; omega)]
/-! ### the reference -/
theorem near_opt {v : Int} (h : -2000 ≤ v ∧ v ≤ 2000) : (bif decide (v > 0) then some ((w64 (v - 1), ()), ()) else Option.bind (bif decide (v < 0) then some ((w64 (v + 1), ()), ()) else some ((v, ()), ())) fun y : (Int × Unit) × Unit => some ((y.1.1, ()), ())) = some ((nearer v, ()), ()) := by
  unfold nearer
  by_cases c : v > 0
  · rw [decide_eq_true c, cond_true, if_pos c, w64_id (by omega) (by omega)]
  · rw [decide_eq_false c, cond_false, if_neg c]
    by_cases c2 : v < 0
    · rw [decide_eq_true c2, cond_true, if_pos c2, w64_id (by omega) (by omega)]
      rfl
    · rw [decide_eq_false c2, cond_false, if_neg c2, show v = 0 by omega]
      rfl
theorem take_fold {A B : Type} (g : B → A → B) (l : List A) (b : B) (i : Nat) (hi : i < l.length) : (l.take (i + 1)).foldl g b = g ((l.take i).foldl g b) l[i] := by
  rw [List.take_succ_eq_append_getElem hi, List.foldl_append]
  rfl
/-! ### the program -/
theorem of_L1 (ms : List Mv) (r : Rules) (p : Place) (φ : RT → Option Int) (depth acc i : Int) (b : Mv) : minimaxOf_L1 ms r p φ depth ((acc, i, ()), (b, ())) =
    bif decide (i < ((ms.length : Nat) : Int)) then req (inb i ms.length) (Option.bind (Option.bind (movesMake r p (getD' ms i.toNat d0)) fun q => Option.bind (φ (r, q, w64 (depth - 1), ())) fun v => some ((minimaxNearer (w64 (0 - v)), ()), ())) fun x : (Int × Unit) × Unit =>
      Option.bind (bif decide (x.1.1 > acc) then some ((x.1.1, ()), (getD' ms i.toNat d0, ())) else some ((acc, ()), (b, ()))) fun z : (Int × Unit) × (Mv × Unit) => some (Sum.inl ((z.1.1, w64 (i + 1), ()), (z.2.1, ()))))
    else some (Sum.inr ((acc, ()), (b, ()))) := by
  unfold minimaxOf_L1
  rw [agree_self]
theorem of_fix : ∀ x : RT, (Valid x.1 x.2.1 ∧ 0 ≤ x.2.2.1 ∧ x.2.2.1 ≤ 12) → fixW minimaxOf_G x = some (scoreOf x.1 x.2.2.1.toNat x.2.1) := by
  refine fixW_ind minimaxOf_Mono _ (fun x => x.2.2.1.toNat) _ ?_
  rintro φ ⟨r, p, depth, ⟨⟩⟩ ⟨hv, hd0, hd1⟩ ih
  show minimaxOf_F φ r p depth = _
  simp only at hv hd0 hd1 ih ⊢
  obtain ⟨d, rfl⟩ := Int.eq_ofNat_of_zero_le hd0
  simp only [Int.toNat_natCast] at ih ⊢
  unfold minimaxOf_F
  rw [result_spec hv, Option.bind_some]
  by_cases c : resultOf r p = 0
  · rw [bne_f c, cond_false]
    cases d with
    | zero => unfold scoreOf; rw [if_pos c]; rfl
    | succ d =>
      rw [beq_f (show ¬ (((d + 1 : Nat) : Int)) = 0 by omega), cond_false, list_spec hv, Option.bind_some, score_first c]
      unfold firstOf
      have hlen := movesOf_len hv
      rw [← open_0 c] at hlen ⊢
      generalize hms : openMoves r p = ms at hlen ⊢
      have hL := iterW_states (f := minimaxOf_L1 ms r p φ ((d + 1 : Nat) : Int)) ms.length (fun i => ((((ms.take i).foldl (fun b m => better b m (nearer (0 - scoreOf r d (afterOf r p m)))) (d0, -2000)).2, (i : Int), ()), (((ms.take i).foldl (fun b m => better b m (nearer (0 - scoreOf r d (afterOf r p m)))) (d0, -2000)).1, ()))) (((ms.foldl (fun b m => better b m (nearer (0 - scoreOf r d (afterOf r p m)))) (d0, -2000)).2, ()), ((ms.foldl (fun b m => better b m (nearer (0 - scoreOf r d (afterOf r p m)))) (d0, -2000)).1, ())) (fun i hi => by
          obtain ⟨ha, va⟩ := mem_after hv hms.symm hi
          have hs := score_rng r d (afterOf r p ms[i])
          rw [of_L1, lt_dec ms i hi, cond_true, inb_nat ms i hi, req_true, getD'_eq ms i hi, make_spec hv ha, Option.bind_some, w64_id (n := ((d + 1 : Nat) : Int) - 1) (by omega) (by omega),
            ih (r, afterOf r p ms[i], ((d + 1 : Nat) : Int) - 1, ()) ⟨va, by simp only; omega, by simp only; omega⟩ (by simp only; omega), Option.bind_some]
          simp only [show (((d + 1 : Nat) : Int) - 1).toNat = d by omega]
          rw [w64_id (by omega) (by omega), w64_id (n := (i : Int) + 1) (by omega) (by omega), Option.bind_some, nearer_w (by omega), take_fold _ _ _ i hi]
          simp only
          generalize (ms.take i).foldl (fun b m => better b m (nearer (0 - scoreOf r d (afterOf r p m)))) (d0, -2000) = w
          unfold better
          cases decide (nearer (0 - scoreOf r d (afterOf r p ms[i])) > w.2) <;> rfl) (by
          rw [of_L1, nlt_dec, cond_false, List.take_length])
      have hL' : iterW (minimaxOf_L1 ms r p φ ((d + 1 : Nat) : Int)) (((-2000 : Int), (0 : Int), ()), (d0, ())) = _ := hL
      rw [hL', Option.bind_some]
  · rw [bne_t c, cond_true, score_over c, over_w hv]
theorem of_spec {r : Rules} {p : Place} (h : Valid r p) {d : Nat} (hd : d ≤ 12) : minimaxOf r p (d : Int) = some (scoreOf r d p) := of_fix (r, p, (d : Int), ()) ⟨h, by simp only; omega, by simp only; omega⟩
theorem first_L1 (ms : List Mv) (r : Rules) (p : Place) (depth acc i : Int) (b : Mv) : minimaxFirst_L1 ms r p depth ((acc, i, ()), (b, ())) =
    bif decide (i < ((ms.length : Nat) : Int)) then req (inb i ms.length) (Option.bind (Option.bind (movesMake r p (getD' ms i.toNat d0)) fun q => Option.bind (minimaxOf r q (w64 (depth - 1))) fun v => some ((minimaxNearer (w64 (0 - v)), ()), ())) fun x : (Int × Unit) × Unit =>
      Option.bind (bif decide (x.1.1 > acc) then some ((x.1.1, ()), (getD' ms i.toNat d0, ())) else some ((acc, ()), (b, ()))) fun z : (Int × Unit) × (Mv × Unit) => some (Sum.inl ((z.1.1, w64 (i + 1), ()), (z.2.1, ()))))
    else some (Sum.inr ((acc, ()), (b, ()))) := by
  unfold minimaxFirst_L1
  rw [agree_self]
theorem first_spec {r : Rules} {p : Place} (hv : Valid r p) (c : resultOf r p = 0) {d : Nat} (hd : d ≤ 11) : minimaxFirst r p ((d + 1 : Nat) : Int) = some ((firstOf r d p).1, (firstOf r d p).2, ()) := by
  unfold minimaxFirst
  rw [list_spec hv, Option.bind_some]
  unfold firstOf
  have hlen := movesOf_len hv
  rw [← open_0 c] at hlen ⊢
  generalize hms : openMoves r p = ms at hlen ⊢
  have hL := iterW_states (f := minimaxFirst_L1 ms r p ((d + 1 : Nat) : Int)) ms.length (fun i => ((((ms.take i).foldl (fun b m => better b m (nearer (0 - scoreOf r d (afterOf r p m)))) (d0, -2000)).2, (i : Int), ()), (((ms.take i).foldl (fun b m => better b m (nearer (0 - scoreOf r d (afterOf r p m)))) (d0, -2000)).1, ()))) (((ms.foldl (fun b m => better b m (nearer (0 - scoreOf r d (afterOf r p m)))) (d0, -2000)).2, ()), ((ms.foldl (fun b m => better b m (nearer (0 - scoreOf r d (afterOf r p m)))) (d0, -2000)).1, ())) (fun i hi => by
      obtain ⟨ha, va⟩ := mem_after hv hms.symm hi
      have hs := score_rng r d (afterOf r p ms[i])
      rw [first_L1, lt_dec ms i hi, cond_true, inb_nat ms i hi, req_true, getD'_eq ms i hi, make_spec hv ha, Option.bind_some, w64_id (n := ((d + 1 : Nat) : Int) - 1) (by omega) (by omega),
        show (((d + 1 : Nat) : Int) - 1) = (d : Int) by omega, of_spec va (by omega), Option.bind_some, Option.bind_some,
        w64_id (by omega) (by omega), w64_id (n := (i : Int) + 1) (by omega) (by omega), nearer_w (by omega), take_fold _ _ _ i hi]
      simp only
      generalize (ms.take i).foldl (fun b m => better b m (nearer (0 - scoreOf r d (afterOf r p m)))) (d0, -2000) = w
      unfold better
      cases decide (nearer (0 - scoreOf r d (afterOf r p ms[i])) > w.2) <;> rfl) (by
      rw [first_L1, nlt_dec, cond_false, List.take_length])
  have hL' : iterW (minimaxFirst_L1 ms r p ((d + 1 : Nat) : Int)) (((-2000 : Int), (0 : Int), ()), (d0, ())) = _ := hL
  rw [hL', Option.bind_some]
/-- the first best move is the first one whose score is the best -/
theorem best_first {A : Type} (f : A → Int) : ∀ (l : List A) (g : A → Mv) (b : Mv × Int), (l.foldl (fun b x => better b (g x) (f x)) b = b ∧ (∀ x ∈ l, f x ≤ b.2)) ∨
    (∃ i, ∃ hi : i < l.length, l.foldl (fun b x => better b (g x) (f x)) b = (g l[i], f l[i]) ∧ b.2 < f l[i] ∧ (∀ j, (hj : j < i) → f (l[j]'(by omega)) < f l[i]) ∧ ∀ x ∈ l, f x ≤ f l[i])
  | [], _, b => .inl ⟨rfl, fun x hx => by cases hx⟩
  | x :: l, g, b => by
    rw [List.foldl_cons]
    by_cases c : f x > b.2
    · have e : better b (g x) (f x) = (g x, f x) := by unfold better; rw [decide_eq_true c]; rfl
      rw [e]
      right
      rcases best_first f l g (g x, f x) with ⟨h1, h2⟩ | ⟨i, hi, h1, h2, h3, h4⟩
      · exact ⟨0, by simp, h1, c, fun j hj => by omega, fun y hy => by
          rcases List.mem_cons.1 hy with rfl | hy
          · exact Int.le_refl _
          · exact h2 y hy⟩
      · simp only at h2
        refine ⟨i + 1, by simp; omega, h1, ?_, fun j hj => ?_, fun y hy => ?_⟩
        · simp only [List.getElem_cons_succ]; omega
        · cases j with
          | zero => simpa using h2
          | succ j => simpa using h3 j (by omega)
        · simp only [List.getElem_cons_succ]
          rcases List.mem_cons.1 hy with rfl | hy
          · omega
          · exact h4 y hy
    · have e : better b (g x) (f x) = b := by unfold better; rw [decide_eq_false c]; rfl
      rw [e]
      rcases best_first f l g b with ⟨h1, h2⟩ | ⟨i, hi, h1, h2, h3, h4⟩
      · exact .inl ⟨h1, fun y hy => by
          rcases List.mem_cons.1 hy with rfl | hy
          · omega
          · exact h2 y hy⟩
      · refine .inr ⟨i + 1, by simp; omega, h1, by simpa using h2, fun j hj => ?_, fun y hy => ?_⟩
        · cases j with
          | zero => simp only [List.getElem_cons_zero, List.getElem_cons_succ]; omega
          | succ j => simpa using h3 j (by omega)
        · simp only [List.getElem_cons_succ]
          rcases List.mem_cons.1 hy with rfl | hy
          · omega
          · exact h4 y hy
/-- scores of positions that are valid are at most 1000 -/
theorem score_1000 {r : Rules} : ∀ (d : Nat) {p : Place}, Valid r p → -1000 ≤ scoreOf r d p ∧ scoreOf r d p ≤ 1000
  | 0, p, h => by
    unfold scoreOf
    have := over_rng p (resultOf r p)
    split <;> omega
  | d + 1, p, h => by
    by_cases c : resultOf r p = 0
    · rw [score_first c]
      unfold firstOf
      have hm : ∀ m ∈ movesOf r p, -1000 ≤ nearer (0 - scoreOf r d (afterOf r p m)) ∧ nearer (0 - scoreOf r d (afterOf r p m)) ≤ 1000 := fun m hm => by
        have := score_1000 d (after_valid h ((movesOf_mem m).1 hm))
        unfold nearer
        split
        · omega
        · split <;> omega
      have hne : 0 < (movesOf r p).length := by
        rcases result_cases h with h' | h' | h' | h'
        · exact h'.2
        all_goals omega
      rcases best_first (fun m => nearer (0 - scoreOf r d (afterOf r p m))) (movesOf r p) id (d0, -2000) with ⟨h1, h2⟩ | ⟨i, hi, h1, _⟩
      · have a1 := h2 _ (List.getElem_mem hne)
        have a2 := hm _ (List.getElem_mem hne)
        simp only at a1
        omega
      · simp only [id] at h1
        rw [h1]
        exact hm _ (List.getElem_mem hi)
    · rw [score_over c]
      exact over_rng p _
/-- the first best move -/
theorem first_best {r : Rules} {p : Place} (h : Valid r p) (c : resultOf r p = 0) (d : Nat) : ∃ i, ∃ hi : i < (movesOf r p).length, firstOf r d p = ((movesOf r p)[i], nearer (0 - scoreOf r d (afterOf r p (movesOf r p)[i]))) ∧ ∀ j, (hj : j < i) → nearer (0 - scoreOf r d (afterOf r p ((movesOf r p)[j]'(by omega)))) < nearer (0 - scoreOf r d (afterOf r p (movesOf r p)[i])) := by
  have hne : 0 < (movesOf r p).length := by
    rcases result_cases h with h' | h' | h' | h'
    · exact h'.2
    all_goals omega
  rcases best_first (fun m => nearer (0 - scoreOf r d (afterOf r p m))) (movesOf r p) id (d0, -2000) with ⟨h1, h2⟩ | ⟨i, hi, h1, h2, h3, h4⟩
  · have a1 := h2 _ (List.getElem_mem hne)
    have a2 := score_1000 d (after_valid h ((movesOf_mem _).1 (List.getElem_mem hne)))
    simp only at a1
    unfold nearer at a1
    exfalso
    split at a1
    · omega
    · split at a1 <;> omega
  · exact ⟨i, hi, h1, h3⟩
theorem first_allowed {r : Rules} {p : Place} (h : Valid r p) (c : resultOf r p = 0) (d : Nat) : allowedB r p (firstOf r d p).1 = true := by
  obtain ⟨i, hi, h1, _⟩ := first_best h c d
  rw [h1]
  exact (movesOf_mem _).1 (List.getElem_mem hi)
end Go.Proofs.Yticeklcmijbjfaa
