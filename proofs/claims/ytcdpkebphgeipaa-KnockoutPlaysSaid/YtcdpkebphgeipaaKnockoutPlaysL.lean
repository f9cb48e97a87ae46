/- The law KnockoutPlays, in plain Lean. No condition of its own. -/
import Derived.Test.YtcdpkebphgeipaaKnockoutPlaysA
namespace Go.Proofs.Ytcdpkebphgeipaa
open Go.Den
set_option linter.unusedVariables false
set_option linter.unusedSimpArgs false
set_option maxRecDepth 100000

theorem set_mid (pre : List Int) (k : Nat) (v : Int) : (pre ++ List.replicate (k + 1) 0).set pre.length v = (pre ++ [v]) ++ List.replicate k 0 := by
  rw [List.replicate_succ]
  simp
theorem drop_nil_iff {R : List Int} {u : Nat} (h : u ≤ R.length) : R.drop u = [] ↔ u = R.length := by
  rw [List.drop_eq_nil_iff]
  omega
/-- a round of the law -/
theorem law_inner (l R : List Int) (games : List Gm) (e r : Int) (u0 m0 : Int) (st0 : Bool) (hl64 : l.length ≤ 64) (hge : ∀ x ∈ l, -1 ≤ x) (hR : ∀ x ∈ R, x = 0 ∨ x = 2) (hRl : R.length ≤ 40) (rest : List Gm) :
    ∀ (k i u m : Nat) (st : Bool) (pre : List Int), pre.length = i → l.length = 2 * (i + k) → u ≤ R.length → m + k ≤ 1000 → (e = 0 → games.drop m = gms r (l.drop (2 * i)) ++ rest) →
    ∃ u', iterW (law3Played_L3 ((l, u0, m0, st0, r, ()), ()) games e R) (((u : Int), (m : Int), st, (i : Int), ()), (pre ++ List.replicate k 0, ())) =
      some (.inl ((((u' : Nat) : Int), ((m + k : Nat) : Int), st || (rnd 0 (l.drop (2 * i)) (R.drop u)).2.2, ()), (pre ++ (rnd 0 (l.drop (2 * i)) (R.drop u)).1, ()))) ∧ R.drop u' = (rnd 0 (l.drop (2 * i)) (R.drop u)).2.1 ∧ u' ≤ R.length := by
  have hhalf : w64 (((l.length : Nat) : Int).tdiv 2) = ((l.length / 2 : Nat) : Int) := by
    rw [Int.tdiv_eq_ediv_of_nonneg (by omega), show ((l.length : Nat) : Int) / 2 = ((l.length / 2 : Nat) : Int) by omega, w64_id (by omega) (by omega)]
  intro k
  induction k with
  | zero =>
    intro i u m st pre hp hl hu hm hg
    have hd : l.drop (2 * i) = [] := List.drop_eq_nil_of_le (by omega)
    rw [hd]
    refine ⟨u, iterW_inr ?_, rfl, hu⟩
    unfold law3Played_L3
    have : ¬ (i : Int) < (((List.replicate (w64 (((l.length : Nat) : Int).tdiv 2)).toNat (0 : Int)).length : Nat) : Int) := by
      rw [hhalf, Int.toNat_natCast, List.length_replicate]; omega
    simp only [this, decide_false, cond_false]
    simp [rnd]
  | succ k ih =>
    intro i u m st pre hp hl hu hm hg
    have h1 : (i : Int) < (((List.replicate (w64 (((l.length : Nat) : Int).tdiv 2)).toNat (0 : Int)).length : Nat) : Int) := by
      rw [hhalf, Int.toNat_natCast, List.length_replicate]; omega
    have hi0 : 2 * i < l.length := by omega
    have hi1 : 2 * i + 1 < l.length := by omega
    have w0 : w64 (2 * (i : Int)) = ((2 * i : Nat) : Int) := by rw [w64_id (by omega) (by omega)]; rfl
    have w1 : w64 (((2 * i : Nat) : Int) + 1) = ((2 * i + 1 : Nat) : Int) := by rw [w64_id (by omega) (by omega)]; rfl
    have a0 : at? l (((2 * i : Nat) : Int)) = some l[2 * i] := by rw [at?_eq l _ (by omega) (by omega)]; simp only [Int.toNat_natCast]
    have a1 : at? l (((2 * i + 1 : Nat) : Int)) = some l[2 * i + 1] := by rw [at?_eq l _ (by omega) (by omega)]; simp only [Int.toNat_natCast]
    have g0 := hge _ (List.getElem_mem hi0)
    have g1 := hge _ (List.getElem_mem hi1)
    rw [drop_two hi1]
    rw [drop_two hi1] at hg
    have hcmp : ∃ d9, gat ((!(decide ((m : Int) ≥ ((games.length : Nat) : Int)))) && (e == 0)) ((0 : Int), ((0 : Int), ((0 : Int), ()))) games (m : Int) = some d9 ∧
        ((e == 0) && ((decide ((m : Int) ≥ ((games.length : Nat) : Int))) || (!((d9.1 == r) && ((d9.2.1 == l[2 * i]) && ((d9.2.2.1 == l[2 * i + 1]) && true)))))) = false := by
      by_cases ce : e = 0
      · have hg' := hg ce
        simp only [gms, List.cons_append] at hg'
        have hlt : m < games.length := by
          rcases Nat.lt_or_ge m games.length with h | h
          · exact h
          · rw [List.drop_eq_nil_of_le h] at hg'; cases hg'
        rw [List.drop_eq_getElem_cons hlt] at hg'
        have hgm := (List.cons.inj hg').1
        have : ¬ (m : Int) ≥ ((games.length : Nat) : Int) := by omega
        refine ⟨games[m], ?_, ?_⟩
        · simp only [this, decide_false, Bool.not_false, beq_t ce, Bool.and_self, gat, cond_true]
          rw [at?_eq games (m : Int) (by omega) (by omega)]
          simp
        · simp [this, hgm]
      · exact ⟨_, by simp [beq_f ce, gat]; rfl, by simp [beq_f ce]⟩
    obtain ⟨d9, e1, e2⟩ := hcmp
    have binb : inb (i : Int) (pre ++ List.replicate (k + 1) 0).length = true := inb_iff.2 (by simp; omega)
    have hset : ∀ v, (pre ++ List.replicate (k + 1) 0).set ((i : Int)).toNat v = (pre ++ [v]) ++ List.replicate k 0 := fun v => by rw [Int.toNat_natCast, ← hp]; exact set_mid pre k v
    have hwm : w64 ((m : Int) + 1) = ((m + 1 : Nat) : Int) := by rw [w64_id (by omega) (by omega)]; rfl
    have hwi : w64 ((i : Int) + 1) = ((i + 1 : Nat) : Int) := by rw [w64_id (by omega) (by omega)]; rfl
    have hg2 : e = 0 → games.drop (m + 1) = gms r (l.drop (2 * (i + 1))) ++ rest := fun ce => by
      have hg' := hg ce
      simp only [gms, List.cons_append] at hg'
      have : games.drop (m + 1) = (games.drop m).drop 1 := by rw [List.drop_drop]
      rw [this, hg']
      rfl
    -- one step
    have fin : ∀ (u2 : Nat) (st2 : Bool) (v : Int), u2 ≤ R.length → law3Played_L3 ((l, u0, m0, st0, r, ()), ()) games e R (((u : Int), (m : Int), st, (i : Int), ()), (pre ++ List.replicate (k + 1) 0, ())) = some (.inl ((((u2 : Nat) : Int), ((m + 1 : Nat) : Int), st2, ((i + 1 : Nat) : Int), ()), ((pre ++ [v]) ++ List.replicate k 0, ()))) →
        rnd 0 (l[2 * i] :: l[2 * i + 1] :: l.drop (2 * i + 2)) (R.drop u) = (v :: (rnd 0 (l.drop (2 * i + 2)) (R.drop u2)).1, (rnd 0 (l.drop (2 * i + 2)) (R.drop u2)).2.1, (rnd 0 (l[2 * i] :: l[2 * i + 1] :: l.drop (2 * i + 2)) (R.drop u)).2.2) →
        (st2 || (rnd 0 (l.drop (2 * i + 2)) (R.drop u2)).2.2) = (st || (rnd 0 (l[2 * i] :: l[2 * i + 1] :: l.drop (2 * i + 2)) (R.drop u)).2.2) →
        ∃ u', iterW (law3Played_L3 ((l, u0, m0, st0, r, ()), ()) games e R) (((u : Int), (m : Int), st, (i : Int), ()), (pre ++ List.replicate (k + 1) 0, ())) =
          some (.inl ((((u' : Nat) : Int), ((m + (k + 1) : Nat) : Int), st || (rnd 0 (l[2 * i] :: l[2 * i + 1] :: l.drop (2 * i + 2)) (R.drop u)).2.2, ()), (pre ++ (rnd 0 (l[2 * i] :: l[2 * i + 1] :: l.drop (2 * i + 2)) (R.drop u)).1, ()))) ∧ R.drop u' = (rnd 0 (l[2 * i] :: l[2 * i + 1] :: l.drop (2 * i + 2)) (R.drop u)).2.1 ∧ u' ≤ R.length := by
      intro u2 st2 v hu2 hs hrn hst
      obtain ⟨u', q1, q2, q3⟩ := ih (i + 1) u2 (m + 1) st2 (pre ++ [v]) (by simp [hp]) (by omega) hu2 (by
        omega) hg2
      refine ⟨u', ?_, ?_, q3⟩
      · rw [iterW_inl hs, q1, ← hst]
        rw [show 2 * (i + 1) = 2 * i + 2 by omega]
        rw [hrn]
        simp only [List.append_assoc, List.cons_append, List.nil_append]
        rw [show m + 1 + k = m + (k + 1) by omega]
      · rw [q2, show 2 * (i + 1) = 2 * i + 2 by omega, hrn]
    have unf : ∀ res, rnd 0 (l[2 * i] :: l[2 * i + 1] :: l.drop (2 * i + 2)) res = if l[2 * i] < 0 ∨ l[2 * i + 1] < 0 then (mx l[2 * i] l[2 * i + 1] :: (rnd 0 (l.drop (2 * i + 2)) res).1, (rnd 0 (l.drop (2 * i + 2)) res).2) else match res with
        | [] => (0 :: (rnd 0 (l.drop (2 * i + 2)) []).1, (rnd 0 (l.drop (2 * i + 2)) []).2.1, true)
        | x :: res' => ((if x = 0 then l[2 * i + 1] else l[2 * i]) :: (rnd 0 (l.drop (2 * i + 2)) res').1, (rnd 0 (l.drop (2 * i + 2)) res').2) := fun res => by
      conv => lhs; unfold rnd
      cases res <;> rfl
    by_cases c : l[2 * i] < 0 ∨ l[2 * i + 1] < 0
    · have hb : ((l[2 * i] == -1) || (l[2 * i + 1] == -1)) = true := by
        simp only [Bool.or_eq_true, beq_iff_eq]; omega
      refine fin u st (mx l[2 * i] l[2 * i + 1]) hu ?_ ?_ ?_
      · unfold law3Played_L3
        simp only [h1, decide_true, cond_true, w0, w1, a0, a1, Option.bind_some, e1, e2, cond_false, hb, binb, req_true, hset, hwm, hwi]
        rfl
      · rw [unf, if_pos c]
      · rw [unf, if_pos c]
    · have hb : ((l[2 * i] == -1) || (l[2 * i + 1] == -1)) = false := by
        simp only [Bool.or_eq_false_iff, beq_eq_false_iff_ne]; omega
      by_cases cu : u = R.length
      · have hdn : R.drop u = [] := (drop_nil_iff hu).2 cu
        have hue : ((u : Int) == ((R.length : Nat) : Int)) = true := beq_t (by omega)
        refine fin u true 0 hu ?_ ?_ ?_
        · unfold law3Played_L3
          simp only [h1, decide_true, cond_true, w0, w1, a0, a1, Option.bind_some, e1, e2, cond_false, hb, hue, hwm, hwi]
          rw [List.replicate_succ]
          simp
        · rw [unf, if_neg c, hdn]
        · rw [unf, if_neg c, hdn]
          simp
      · have hlt : u < R.length := by omega
        have hdc := List.drop_eq_getElem_cons hlt
        have hue : ((u : Int) == ((R.length : Nat) : Int)) = false := beq_f (by omega)
        have hau : at? R (u : Int) = some R[u] := by rw [at?_eq R _ (by omega) (by omega)]; simp
        have hwu : w64 ((u : Int) + 1) = ((u + 1 : Nat) : Int) := by rw [w64_id (by omega) (by omega)]; rfl
        have hx := hR _ (List.getElem_mem hlt)
        refine fin (u + 1) st (if R[u] = 0 then l[2 * i + 1] else l[2 * i]) (by omega) ?_ ?_ ?_
        · unfold law3Played_L3
          simp only [h1, decide_true, cond_true, w0, w1, a0, a1, Option.bind_some, e1, e2, cond_false, hb, hue, binb, req_true, hau, hwu, hwm, hwi]
          rcases hx with hx | hx
          · simp [hx, ← hset]
          · have : inb (i : Int) ((pre ++ List.replicate (k + 1) 0).set ((i : Int)).toNat l[2 * i + 1]).length = true := inb_iff.2 (by simp; omega)
            rw [hx]
            simp only [beq_self_eq_true, cond_true, this, req_true, Option.bind_some]
            rw [List.set_set, hset]
            rfl
        · rw [unf, if_neg c, hdc]
        · rw [unf, if_neg c, hdc]
/-- all rounds of the law -/
theorem law_outer (R : List Int) (games : List Gm) (e : Int) (hR : ∀ x ∈ R, x = 0 ∨ x = 2) (hRl : R.length ≤ 40) : ∀ (j : Nat) (l : List Int) (u m r : Nat), l.length = 2 ^ j → j ≤ 5 → r + j ≤ 10 → (∀ x ∈ l, -1 ≤ x) → u ≤ R.length → m + l.length ≤ 500 → (e = 0 → games.drop m = (plays j l (R.drop u) r).2.1) →
    ∃ (l' : List Int) (u' : Nat), iterW (law3Played_L2 games e R) ((l, (u : Int), (m : Int), false, (r : Int), ()), ()) = some (.inl ((l', (u' : Int), ((m + (plays j l (R.drop u) r).2.1.length : Nat) : Int), (plays j l (R.drop u) r).2.2.2, ()), ())) ∧
      R.drop u' = (plays j l (R.drop u) r).1 ∧ u' ≤ R.length ∧ ((plays j l (R.drop u) r).2.2.2 = false → l' = (plays j l (R.drop u) r).2.2.1) := by
  intro j
  induction j with
  | zero =>
    intro l u m r hl _ hr hge hu hm hg
    refine ⟨l, u, iterW_inr ?_, rfl, hu, fun _ => rfl⟩
    unfold law3Played_L2
    have : ¬ ((l.length : Nat) : Int) > 1 := by rw [hl]; simp
    simp [this, plays]
  | succ j ih =>
    intro l u m r hl hj hr hge hu hm hg
    have hb : 2 ^ j ≤ 2 ^ 4 := Nat.pow_le_pow_right (by omega) (by omega)
    have hpos : 0 < 2 ^ j := Nat.pow_pos (by omega)
    have hlen : l.length = 2 * 2 ^ j := by rw [hl, Nat.pow_succ]; omega
    have hhalf : w64 (((l.length : Nat) : Int).tdiv 2) = ((2 ^ j : Nat) : Int) := by
      rw [Int.tdiv_eq_ediv_of_nonneg (by omega), show ((l.length : Nat) : Int) / 2 = ((2 ^ j : Nat) : Int) by omega, w64_id (by omega) (by omega)]
    have hgl := gms_len (r : Int) (2 ^ j) l hlen
    obtain ⟨t1, t2⟩ := rnd_two (-2) 0 (2 ^ j) l (R.drop u) hlen
    have hn2 := rnd_len (-2) (2 ^ j) l (R.drop u) hlen
    have hn0 := rnd_len 0 (2 ^ j) l (R.drop u) hlen
    have hg1 : e = 0 → games.drop m = gms (r : Int) (l.drop (2 * 0)) ++ (if (rnd (-2) l (R.drop u)).2.2 = true then [] else (plays j (rnd (-2) l (R.drop u)).1 (rnd (-2) l (R.drop u)).2.1 ((r : Int) + 1)).2.1) := fun ce => by
      rw [hg ce]
      conv => lhs; unfold plays
      by_cases c : (rnd (-2) l (R.drop u)).2.2 = true
      · simp [c]
      · simp [c]
    obtain ⟨u1, q1, q2, q3⟩ := law_inner l R games e (r : Int) (u : Int) (m : Int) false (by omega) hge hR hRl _ (2 ^ j) 0 u m false [] rfl (by omega) hu (by omega) hg1
    simp only [Int.natCast_zero, Nat.mul_zero, List.drop_zero, List.nil_append, Bool.false_or] at q1 q2
    have hc : ((l.length : Nat) : Int) > 1 := by omega
    have hroom : room (2 ^ j) 8 = true := room_ok (by omega)
    have h0 : decide (0 ≤ ((2 ^ j : Nat) : Int)) = true := by simp only [decide_eq_true_eq]; omega
    have hs : law3Played_L2 games e R ((l, (u : Int), (m : Int), false, (r : Int), ()), ()) = some (.inl (((rnd 0 l (R.drop u)).1, (u1 : Int), ((m + 2 ^ j : Nat) : Int), (rnd 0 l (R.drop u)).2.2, ((r + 1 : Nat) : Int), ()), ())) := by
      unfold law3Played_L2
      simp only [hc, decide_true, Bool.not_false, Bool.and_self, cond_true, hhalf, h0, beq_self_eq_true, hroom, req_true, Int.toNat_natCast]
      rw [q1]
      simp only [Option.bind_some, Sum.elim_inl, w64_id (n := (r : Int) + 1) (by omega) (by omega)]
      rfl
    rw [iterW_inl hs]
    by_cases c : (rnd (-2) l (R.drop u)).2.2 = true
    · have c0 : (rnd 0 l (R.drop u)).2.2 = true := by rw [← t1]; exact c
      have hpl : plays (j + 1) l (R.drop u) r = ((rnd (-2) l (R.drop u)).2.1, gms r l, (rnd (-2) l (R.drop u)).1, true) := by rw [plays, if_pos c]
      rw [hpl]
      refine ⟨(rnd 0 l (R.drop u)).1, u1, iterW_inr ?_, by rw [q2, t1], q3, fun h => by cases h⟩
      unfold law3Played_L2
      simp only [c0, Bool.not_true, Bool.and_false, cond_false, hgl]
    · have cf := Bool.eq_false_iff.2 c
      have c0 : (rnd 0 l (R.drop u)).2.2 = false := by rw [← t1]; exact cf
      have hpl : plays (j + 1) l (R.drop u) r = ((plays j (rnd (-2) l (R.drop u)).1 (rnd (-2) l (R.drop u)).2.1 (r + 1)).1, gms r l ++ (plays j (rnd (-2) l (R.drop u)).1 (rnd (-2) l (R.drop u)).2.1 (r + 1)).2.1, (plays j (rnd (-2) l (R.drop u)).1 (rnd (-2) l (R.drop u)).2.1 (r + 1)).2.2) := by rw [plays, if_neg c]
      have hgen := rnd_ge (-2) (2 ^ j) l (R.drop u) hlen hge cf
      have heq := t2 cf
      have hu1 : R.drop u1 = (rnd (-2) l (R.drop u)).2.1 := by rw [q2, t1]
      obtain ⟨l', u', i1, i2, i3, i4⟩ := ih (rnd (-2) l (R.drop u)).1 u1 (m + 2 ^ j) (r + 1) hn2 (by omega) (by omega) hgen q3 (by omega) (fun ce => by
        have h2 := hg ce
        rw [hpl] at h2
        have : games.drop (m + 2 ^ j) = (games.drop m).drop (2 ^ j) := by rw [List.drop_drop]
        rw [this, h2, hu1]
        simp only
        rw [List.drop_append_of_le_length (by omega), List.drop_eq_nil_of_le (by omega)]
        rfl)
      rw [hu1] at i1 i2 i4
      rw [hpl]
      simp only
      have e2 : (((r + 1 : Nat) : Int)) = (r : Int) + 1 := rfl
      rw [e2] at i1 i2 i4
      refine ⟨l', u', ?_, i2, i3, i4⟩
      rw [c0, ← heq, e2, i1]
      rw [List.length_append, hgl, Nat.add_assoc]
theorem played_spec {n : Nat} (hn : 2 ≤ n ∧ n ≤ 32) (R : List Int) (hRl : R.length ≤ 40) (q : List Gm × Int × Int × Unit) (hq : knockoutPlay n R = some q) : law3Played (bracket n) R q.1 q.2.1 q.2.2.1 = some true := by
  rw [play_spec hn R hRl] at hq
  have hq := (Option.some.inj hq).symm
  unfold law3Played
  have hL1 := iterW_any R badR (law3Played_L1 R q.2.2.1 q.1 q.2.1) (.inr ((q.2.2.1 == 4) && (w64 (((q.1.length : Nat) : Int) + q.2.1) == 0))) (.inl ((), ())) (fun i hi => by
    unfold law3Played_L1
    have h1 : (i : Int) < (R.length : Int) := by omega
    simp only [h1, decide_true, cond_true, at?_eq R (i : Int) (by omega) h1, Option.bind_some, Int.toNat_natCast, w64_id (n := (i : Int) + 1) (by omega) (by omega)]
    rfl) (by unfold law3Played_L1; simp)
  rw [hL1]
  cases hb : R.any badR with
  | true =>
    rw [if_pos hb] at hq
    subst hq
    simp
    decide
  | false =>
    rw [if_neg (by rw [hb]; simp)] at hq
    simp only at hq
    have hR : ∀ x ∈ R, x = 0 ∨ x = 2 := by
      intro x hx
      have := List.any_eq_false.1 hb x hx
      unfold badR at this
      simp only [Bool.and_eq_true, bne_iff_ne, ne_eq, not_and, Decidable.not_not] at this
      by_cases c : x = 0
      · exact .inl c
      · exact .inr (this c)
    obtain ⟨l1, l2⟩ := len_spec hn
    have hk := rk_bound n
    have hb2 : 2 ^ rk n ≤ 2 ^ 5 := Nat.pow_le_pow_right (by omega) hk.2
    obtain ⟨p1, p2, p3⟩ := plays_len (rk n) (bracket n) R 0 l1 l2
    have hlo := law_outer R q.1 q.2.2.1 hR hRl (rk n) (bracket n) 0 0 0 l1 hk.2 (by omega) l2 (by omega) (by omega) (fun he => by
      rw [List.drop_zero, List.drop_zero]
      rw [hq] at he ⊢
      by_cases c : (plays (rk n) (bracket n) R 0).1 ≠ []
      · rw [if_pos c] at he; cases he
      · rw [if_neg c]; rfl)
    obtain ⟨l', u', i1, i2, i3, i4⟩ := hlo
    simp only [Int.natCast_zero, List.drop_zero, Nat.zero_add] at i1 i2 i4
    simp only [cond_false, Option.bind_some, Sum.elim_inl]
    rw [i1]
    simp only [Option.bind_some, Sum.elim_inl]
    generalize plays (rk n) (bracket n) R 0 = pl at *
    obtain ⟨res', out, lF, st⟩ := pl
    simp only at hq i1 i2 i4 p1 p2 p3 ⊢
    by_cases c : res' = []
    · subst c
      have hu : u' = R.length := by
        rcases Nat.lt_or_ge u' R.length with h | h
        · rw [List.drop_eq_getElem_cons h] at i2; cases i2
        · omega
      rw [if_neg (fun h => h rfl)] at hq
      subst hq
      have : ¬ ((u' : Int) < ((R.length : Nat) : Int)) := by omega
      simp only [this, decide_false, cond_false]
      cases st with
      | true => simp
      | false =>
        obtain ⟨s1, s2⟩ := p1 rfl
        obtain ⟨y, rfl⟩ := List.length_eq_one_iff.1 s1
        rw [i4 rfl]
        simp [gat, at?, getD']
    · rw [if_pos c] at hq
      subst hq
      have hu : u' < R.length := by
        rcases Nat.lt_or_ge u' R.length with h | h
        · exact h
        · rw [List.drop_eq_nil_of_le h] at i2; exact absurd i2.symm c
      have : ((u' : Int) < ((R.length : Nat) : Int)) := by omega
      simp [this]
      decide
/-! ### where two players meet -/
theorem shr_eq (x : Nat) (s : Nat) (hs : s ≤ 60) : shK .shr .i64 (x : Int) (s : Int) = ((x / 2 ^ s : Nat) : Int) := by
  unfold shK
  have : min ((s : Int)).toNat IntKind.i64.bits = s := by simp [IntKind.bits]; omega
  simp only [this]
  rw [Int.fdiv_eq_ediv_of_nonneg _ (Int.pow_nonneg (by omega))]
  rw [show ((2 : Int) ^ s) = (((2 ^ s : Nat)) : Int) by rw [Int.natCast_pow]; rfl]
  exact (Int.natCast_ediv x (2 ^ s)).symm
theorem meet_loops (x y : Nat) : ∀ (k r : Nat), r + k ≤ 50 → x < 2 ^ (r + k) → y < 2 ^ (r + k) → ∃ q : Int, iterW knockoutMeet_L1 ((((x / 2 ^ r : Nat) : Int), ((y / 2 ^ r : Nat) : Int), (r : Int), ()), ()) = some ((q, ()), ()) ∧
    iterW (law3KnockoutPlays_L3 (((x : Int), (y : Int), ()), ())) (((r : Int), ()), ()) = some ((q, ()), ()) := by
  have hx2 : ∀ (z r : Nat), z < 2 ^ 50 → w64 ((((z / 2 ^ r : Nat) : Int)).tdiv 2) = ((z / 2 ^ (r + 1) : Nat) : Int) := fun z r hz => by
    have h1 : z / 2 ^ r ≤ z := Nat.div_le_self _ _
    rw [Int.tdiv_eq_ediv_of_nonneg (Int.natCast_nonneg _), Nat.pow_succ, ← Nat.div_div_eq_div_mul]
    generalize z / 2 ^ r = t at *
    rw [show ((t : Nat) : Int) / 2 = ((t / 2 : Nat) : Int) by omega]
    exact w64_id (by omega) (by omega)
  intro k
  induction k with
  | zero =>
    intro r hr hx hy
    have hb : 2 ^ (r + 0) ≤ 2 ^ 50 := Nat.pow_le_pow_right (by omega) (by omega)
    have e1 : x / 2 ^ (r + 1) = 0 := Nat.div_eq_of_lt (by rw [Nat.pow_succ]; simp only [Nat.add_zero] at hx; omega)
    have e2 : y / 2 ^ (r + 1) = 0 := Nat.div_eq_of_lt (by rw [Nat.pow_succ]; simp only [Nat.add_zero] at hy; omega)
    refine ⟨r, iterW_inr ?_, iterW_inr ?_⟩
    · unfold knockoutMeet_L1
      simp only [hx2 x r (by omega), hx2 y r (by omega), e1, e2, bne_self_eq_false, cond_false]
    · unfold law3KnockoutPlays_L3
      have hw : w64 ((r : Int) + 1) = ((r + 1 : Nat) : Int) := by rw [w64_id (by omega) (by omega)]; rfl
      have h0 : decide ((0 : Int) ≤ ((r + 1 : Nat) : Int)) = true := by simp only [decide_eq_true_eq]; omega
      simp only [hw, h0, req_true, shr_eq x (r + 1) (by omega), shr_eq y (r + 1) (by omega), e1, e2, bne_self_eq_false, cond_false]
  | succ k ih =>
    intro r hr hx hy
    have hb : 2 ^ (r + (k + 1)) ≤ 2 ^ 50 := Nat.pow_le_pow_right (by omega) (by omega)
    have hw : w64 ((r : Int) + 1) = ((r + 1 : Nat) : Int) := by rw [w64_id (by omega) (by omega)]; rfl
    have h0 : decide ((0 : Int) ≤ ((r + 1 : Nat) : Int)) = true := by simp only [decide_eq_true_eq]; omega
    by_cases c : x / 2 ^ (r + 1) = y / 2 ^ (r + 1)
    · refine ⟨r, iterW_inr ?_, iterW_inr ?_⟩
      · unfold knockoutMeet_L1
        simp only [hx2 x r (by omega), hx2 y r (by omega), c, bne_self_eq_false, cond_false]
      · unfold law3KnockoutPlays_L3
        simp only [hw, h0, req_true, shr_eq x (r + 1) (by omega), shr_eq y (r + 1) (by omega), c, bne_self_eq_false, cond_false]
    · have hne : ((((x / 2 ^ (r + 1) : Nat) : Int)) != ((y / 2 ^ (r + 1) : Nat) : Int)) = true := bne_t (fun h => c (Int.ofNat.inj h))
      obtain ⟨q, q1, q2⟩ := ih (r + 1) (by omega) (by rw [show r + 1 + k = r + (k + 1) by omega]; exact hx) (by rw [show r + 1 + k = r + (k + 1) by omega]; exact hy)
      refine ⟨q, ?_, ?_⟩
      · rw [← q1]
        refine iterW_inl ?_
        unfold knockoutMeet_L1
        simp only [hx2 x r (by omega), hx2 y r (by omega), hne, cond_true, hw]
      · rw [← q2]
        refine iterW_inl ?_
        unfold law3KnockoutPlays_L3
        simp only [hw, h0, req_true, shr_eq x (r + 1) (by omega), shr_eq y (r + 1) (by omega), hne, cond_true]
/-- the law looks at all places -/
theorem seat_loop {n : Nat} (hn : 2 ≤ n ∧ n ≤ 32) (a b : Int) : ∀ (k i : Nat) (x y : Int), i + k = 2 ^ rk n →
    iterW (law3KnockoutPlays_L2 (bracket n, 0, ()) (((rk n : Nat) : Int), 0, ()) n a b) ((x, y, (i : Int), ()), ()) = some (.inl ((idxL ((seats (rk n)).drop i) a x i, idxL ((seats (rk n)).drop i) b y i, ()), ())) := by
  obtain ⟨l1, l2⟩ := len_spec hn
  have hk := rk_bound n
  have hb2 : 2 ^ rk n ≤ 2 ^ 5 := Nat.pow_le_pow_right (by omega) hk.2
  have hsl : (seats (rk n)).length = 2 ^ rk n := by
    have : (bracket n).length = (seats (rk n)).length := by simp [bracket]
    omega
  intro k
  induction k with
  | zero =>
    intro i x y hi
    have hd : (seats (rk n)).drop i = [] := List.drop_eq_nil_of_le (by omega)
    rw [hd]
    refine iterW_inr ?_
    unfold law3KnockoutPlays_L2
    have : ¬ (i : Int) < (((bracket n).length : Nat) : Int) := by omega
    simp [this, idxL]
  | succ k ih =>
    intro i x y hi
    have h1 : (i : Int) < (((bracket n).length : Nat) : Int) := by omega
    have hi' : i < (seats (rk n)).length := by omega
    have hbr : getD' (bracket n) i 0 = if (seats (rk n))[i] ≥ (n : Int) then -1 else (seats (rk n))[i] := by
      rw [getD_eq (by omega)]
      simp [bracket]
    have hseat := seat_spec hk (show i < 2 ^ rk n by omega)
    have hgd : (seats (rk n)).getD i 0 = (seats (rk n))[i] := by simp [List.getD_eq_getElem?_getD, List.getElem?_eq_getElem hi']
    rw [hgd] at hseat
    have binb : inb (i : Int) (bracket n).length = true := inb_iff.2 (by omega)
    rw [List.drop_eq_getElem_cons hi']
    have hs : law3KnockoutPlays_L2 (bracket n, 0, ()) (((rk n : Nat) : Int), 0, ()) n a b ((x, y, (i : Int), ()), ()) = some (.inl ((if (seats (rk n))[i] = a then (i : Int) else x, if (seats (rk n))[i] = b then (i : Int) else y, ((i + 1 : Nat) : Int), ()), ())) := by
      unfold law3KnockoutPlays_L2
      simp only [h1, decide_true, cond_true, binb, req_true, hseat, Option.bind_some, Int.toNat_natCast, hbr, w64_id (n := (i : Int) + 1) (by omega) (by omega)]
      generalize (seats (rk n))[i] = s
      have hz : (((decide (s ≥ (n : Int))) && ((if s ≥ (n : Int) then -1 else s) != (-1 : Int))) || ((decide (s < (n : Int))) && ((if s ≥ (n : Int) then -1 else s) != s))) = false := by
        by_cases c : s ≥ (n : Int)
        · have : ¬ s < (n : Int) := by omega
          simp [c, this]
        · have : s < (n : Int) := by omega
          simp [c]
      rw [hz]
      have q : ∀ (z w v : Int), (bif z == w then some (((i : Int), ()), ()) else some ((v, ()), ())) = some ((if z = w then (i : Int) else v, ()), ()) := fun z w v => by
        by_cases c : z = w
        · simp [c]
        · simp [c, beq_f c]
      simp only [cond_false, q, Option.bind_some]
      rfl
    rw [iterW_inl hs, ih (i + 1) _ _ (by omega)]
    rfl
theorem brackets_ok : law3Brackets = some true := by
  unfold law3Brackets knockoutSeeds_i
  have : knockoutSeeds 2 = some (bracket 2) := seeds_spec (n := 2) (by omega)
  rw [this]
  decide +kernel
theorem meet_spec {n : Nat} (hn : 2 ≤ n ∧ n ≤ 32) (a b : Int) (hin : (0 ≤ a ∧ a < n) ∧ (0 ≤ b ∧ b < n) ∧ a ≠ b) : ∃ q : Int, knockoutMeet n a b = some (q, 0, ()) ∧ iterW (law3KnockoutPlays_L3 ((idxL (seats (rk n)) a (-1) 0, idxL (seats (rk n)) b (-1) 0, ()), ())) ((0, ()), ()) = some ((q, ()), ()) := by
  have hck : knockoutCheck (n : Int) = 0 := by
    unfold knockoutCheck
    have : (decide ((n : Int) < 2) || decide ((n : Int) > 32)) = false := by simp only [Bool.or_eq_false_iff, decide_eq_false_iff_not]; omega
    rw [this]; rfl
  obtain ⟨a1, a2, a3⟩ := idx_spec hn (a := a.toNat) (by omega)
  obtain ⟨b1, b2, b3⟩ := idx_spec hn (a := b.toNat) (by omega)
  have ea : ((a.toNat : Nat) : Int) = a := by omega
  have eb : ((b.toNat : Nat) : Int) = b := by omega
  rw [ea] at a1 a2 a3
  rw [eb] at b1 b2 b3
  obtain ⟨l1, _⟩ := len_spec hn
  have hk := rk_bound n
  have hb2 : 2 ^ rk n ≤ 2 ^ 5 := Nat.pow_le_pow_right (by omega) hk.2
  obtain ⟨q, q1, q2⟩ := meet_loops (idxF (bracket n) a 0).toNat (idxF (bracket n) b 0).toNat 5 0 (by omega) (by simp; omega) (by simp; omega)
  simp only [Nat.pow_zero, Nat.div_one, Int.natCast_zero, Int.toNat_of_nonneg a2, Int.toNat_of_nonneg b2] at q1 q2
  refine ⟨q, ?_, by rw [← a1, ← b1]; exact q2⟩
  unfold knockoutMeet
  have e1 : (((((decide (a < (0 : Int))) || (decide (a ≥ (n : Int)))) || (decide (b < (0 : Int)))) || (decide (b ≥ (n : Int)))) || (a == b)) = false := by
    simp only [Bool.or_eq_false_iff, decide_eq_false_iff_not, beq_eq_false_iff_ne]
    omega
  simp only [hck, bne_self_eq_false, cond_false, e1, seeds_spec hn, Option.bind_some, index_spec (bracket n) a (by omega), index_spec (bracket n) b (by omega), q1]
theorem law3KnockoutPlays_true (n : Int) (results : List Int) (a b : Int) (h1 : Rng (.int .i64) n) (h2 : Rng (.sl (.int .i64)) results) (h3 : Rng (.int .i64) a) (h4 : Rng (.int .i64) b) : law3KnockoutPlays n results a b = some true := by
  unfold law3KnockoutPlays
  rw [brackets_ok]
  have hb1 : boundsI 0 (if (40 : Int) < ((results.length : Nat) : Int) then (40 : Int) else ((results.length : Nat) : Int)) results.length = true := by
    unfold boundsI
    simp only [Bool.and_eq_true, decide_eq_true_eq]
    split <;> omega
  simp only [Option.bind_some, Bool.not_true, cond_false, hb1, req_true]
  have hRl : ((results.take ((if (40 : Int) < ((results.length : Nat) : Int) then (40 : Int) else ((results.length : Nat) : Int))).toNat).drop 0).length ≤ 40 := by
    simp only [List.drop_zero, List.length_take]
    split <;> omega
  generalize (results.take ((if (40 : Int) < ((results.length : Nat) : Int) then (40 : Int) else ((results.length : Nat) : Int))).toNat).drop 0 = R at hRl ⊢
  by_cases hn : 2 ≤ n ∧ n ≤ 32
  · obtain ⟨m, rfl⟩ : ∃ m : Nat, n = (m : Int) := ⟨n.toNat, by omega⟩
    have hm : 2 ≤ m ∧ m ≤ 32 := by omega
    have hk := rk_bound m
    obtain ⟨l1, l2⟩ := len_spec hm
    have hb2 : 2 ^ rk m ≤ 2 ^ 5 := Nat.pow_le_pow_right (by omega) hk.2
    obtain ⟨r1, r2⟩ := rounds_spec hm
    have hck : knockoutCheck (m : Int) = 0 := by
      unfold knockoutCheck
      have : (decide ((m : Int) < 2) || decide ((m : Int) > 32)) = false := by simp only [Bool.or_eq_false_iff, decide_eq_false_iff_not]; omega
      rw [this]; rfl
    have e1 : (decide ((m : Int) < 2) || decide ((m : Int) > 32)) = false := by simp only [Bool.or_eq_false_iff, decide_eq_false_iff_not]; omega
    have hq : ∃ q, knockoutPlay m R = some q := ⟨_, play_spec hm R hRl⟩
    obtain ⟨q, hq⟩ := hq
    have hpl := played_spec hm R hRl q hq
    have hsh : shK .shl .i64 1 ((rk m : Nat) : Int) = ((2 ^ rk m : Nat) : Int) := by
      have : ∀ k : Fin 6, shK .shl .i64 1 ((k.1 : Nat) : Int) = ((2 ^ k.1 : Nat) : Int) := by decide +kernel
      exact this ⟨rk m, by omega⟩
    have hk0 : decide (0 ≤ ((rk m : Nat) : Int)) = true := by simp
    have hsl := seat_loop hm a b (2 ^ rk m) 0 (-1) (-1) (by omega)
    simp only [Int.natCast_zero, List.drop_zero] at hsl
    have hmt : ∃ r11, knockoutMeet m a b = some r11 ∧ (bif (((decide ((if b < a then b else a) < (0 : Int))) || (decide ((if b > a then b else a) ≥ (m : Int)))) || (a == b)) then (bif ((r11.2.1 != (1 : Int)) || (r11.1 != (0 : Int))) then some (Sum.inr false)
        else some (Sum.inl ((), ())))
        else Option.bind (iterW (law3KnockoutPlays_L3 ((idxL (seats (rk m)) a (-1) 0, idxL (seats (rk m)) b (-1) 0, ()), ())) (((0 : Int), ()), ())) fun x20 =>
        bif ((r11.2.1 != (0 : Int)) || (r11.1 != x20.1.1)) then some (Sum.inr false)
        else some (Sum.inl ((), ()))) = (some (Sum.inl ((), ())) : Option ((Unit × Unit) ⊕ Bool)) := by
      by_cases c : (0 ≤ a ∧ a < m) ∧ (0 ≤ b ∧ b < m) ∧ a ≠ b
      · obtain ⟨z, z1, z2⟩ := meet_spec hm a b c
        have : (((decide ((if b < a then b else a) < (0 : Int))) || (decide ((if b > a then b else a) ≥ (m : Int)))) || (a == b)) = false := by
          simp only [Bool.or_eq_false_iff, decide_eq_false_iff_not, beq_eq_false_iff_ne]
          omega
        exact ⟨_, z1, by rw [this, z2]; simp⟩
      · have h5 : (((decide ((if b < a then b else a) < (0 : Int))) || (decide ((if b > a then b else a) ≥ (m : Int)))) || (a == b)) = true := by
          simp only [Bool.or_eq_true, decide_eq_true_eq, beq_iff_eq]
          omega
        have h6 : (((((decide (a < (0 : Int))) || (decide (a ≥ (m : Int)))) || (decide (b < (0 : Int)))) || (decide (b ≥ (m : Int)))) || (a == b)) = true := by
          simp only [Bool.or_eq_true, decide_eq_true_eq, beq_iff_eq]
          omega
        refine ⟨(0, 1, ()), ?_, by rw [h5]; rfl⟩
        unfold knockoutMeet
        simp [hck, h6]
    obtain ⟨r11, m1, m2⟩ := hmt
    have hro : knockoutRounds_i (m : Int) = some (((rk m : Nat) : Int), 0, ()) := by
      unfold knockoutRounds_i
      simp [hck, r1]
    have hse : knockoutSeeds_i (m : Int) = some (bracket m, 0, ()) := by
      unfold knockoutSeeds_i
      simp [hck, seeds_spec hm]
    simp only [hro, hse, hq, m1, Option.bind_some, e1, cond_false, r2, bne_self_eq_false, Bool.or_self, Bool.not_false, imp, cond_true, hk0, req_true, hsh, l1, hsl, Sum.elim_inl]
    rw [m2]
    simp only [Option.bind_some, Sum.elim_inl, hpl]
  · have e1 : (decide (n < 2) || decide (n > 32)) = true := by simp only [Bool.or_eq_true, decide_eq_true_eq]; omega
    have hck : knockoutCheck n = 4 := by unfold knockoutCheck; rw [e1]; rfl
    simp [knockoutRounds_i, knockoutSeeds_i, knockoutPlay, knockoutMeet, hck, e1]
    decide
end Go.Proofs.Ytcdpkebphgeipaa
