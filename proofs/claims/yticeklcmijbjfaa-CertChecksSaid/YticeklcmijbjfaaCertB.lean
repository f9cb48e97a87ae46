/- Certificates: what the reference's search of a list gives. No condition of its own. -/
import Derived.Test.YticeklcmijbjfaaCertA
import Derived.Test.YticeklcmijbjfaaCertChecksS
import Derived.Test.YticeklcmijbjfaaCertChecksM
import Derived.Test.YticeklcmijbjfaaGameP
namespace Go.Proofs.Yticeklcmijbjfaa
open Go.Den
set_option linter.unusedVariables false
set_option linter.unusedSimpArgs false
set_option maxRecDepth 100000

theorem winsL_same {l : List CNode} {f : List Bool → Place → Int → List Bool × Int} {r : Rules} {q : Place} {own k : Int} {d : Nat} (h : ∀ u s j, j ∈ reps l k → k < j → (f u s j).1[d]? = u[d]?) : ∀ (xs : List (Mv × Int)) (u : List Bool) (best : Int), (∀ x ∈ xs, x.2 ∈ reps l k) → (winsL f r q own k xs u best).1[d]? = u[d]?
  | [], _, _, _ => rfl
  | (m, j) :: rest, u, best, hx => by
    have hr : ∀ x ∈ rest, x.2 ∈ reps l k := fun x hm => hx x (List.mem_cons_of_mem _ hm)
    unfold winsL
    cases hc : ((resultOf r (afterOf r q m) == 0) && decide (j > k)) with
    | true =>
      simp only [Bool.and_eq_true, decide_eq_true_eq] at hc
      have hj := h u (afterOf r q m) j (hx (m, j) List.mem_cons_self) hc.2
      simp only [cond_true]
      cases ((f u (afterOf r q m) j).2 == 0) with
      | true => exact hj
      | false => simp only [cond_false]; rw [winsL_same h rest _ _ hr, hj]
    | false =>
      simp only [cond_false]
      cases ((resultOf r (afterOf r q m) != own) || (j != -1)) with
      | true => rfl
      | false => simp only [cond_false]; exact winsL_same h rest _ _ hr
theorem reps_get {l : List CNode} {k : Int} {nd : CNode} (h : l[k.toNat]? = some nd) : reps l k = nd.2.1 := by
  unfold reps
  rw [List.getD_eq_getElem?_getD, h]; rfl
theorem zip_reps {l : List CNode} {k : Int} {nd : CNode} (h : l[k.toNat]? = some nd) (ms : List Mv) : ∀ x ∈ ms.zip nd.2.1, x.2 ∈ reps l k := fun x hx => by
  rw [reps_get h]
  exact (List.of_mem_zip hx).2
theorem winsN_same {l : List CNode} {r : Rules} {d : Nat} : ∀ (m : Nat) (u : List Bool) (p : Place) (k : Int), 0 ≤ k → ¬ Anc l k (d : Int) → (winsN l r m u p k).1[d]? = u[d]?
  | 0, _, _, _, _, _ => rfl
  | m + 1, u, p, k, h0, hd => by
    have hne : k.toNat ≠ d := fun e => hd (by rw [show (d : Int) = k by omega]; exact .refl k)
    have hset : (u.set k.toNat true)[d]? = u[d]? := by rw [List.getElem?_set, if_neg hne]
    unfold winsN
    cases hl : l[k.toNat]? with
    | none => rfl
    | some nd =>
      simp only []
      cases (!allowedB r p nd.1) with
      | true => rfl
      | false =>
        simp only [cond_false]
        cases (resultOf r (afterOf r p nd.1) != 0) with
        | true => exact hset
        | false =>
          simp only [cond_false]
          cases (!decide ((movesOf r (afterOf r p nd.1)).length = nd.2.1.length)) with
          | true => exact hset
          | false =>
            simp only [cond_false]
            rw [winsL_same (l := l) (fun u s j hj hkj => winsN_same m u s j (by omega) fun ha => hd (Anc.trans (.up (.refl k) hj hkj h0) ha)) _ _ _ (zip_reps hl _), hset]
theorem winsL_len {f : List Bool → Place → Int → List Bool × Int} {r : Rules} {q : Place} {own k : Int} (h : ∀ u s j, (f u s j).1.length = u.length) : ∀ (xs : List (Mv × Int)) (u : List Bool) (best : Int), (winsL f r q own k xs u best).1.length = u.length
  | [], _, _ => rfl
  | (m, j) :: rest, u, best => by
    unfold winsL
    cases ((resultOf r (afterOf r q m) == 0) && decide (j > k)) with
    | true =>
      simp only [cond_true]
      cases ((f u (afterOf r q m) j).2 == 0) with
      | true => exact h _ _ _
      | false => simp only [cond_false]; rw [winsL_len h rest, h]
    | false =>
      simp only [cond_false]
      cases ((resultOf r (afterOf r q m) != own) || (j != -1)) with
      | true => rfl
      | false => simp only [cond_false]; exact winsL_len h rest _ _
theorem winsN_len {l : List CNode} {r : Rules} : ∀ (m : Nat) (u : List Bool) (p : Place) (k : Int), (winsN l r m u p k).1.length = u.length
  | 0, _, _, _ => rfl
  | m + 1, u, p, k => by
    unfold winsN
    cases hl : l[k.toNat]? with
    | none => rfl
    | some nd =>
      simp only []
      cases (!allowedB r p nd.1) with
      | true => rfl
      | false =>
        simp only [cond_false]
        cases (resultOf r (afterOf r p nd.1) != 0) with
        | true => simp
        | false =>
          simp only [cond_false]
          cases (!decide ((movesOf r (afterOf r p nd.1)).length = nd.2.1.length)) with
          | true => simp
          | false =>
            simp only [cond_false]
            rw [winsL_len (fun u s j => winsN_len m u s j)]; simp
/-- the values -/
theorem valL_rng {f : Place → Int → Int} {r : Rules} {q : Place} {own k B : Int} (h : ∀ s j, j > k → 0 ≤ f s j ∧ f s j + 2 ≤ B) (hB : 2 ≤ B) : ∀ (xs : List (Mv × Int)) (best : Int), 0 ≤ best → best ≤ B → 0 ≤ valL f r q own k xs best ∧ valL f r q own k xs best ≤ B
  | [], best, h0, h1 => ⟨h0, h1⟩
  | (m, j) :: rest, best, h0, h1 => by
    unfold valL
    cases hc : ((resultOf r (afterOf r q m) == 0) && decide (j > k)) with
    | true =>
      simp only [Bool.and_eq_true, decide_eq_true_eq] at hc
      have hj := h (afterOf r q m) j hc.2
      simp only [cond_true]
      cases (f (afterOf r q m) j == 0) with
      | true => simp only [cond_true]; omega
      | false => simp only [cond_false]; exact valL_rng h hB rest _ (by omega) (by omega)
    | false =>
      simp only [cond_false]
      cases ((resultOf r (afterOf r q m) != own) || (j != -1)) with
      | true => simp only [cond_true]; omega
      | false => simp only [cond_false]; exact valL_rng h hB rest _ (by omega) (by omega)
theorem valN_rng {l : List CNode} {r : Rules} : ∀ (m : Nat) (p : Place) (k : Int), 0 ≤ valN l r m p k ∧ valN l r m p k ≤ 2 * (m : Int)
  | 0, _, _ => by unfold valN; omega
  | m + 1, p, k => by
    unfold valN
    cases hl : l[k.toNat]? with
    | none => simp only []; omega
    | some nd =>
      simp only []
      cases (!allowedB r p nd.1) with
      | true => simp only [cond_true]; omega
      | false =>
        simp only [cond_false]
        cases (resultOf r (afterOf r p nd.1) != 0) with
        | true =>
          simp only [cond_true]
          cases ((resultOf r (afterOf r p nd.1) == 1 + p.turn) && decide (nd.2.1.length = 0)) with
          | true => simp only [cond_true]; omega
          | false => simp only [cond_false]; omega
        | false =>
          simp only [cond_false]
          cases (!decide ((movesOf r (afterOf r p nd.1)).length = nd.2.1.length)) with
          | true => simp only [cond_true]; omega
          | false =>
            simp only [cond_false]
            exact valL_rng (fun s j _ => by have := valN_rng (l := l) (r := r) m s j; omega) (by omega) _ 0 (by omega) (by omega)
/-- the replies name later nodes, or none -/
def FormL (l : List CNode) : Prop := ∀ k : Int, 0 ≤ k → ∀ j ∈ reps l k, j = -1 ∨ (k < j ∧ j < (l.length : Int))
abbrev WsT := (List Bool) × Rules × Place × (List CNode) × Int × Unit
structure WsI (x : WsT) : Prop where
  v : Valid x.2.1 x.2.2.1
  res : resultOf x.2.1 x.2.2.1 = 0
  k0 : 0 ≤ x.2.2.2.2.1
  k1 : x.2.2.2.2.1 < (x.2.2.2.1.length : Int)
  len : x.1.length = x.2.2.2.1.length
  small : x.2.2.2.1.length ≤ 1000
  form : FormL x.2.2.2.1
  tree : TreeL x.2.2.2.1
  free : ∀ d : Nat, Anc x.2.2.2.1 x.2.2.2.2.1 (d : Int) → x.1[d]? ≠ some true
theorem if_max (a b : Int) : (if b > a then b else a) = max a b := by
  rw [Int.max_def]
  by_cases h : a ≤ b
  · rw [if_pos h]
    by_cases h2 : b > a
    · rw [if_pos h2]
    · rw [if_neg h2]; omega
  · rw [if_neg h, if_neg (by omega)]
theorem wins_loop {r : Rules} {q p : Place} {l : List CNode} {k : Int} {nd : CNode} {M : Nat} (hq : Valid r q) (hp : Valid r p) (hT : TreeL l) (hk : 0 ≤ k) (hM : M ≤ 1000) (hnd : l[k.toNat]? = some nd) (hlen : (movesOf r q).length = nd.2.1.length) (hk1 : k < 1000)
    (φ : WsT → Option ((List Bool) × Int)) (ih : ∀ u s j, j ∈ reps l k → k < j → Valid r s → resultOf r s = 0 → u.length = l.length → (∀ d : Nat, Anc l j (d : Int) → u[d]? ≠ some true) → φ (u, r, s, l, j, ()) = some (winsN l r M u s j)) :
    ∀ (n i : Nat) (u : List Bool) (best : Int), i + n = (movesOf r q).length → 0 ≤ best → best ≤ 2002 → u.length = l.length →
      (∀ t : Nat, i ≤ t → ∀ j, nd.2.1[t]? = some j → k < j → ∀ d : Nat, Anc l j (d : Int) → u[d]? ≠ some true) →
      Option.bind (iterW (law1Wins_L1 (movesOf r q) r ((q, ()), ()) l k φ p) ((best, (i : Int), ()), (u, ()))) (Sum.elim (fun x => some (x.2.1, x.1.1)) some) = some (winsL (winsN l r M) r q (1 + p.turn) k (((movesOf r q).zip nd.2.1).drop i) u best)
  | 0, i, u, best, hi, _, _, _, _ => by
    have hd : ((movesOf r q).zip nd.2.1).drop i = [] := by rw [List.drop_eq_nil_iff, List.length_zip]; omega
    rw [hd, iterW_inr (r := Sum.inl ((best, ()), (u, ()))) (by
      unfold law1Wins_L1
      simp only []
      rw [decide_eq_false (by omega), cond_false])]
    rfl
  | n + 1, i, u, best, hi, hb0, hb1, hu, hf => by
    have hil : i < (movesOf r q).length := by omega
    have hil2 : i < nd.2.1.length := by omega
    have ht : p.2.2.1 = 0 ∨ p.2.2.1 = 1 := hp.turn
    have hml := movesOf_len hq
    have hdrop : ((movesOf r q).zip nd.2.1).drop i = ((movesOf r q)[i], nd.2.1[i]) :: ((movesOf r q).zip nd.2.1).drop (i + 1) := by
      rw [List.drop_eq_getElem_cons (by rw [List.length_zip]; omega), List.getElem_zip]
    have hal : allowedB r q (movesOf r q)[i] = true := (movesOf_mem _).1 (List.getElem_mem _)
    have hvs := after_valid hq hal
    have hjm : nd.2.1[i] ∈ reps l k := by rw [reps_get hnd]; exact List.getElem_mem _
    have hkl : k.toNat < l.length := (List.getElem?_eq_some_iff.1 hnd).1
    have hatk : at? l k = some nd := by rw [at?_eq l k hk (by omega), ← hnd, List.getElem?_eq_getElem hkl]
    have hown : w64 (1 + p.2.2.1) = 1 + p.turn := (turn_w hp).2.1
    have hw1 : w64 ((i : Int) + 1) = ((i + 1 : Nat) : Int) := by rw [w64_id (by omega) (by omega)]; omega
    have hstep : law1Wins_L1 (movesOf r q) r ((q, ()), ()) l k φ p ((best, (i : Int), ()), (u, ())) =
        Option.bind (bif ((resultOf r (afterOf r q (movesOf r q)[i]) == 0) && decide (nd.2.1[i] > k)) then (Option.bind (φ (u, r, afterOf r q (movesOf r q)[i], l, nd.2.1[i], ())) fun w => bif (w.2 == 0) then some (Sum.inr (Sum.inr (Sum.inr (w.1, 0)))) else some (Sum.inl ((w.2, ()), (w.1, ()))))
          else bif ((resultOf r (afterOf r q (movesOf r q)[i]) != 1 + p.turn) || (nd.2.1[i] != -1)) then some (Sum.inr (Sum.inr (Sum.inr (u, 0)))) else some (Sum.inl (((0 : Int), ()), (u, ())))) (Sum.elim (fun x : (Int × Unit) × (List Bool) × Unit => some (Sum.inl (((if (w64 (x.1.1 + 2)) > best then (w64 (x.1.1 + 2)) else best), ((i + 1 : Nat) : Int), ()), (x.2.1, ())))) some) := by
      unfold law1Wins_L1
      simp only []
      rw [ltd _ i hil, cond_true, inbN _ i hil, req_true, Int.toNat_natCast, gd_eq _ i hil, pl_eta, refAfter_spec hq hal, Option.bind_some, pl_eta, refResult_spec hvs, Option.bind_some, hatk, Option.bind_some, at?_eq nd.2.1 (i : Int) (by omega) (by omega), Option.bind_some, hown, hw1]
      rfl
    rw [hdrop]
    unfold winsL
    cases hc : ((resultOf r (afterOf r q (movesOf r q)[i]) == 0) && decide (nd.2.1[i] > k)) with
    | true =>
      have hc' := hc
      simp only [Bool.and_eq_true, beq_iff_eq, decide_eq_true_eq] at hc'
      obtain ⟨hr0, hjk⟩ := hc'
      have hφ := ih u (afterOf r q (movesOf r q)[i]) nd.2.1[i] hjm hjk hvs hr0 hu (hf i (Nat.le_refl _) _ (List.getElem?_eq_getElem hil2) hjk)
      rw [hc, cond_true, hφ, Option.bind_some] at hstep
      have hwr := valN_rng (l := l) (r := r) M (afterOf r q (movesOf r q)[i]) nd.2.1[i]
      rw [← winsN_val M u] at hwr
      have hwl := winsN_len (l := l) (r := r) M u (afterOf r q (movesOf r q)[i]) nd.2.1[i]
      have hws := fun (d : Nat) (hd : ¬ Anc l nd.2.1[i] (d : Int)) => winsN_same (l := l) (r := r) (d := d) M u (afterOf r q (movesOf r q)[i]) nd.2.1[i] (by omega) hd
      generalize winsN l r M u (afterOf r q (movesOf r q)[i]) nd.2.1[i] = W at hstep hwr hwl hws ⊢
      simp only [cond_true]
      cases hz : (W.2 == 0) with
      | true =>
        rw [hz, cond_true] at hstep
        rw [iterW_inr hstep]
        rfl
      | false =>
        rw [hz, cond_false] at hstep
        have hstep2 : law1Wins_L1 (movesOf r q) r ((q, ()), ()) l k φ p ((best, (i : Int), ()), (u, ())) = some (.inl ((max best (W.2 + 2), ((i + 1 : Nat) : Int), ()), (W.1, ()))) := by
          rw [hstep]
          simp only [Option.bind_some, Sum.elim_inl, w64_id (n := W.2 + 2) (by omega) (by omega), if_max]
        rw [iterW_inl hstep2, cond_false]
        refine wins_loop hq hp hT hk hM hnd hlen hk1 φ ih n (i + 1) W.1 _ (by omega) (by omega) (by omega) (by rw [hwl, hu]) (fun t ht j hj hkj d hd => ?_)
        have hjr : j ∈ reps l k := by rw [reps_get hnd]; exact List.mem_of_getElem? hj
        have hne : nd.2.1[i] ≠ j := fun e => by
          have h1 := hT.once k j hk hkj
          rw [reps_get hnd] at h1
          have h2 : 2 ≤ nd.2.1.count j := by
            have htl : t < nd.2.1.length := (List.getElem?_eq_some_iff.1 hj).1
            have h3 : nd.2.1 = nd.2.1.take (i + 1) ++ nd.2.1.drop (i + 1) := (List.take_append_drop _ _).symm
            rw [h3, List.count_append]
            have h4 : 0 < (nd.2.1.take (i + 1)).count j := List.count_pos_iff.2 (by
              rw [← e]
              exact List.mem_take_iff_getElem.2 ⟨i, by omega, rfl⟩)
            have h5 : 0 < (nd.2.1.drop (i + 1)).count j := List.count_pos_iff.2 (by
              have h6 : (nd.2.1.drop (i + 1))[t - (i + 1)]? = some j := by
                rw [List.getElem?_drop, show i + 1 + (t - (i + 1)) = t by omega]; exact hj
              exact List.mem_of_getElem? h6)
            omega
          omega
        rw [hws d fun ha => hT.apart hk hjm hjr hjk hkj hne ha hd]
        exact hf t (by omega) j hj hkj d hd
    | false =>
      rw [hc, cond_false] at hstep
      simp only [cond_false]
      cases hz : ((resultOf r (afterOf r q (movesOf r q)[i]) != 1 + p.turn) || (nd.2.1[i] != -1)) with
      | true =>
        rw [hz, cond_true] at hstep
        rw [iterW_inr hstep]
        rfl
      | false =>
        rw [hz, cond_false] at hstep
        have hstep2 : law1Wins_L1 (movesOf r q) r ((q, ()), ()) l k φ p ((best, (i : Int), ()), (u, ())) = some (.inl ((max best 2, ((i + 1 : Nat) : Int), ()), (u, ()))) := by
          rw [hstep]
          simp only [Option.bind_some, Sum.elim_inl, w64_id (n := (0 : Int) + 2) (by omega) (by omega), if_max]
          rfl
        rw [iterW_inl hstep2, cond_false]
        exact wins_loop hq hp hT hk hM hnd hlen hk1 φ ih n (i + 1) u _ (by omega) (by omega) (by omega) hu (fun t ht => hf t (by omega))
theorem wins_fix : ∀ x : WsT, WsI x → fixW law1Wins_G x = some (winsN x.2.2.2.1 x.2.1 (x.2.2.2.1.length - x.2.2.2.2.1.toNat) x.1 x.2.2.1 x.2.2.2.2.1) := by
  refine fixW_ind law1Wins_Mono _ (fun x => x.2.2.2.1.length - x.2.2.2.2.1.toNat) _ ?_
  rintro φ ⟨u, r, p, l, k, ⟨⟩⟩ ⟨hv, hres, hk0, hk1, hlen, hsm, hform, hT, hfree⟩ ih
  show law1Wins_F φ u r p l k = _
  simp only [] at hv hres hk0 hk1 hlen hsm hform hT hfree ih ⊢
  obtain ⟨M, hM⟩ : ∃ M, l.length - k.toNat = M + 1 := ⟨l.length - k.toNat - 1, by omega⟩
  have hkl : k.toNat < l.length := by omega
  obtain ⟨nd, hnd⟩ : ∃ nd, l[k.toNat]? = some nd := ⟨_, List.getElem?_eq_getElem hkl⟩
  have hatk : at? l k = some nd := by rw [at?_eq l k hk0 (by omega), ← hnd, List.getElem?_eq_getElem hkl]
  have hu : getD' u k.toNat false = false := by
    have h1 := hfree k.toNat (by rw [show ((k.toNat : Nat) : Int) = k by omega]; exact .refl k)
    rw [List.getElem?_eq_getElem (by omega)] at h1
    rw [gd_eq u _ (by omega)]
    cases h2 : u[k.toNat]'(by omega) with
    | true => rw [h2] at h1; exact absurd rfl h1
    | false => rfl
  have hik : inb k u.length = true := inb_iff.2 ⟨hk0, by omega⟩
  have hown : w64 (1 + p.2.2.1) = 1 + Place.turn p := (turn_w hv).2.1
  rw [hM]
  unfold law1Wins_F winsN
  rw [hnd]
  simp only []
  have hkd : decide (k ≥ ((l.length : Nat) : Int)) = false := decide_eq_false (by omega)
  rw [hkd, hu, hik]
  simp only [Bool.not_false, Bool.or_self, imp, cond_true, req_true, gat, gopt, hatk, Option.bind_some, allowed_spec hv, Bool.false_or]
  cases ha : allowedB r p nd.1 with
  | false => rfl
  | true =>
    have hvq := after_valid hv ha
    simp only [Bool.not_true, cond_false, refAfter_spec hv ha, Option.bind_some, pl_eta]
    simp only [agree_self, Option.bind_some, pl_eta, refResult_spec hvq, hown]
    cases hr : (resultOf r (afterOf r p nd.1) != 0) with
    | true =>
      simp only [cond_true]
      by_cases hw : resultOf r (afterOf r p nd.1) = 1 + Place.turn p
      · rw [beq_t hw]
        simp only [cond_true, hatk, Option.bind_some, Bool.true_and]
        by_cases h0 : nd.2.1.length = 0
        · rw [beq_t (show ((nd.2.1.length : Nat) : Int) = 0 by omega), decide_eq_true h0]; rfl
        · rw [beq_f (show ¬ ((nd.2.1.length : Nat) : Int) = 0 by omega), decide_eq_false h0]; rfl
      · rw [beq_f hw]
        simp only [cond_false, Option.bind_some, Bool.false_and]
    | false =>
      simp only [cond_false, refMoves_spec hvq, Option.bind_some, hatk]
      by_cases hl : (movesOf r (afterOf r p nd.1)).length = nd.2.1.length
      · rw [bne_f (show (((movesOf r (afterOf r p nd.1)).length : Nat) : Int) = ((nd.2.1.length : Nat) : Int) by omega), decide_eq_true hl]
        simp only [Bool.not_true, cond_false]
        have := wins_loop (M := M) hvq hv hT hk0 (by omega) hnd hl (by omega) φ (fun u' s j hj hkj hvs hrs hu' hf' => by
          have hfj := hform k hk0 j hj
          have hjl : j < (l.length : Int) := by omega
          have := ih (u', r, s, l, j, ()) ⟨hvs, hrs, by show 0 ≤ j; omega, hjl, hu', hsm, hform, hT, hf'⟩ (by show l.length - j.toNat < l.length - k.toNat; omega)
          rw [this]
          simp only []
          rw [winsN_fuel (l.length - j.toNat) M u' s j (by omega) (by omega) (by omega)]) (movesOf r (afterOf r p nd.1)).length 0 (u.set k.toNat true) 0 (by omega) (by omega) (by omega) (by simpa using hlen) (fun t _ j hj hkj d hd => by
            have hd2 : Anc l k (d : Int) := Anc.trans (.up (.refl k) (by rw [reps_get hnd]; exact List.mem_of_getElem? hj) hkj hk0) hd
            have hne : k.toNat ≠ d := fun e => by have := hd.le; omega
            rw [List.getElem?_set, if_neg hne]
            exact hfree d hd2)
        rw [List.drop_zero] at this
        exact this
      · rw [bne_t (show ¬ (((movesOf r (afterOf r p nd.1)).length : Nat) : Int) = ((nd.2.1.length : Nat) : Int) by omega), decide_eq_false hl]
        rfl
/-- the program's search of a list -/
abbrev PsT := Rules × Place × (List CNode) × Int × Unit
structure PsI (x : PsT) : Prop where
  v : Valid x.1 x.2.1
  k0 : 0 ≤ x.2.2.2.1
  k1 : x.2.2.2.1 < (x.2.2.1.length : Int)
  small : x.2.2.1.length ≤ 1000
  form : FormL x.2.2.1
def okL (f : Place → Int → Int) (r : Rules) (q : Place) (own k : Int) : List (Mv × Int) → Bool
  | [] => true
  | (m, j) :: rest => (bif (resultOf r (afterOf r q m) == 0) && decide (j > k) then (f (afterOf r q m) j != 0) else !((resultOf r (afterOf r q m) != own) || (j != -1))) && okL f r q own k rest
theorem valL_ok {f : Place → Int → Int} {r : Rules} {q : Place} {own k : Int} (h : ∀ s j, 0 ≤ f s j) : ∀ (xs : List (Mv × Int)) (best : Int), 0 ≤ best → (okL f r q own k xs = false → valL f r q own k xs best = 0) ∧ (okL f r q own k xs = true → best ≤ valL f r q own k xs best ∧ (xs ≠ [] → 2 ≤ valL f r q own k xs best))
  | [], best, hb => ⟨fun h => (by cases h), fun _ => ⟨Int.le_refl _, fun h => absurd rfl h⟩⟩
  | (m, j) :: rest, best, hb => by
    have hf := h (afterOf r q m) j
    unfold okL valL
    cases ((resultOf r (afterOf r q m) == 0) && decide (j > k)) with
    | true =>
      simp only [cond_true]
      obtain ⟨i1, i2⟩ := valL_ok (r := r) (q := q) (own := own) (k := k) h rest (max best (f (afterOf r q m) j + 2)) (by omega)
      by_cases hz : f (afterOf r q m) j = 0
      · rw [bne_f hz, beq_t hz]
        exact ⟨fun _ => rfl, fun h => by simp at h⟩
      · rw [bne_t hz, beq_f hz, Bool.true_and, cond_false]
        refine ⟨i1, fun h => ?_⟩
        have h3 := (i2 h).1
        exact ⟨by omega, fun _ => by omega⟩
    | false =>
      simp only [cond_false]
      obtain ⟨i1, i2⟩ := valL_ok (r := r) (q := q) (own := own) (k := k) h rest (max best 2) (by omega)
      cases ((resultOf r (afterOf r q m) != own) || (j != -1)) with
      | true => exact ⟨fun _ => rfl, fun h => by simp at h⟩
      | false =>
        rw [Bool.not_false, Bool.true_and, cond_false]
        refine ⟨i1, fun h => ?_⟩
        have h3 := (i2 h).1
        exact ⟨by omega, fun _ => by omega⟩
/-- what the program gives -/
def psV (l : List CNode) (r : Rules) (p : Place) (k : Int) : Int × Bool × Unit := match l[k.toNat]? with
  | none => (0, (false, ()))
  | some nd => bif (resultOf r p != 0) || !allowedB r p nd.1 then (0, (false, ())) else
    bif (resultOf r (afterOf r p nd.1) != 0) then (1, (((resultOf r (afterOf r p nd.1) == 1 + p.turn) && decide (nd.2.1.length = 0)), ())) else
    (valN l r (l.length - k.toNat) p k, (valN l r (l.length - k.toNat) p k != 0, ()))
theorem psV_over {l : List CNode} {r : Rules} {p : Place} {k : Int} (h : ¬ resultOf r p = 0) : (psV l r p k).2.1 = false := by
  unfold psV
  cases l[k.toNat]? with
  | none => rfl
  | some nd => simp only []; rw [bne_t h, Bool.true_or, cond_true]
theorem psV_open {l : List CNode} {r : Rules} {p : Place} {k : Int} (h : resultOf r p = 0) (hk : k.toNat < l.length) : (psV l r p k).2.1 = (valN l r (l.length - k.toNat) p k != 0) ∧ ((psV l r p k).2.1 = true → (psV l r p k).1 = valN l r (l.length - k.toNat) p k) := by
  obtain ⟨M, hM⟩ : ∃ M, l.length - k.toNat = M + 1 := ⟨l.length - k.toNat - 1, by omega⟩
  obtain ⟨nd, hnd⟩ : ∃ nd, l[k.toNat]? = some nd := ⟨_, List.getElem?_eq_getElem hk⟩
  unfold psV
  rw [hM, hnd]
  simp only []
  rw [bne_f h, Bool.false_or]
  have hv : valN l r (M + 1) p k = (bif !allowedB r p nd.1 then 0 else
      bif (resultOf r (afterOf r p nd.1) != 0) then (bif ((resultOf r (afterOf r p nd.1) == 1 + p.turn) && decide (nd.2.1.length = 0)) then 1 else 0) else
      bif !decide ((movesOf r (afterOf r p nd.1)).length = nd.2.1.length) then 0 else
      valL (valN l r M) r (afterOf r p nd.1) (1 + p.turn) k ((movesOf r (afterOf r p nd.1)).zip nd.2.1) 0) := by
    conv => lhs; unfold valN
    rw [hnd]
  cases ha : (!allowedB r p nd.1) with
  | true =>
    rw [ha, cond_true] at hv
    rw [hv]
    exact ⟨rfl, fun h => by cases h⟩
  | false =>
    rw [ha, cond_false] at hv
    simp only [cond_false]
    cases hq : (resultOf r (afterOf r p nd.1) != 0) with
    | true =>
      rw [hq, cond_true] at hv
      rw [hv]
      simp only [cond_true]
      cases ((resultOf r (afterOf r p nd.1) == 1 + p.turn) && decide (nd.2.1.length = 0)) with
      | true => simp
      | false => simp
    | false =>
      simp only [cond_false]
      exact ⟨trivial, fun _ => trivial⟩
theorem proves_loop {r : Rules} {q p : Place} {l : List CNode} {k : Int} {nd : CNode} {M : Nat} (hq : Valid r q) (hp : Valid r p) (hF : FormL l) (hk : 0 ≤ k) (hM : M ≤ 1000) (hMk : l.length ≤ k.toNat + 1 + M) (hnd : l[k.toNat]? = some nd) (hlen : (movesOf r q).length = nd.2.1.length) (hk1 : k < 1000)
    (φ : PsT → Option (Int × Bool × Unit)) (ih : ∀ s j, j ∈ reps l k → k < j → Valid r s → φ (r, s, l, j, ()) = some (psV l r s j)) :
    ∀ (n i : Nat) (best : Int), i + n = (movesOf r q).length → 0 ≤ best → best ≤ 2002 →
      Option.bind (iterW (certProves_L1 (movesOf r q) l k r ((q, ()), ()) p φ) ((best, (i : Int), ()), ())) (Sum.elim (fun x => some (x.1.1, (true, ()))) some) = some (bif okL (valN l r M) r q (1 + p.turn) k (((movesOf r q).zip nd.2.1).drop i) then (valL (valN l r M) r q (1 + p.turn) k (((movesOf r q).zip nd.2.1).drop i) best, (true, ())) else ((0 : Int), (false, ())))
  | 0, i, best, hi, _, _ => by
    have hd : ((movesOf r q).zip nd.2.1).drop i = [] := by rw [List.drop_eq_nil_iff, List.length_zip]; omega
    rw [hd, iterW_inr (r := Sum.inl ((best, ()), ())) (by
      unfold certProves_L1
      simp only []
      rw [decide_eq_false (by omega), cond_false])]
    rfl
  | n + 1, i, best, hi, hb0, hb1 => by
    have hil : i < (movesOf r q).length := by omega
    have hil2 : i < nd.2.1.length := by omega
    have hml := movesOf_len hq
    have hdrop : ((movesOf r q).zip nd.2.1).drop i = ((movesOf r q)[i], nd.2.1[i]) :: ((movesOf r q).zip nd.2.1).drop (i + 1) := by
      rw [List.drop_eq_getElem_cons (by rw [List.length_zip]; omega), List.getElem_zip]
    have hal : allowedB r q (movesOf r q)[i] = true := (movesOf_mem _).1 (List.getElem_mem _)
    have hvs := after_valid hq hal
    have hjm : nd.2.1[i] ∈ reps l k := by rw [reps_get hnd]; exact List.getElem_mem _
    have hkl : k.toNat < l.length := (List.getElem?_eq_some_iff.1 hnd).1
    have hatk : at? l k = some nd := by rw [at?_eq l k hk (by omega), ← hnd, List.getElem?_eq_getElem hkl]
    have hown : w64 (1 + p.2.2.1) = 1 + Place.turn p := (turn_w hp).2.1
    have hw1 : w64 ((i : Int) + 1) = ((i + 1 : Nat) : Int) := by rw [w64_id (by omega) (by omega)]; omega
    have hstep : certProves_L1 (movesOf r q) l k r ((q, ()), ()) p φ ((best, (i : Int), ()), ()) =
        Option.bind (bif (nd.2.1[i] == -1) then (bif (resultOf r (afterOf r q (movesOf r q)[i]) != 1 + Place.turn p) then some (Sum.inr (Sum.inr (Sum.inr ((0 : Int), (false, ()))))) else some (Sum.inl (((0 : Int), ()), ())))
          else Option.bind (φ (r, afterOf r q (movesOf r q)[i], l, nd.2.1[i], ())) fun w => bif (!w.2.1) then some (Sum.inr (Sum.inr (Sum.inr ((0 : Int), (false, ()))))) else some (Sum.inl ((w.1, ()), ()))) (Sum.elim (fun x : (Int × Unit) × Unit => some (Sum.inl (((if (w64 (x.1.1 + 2)) > best then (w64 (x.1.1 + 2)) else best), ((i + 1 : Nat) : Int), ()), ()))) some) := by
      unfold certProves_L1
      simp only []
      rw [ltd _ i hil, cond_true, inbN _ i hil, req_true, Int.toNat_natCast, gd_eq _ i hil, hatk, Option.bind_some, at?_eq nd.2.1 (i : Int) (by omega) (by omega)]
      simp only [pl_eta, make_spec hq hal, Option.bind_some, agree_self, result_spec hvs, hown, hw1]
      rfl
    rw [hdrop]
    unfold okL valL
    by_cases hj : nd.2.1[i] = -1
    · rw [beq_t hj, cond_true] at hstep
      have hnk : decide (nd.2.1[i] > k) = false := decide_eq_false (by omega)
      rw [hnk, Bool.and_false, cond_false, cond_false, bne_f hj, Bool.or_false]
      cases hz : (resultOf r (afterOf r q (movesOf r q)[i]) != 1 + Place.turn p) with
      | true =>
        rw [hz, cond_true] at hstep
        rw [iterW_inr hstep]
        rfl
      | false =>
        rw [hz, cond_false] at hstep
        have hstep2 : certProves_L1 (movesOf r q) l k r ((q, ()), ()) p φ ((best, (i : Int), ()), ()) = some (.inl ((max best 2, ((i + 1 : Nat) : Int), ()), ())) := by
          rw [hstep]
          simp only [Option.bind_some, Sum.elim_inl, w64_id (n := (0 : Int) + 2) (by omega) (by omega), if_max]
          rfl
        rw [iterW_inl hstep2, proves_loop hq hp hF hk hM hMk hnd hlen hk1 φ ih n (i + 1) _ (by omega) (by omega) (by omega)]
        rfl
    · have hjf := hF k hk _ hjm
      have hjk : k < nd.2.1[i] := by omega
      have hφ := ih (afterOf r q (movesOf r q)[i]) nd.2.1[i] hjm hjk hvs
      rw [beq_f hj, cond_false, hφ, Option.bind_some] at hstep
      rw [decide_eq_true (show nd.2.1[i] > k from hjk), Bool.and_true, bne_t hj, Bool.or_true]
      by_cases hr0 : resultOf r (afterOf r q (movesOf r q)[i]) = 0
      · obtain ⟨h1, h2⟩ := psV_open (l := l) (k := nd.2.1[i]) hr0 (by omega)
        rw [valN_fuel (l.length - (nd.2.1[i]).toNat) M _ _ (by omega) (by omega) (by omega)] at h1 h2
        have hvr := valN_rng (l := l) (r := r) M (afterOf r q (movesOf r q)[i]) nd.2.1[i]
        rw [beq_t hr0, cond_true, cond_true, ← h1]
        generalize psV l r (afterOf r q (movesOf r q)[i]) nd.2.1[i] = W at hstep h1 h2 ⊢
        cases hz : W.2.1 with
        | false =>
          rw [hz, Bool.not_false, cond_true] at hstep
          rw [iterW_inr hstep]
          rfl
        | true =>
          rw [hz, Bool.not_true, cond_false] at hstep
          have hW := h2 hz
          rw [hz] at h1
          have hvn : (valN l r M (afterOf r q (movesOf r q)[i]) nd.2.1[i] == 0) = false := beq_f (by
            intro e; rw [bne_f e] at h1; cases h1)
          have hstep2 : certProves_L1 (movesOf r q) l k r ((q, ()), ()) p φ ((best, (i : Int), ()), ()) = some (.inl ((max best (valN l r M (afterOf r q (movesOf r q)[i]) nd.2.1[i] + 2), ((i + 1 : Nat) : Int), ()), ())) := by
            rw [hstep]
            simp only [Option.bind_some, Sum.elim_inl, hW, w64_id (n := valN l r M (afterOf r q (movesOf r q)[i]) nd.2.1[i] + 2) (by omega) (by omega), if_max]
          rw [iterW_inl hstep2, Bool.true_and, hvn, cond_false]
          exact proves_loop hq hp hF hk hM hMk hnd hlen hk1 φ ih n (i + 1) _ (by omega) (by omega) (by omega)
      · rw [psV_over hr0, Bool.not_false, cond_true] at hstep
        rw [beq_f hr0, cond_false, iterW_inr hstep]
        rfl
theorem open_mem {r : Rules} {p : Place} (m : Mv) : decide (m ∈ openMoves r p) = ((resultOf r p == 0) && allowedB r p m) := by
  unfold openMoves
  by_cases h : resultOf r p = 0
  · rw [if_pos h, beq_t h, Bool.true_and]
    cases ha : allowedB r p m with
    | true => exact decide_eq_true ((movesOf_mem m).2 ha)
    | false => exact decide_eq_false fun hm => by rw [(movesOf_mem m).1 hm] at ha; cases ha
  · rw [if_neg h, beq_f h]
    exact decide_eq_false (by simp)
theorem proves_fix : ∀ x : PsT, PsI x → fixW certProves_G x = some (psV x.2.2.1 x.1 x.2.1 x.2.2.2.1) := by
  refine fixW_ind certProves_Mono _ (fun x => x.2.2.1.length - x.2.2.2.1.toNat) _ ?_
  rintro φ ⟨r, p, l, k, ⟨⟩⟩ ⟨hv, hk0, hk1, hsm, hform⟩ ih
  show certProves_F φ r p l k = _
  simp only [] at hv hk0 hk1 hsm hform ih ⊢
  obtain ⟨M, hM⟩ : ∃ M, l.length - k.toNat = M + 1 := ⟨l.length - k.toNat - 1, by omega⟩
  have hkl : k.toNat < l.length := by omega
  obtain ⟨nd, hnd⟩ : ∃ nd, l[k.toNat]? = some nd := ⟨_, List.getElem?_eq_getElem hkl⟩
  have hatk : at? l k = some nd := by rw [at?_eq l k hk0 (by omega), ← hnd, List.getElem?_eq_getElem hkl]
  have hown : w64 (1 + p.2.2.1) = 1 + Place.turn p := (turn_w hv).2.1
  have hol := open_len hv
  have hval : valN l r (M + 1) p k = (bif !allowedB r p nd.1 then 0 else
      bif (resultOf r (afterOf r p nd.1) != 0) then (bif ((resultOf r (afterOf r p nd.1) == 1 + Place.turn p) && decide (nd.2.1.length = 0)) then 1 else 0) else
      bif !decide ((movesOf r (afterOf r p nd.1)).length = nd.2.1.length) then 0 else
      valL (valN l r M) r (afterOf r p nd.1) (1 + Place.turn p) k ((movesOf r (afterOf r p nd.1)).zip nd.2.1) 0) := by
    conv => lhs; unfold valN
    rw [hnd]
  unfold certProves_F psV
  rw [hM, hval, hnd]
  simp only [hatk, Option.bind_some, endsMoves_spec hv, agree_self, index_spec (openMoves r p) nd.1 (by omega), open_mem]
  rw [show (!((resultOf r p == 0) && allowedB r p nd.1)) = ((resultOf r p != 0) || !allowedB r p nd.1) by cases h : (resultOf r p == 0) <;> simp [bne, h]]
  cases hc : ((resultOf r p != 0) || !allowedB r p nd.1) with
  | true => rfl
  | false =>
    have ha : allowedB r p nd.1 = true := by
      cases h : allowedB r p nd.1 with
      | true => rfl
      | false => rw [h] at hc; simp at hc
    have hvq := after_valid hv ha
    simp only [cond_false, ha, Bool.not_true, make_spec hv ha, Option.bind_some, agree_self, pl_eta, result_spec hvq, hown]
    cases hr : (resultOf r (afterOf r p nd.1) != 0) with
    | true =>
      simp only [cond_true]
      by_cases hw : resultOf r (afterOf r p nd.1) = 1 + Place.turn p
      · rw [beq_t hw]
        simp only [gat, cond_true, hatk, Option.bind_some, Bool.true_and]
        by_cases h0 : nd.2.1.length = 0
        · rw [beq_t (show ((nd.2.1.length : Nat) : Int) = 0 by omega), decide_eq_true h0]
        · rw [beq_f (show ¬ ((nd.2.1.length : Nat) : Int) = 0 by omega), decide_eq_false h0]
      · rw [beq_f hw]
        simp only [gat, cond_false, Option.bind_some, Bool.false_and]
    | false =>
      simp only [cond_false, list_spec hvq, Option.bind_some, hatk]
      by_cases hl : (movesOf r (afterOf r p nd.1)).length = nd.2.1.length
      · rw [bne_f (show (((movesOf r (afterOf r p nd.1)).length : Nat) : Int) = ((nd.2.1.length : Nat) : Int) by omega), decide_eq_true hl]
        simp only [Bool.not_true, cond_false]
        have := proves_loop (M := M) hvq hv hform hk0 (by omega) (by omega) hnd hl (by omega) φ (fun s j hj hkj hvs => by
          have hfj := hform k hk0 j hj
          have hjl : j < (l.length : Int) := by omega
          exact ih (r, s, l, j, ()) ⟨hvs, by show 0 ≤ j; omega, hjl, hsm, hform⟩ (by show l.length - j.toNat < l.length - k.toNat; omega)) (movesOf r (afterOf r p nd.1)).length 0 0 (by omega) (by omega) (by omega)
        rw [List.drop_zero] at this
        refine this.trans ?_
        obtain ⟨o1, o2⟩ := valL_ok (f := valN l r M) (r := r) (q := afterOf r p nd.1) (own := 1 + Place.turn p) (k := k) (fun s j => (valN_rng M s j).1) ((movesOf r (afterOf r p nd.1)).zip nd.2.1) 0 (by omega)
        cases hok : okL (valN l r M) r (afterOf r p nd.1) (1 + Place.turn p) k ((movesOf r (afterOf r p nd.1)).zip nd.2.1) with
        | true =>
          have hne : ((movesOf r (afterOf r p nd.1)).zip nd.2.1) ≠ [] := fun e => by
            have h1 := congrArg List.length e
            rw [List.length_zip] at h1
            rcases result_cases hvq with ⟨_, h2⟩ | h2 | h2 | h2
            · simp only [List.length_nil] at h1; omega
            · rw [h2] at hr; cases hr
            · rw [h2] at hr; cases hr
            · rw [h2] at hr; cases hr
          have h3 := (o2 hok).2 hne
          rw [cond_true, bne_t (show ¬ valL (valN l r M) r (afterOf r p nd.1) (1 + Place.turn p) k ((movesOf r (afterOf r p nd.1)).zip nd.2.1) 0 = 0 by omega)]
        | false => rw [cond_false, o1 hok]; rfl
      · rw [bne_t (show ¬ (((movesOf r (afterOf r p nd.1)).length : Nat) : Int) = ((nd.2.1.length : Nat) : Int) by omega), decide_eq_false hl]
        rfl
end Go.Proofs.Yticeklcmijbjfaa
