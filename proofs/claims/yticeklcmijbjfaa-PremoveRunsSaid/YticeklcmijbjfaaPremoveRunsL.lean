/- PremoveRuns: the plain law. No condition of its own. -/
import Derived.Test.YticeklcmijbjfaaPremA
import Derived.Test.YticeklcmijbjfaaDenQ
namespace Go.Proofs.Yticeklcmijbjfaa
open Go.Den
set_option linter.unusedVariables false
set_option linter.unusedSimpArgs false
set_option maxRecDepth 100000

def runF (r : Rules) : Nat → Place → List PM → List Mv × Place × List PM
  | 0, p, l => ([], (p, l))
  | k + 1, p, l => if (nextP r p l).2.1 = true then ((nextP r p l).1 :: (runF r k (afterOf r p (nextP r p l).1) (nextP r p l).2.2.1).1, (runF r k (afterOf r p (nextP r p l).1) (nextP r p l).2.2.1).2) else ([], (p, (nextP r p l).2.2.1))
theorem next_yes {r : Rules} {p : Place} {l : List PM} (h : (nextP r p l).2.1 = true) : fstP l p.turn < l.length ∧ (l.getD (fstP l p.turn) dPM).2.1 ∈ openM r p ∧ nextP r p l = ((l.getD (fstP l p.turn) dPM).2.1, (true, (l.take (fstP l p.turn) ++ l.drop (fstP l p.turn + 1), ()))) := by
  unfold nextP at h ⊢
  by_cases c : fstP l p.turn < l.length
  · rw [if_pos c] at h ⊢
    unfold resN at h ⊢
    by_cases hm : (l.getD (fstP l p.turn) dPM).2.1 ∈ openM r p
    · rw [if_pos hm]
      exact ⟨c, hm, rfl⟩
    · rw [if_neg hm] at h; cases h
  · rw [if_neg c] at h; cases h
theorem next_no {r : Rules} {p : Place} {l : List PM} (h : (nextP r p l).2.1 = false) : ¬ (fstP l p.turn < l.length ∧ (l.getD (fstP l p.turn) dPM).2.1 ∈ openM r p) ∧ (nextP r p l).2.2.1 = woL l p.turn := by
  unfold nextP at h ⊢
  by_cases c : fstP l p.turn < l.length
  · rw [if_pos c] at h ⊢
    unfold resN at h ⊢
    by_cases hm : (l.getD (fstP l p.turn) dPM).2.1 ∈ openM r p
    · rw [if_pos hm] at h; cases h
    · rw [if_neg hm]
      exact ⟨fun q => hm q.2, rfl⟩
  · rw [if_neg c]
    exact ⟨fun q => c q.1, rfl⟩
theorem cut_len (l : List PM) {f : Nat} (h : f < l.length) : (l.take f ++ l.drop (f + 1)).length + 1 = l.length := by
  rw [List.length_append, List.length_take, List.length_drop]
  omega
theorem run_loop {r : Rules} : ∀ (k : Nat) (p : Place) (l : List PM) (acc : List Mv) (junk : FlP), l.length < k → Valid r p → l.length + acc.length ≤ 1000 →
    iterW (premoveRun_L1 r) ((l, acc, ()), (flp p, (junk, ()))) = some (acc ++ (runF r k p l).1, ((runF r k p l).2.1, ((runF r k p l).2.2, (0, ())))) := by
  intro k
  induction k with
  | zero => intro p l acc junk h; omega
  | succ k ih =>
    intro p l acc junk hk hp hl
    have hn : premoveNext r ((flp p).1, (((flp p).2.1, ((flp p).2.2.1, ())), (flp p).2.2.2)) l = some (nextP r p l) := next_spec hp l (by omega)
    unfold runF
    cases hb : (nextP r p l).2.1
    · rw [if_neg (by decide), List.append_nil, iterW_inr (r := (acc, (p, ((nextP r p l).2.2.1, (0, ())))))]
      unfold premoveRun_L1
      simp only
      rw [hn, Option.bind_some, hb]
      rfl
    · obtain ⟨c, hm, he⟩ := next_yes hb
      have hall := (openM_mem.1 hm).2
      have hlen := cut_len l c
      rw [if_pos rfl]
      have hmk : movesMake r ((flp p).1, (((flp p).2.1, ((flp p).2.2.1, ())), (flp p).2.2.2)) (nextP r p l).1 = some (afterOf r p (nextP r p l).1) := by
        rw [he]
        exact make_spec hp hall
      have hv2 : Valid r (afterOf r p (nextP r p l).1) := by
        rw [he]
        exact after_valid hp hall
      have hl2 : (nextP r p l).2.2.1.length + 1 = l.length := by rw [he]; exact hlen
      rw [iterW_inl (y := (((nextP r p l).2.2.1, acc ++ [(nextP r p l).1], ()), (flp (afterOf r p (nextP r p l).1), (junk, ()))))]
      · rw [ih _ _ _ _ (by omega) hv2 (by rw [List.length_append, List.length_cons, List.length_nil]; omega), List.append_assoc]
        rfl
      · unfold premoveRun_L1
        simp only
        rw [hn, Option.bind_some, hb]
        simp only [Bool.not_true, cond_false]
        rw [room_ok (by simp only [List.length_cons, List.length_nil]; omega), req_true, hmk]
        rfl
theorem sing_res {r : Rules} {p : Place} (c : ruleErr r = 0) (hr : Rng tyRules r) (hp : Valid r p) : ref3Result r [p] = some (resultOf r p) := by
  rw [res3_spec c hr (fun q hq => by rw [List.mem_singleton.1 hq]; exact hp) (by simp) (by simp)]
  have hrep := (rules_valid c).repeats
  have h1 : timesOf [p] ≤ 1 := by
    have := List.countP_le_length (p := fun q => same0 q (lastP [p])) (l := [p])
    exact this
  unfold gameRes
  have hl : lastP [p] = p := rfl
  rw [hl]
  by_cases h0 : r.repeats = 0
  · rw [h0]
    simp
  · rw [show decide (((timesOf [p] : Nat) : Int) ≥ r.repeats) = false by simp only [decide_eq_false_iff_not]; omega]
    simp
theorem fst_loop (l : List PM) (hl : l.length ≤ 1000) (n : Int) (p : Place) : iterW (law3RanAs_L2 ((l, n, ()), (flp p, ()))) ((0, ()), ()) = some ((((fstP l p.turn : Nat) : Int), ()), ()) := by
  have hf := fst_rng (fun i => (l.getD i dPM).1 == p.turn) l.length 0
  have hf2 : ∀ j, j < fstP l p.turn → ((l.getD j dPM).1 == p.turn) = false := fun j hj => hf.2.2.2 j (Nat.zero_le _) hj
  have hf3 : fstP l p.turn < l.length → ((l.getD (fstP l p.turn) dPM).1 == p.turn) = true := fun h => hf.2.2.1 (by rw [Nat.zero_add]; exact h)
  have hle := fstP_le l p.turn
  refine iterW_states (f := law3RanAs_L2 ((l, n, ()), (flp p, ()))) (fstP l p.turn) (fun i => (((i : Int), ()), ())) ((((fstP l p.turn : Nat) : Int), ()), ()) (fun i hi => ?_) ?_
  · unfold law3RanAs_L2
    simp only [show decide ((i : Int) < ((l.length : Nat) : Int)) = true by simp; omega]
    rw [inb_iff.2 ⟨by omega, by omega⟩, Int.toNat_natCast]
    have : ((getD' l i dPM).1 != (flp p).2.2.2.1) = true := by
      show (!((l.getD i dPM).1 == p.turn)) = true
      rw [hf2 i hi]; rfl
    rw [this, w64_id (n := (i : Int) + 1) (by omega) (by omega)]
    rfl
  · unfold law3RanAs_L2
    by_cases c : fstP l p.turn < l.length
    · simp only [show decide (((fstP l p.turn : Nat) : Int) < ((l.length : Nat) : Int)) = true by simp; omega]
      rw [inb_iff.2 ⟨by omega, by omega⟩, Int.toNat_natCast]
      have : ((getD' l (fstP l p.turn) dPM).1 != (flp p).2.2.2.1) = false := by
        show (!((l.getD (fstP l p.turn) dPM).1 == p.turn)) = false
        rw [hf3 c]; rfl
      rw [this]
      rfl
    · simp only [show decide (((fstP l p.turn : Nat) : Int) < ((l.length : Nat) : Int)) = false by simp only [decide_eq_false_iff_not]; omega]
      rfl
theorem left_loop (l : List PM) (hl : l.length ≤ 1000) (n : Int) (p : Place) : iterW (law3RanAs_L3 ((l, n, ()), (flp p, ()))) (([], 0, ()), ()) = some ((woL l p.turn, ()), ()) := by
  have := iter_listP l 1 (law3RanAs_L3 ((l, n, ()), (flp p, ()))) (fun x => bif !(x.1 == p.turn) then [x] else []) (fun a => ((a, ()), ())) [] (fun x _ => by
    cases (x.1 == p.turn)
    · exact Nat.le_refl _
    · exact Nat.zero_le _) (fun i hi a ha => by
    simp only [List.length_nil] at ha
    unfold law3RanAs_L3
    simp only [show decide ((i : Int) < ((l.length : Nat) : Int)) = true by simp; omega, cond_true]
    have hg : getD' l i dPM = l[i] := getD_at l i hi
    rw [inb_iff.2 ⟨by omega, by omega⟩, req_true, Int.toNat_natCast, hg, w64_id (n := (i : Int) + 1) (by omega) (by omega)]
    show Option.bind (bif !(l[i].1 == p.turn) then _ else _) _ = _
    cases (l[i].1 == p.turn)
    · simp only [Bool.not_false, cond_true]
      rw [room_ok (by simp only [List.length_cons, List.length_nil]; omega), req_true]
      rfl
    · simp only [Bool.not_true, cond_false, Option.bind_some, List.append_nil]) (fun a => by unfold law3RanAs_L3; simp)
  rw [this]
  congr 3
  rw [List.nil_append]
  unfold woL
  clear this hl
  induction l with
  | nil => rfl
  | cons x l ih =>
    rw [List.flatMap_cons, List.filter_cons, ih]
    cases (x.1 == p.turn) <;> rfl
theorem eq_loop (xs : List PM) (hl : xs.length ≤ 1000) : iterW (law3RanAs_L4 ((xs, ()), ()) xs) ((0, ()), ()) = some (.inl ((), ())) := by
  have := iterW_any xs (fun _ => false) (law3RanAs_L4 ((xs, ()), ()) xs) (Sum.inr (Sum.inr (Sum.inr false))) (.inl ((), ())) (fun i hi => by
    unfold law3RanAs_L4
    simp only [show decide ((i : Int) < ((xs.length : Nat) : Int)) = true by simp; omega, cond_true]
    have hg : getD' xs i dPM = xs[i] := getD_at xs i hi
    rw [inb_iff.2 ⟨by omega, by omega⟩, req_true, Int.toNat_natCast, hg, at_natP xs i hi, Option.bind_some, w64_id (n := (i : Int) + 1) (by omega) (by omega)]
    simp) (by unfold law3RanAs_L4; simp)
  rw [this, show xs.any (fun _ => false) = false from List.any_eq_false.2 (fun _ _ h => by cases h)]
  rfl
theorem ran_loop {r : Rules} (c0 : ruleErr r = 0) (hr : Rng tyRules r) (made : List Mv) (hmade : made.length ≤ 1000) (q : Place) (rest : List PM) : ∀ (k : Nat) (p : Place) (l : List PM) (pre : List Mv), l.length < k → Valid r p → l.length ≤ 1000 →
    made = pre ++ (runF r k p l).1 → q = (runF r k p l).2.1 → rest = (runF r k p l).2.2 →
    iterW (law3RanAs_L1 r made q rest) ((l, ((pre.length : Nat) : Int), ()), (flp p, ())) = some true := by
  intro k
  induction k with
  | zero => intro p l pre h; omega
  | succ k ih =>
    intro p l pre hk hp hl hm hq hre
    have h64 := area_len hp
    have hpe := valid_ok c0 hp
    have hres : ref3Result r [((flp p).1, (((flp p).2.1, ((flp p).2.2.1, ())), (flp p).2.2.2))] = some (resultOf r p) := sing_res c0 hr hp
    have hleg : ∀ m : Mv, movesLegal r ((flp p).1, (((flp p).2.1, ((flp p).2.2.1, ())), (flp p).2.2.2)) (m.1, (m.2.1, (m.2.2.1, ()))) = some (allowedB r p m, (0, ())) := fun m => by
      show movesLegal r p m = _
      rw [legal_spec r p m hr (by omega), if_pos hpe, hpe]
    unfold runF at hm hq hre
    cases hb : (nextP r p l).2.1
    · rw [hb, if_neg (by decide)] at hm hq hre
      rw [List.append_nil] at hm
      obtain ⟨hno, hwo⟩ := next_no hb
      rw [hwo] at hre
      subst hm hq hre
      refine iterW_inr (r := true) ?_
      have hsm : placeSame ((flp q).1, (((flp q).2.1, ((flp q).2.2.1, ())), (flp q).2.2.2)) q = some true := by
        show placeSame q q = _
        rw [same_spec hp]
        unfold same0
        simp
      have hwl : (woL l q.turn).length ≤ 1000 := by
        have := of_len q.turn l
        omega
      unfold law3RanAs_L1
      rw [fst_loop l hl, Option.bind_some]
      have tail : (Option.bind (iterW (law3RanAs_L3 ((l, ((made.length : Nat) : Int), ()), (flp q, ()))) (([], 0, ()), ())) fun x10 =>
          Option.bind (gopt (!(((made.length : Nat) : Int) != ((made.length : Nat) : Int))) false (placeSame ((flp q).1, (((flp q).2.1, ((flp q).2.2.1, ())), (flp q).2.2.2)) q)) fun r11 =>
          bif ((((((made.length : Nat) : Int) != ((made.length : Nat) : Int)) || (!r11)) || ((flp q).2.2.2.2.1 != q.2.2.2.1)) || (((x10.1.1.length : Nat) : Int) != (((woL l q.turn).length : Nat) : Int))) then (some (Sum.inr (Sum.inr false)) : Option ((((List PM × Unit) × (FlP × Unit))) ⊕ ((((List PM × Int × Unit) × (FlP × Unit))) ⊕ Bool)))
          else Option.bind (iterW (law3RanAs_L4 x10 (woL l q.turn)) ((0, ()), ())) (Sum.elim (fun x14 => some (Sum.inr (Sum.inr true))) some)) = some (Sum.inr (Sum.inr true)) := by
        rw [left_loop l hl, Option.bind_some, bne_self_eq_false, Bool.not_false]
        show Option.bind (placeSame _ q) _ = _
        rw [hsm, Option.bind_some]
        have : ((flp q).2.2.2.2.1 != q.2.2.2.1) = false := by
          show (q.2.2.2.1 != q.2.2.2.1) = false
          rw [bne_self_eq_false]
        rw [this, bne_self_eq_false]
        simp only [Bool.not_true, Bool.or_self, cond_false]
        rw [eq_loop _ hwl, Option.bind_some]
        rfl
      by_cases c : fstP l q.turn < l.length
      · simp only [show decide (((fstP l q.turn : Nat) : Int) < ((l.length : Nat) : Int)) = true by simp; omega, cond_true]
        rw [hres, Option.bind_some, Option.bind_some]
        have hg : getD' l (fstP l q.turn) dPM = l.getD (fstP l q.turn) dPM := rfl
        cases hz : (resultOf r q == 0)
        · simp only [cond_false, Option.bind_some, Bool.not_false, cond_true]
          rw [tail]
          rfl
        · simp only [cond_true]
          rw [inb_iff.2 ⟨by omega, by omega⟩, req_true, Int.toNat_natCast, hg, hleg, Option.bind_some, Option.bind_some]
          have hna : allowedB r q (l.getD (fstP l q.turn) dPM).2.1 = false := by
            cases ha : allowedB r q (l.getD (fstP l q.turn) dPM).2.1
            · rfl
            · exact absurd ⟨c, openM_mem.2 ⟨by simpa using hz, ha⟩⟩ hno
          simp only [hna, Bool.not_false, cond_true]
          rw [tail]
          rfl
      · simp only [show decide (((fstP l q.turn : Nat) : Int) < ((l.length : Nat) : Int)) = false by simp only [decide_eq_false_iff_not]; omega, cond_false, Option.bind_some, Bool.not_false, cond_true]
        rw [tail]
        rfl
    · rw [hb, if_pos rfl] at hm hq hre
      obtain ⟨c, hmem, he⟩ := next_yes hb
      obtain ⟨hz, hall⟩ := openM_mem.1 hmem
      have hlen := cut_len l c
      rw [he] at hm hq hre
      have hv2 := after_valid hp hall
      simp only at hm hq hre
      have ih2 := ih (afterOf r p (l.getD (fstP l p.turn) dPM).2.1) (l.take (fstP l p.turn) ++ l.drop (fstP l p.turn + 1)) (pre ++ [(l.getD (fstP l p.turn) dPM).2.1]) (by omega) hv2 (by omega) (by rw [List.append_assoc]; exact hm) hq hre
      rw [iterW_inl (y := ((l.take (fstP l p.turn) ++ l.drop (fstP l p.turn + 1), (((pre ++ [(l.getD (fstP l p.turn) dPM).2.1]).length : Nat) : Int), ()), (flp (afterOf r p (l.getD (fstP l p.turn) dPM).2.1), ())))]
      · exact ih2
      · have hml : pre.length < made.length := by
          rw [hm, List.length_append, List.length_cons]
          omega
        have hmat : made[pre.length] = (l.getD (fstP l p.turn) dPM).2.1 := by
          have : made[pre.length]? = some (l.getD (fstP l p.turn) dPM).2.1 := by
            rw [hm, List.getElem?_append_right (Nat.le_refl _), Nat.sub_self]
            rfl
          rw [List.getElem?_eq_getElem hml] at this
          exact Option.some.inj this
        have haft : ∀ m : Mv, allowedB r p m = true → movesAfter r ((flp p).1, (((flp p).2.1, ((flp p).2.2.1, ())), (flp p).2.2.2)) (m.1, (m.2.1, (m.2.2.1, ()))) = some (afterOf r p m, (0, ())) := fun m h => by
          show movesAfter r p m = _
          rw [after_spec r p m hr (by omega), if_pos hpe, if_pos h]
        unfold law3RanAs_L1
        rw [fst_loop l hl, Option.bind_some]
        simp only [show decide (((fstP l p.turn : Nat) : Int) < ((l.length : Nat) : Int)) = true by simp; omega, cond_true]
        rw [hres, Option.bind_some, Option.bind_some, beq_t hz]
        have hg : getD' l (fstP l p.turn) dPM = l.getD (fstP l p.turn) dPM := rfl
        simp only [cond_true]
        rw [inb_iff.2 ⟨by omega, by omega⟩, req_true, Int.toNat_natCast, hg, hleg, Option.bind_some, Option.bind_some]
        simp only [hall, Bool.not_true, cond_false]
        rw [show decide (((pre.length : Nat) : Int) ≥ ((made.length : Nat) : Int)) = false by simp only [decide_eq_false_iff_not]; omega]
        have hgat : ∀ z, gat true z made ((pre.length : Nat) : Int) = some (l.getD (fstP l p.turn) dPM).2.1 := fun z => by
          have : gat true z made ((pre.length : Nat) : Int) = at? made ((pre.length : Nat) : Int) := rfl
          rw [this, at_natP made _ hml, hmat]
        simp only [Bool.not_false]
        rw [hgat, Option.bind_some]
        simp only [imp, cond_true, req_true, beq_self_eq_true, Bool.and_self, Bool.not_true, Bool.or_self, cond_false]
        rw [haft _ hall, Option.bind_some, w64_id (n := ((fstP l p.turn : Nat) : Int) + 1) (by omega) (by omega)]
        rw [show boundsI 0 ((fstP l p.turn : Nat) : Int) l.length = true by simp only [boundsI, Bool.and_eq_true, decide_eq_true_eq]; omega, show boundsI (((fstP l p.turn : Nat) : Int) + 1) ((l.length : Nat) : Int) l.length = true by simp only [boundsI, Bool.and_eq_true, decide_eq_true_eq]; omega]
        have e1 : (((fstP l p.turn : Nat) : Int) + 1).toNat = fstP l p.turn + 1 := by omega
        simp only [req_true, Int.toNat_natCast, e1, Nat.sub_zero]
        rw [room_ok (by omega), req_true, agree_self, Option.bind_some]
        have e2 : (l.drop (fstP l p.turn + 1)).take (l.length - (fstP l p.turn + 1)) = l.drop (fstP l p.turn + 1) := List.take_of_length_le (by rw [List.length_drop]; omega)
        simp only [Sum.elim_inl, e2]
        rw [w64_id (by omega) (by omega), List.length_append, List.length_cons, List.length_nil]
        rfl
theorem eqMvP (a b : Mv) : ((a.1 == b.1) && ((a.2.1 == b.2.1) && ((a.2.2.1 == b.2.2.1) && true))) = (a == b) := by
  obtain ⟨a1, a2, a3, ⟨⟩⟩ := a
  obtain ⟨b1, b2, b3, ⟨⟩⟩ := b
  rw [Bool.eq_iff_iff]
  simp
theorem sameLineP (a : List Mv) (ha : a.length ≤ 1000000000) : ref3SameLine a a = some true := by
  unfold ref3SameLine
  rw [bne_self_eq_false, cond_false]
  have hL := iterW_any a (fun _ => false) (ref3SameLine_L1 a a) (.inr false) (.inl ((), ())) (fun i hi => by
    unfold ref3SameLine_L1
    simp only [show decide ((i : Int) < ((a.length : Nat) : Int)) = true by simp; omega, cond_true]
    rw [at_natP a i hi, Option.bind_some, Option.bind_some, w64_id (n := (i : Int) + 1) (by omega) (by omega), eqMvP, beq_self_eq_true]
    rfl) (by unfold ref3SameLine_L1; simp)
  rw [hL, show a.any (fun _ => false) = false from List.any_eq_false.2 (fun _ _ h => by cases h)]
  rfl
theorem announced_spec (l : List PM) (hl : l.length ≤ 1000) : law3Announced l = some (pmErr l) := by
  have hst : ∀ i (hi : i < l.length) (pl : Int), (ofL (l.take (i + 1)) pl).length = (ofL (l.take i) pl).length + (bif l[i].1 == pl then 1 else 0) := fun i hi pl => by
    unfold ofL
    rw [List.take_succ_eq_append_getElem hi, List.flatMap_append, List.length_append]
    cases h : (l[i].1 == pl) <;> simp [h]
  have hle : ∀ i pl, (ofL (l.take i) pl).length ≤ l.length := fun i pl => by
    have := of_len pl (l.take i)
    rw [List.length_take] at this
    omega
  have h1 := iterW_states (f := law3Announced_L1 l) l.length (fun i => (((i : Int), ()), (((((ofL (l.take i) 0).length : Nat) : Int), ((((ofL (l.take i) 1).length : Nat) : Int), ())), ()))) ((), (((((ofL l 0).length : Nat) : Int), ((((ofL l 1).length : Nat) : Int), ())), ())) (fun i hi => by
    have g0 := hle i 0
    have g1 := hle i 1
    unfold law3Announced_L1
    simp only [show decide ((i : Int) < ((l.length : Nat) : Int)) = true by simp; omega, cond_true]
    rw [at_natP l i hi, Option.bind_some, w64_id (n := (i : Int) + 1) (by omega) (by omega), hst i hi 0, hst i hi 1]
    generalize l[i].1 = d
    by_cases e0 : d = 0
    · subst e0
      simp only [show ((0 : Int) == 0) = true by decide, show ((0 : Int) == 1) = false by decide, Bool.true_or, cond_true, cond_false, show inb 0 2 = true by decide, req_true, Option.bind_some]
      rw [show getD' [(((ofL (l.take i) 0).length : Nat) : Int), (((ofL (l.take i) 1).length : Nat) : Int)] ((0 : Int)).toNat 0 = (((ofL (l.take i) 0).length : Nat) : Int) from rfl, w64_id (by omega) (by omega)]
      rfl
    · by_cases e1 : d = 1
      · subst e1
        simp only [show ((1 : Int) == 0) = false by decide, show ((1 : Int) == 1) = true by decide, Bool.or_true, cond_true, cond_false, show inb 1 2 = true by decide, req_true, Option.bind_some]
        rw [show getD' [(((ofL (l.take i) 0).length : Nat) : Int), (((ofL (l.take i) 1).length : Nat) : Int)] ((1 : Int)).toNat 0 = (((ofL (l.take i) 1).length : Nat) : Int) from rfl, w64_id (by omega) (by omega)]
        rfl
      · rw [beq_f e0, beq_f e1]
        rfl) (by
    unfold law3Announced_L1
    rw [List.take_length]
    simp)
  rw [List.take_zero] at h1
  have h1' : iterW (law3Announced_L1 l) (((0 : Int), ()), (((0 : Int), ((0 : Int), ())), ())) = _ := h1
  unfold law3Announced pmErr
  rw [h1', Option.bind_some]
  have hL := iterW_any l odd1 (law3Announced_L2 l) (.inr 4) (.inl ((), ())) (fun i hi => by
    unfold law3Announced_L2 odd1
    simp only [show decide ((i : Int) < ((l.length : Nat) : Int)) = true by simp; omega, cond_true]
    rw [at_natP l i hi, Option.bind_some, w64_id (n := (i : Int) + 1) (by omega) (by omega)]
    cases ((l[i].1 != 0) && (l[i].1 != 1)) <;> rfl) (by unfold law3Announced_L2; simp)
  rw [hL]
  by_cases h : 4 < (ofL l 0).length ∨ 4 < (ofL l 1).length
  · rw [if_pos h]
    simp only
    rw [show (decide ((((ofL l 0).length : Nat) : Int) > 4) || decide ((((ofL l 1).length : Nat) : Int) > 4)) = true by simp only [Bool.or_eq_true, decide_eq_true_eq]; omega]
    rfl
  · rw [if_neg h]
    simp only
    rw [show (decide ((((ofL l 0).length : Nat) : Int) > 4) || decide ((((ofL l 1).length : Nat) : Int) > 4)) = false by simp only [Bool.or_eq_false_iff, decide_eq_false_iff_not]; omega, cond_false]
    cases l.any odd1 <;> rfl
theorem add_spec (l : List PM) (hl : l.length ≤ 1000) (pl : Int) (m : Mv) : premoveAdd l pl m = some (if pmErr l ≠ 0 then ([], (pmErr l, ())) else if pl ≠ 0 ∧ pl ≠ 1 then ([], (1, ())) else if (ofL l pl).length = 4 then ([], (9, ())) else (l ++ [(pl, (m, ()))], (0, ()))) := by
  unfold premoveAdd
  rw [check_specP l (by omega), Option.bind_some]
  by_cases c : pmErr l = 0
  rotate_left
  · rw [bne_t c, cond_true, if_pos c]
  rw [bne_f c, cond_false, if_neg (fun h => h c)]
  by_cases c1 : pl ≠ 0 ∧ pl ≠ 1
  · rw [if_pos c1, bne_t c1.1, bne_t c1.2]; rfl
  rw [if_neg c1, show ((pl != 0) && (pl != 1)) = false by
    rw [Bool.and_eq_false_iff]
    by_cases e : pl = 0
    · exact .inl (bne_f e)
    · exact .inr (bne_f (by omega)), cond_false, of_spec l pl (by omega), Option.bind_some]
  by_cases c2 : (ofL l pl).length = 4
  · rw [if_pos c2, c2]; rfl
  rw [if_neg c2, beq_f (show ¬ (((ofL l pl).length : Nat) : Int) = 4 by omega), cond_false]
  simp only [agree_self]
  rw [clonePM l (by omega), Option.bind_some, room_ok (by simp only [List.length_cons, List.length_nil]; omega), req_true, Option.bind_some]
theorem clear_spec (l : List PM) (hl : l.length ≤ 1000) (pl : Int) : premoveClear l pl = some (if pmErr l ≠ 0 then ([], (pmErr l, ())) else (woL l pl, (0, ()))) := by
  unfold premoveClear
  rw [check_specP l (by omega), Option.bind_some]
  by_cases c : pmErr l = 0
  rotate_left
  · rw [bne_t c, cond_true, if_pos c]
  rw [bne_f c, cond_false, if_neg (fun h => h c), without_spec l pl (by omega), Option.bind_some]
def faultP (r : Rules) (p : Place) (l : List PM) : Int := if placeErr r p ≠ 0 then placeErr r p else pmErr l
theorem checkI_spec (r : Rules) (p : Place) (l : List PM) (hr : Rng tyRules r) (hn : p.1.length ≤ 9223372036854775807) (hl : l.length ≤ 1000) : premoveCheck_i r p l = some (faultP r p l) := by
  unfold premoveCheck_i faultP
  rw [place_spec r p hr hn, Option.bind_some]
  by_cases c : placeErr r p = 0
  · rw [bne_f c, cond_false, if_neg (fun h => h c), check_specP l (by omega), Option.bind_some]
  · rw [bne_t c, cond_true, if_pos c]
theorem runF_len (r : Rules) : ∀ (k : Nat) (p : Place) (l : List PM), (runF r k p l).1.length ≤ k
  | 0, p, l => Nat.le_refl _
  | k + 1, p, l => by
    unfold runF
    cases (nextP r p l).2.1
    · rw [if_neg (by decide)]; exact Nat.zero_le _
    · rw [if_pos rfl, List.length_cons]
      have := runF_len r k (afterOf r p (nextP r p l).1) (nextP r p l).2.2.1
      omega
theorem runP_spec (r : Rules) (p : Place) (l : List PM) (hr : Rng tyRules r) (hn : p.1.length ≤ 9223372036854775807) (hl : l.length ≤ 500) : premoveRun r p l = some (if faultP r p l ≠ 0 then ([], (dP, ([], (faultP r p l, ())))) else ((runF r (l.length + 1) p l).1, ((runF r (l.length + 1) p l).2.1, ((runF r (l.length + 1) p l).2.2, (0, ()))))) := by
  unfold premoveRun
  rw [checkI_spec r p l hr hn (by omega), Option.bind_some]
  by_cases c : faultP r p l = 0
  rotate_left
  · rw [bne_t c, cond_true, if_pos c]
    rfl
  rw [bne_f c, cond_false, if_neg (fun h => h c)]
  have hp : Valid r p := valid_of (by
    unfold faultP at c
    split at c
    · contradiction
    · rename_i h; exact Decidable.not_not.1 h)
  rw [pcopy_spec hp, Option.bind_some]
  have := run_loop (r := r) (l.length + 1) p l [] (flp dP) (by omega) hp (by simp; omega)
  rw [List.nil_append] at this
  exact this
theorem announces_true : law3Announces = some true := by
  unfold law3Announces
  rw [show ((law3Tic).1, (((law3Tic).2).1, ((((law3Tic).2).2).1, (((((law3Tic).2).2).2).1, ((((((law3Tic).2).2).2).2).1, (((((((law3Tic).2).2).2).2).2).1, ((((((((law3Tic).2).2).2).2).2).2).1, (((((((((law3Tic).2).2).2).2).2).2).2).1, ((((((((((law3Tic).2).2).2).2).2).2).2).2).1, (((((((((((law3Tic).2).2).2).2).2).2).2).2).2).1, ((((((((((((law3Tic).2).2).2).2).2).2).2).2).2).2).1, ()))))))))))) = law3Tic from rfl]
  rw [begin_spec law3Tic tic_rng, if_pos tic_ok, Option.bind_some]
  have hv : Valid law3Tic (beginOf law3Tic) := begin_valid (rules_valid tic_ok)
  have hmem : law3Drop 3 ∈ openM law3Tic (beginOf law3Tic) := openM_mem.2 ⟨by decide +kernel, by decide +kernel⟩
  have hn : nextP law3Tic (beginOf law3Tic) [(0, (law3Drop 3, ()))] = (law3Drop 3, (true, ([], ()))) := by
    unfold nextP
    rw [show fstP [(0, (law3Drop 3, ()))] (beginOf law3Tic).turn = 0 by decide +kernel, if_pos (by decide)]
    exact if_pos hmem
  have hx : premoveNext_i law3Tic ((beginOf law3Tic).1, (((beginOf law3Tic).2.1.1, ((beginOf law3Tic).2.1.2.1, ())), (beginOf law3Tic).2.2)) [(0, (law3Drop 3, ()))] = some (law3Drop 3, (true, ([], (0, ())))) := by
    show premoveNext_i law3Tic (beginOf law3Tic) _ = _
    unfold premoveNext_i
    rw [checkI_spec law3Tic (beginOf law3Tic) _ tic_rng (by decide +kernel) (by simp), Option.bind_some]
    have hz : faultP law3Tic (beginOf law3Tic) [(0, (law3Drop 3, ()))] = 0 := by decide +kernel
    rw [hz, bne_self_eq_false, cond_false, next_spec hv _ (by simp), Option.bind_some, hn]
  simp only [agree_self]
  rw [hx]
  rfl
theorem take12 (l : List PM) : ((l.take ((if (12 : Int) < ((l.length : Nat) : Int) then 12 else ((l.length : Nat) : Int))).toNat).drop 0) = l.take 12 := by
  rw [List.drop_zero]
  by_cases h : (12 : Int) < ((l.length : Nat) : Int)
  · rw [if_pos h]; rfl
  · rw [if_neg h, Int.toNat_natCast, List.take_length, List.take_of_length_le (by omega)]
/-- ████ THE LAW, in plain Lean ████ -/
theorem law3PremoveRuns_true (r : Rules) (p : Place) (l : List PM) (player : Int) (m : Mv) (hr : Rng tyRules r) (hp : Rng tyPlace p) (hl : Rng (.sl (.st (.int .i64) (.st (.st (.int .i64) (.st (.int .i64) (.st (.int .i64) .nil))) .nil))) l) (hpl : Rng (.int .i64) player) (hm : Rng (.st (.int .i64) (.st (.int .i64) (.st (.int .i64) .nil))) m) : law3PremoveRuns r p l player m = some true := by
  have hn : p.1.length ≤ 9223372036854775807 := hp.1.1
  have hb : boundsI 0 (if (12 : Int) < ((l.length : Nat) : Int) then 12 else ((l.length : Nat) : Int)) l.length = true := by
    unfold boundsI
    by_cases h : (12 : Int) < ((l.length : Nat) : Int)
    · rw [if_pos h]; simp only [Bool.and_eq_true, decide_eq_true_eq]; omega
    · rw [if_neg h]; simp only [Bool.and_eq_true, decide_eq_true_eq]; omega
  unfold law3PremoveRuns
  rw [announces_true, Option.bind_some]
  simp only [Bool.not_true, cond_false]
  rw [hb, req_true]
  cases hg : law3Great r
  rotate_left
  · rfl
  simp only [cond_false, take12]
  have hown : iterW (law3PremoveRuns_L1 l player) (([], 0, ()), ()) = some ((ofL (l.take 12) player, ()), ()) := by
    have := iter_listP (l.take 12) 1 (law3PremoveRuns_L1 l player) (fun x => bif x.1 == player then [x.2.1] else []) (fun a => ((a, ()), ())) [] (fun x _ => by
      cases (x.1 == player)
      · exact Nat.zero_le _
      · exact Nat.le_refl _) (fun i hi a ha => by
      have hi12 : i < 12 := by rw [List.length_take] at hi; omega
      simp only [List.length_nil] at ha
      unfold law3PremoveRuns_L1
      simp only [take12]
      simp only [show decide ((i : Int) < (((l.take 12).length : Nat) : Int)) = true by simp only [decide_eq_true_eq]; omega, cond_true]
      rw [at_natP _ i hi, Option.bind_some, w64_id (n := (i : Int) + 1) (by omega) (by omega)]
      cases ((l.take 12)[i].1 == player)
      · simp only [cond_false, Option.bind_some, List.append_nil]
      · simp only [cond_true]
        rw [room_ok (by simp only [List.length_cons, List.length_nil]; omega), req_true]
        rfl) (fun a => by
      unfold law3PremoveRuns_L1
      simp only [take12]
      simp)
    exact this
  have h12 : (l.take 12).length ≤ 12 := by rw [List.length_take]; omega
  generalize l.take 12 = y at hown h12
  have hol := of_len player y
  rw [announced_spec y (by omega), Option.bind_some, add_spec y (by omega), Option.bind_some, clear_spec y (by omega), Option.bind_some, hown, Option.bind_some, check_specP y (by omega), Option.bind_some, of_spec y player (by omega), Option.bind_some]
  simp only
  rw [sameLineP _ (by omega), Option.bind_some]
  -- what is cleared, what is added
  have e1 : (if pmErr y ≠ 0 then (([] : List PM), (pmErr y, ())) else (woL y player, (0, ()))).2.1 = pmErr y := by
    by_cases c : pmErr y = 0
    · rw [if_neg (fun h => h c), c]
    · rw [if_pos c]
  have e2 : ((pmErr y == 0) && ((((if pmErr y ≠ 0 then (([] : List PM), (pmErr y, ())) else (woL y player, (0, ()))).1.length : Nat) : Int) != w64 (((y.length : Nat) : Int) - (((ofL y player).length : Nat) : Int)))) = false := by
    by_cases c : pmErr y = 0
    · rw [if_neg (fun h => h c), c, w64_id (by omega) (by omega)]
      simp only [beq_self_eq_true, Bool.true_and]
      exact bne_f (by omega)
    · rw [beq_f c, Bool.false_and]
  rw [e1]
  simp only [bne_self_eq_false, Bool.or_self, cond_false, Bool.not_true, Bool.false_or, Option.bind_some]
  rw [e2]
  simp only [cond_false]
  -- the error of adding
  have e3 : ∃ z : List PM × Int × Unit, (if pmErr y ≠ 0 then ([], (pmErr y, ())) else if player ≠ 0 ∧ player ≠ 1 then ([], (1, ())) else if (ofL y player).length = 4 then ([], (9, ())) else (y ++ [(player, (m, ()))], (0, ()))) = z ∧
      (Option.bind (bif (pmErr y != 0) then some ((pmErr y, ()), ()) else Option.bind (bif ((player != 0) && (player != 1)) then some (((1 : Int), ()), ()) else Option.bind (bif ((((ofL y player).length : Nat) : Int) == 4) then some (((9 : Int), ()), ()) else some ((pmErr y, ()), ())) fun x20 => some ((x20.1.1, ()), ())) fun x21 => some ((x21.1.1, ()), ())) fun x22 : ((Int × Unit) × Unit) => some x22) = some ((z.2.1, ()), ()) ∧
      ((z.2.1 = 0 ∧ z.1 = y ++ [(player, (m, ()))]) ∨ (¬ z.2.1 = 0 ∧ z.1 = [])) := by
    by_cases c : pmErr y = 0
    rotate_left
    · rw [if_pos c, bne_t c]
      exact ⟨_, rfl, rfl, .inr ⟨c, rfl⟩⟩
    rw [if_neg (fun h => h c), bne_f c]
    by_cases c1 : player ≠ 0 ∧ player ≠ 1
    · rw [if_pos c1, bne_t c1.1, bne_t c1.2]
      exact ⟨_, rfl, rfl, .inr ⟨by decide, rfl⟩⟩
    rw [if_neg c1, show ((player != 0) && (player != 1)) = false by
      rw [Bool.and_eq_false_iff]
      by_cases e : player = 0
      · exact .inl (bne_f e)
      · exact .inr (bne_f (by omega))]
    by_cases c2 : (ofL y player).length = 4
    · rw [if_pos c2, c2]
      exact ⟨_, rfl, rfl, .inr ⟨by decide, rfl⟩⟩
    · rw [if_neg c2, beq_f (show ¬ (((ofL y player).length : Nat) : Int) = 4 by omega)]
      exact ⟨_, rfl, by rw [c]; rfl, .inl ⟨rfl, rfl⟩⟩
  obtain ⟨z, hz, hw, hcase⟩ := e3
  have hw' : (bif (pmErr y != 0) then some ((pmErr y, ()), ()) else Option.bind (bif ((player != 0) && (player != 1)) then some (((1 : Int), ()), ()) else Option.bind (bif ((((ofL y player).length : Nat) : Int) == 4) then some (((9 : Int), ()), ()) else some ((pmErr y, ()), ())) fun x20 => some ((x20.1.1, ()), ())) fun x21 => some ((x21.1.1, ()), ())) = some ((z.2.1, ()), ()) := by
    rw [← hw]
    generalize (bif (pmErr y != 0) then some ((pmErr y, ()), ()) else Option.bind (bif ((player != 0) && (player != 1)) then some (((1 : Int), ()), ()) else Option.bind (bif ((((ofL y player).length : Nat) : Int) == 4) then some (((9 : Int), ()), ()) else some ((pmErr y, ()), ())) fun x20 => some ((x20.1.1, ()), ())) fun x21 => some ((x21.1.1, ()), ())) = o
    cases o <;> rfl
  rw [hz, hw', Option.bind_some]
  simp only
  -- the games
  rw [runP_spec r p y hr hn (by omega), place_spec r p hr hn]
  have tail : (Option.bind (some (if faultP r p y ≠ 0 then (([] : List Mv), (dP, (([] : List PM), (faultP r p y, ())))) else ((runF r (y.length + 1) p y).1, ((runF r (y.length + 1) p y).2.1, ((runF r (y.length + 1) p y).2.2, (0, ())))))) fun r23 => Option.bind (some (placeErr r p)) fun r24 =>
      Option.bind (bif (r24 == 0) then some ((pmErr y, ()), ()) else some ((r24, ()), ())) fun x25 : ((Int × Unit) × Unit) =>
      bif (x25.1.1 != 0) then some ((r23.2.2.2.1 == x25.1.1) && ((w64 ((w64 (((r23.1.length : Nat) : Int) + ((r23.2.2.1.length : Nat) : Int))) + ((r23.2.1.1.length : Nat) : Int))) == 0))
      else Option.bind (gopt (r23.2.2.2.1 == 0) false (law3RanAs r p y r23.1 (r23.2.1.1, ((r23.2.1.2.1.1, (r23.2.1.2.1.2.1, ())), r23.2.1.2.2)) r23.2.2.1)) fun r26 => some ((r23.2.2.2.1 == 0) && r26)) = some true := by
    have hx : (bif (placeErr r p == 0) then some ((pmErr y, ()), ()) else some ((placeErr r p, ()), ())) = some (((faultP r p y), ()), ()) := by
      unfold faultP
      by_cases c : placeErr r p = 0
      · rw [beq_t c, if_neg (fun h => h c)]; rfl
      · rw [beq_f c, if_pos c]; rfl
    rw [Option.bind_some, Option.bind_some, hx, Option.bind_some]
    by_cases c : faultP r p y = 0
    rotate_left
    · simp only [if_pos c, bne_t c, cond_true, beq_self_eq_true]
      rfl
    have hpe : placeErr r p = 0 := by
      unfold faultP at c
      split at c
      · contradiction
      · rename_i h; exact Decidable.not_not.1 h
    have hv : Valid r p := valid_of hpe
    have c0 : ruleErr r = 0 := by
      unfold placeErr at hpe
      split at hpe
      · contradiction
      · rename_i h; exact Decidable.not_not.1 h
    have hml := runF_len r (y.length + 1) p y
    have hran := ran_loop c0 hr (runF r (y.length + 1) p y).1 (by omega) (runF r (y.length + 1) p y).2.1 (runF r (y.length + 1) p y).2.2 (y.length + 1) p y [] (by omega) hv (by omega) rfl rfl rfl
    have hran2 : law3RanAs r p y (runF r (y.length + 1) p y).1 ((runF r (y.length + 1) p y).2.1.1, (((runF r (y.length + 1) p y).2.1.2.1.1, ((runF r (y.length + 1) p y).2.1.2.1.2.1, ())), (runF r (y.length + 1) p y).2.1.2.2)) (runF r (y.length + 1) p y).2.2 = some true := by
      unfold law3RanAs
      rw [room_ok (by simp only [List.length_nil]; omega), req_true]
      exact hran
    rw [if_neg (fun h => h c), c]
    simp only [bne_self_eq_false, cond_false, beq_self_eq_true, gopt, cond_true]
    rw [hran2]
    rfl
  rcases hcase with ⟨hz0, hz1⟩ | ⟨hz0, hz1⟩
  · rw [hz0, hz1]
    simp only [bne_self_eq_false, Bool.false_and, Bool.or_self, Bool.false_or, beq_self_eq_true, Bool.true_and]
    have hlen : (((y ++ [(player, (m, ()))]).length : Nat) : Int) = w64 (((y.length : Nat) : Int) + 1) := by
      rw [w64_id (by omega) (by omega), List.length_append, List.length_cons, List.length_nil]
      omega
    have hget : getD' (y ++ [(player, (m, ()))]) (((y.length : Nat) : Int)).toNat dPM = (player, (m, ())) := by
      rw [Int.toNat_natCast]
      unfold getD'
      rw [List.getD_eq_getElem?_getD, List.getElem?_append_right (Nat.le_refl _), Nat.sub_self]
      rfl
    rw [hlen, bne_self_eq_false, hget]
    rw [show inb ((y.length : Nat) : Int) (y ++ [(player, (m, ()))]).length = true from inb_iff.2 (by rw [List.length_append, List.length_cons, List.length_nil]; omega)]
    simp only [beq_self_eq_true, Bool.and_self, Bool.not_true, Bool.not_false, imp, cond_true, req_true, cond_false, Bool.or_self, Bool.false_or]
    exact tail
  · rw [hz1]
    simp only [bne_self_eq_false, bne_t hz0, beq_f hz0, List.length_nil, Bool.false_and, Bool.and_false, Bool.true_and, Bool.false_or, imp, cond_false, req_true]
    rw [show decide (((0 : Nat) : Int) > 0) = false by decide]
    simp only [Bool.or_self, cond_false]
    exact tail
end Go.Proofs.Yticeklcmijbjfaa
