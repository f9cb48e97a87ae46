/- The law ClockRuns, in plain Lean: budgets and moves. No condition of its own. -/
import Derived.Test.YtcdpkebphgeipaaClockRunsA
namespace Go.Proofs.Ytcdpkebphgeipaa
open Go.Den
set_option linter.unusedVariables false
set_option linter.unusedSimpArgs false
set_option maxRecDepth 100000

/-- what a rule that is in order says -/
structure Good (r : Rule) : Prop where
  l1 : 1 ≤ r.1.length
  l5 : r.1.length ≤ 5
  inc : 0 ≤ r.2.1 ∧ r.2.1 ≤ 100000000
  del : 0 ≤ r.2.2.1 ∧ r.2.2.1 ≤ 100000000
  per : ∀ i (hi : i < r.1.length), (0 ≤ r.1[i].1 ∧ r.1[i].1 ≤ 400) ∧ (1 ≤ r.1[i].2.1 ∧ r.1[i].2.1 ≤ 100000000) ∧ (r.1[i].1 = 0 ↔ i + 1 = r.1.length)
theorem good_of {r : Rule} (h : clockCheck r = some 0) : Good r := by
  unfold clockCheck at h
  by_cases c1 : clockWithin ((r.1.length : Nat) : Int) 1 5 = true
  · have d1 : 1 ≤ r.1.length ∧ r.1.length ≤ 5 := by
      have := c1
      simp only [clockWithin, Bool.and_eq_true, decide_eq_true_eq] at this
      omega
    by_cases c2 : ((!clockWithin r.2.1 0 100000000) || !clockWithin r.2.2.1 0 100000000) = false
    · have d2 := c2
      simp only [clockWithin, Bool.or_eq_false_iff, Bool.not_eq_false', Bool.and_eq_true, decide_eq_true_eq] at d2
      simp only [c1, c2, Bool.not_true, cond_false] at h
      have key : ∀ (k i : Nat), i + k = r.1.length → Option.bind (iterW (clockCheck_L1 r) (((i : Int), ()), ())) (Sum.elim (fun x3 => some (0 : Int)) some) = some 0 → ∀ j (hj : j < r.1.length), i ≤ j → (0 ≤ r.1[j].1 ∧ r.1[j].1 ≤ 400) ∧ (1 ≤ r.1[j].2.1 ∧ r.1[j].2.1 ≤ 100000000) ∧ (r.1[j].1 = 0 ↔ j + 1 = r.1.length) := by
        intro k
        induction k with
        | zero => intro i hi _ j hj hij; omega
        | succ k ih =>
          intro i hi hb j hj hij
          have h1 : (i : Int) < (r.1.length : Int) := by omega
          have hi' : i < r.1.length := by omega
          have hw : w64 (((r.1.length : Nat) : Int) - 1) = (r.1.length : Int) - 1 := w64_id (by omega) (by omega)
          have hst : clockCheck_L1 r (((i : Int), ()), ()) = bif ((!clockWithin (r.1[i]).1 0 400) || !clockWithin (r.1[i]).2.1 1 100000000) then some (.inr (.inr 4)) else bif (!((r.1[i].1 == 0) == ((i : Int) == (r.1.length : Int) - 1))) then some (.inr (.inr 3)) else some (.inl ((((i + 1 : Nat) : Int), ()), ())) := by
            unfold clockCheck_L1
            simp only [h1, decide_true, cond_true, at?_eq r.1 (i : Int) (by omega) h1, Option.bind_some, Int.toNat_natCast, hw, w64_id (n := (i : Int) + 1) (by omega) (by omega)]
            rfl
          rw [iterW_eq, hst] at hb
          cases e1 : ((!clockWithin (r.1[i]).1 0 400) || !clockWithin (r.1[i]).2.1 1 100000000) with
          | true => rw [e1] at hb; simp at hb
          | false =>
            rw [e1] at hb
            simp only [cond_false] at hb
            cases e2 : (!((r.1[i].1 == 0) == ((i : Int) == (r.1.length : Int) - 1))) with
            | true => rw [e2] at hb; simp at hb
            | false =>
              rw [e2] at hb
              simp only [cond_false] at hb
              rcases Nat.eq_or_lt_of_le hij with e | e
              · subst e
                simp only [clockWithin, Bool.or_eq_false_iff, Bool.not_eq_false', Bool.and_eq_true, decide_eq_true_eq] at e1
                refine ⟨by omega, by omega, ?_⟩
                have e3 : (r.1[i].1 == 0) = ((i : Int) == (r.1.length : Int) - 1) := by simpa using e2
                rw [Bool.eq_iff_iff, beq_iff_eq, beq_iff_eq] at e3
                rw [e3]
                omega
              · exact ih (i + 1) (by omega) hb j hj e
      refine ⟨d1.1, d1.2, by omega, by omega, fun i hi => key r.1.length 0 (by omega) h i hi (Nat.zero_le _)⟩
    · have c2 : ((!clockWithin r.2.1 0 100000000) || !clockWithin r.2.2.1 0 100000000) = true := by
        cases hx : ((!clockWithin r.2.1 0 100000000) || !clockWithin r.2.2.1 0 100000000) with
        | true => rfl
        | false => exact absurd hx c2
      simp [c1, c2] at h
  · have c1 : clockWithin ((r.1.length : Nat) : Int) 1 5 = false := Bool.eq_false_iff.2 c1
    simp [c1] at h
/-- the budget: all that was got, the period, the moves in it -/
def pm (r : Rule) (p : Nat) : Int := (r.1.getD p (0, 0, ())).1
def pt (r : Rule) (p : Nat) : Int := (r.1.getD p (0, 0, ())).2.1
def bud (r : Rule) : Nat → Int × Nat × Nat
  | 0 => (pt r 0, 0, 0)
  | m + 1 => if pm r (bud r m).2.1 ≠ 0 ∧ (((bud r m).2.2 + 1 : Nat) : Int) = pm r (bud r m).2.1 then ((bud r m).1 + r.2.1 + pt r ((bud r m).2.1 + 1), (bud r m).2.1 + 1, 0) else ((bud r m).1 + r.2.1, (bud r m).2.1, (bud r m).2.2 + 1)
theorem get_p {r : Rule} {p : Nat} (h : p < r.1.length) : r.1[p]'h = (pm r p, pt r p, ()) := by
  unfold pm pt
  rw [List.getD_eq_getElem?_getD, List.getElem?_eq_getElem h]
  rfl
theorem at_p {r : Rule} {p : Nat} (h : p < r.1.length) : at? r.1 (p : Int) = some (pm r p, pt r p, ()) := by
  rw [at?_eq r.1 (p : Int) (by omega) (by omega)]
  simp only [Int.toNat_natCast, get_p h]
theorem bud_ok {r : Rule} (g : Good r) : ∀ m, (bud r m).2.1 < r.1.length ∧ (bud r m).2.2 ≤ m ∧ (pm r (bud r m).2.1 ≠ 0 → (((bud r m).2.2 : Nat) : Int) < pm r (bud r m).2.1) ∧ 1 ≤ (bud r m).1 ∧ (bud r m).1 ≤ 100000000 + 200000000 * (m : Int) := by
  have gp : ∀ p, p < r.1.length → (0 ≤ pm r p ∧ pm r p ≤ 400) ∧ (1 ≤ pt r p ∧ pt r p ≤ 100000000) ∧ (pm r p = 0 ↔ p + 1 = r.1.length) := fun p hp => by
    have := g.per p hp
    rw [get_p hp] at this
    exact this
  intro m
  have := g.l1
  have := g.inc
  induction m with
  | zero =>
    have h0 := gp 0 (by omega)
    refine ⟨by simp only [bud]; omega, by simp [bud], fun hne => ?_, by simp only [bud]; omega, by simp only [bud]; omega⟩
    simp only [bud] at hne ⊢
    omega
  | succ m ih =>
    obtain ⟨i1, i2, i3, i4, i5⟩ := ih
    have hp := gp _ i1
    unfold bud
    by_cases c : pm r (bud r m).2.1 ≠ 0 ∧ (((bud r m).2.2 + 1 : Nat) : Int) = pm r (bud r m).2.1
    · rw [if_pos c]
      have hlt : (bud r m).2.1 + 1 < r.1.length := by omega
      have hq := gp _ hlt
      refine ⟨hlt, by simp, fun hne => ?_, by simp only; omega, by simp only; omega⟩
      simp only at hne ⊢
      omega
    · rw [if_neg c]
      refine ⟨i1, by simp only; omega, fun hne => ?_, by simp only; omega, by simp only; omega⟩
      simp only at hne ⊢
      have := i3 hne
      omega
theorem budget_spec {r : Rule} (g : Good r) (m : Nat) (hm : m ≤ 100) : ref3Budget r (m : Int) = some ((bud r m).1, (((bud r m).2.1 : Nat) : Int), (((bud r m).2.2 : Nat) : Int), ()) := by
  have := g.l1
  have := g.l5
  have := g.inc
  unfold ref3Budget
  have a0 : at? r.1 0 = some (pm r 0, pt r 0, ()) := at_p (p := 0) (by omega)
  rw [a0]
  simp only [Option.bind_some]
  have hst := iterW_states (f := ref3Budget_L1 (m : Int) r) m (fun i => (((bud r i).1, (((bud r i).2.1 : Nat) : Int), (((bud r i).2.2 : Nat) : Int), (i : Int), ()), ())) (((bud r m).1, (((bud r m).2.1 : Nat) : Int), (((bud r m).2.2 : Nat) : Int), ()), ()) (fun i hi => by
    obtain ⟨i1, i2, i3, i4, i5⟩ := bud_ok g i
    obtain ⟨j1, j2, j3, j4, j5⟩ := bud_ok g (i + 1)
    unfold ref3Budget_L1
    have h1 : (i : Int) < (m : Int) := by omega
    have w1 : w64 ((((bud r i).2.2 : Nat) : Int) + 1) = (((bud r i).2.2 + 1 : Nat) : Int) := by rw [w64_id (by omega) (by omega)]; rfl
    have w2 : w64 ((((bud r i).2.1 : Nat) : Int) + 1) = (((bud r i).2.1 + 1 : Nat) : Int) := by rw [w64_id (by omega) (by omega)]; rfl
    simp only [h1, decide_true, cond_true, at_p i1, Option.bind_some, w1, w2, w64_id (n := (i : Int) + 1) (by omega) (by omega), w64_id (n := (bud r i).1 + r.2.1) (by omega) (by omega)]
    by_cases c : pm r (bud r i).2.1 ≠ 0 ∧ (((bud r i).2.2 + 1 : Nat) : Int) = pm r (bud r i).2.1
    · have hb : bud r (i + 1) = ((bud r i).1 + r.2.1 + pt r ((bud r i).2.1 + 1), (bud r i).2.1 + 1, 0) := by rw [bud, if_pos c]
      rw [hb] at j1 j4 j5
      simp only at j1 j4 j5
      have e : ((pm r (bud r i).2.1 != 0) && ((((bud r i).2.2 + 1 : Nat) : Int) == pm r (bud r i).2.1)) = true := by
        rw [Bool.and_eq_true]
        exact ⟨bne_t c.1, beq_t c.2⟩
      simp only [e, cond_true, at_p j1, Option.bind_some, hb]
      rw [w64_id (by omega) (by omega)]
      rfl
    · have hb : bud r (i + 1) = ((bud r i).1 + r.2.1, (bud r i).2.1, (bud r i).2.2 + 1) := by rw [bud, if_neg c]
      have e : ((pm r (bud r i).2.1 != 0) && ((((bud r i).2.2 + 1 : Nat) : Int) == pm r (bud r i).2.1)) = false := by
        rw [Bool.eq_false_iff]
        intro h
        rw [Bool.and_eq_true] at h
        exact c ⟨by simpa using h.1, by simpa using h.2⟩
      simp only [e, cond_false, Option.bind_some, hb]
      rfl) (by unfold ref3Budget_L1; simp)
  simp only [bud, Int.natCast_zero] at hst
  rw [hst]
  rfl
/-! ### a clock that runs -/
def mk (L M Q : Int × Int × Unit) (p t : Int) : Clk := (L, M, Q, p, t, false, -1, ())
def sel (p : Int) (a : Int × Int × Unit) : Int := getD' [a.1, a.2.1] p.toNat 0
def upd (p x : Int) (a : Int × Int × Unit) : Int × Int × Unit := (bif p == 0 then x else a.1, bif p == 1 then x else a.2.1, ())
theorem sel_upd {p : Int} (hp : p = 0 ∨ p = 1) (x : Int) (a : Int × Int × Unit) : sel p (upd p x a) = x := by
  rcases hp with rfl | rfl <;> rfl
theorem sel_other {p : Int} (hp : p = 0 ∨ p = 1) (x : Int) (a : Int × Int × Unit) : sel (1 - p) (upd p x a) = sel (1 - p) a := by
  rcases hp with rfl | rfl <;> rfl
theorem upd_upd {p : Int} (hp : p = 0 ∨ p = 1) (x y : Int) (a : Int × Int × Unit) : upd p x (upd p y a) = upd p x a := by
  rcases hp with rfl | rfl <;> rfl
theorem used_eq {r : Rule} (g : Good r) (L M Q : Int × Int × Unit) (p t now : Int) (h0 : 0 ≤ t ∧ t ≤ now) (h1 : now ≤ 100000000) : clockUsed r (mk L M Q p t) now = ref3Spent r (now - t) ∧ 0 ≤ ref3Spent r (now - t) ∧ ref3Spent r (now - t) ≤ now - t ∧ (now - t ≤ r.2.2.1 → ref3Spent r (now - t) = 0) ∧ (r.2.2.1 < now - t → ref3Spent r (now - t) = now - t - r.2.2.1) := by
  have := g.del
  unfold clockUsed ref3Spent mk
  simp only [cond_false, w64_id (n := now - t) (by omega) (by omega), w64_id (n := now - t - r.2.2.1) (by omega) (by omega)]
  by_cases c : now - t ≤ r.2.2.1
  · have : ¬ now - t - r.2.2.1 > 0 := by omega
    simp [c, this]
    omega
  · have : now - t - r.2.2.1 > 0 := by omega
    simp [c, this]
    omega
/-- the clock is in order -/
def okC (n : Nat) (L M Q : Int × Int × Unit) (t : Int) : Prop := (0 ≤ t ∧ t ≤ 100000000) ∧ ∀ p, p = 0 ∨ p = 1 → (0 ≤ sel p Q ∧ sel p Q ≤ (n : Int) - 1) ∧ (0 ≤ sel p M ∧ sel p M ≤ 400) ∧ (0 ≤ sel p L ∧ sel p L ≤ 100000000000)
theorem valid_ok {r : Rule} (g : Good r) (hc : clockCheck r = some 0) {L M Q : Int × Int × Unit} {p t : Int} (hp : p = 0 ∨ p = 1) (h : okC r.1.length L M Q t) : clockValid r (mk L M Q p t) = some 0 := by
  rw [valid_spec r _ hc g.l1 g.l5, if_pos]
  obtain ⟨h1, h2⟩ := h
  have a := h2 0 (.inl rfl)
  have b := h2 1 (.inr rfl)
  unfold clockOk mk
  simp only
  refine ⟨by rcases hp with rfl | rfl <;> omega, by omega, h1, a, b⟩
theorem look_spec {r : Rule} (g : Good r) (hc : clockCheck r = some 0) {L M Q : Int × Int × Unit} {p t now : Int} (hp : p = 0 ∨ p = 1) (h : okC r.1.length L M Q t) :
    clockLook r (mk L M Q p t) now = some (if now < t ∨ 100000000 < now then (clk0, 11, ()) else (if sel p L < ref3Spent r (now - t) then (upd p 0 L, M, Q, p, t, false, p, ()) else mk L M Q p t, 0, ())) := by
  have hv := valid_ok g hc hp h
  by_cases c : now < t ∨ 100000000 < now
  · rw [if_pos c]
    exact look_time r _ now hv c
  · rw [if_neg c]
    have hu := (used_eq g L M Q p t now ⟨h.1.1, by omega⟩ (by omega)).1
    have hl := look_ok r (mk L M Q p t) now hv hp (by show t ≤ now; omega) (by omega)
    rw [hu] at hl
    rw [hl]
    congr 2
    show (if ((-1 : Int) < 0 ∧ sel p L < ref3Spent r (now - t)) then _ else _) = _
    by_cases c2 : sel p L < ref3Spent r (now - t)
    · rw [if_pos ⟨by omega, c2⟩, if_pos c2]
      unfold mk upd
      rcases hp with rfl | rfl <;> rfl
    · rw [if_neg (fun h => c2 h.2), if_neg c2]
theorem left_spec {r : Rule} (g : Good r) (hc : clockCheck r = some 0) {L M Q : Int × Int × Unit} {p t now : Int} (hp : p = 0 ∨ p = 1) (h : okC r.1.length L M Q t) :
    clockLeft r (mk L M Q p t) p now = some (if now < t ∨ 100000000 < now then (0, 11, ()) else if sel p L < ref3Spent r (now - t) then (0, 0, ()) else (sel p L - ref3Spent r (now - t), 0, ())) := by
  unfold clockLeft
  have hw : clockWithin p 0 1 = true := by rcases hp with rfl | rfl <;> rfl
  have hi : inb p 2 = true := by rcases hp with rfl | rfl <;> rfl
  rw [look_spec g hc hp h]
  simp only [hw, Bool.not_true, cond_false, Option.bind_some, hi, req_true]
  by_cases c : now < t ∨ 100000000 < now
  · simp [c]
  · obtain ⟨u1, u2, u3, _⟩ := used_eq g L M Q p t now ⟨h.1.1, by omega⟩ (by omega)
    have hb := (h.2 p hp).2.2
    rw [if_neg c, if_neg c]
    by_cases c2 : sel p L < ref3Spent r (now - t)
    · rw [if_pos c2, if_pos c2]
      have hn : ¬ p < 0 := by omega
      simp only [bne_self_eq_false, cond_false, hn, decide_false, Bool.false_and]
      exact congrArg (fun z => some (z, (0 : Int), ())) (sel_upd hp 0 L)
    · rw [if_neg c2, if_neg c2]
      have e1 : (decide (((mk L M Q p t)).2.2.2.2.2.2.1 < (0 : Int)) && (p == (mk L M Q p t).2.2.2.1)) = true := by
        unfold mk
        simp
      simp only [bne_self_eq_false, cond_false, e1, cond_true, u1]
      have : w64 (getD' [(mk L M Q p t).1.1, (mk L M Q p t).1.2.1] p.toNat 0 - ref3Spent r (now - t)) = sel p L - ref3Spent r (now - t) := by
        show w64 (sel p L - ref3Spent r (now - t)) = _
        exact w64_id (by omega) (by omega)
      rw [this]
theorem press_spec {r : Rule} (g : Good r) (hc : clockCheck r = some 0) {L M Q : Int × Int × Unit} {p t now : Int} (hp : p = 0 ∨ p = 1) (h : okC r.1.length L M Q t) (q : Nat) (hq : sel p Q = (q : Int)) (hql : q < r.1.length) (hm : sel p M ≤ 300) (hL : sel p L ≤ 50000000000)
    (hmq : pm r q ≠ 0 → sel p M < pm r q) :
    clockPress r (mk L M Q p t) now = some (if now < t ∨ 100000000 < now then (clk0, 11, ()) else if sel p L < ref3Spent r (now - t) then (clk0, 14, ()) else
      (if pm r q ≠ 0 ∧ sel p M + 1 = pm r q then mk (upd p (sel p L - ref3Spent r (now - t) + r.2.1 + pt r (q + 1)) L) (upd p 0 M) (upd p ((q + 1 : Nat) : Int) Q) (1 - p) now
       else mk (upd p (sel p L - ref3Spent r (now - t) + r.2.1) L) (upd p (sel p M + 1) M) Q (1 - p) now, 0, ())) := by
  have hv := look_spec g hc (now := now) hp h
  unfold clockPress
  by_cases c : now < t ∨ 100000000 < now
  · rw [if_pos c] at hv ⊢
    rw [ready_of r _ now false _ _ hv]
    simp [clk0]
  · rw [if_neg c] at hv ⊢
    obtain ⟨u1, u2, u3, _⟩ := used_eq g L M Q p t now ⟨h.1.1, by omega⟩ (by omega)
    obtain ⟨b1, b2, b3⟩ := h.2 p hp
    by_cases c2 : sel p L < ref3Spent r (now - t)
    · rw [if_pos c2] at hv ⊢
      rw [ready_of r _ now false _ _ hv]
      have : 0 ≤ p := by omega
      simp [this, clk0]
    · rw [if_neg c2] at hv ⊢
      have hr : clockReady r (mk L M Q p t) now false = some (mk L M Q p t, 0, ()) := by
        rw [ready_of r _ now false _ _ hv]
        simp [mk]
      rw [hr]
      have hgp := g.per q hql
      rw [get_p hql] at hgp
      simp only at hgp
      have hinc := g.inc
      simp only [Option.bind_some, bne_self_eq_false, cond_false, u1]
      generalize hs : ref3Spent r (now - t) = s at *
      have w1 : w64 (sel p L - s) = sel p L - s := w64_id (by omega) (by omega)
      have w2 : w64 (sel p L - s + r.2.1) = sel p L - s + r.2.1 := w64_id (by omega) (by omega)
      have w3 : w64 (sel p M + 1) = sel p M + 1 := w64_id (by omega) (by omega)
      have w4 : w64 (1 - p) = 1 - p := w64_id (by omega) (by omega)
      have n1 : ¬ (100000000000 : Int) < sel p L - s + r.2.1 := by omega
      have n2 : ¬ (400 : Int) < sel p M + 1 := by omega
      have hat : at? r.1 (sel p Q) = some (pm r q, pt r q, ()) := by rw [hq]; exact at_p hql
      have w5 : w64 (sel p Q + 1) = ((q + 1 : Nat) : Int) := by have := g.l5; rw [hq, w64_id (by omega) (by omega)]; rfl
      have i0 : inb 0 2 = true := rfl
      have i1 : inb 1 2 = true := rfl
      have z1 : ((0 : Int) == 1) = false := rfl
      have z2 : ((1 : Int) == 0) = false := rfl
      have hcond : (decide (pm r q > 0) && decide (sel p M + 1 ≥ pm r q)) = decide (pm r q ≠ 0 ∧ sel p M + 1 = pm r q) := by
        rw [Bool.eq_iff_iff]
        simp only [Bool.and_eq_true, decide_eq_true_eq]
        constructor
        · intro hh
          have := hmq (by omega)
          omega
        · intro hh
          omega
      by_cases c3 : pm r q ≠ 0 ∧ sel p M + 1 = pm r q
      · have hq1 : q + 1 < r.1.length := by omega
        have hgq := g.per (q + 1) hq1
        rw [get_p hq1] at hgq
        simp only at hgq
        have hat1 := at_p hq1
        have w6 : w64 (sel p L - s + r.2.1 + pt r (q + 1)) = sel p L - s + r.2.1 + pt r (q + 1) := w64_id (by omega) (by omega)
        have n3 : ¬ (100000000000 : Int) < sel p L - s + r.2.1 + pt r (q + 1) := by omega
        rw [if_pos c3]
        rw [decide_eq_true c3] at hcond
        rcases hp with rfl | rfl
        · simp only [sel, getD', Int.toNat_zero, List.getD_cons_zero] at *
          simp only [mk, upd, getD', i0, i1, z1, z2, req_true, cond_false, Bool.cond_self, Int.toNat_zero, List.getD_cons_zero, beq_self_eq_true, cond_true, w1, w2, w3, w4, w5, w6, hat, hat1, n1, n2, n3, if_false, Option.bind_some, hcond, imp]
          try rfl
        · simp only [sel, getD', Int.toNat_one, List.getD_cons_succ, List.getD_cons_zero] at *
          simp only [mk, upd, getD', i0, i1, z1, z2, req_true, cond_false, Bool.cond_self, Int.toNat_one, List.getD_cons_succ, List.getD_cons_zero, beq_self_eq_true, cond_true, w1, w2, w3, w4, w5, w6, hat, hat1, n1, n2, n3, if_false, Option.bind_some, hcond, imp]
          try rfl
      · rw [if_neg c3]
        rw [decide_eq_false c3] at hcond
        rcases hp with rfl | rfl
        · simp only [sel, getD', Int.toNat_zero, List.getD_cons_zero] at *
          simp only [mk, upd, getD', i0, i1, z1, z2, req_true, cond_false, Bool.cond_self, Int.toNat_zero, List.getD_cons_zero, beq_self_eq_true, cond_true, w1, w2, w3, w4, hat, n1, n2, if_false, Option.bind_some, hcond, imp, cond_false]
          try rfl
        · simp only [sel, getD', Int.toNat_one, List.getD_cons_succ, List.getD_cons_zero] at *
          simp only [mk, upd, getD', i0, i1, z1, z2, req_true, cond_false, Bool.cond_self, Int.toNat_one, List.getD_cons_succ, List.getD_cons_zero, beq_self_eq_true, cond_true, w1, w2, w3, w4, hat, n1, n2, if_false, Option.bind_some, hcond, imp, cond_false]
          try rfl
end Go.Proofs.Ytcdpkebphgeipaa
