/- The law ClockStops, in plain Lean. No condition of its own. -/
import Derived.Test.YtejmikpmkfnlgaaDenP
import Derived.Test.YtejmikpmkfnlgaaDenF
import Derived.Test.YtejmikpmkfnlgaaClockStopsS
namespace Go.Proofs.Ytejmikpmkfnlgaa
open Go.Den
set_option linter.unusedVariables false
set_option linter.unusedSimpArgs false
set_option maxRecDepth 100000

theorem check_loop (r : (List (Int × Int × Unit)) × Int × Int × Unit) (h1 : 1 ≤ r.1.length) (h2 : r.1.length ≤ 5) : clockCheck_L1 r = ref3Ruled_L1 r := by
  funext x
  obtain ⟨⟨i, _⟩, _⟩ := x
  have hw : w64 (((r.1.length : Nat) : Int) - 1) = (r.1.length : Int) - 1 := w64_id (by omega) (by omega)
  unfold clockCheck_L1 ref3Ruled_L1
  simp only [hw]
  by_cases hi : i < (r.1.length : Int)
  · simp only [hi, decide_true, cond_true]
    congr 1
    funext d
    have e1 : ((!clockWithin d.1 0 400) || !clockWithin d.2.1 1 100000000) = (((decide (d.1 < 0) || decide (d.1 > 400)) || decide (d.2.1 ≤ 0)) || decide (d.2.1 > 100000000)) := by
      unfold clockWithin
      by_cases a1 : d.1 < 0 <;> by_cases a2 : d.1 > 400 <;> by_cases a3 : d.2.1 ≤ 0 <;> by_cases a4 : d.2.1 > 100000000 <;> simp [a1, a2, a3, a4] <;> omega
    have e2 : (!((d.1 == 0) == (i == (r.1.length : Int) - 1))) = ((decide (i < (r.1.length : Int) - 1) && d.1 == 0) || (i == (r.1.length : Int) - 1 && d.1 != 0)) := by
      by_cases a1 : d.1 = 0 <;> by_cases a2 : i = (r.1.length : Int) - 1
      · simp [a1, a2]
      · have : i < (r.1.length : Int) - 1 := by omega
        simp [a1, a2, this]
      · have b1 : (d.1 == 0) = false := by simpa using a1
        simp [b1, a2, bne]
      · have b1 : (d.1 == 0) = false := by simpa using a1
        have b2 : (i == (r.1.length : Int) - 1) = false := by simpa using a2
        simp [b1, b2, bne]
    rw [e1, e2]
  · simp [hi]
theorem check_some (r : (List (Int × Int × Unit)) × Int × Int × Unit) (h1 : 1 ≤ r.1.length) (h2 : r.1.length ≤ 5) : ∃ q, iterW (clockCheck_L1 r) ((0, ()), ()) = some q := by
  obtain ⟨q, h, _⟩ := iterW_meas (f := clockCheck_L1 r) (fun x => 0 ≤ x.1.1 ∧ x.1.1 ≤ (r.1.length : Int)) (fun x => ((r.1.length : Int) - x.1.1).toNat) (fun _ => True) (by
    rintro ⟨⟨i, _⟩, _⟩ ⟨h3, h4⟩
    simp only at h3 h4
    unfold clockCheck_L1
    by_cases hi : i < (r.1.length : Int)
    · simp only [hi, decide_true, cond_true, at?_eq r.1 i h3 hi, Option.bind_some]
      cases ((!clockWithin (r.1[i.toNat]'(by omega)).1 0 400) || !clockWithin (r.1[i.toNat]'(by omega)).2.1 1 100000000) with
      | true => exact .inr ⟨_, rfl, trivial⟩
      | false =>
        cases (!(((r.1[i.toNat]'(by omega)).1 == 0) == (i == w64 ((r.1.length : Int) - 1)))) with
        | true => exact .inr ⟨_, rfl, trivial⟩
        | false =>
          refine .inl ⟨_, rfl, ?_, ?_⟩ <;> simp only [w64_id (n := i + 1) (by omega) (by omega)] <;> omega
    · exact .inr ⟨_, by simp only [hi, decide_false, cond_false]; rfl, trivial⟩) ((0, ()), ()) ⟨by simp, by simp⟩
  exact ⟨q, h⟩
theorem check_spec (r : (List (Int × Int × Unit)) × Int × Int × Unit) : ∃ n, clockCheck r = some n ∧ ref3Ruled r = some n ∧ (n = 0 → 1 ≤ r.1.length ∧ r.1.length ≤ 5 ∧ 0 ≤ r.2.2.1 ∧ r.2.2.1 ≤ 100000000) := by
  unfold clockCheck ref3Ruled
  have e0 : (!clockWithin ((r.1.length : Nat) : Int) 1 5) = (decide (((r.1.length : Nat) : Int) < 1) || decide (((r.1.length : Nat) : Int) > 5)) := by
    unfold clockWithin
    by_cases a1 : ((r.1.length : Nat) : Int) < 1 <;> by_cases a2 : ((r.1.length : Nat) : Int) > 5 <;> simp [a1, a2] <;> omega
  have e1 : ((!clockWithin r.2.1 0 100000000) || !clockWithin r.2.2.1 0 100000000) = (((decide (r.2.1 < 0) || decide (r.2.2.1 < 0)) || decide (r.2.1 > 100000000)) || decide (r.2.2.1 > 100000000)) := by
    unfold clockWithin
    by_cases a1 : r.2.1 < 0 <;> by_cases a2 : r.2.2.1 < 0 <;> by_cases a3 : r.2.1 > 100000000 <;> by_cases a4 : r.2.2.1 > 100000000 <;> simp [a1, a2, a3, a4] <;> omega
  rw [e0, e1]
  cases hc : (decide (((r.1.length : Nat) : Int) < 1) || decide (((r.1.length : Nat) : Int) > 5)) with
  | true => exact ⟨2, rfl, rfl, fun h => by cases h⟩
  | false =>
    simp only [Bool.or_eq_false_iff, decide_eq_false_iff_not] at hc
    cases hd : (((decide (r.2.1 < 0) || decide (r.2.2.1 < 0)) || decide (r.2.1 > 100000000)) || decide (r.2.2.1 > 100000000)) with
    | true => exact ⟨4, rfl, rfl, fun h => by cases h⟩
    | false =>
      simp only [Bool.or_eq_false_iff, decide_eq_false_iff_not] at hd
      obtain ⟨q, hq⟩ := check_some r (by omega) (by omega)
      rw [← check_loop r (by omega) (by omega), hq]
      refine ⟨Sum.elim (fun _ => 0) id q, ?_, ?_, fun _ => by omega⟩ <;> cases q <;> rfl

def clockOk (n : Nat) (c : (Int × Int × Unit) × (Int × Int × Unit) × (Int × Int × Unit) × Int × Int × Bool × Int × Unit) : Prop :=
  (0 ≤ c.2.2.2.1 ∧ c.2.2.2.1 ≤ 1) ∧ (-1 ≤ c.2.2.2.2.2.2.1 ∧ c.2.2.2.2.2.2.1 ≤ 1) ∧ (0 ≤ c.2.2.2.2.1 ∧ c.2.2.2.2.1 ≤ 100000000) ∧
  ((0 ≤ c.2.2.1.1 ∧ c.2.2.1.1 ≤ (n : Int) - 1) ∧ (0 ≤ c.2.1.1 ∧ c.2.1.1 ≤ 400) ∧ (0 ≤ c.1.1 ∧ c.1.1 ≤ 100000000000)) ∧
  ((0 ≤ c.2.2.1.2.1 ∧ c.2.2.1.2.1 ≤ (n : Int) - 1) ∧ (0 ≤ c.2.1.2.1 ∧ c.2.1.2.1 ≤ 400) ∧ (0 ≤ c.1.2.1 ∧ c.1.2.1 ≤ 100000000000))
instance (n c) : Decidable (clockOk n c) := by unfold clockOk; infer_instance
theorem valid_spec (r : (List (Int × Int × Unit)) × Int × Int × Unit) (c) (h : clockCheck r = some 0) (h1 : 1 ≤ r.1.length) (h2 : r.1.length ≤ 5) : clockValid r c = some (if clockOk r.1.length c then 0 else 4) := by
  have hw : w64 (((r.1.length : Nat) : Int) - 1) = (r.1.length : Int) - 1 := w64_id (by omega) (by omega)
  unfold clockValid
  rw [h]
  simp only [Option.bind_some, bne_self_eq_false, cond_false]
  have hL : ∀ b, iterW (clockValid_L1 c r) ((b, 0, ()), ()) = some (((((((((b && clockWithin c.2.2.1.1 0 ((r.1.length : Int) - 1)) && clockWithin c.2.1.1 0 400) && clockWithin c.1.1 0 100000000000)) && clockWithin c.2.2.1.2.1 0 ((r.1.length : Int) - 1)) && clockWithin c.2.1.2.1 0 400) && clockWithin c.1.2.1 0 100000000000), ()), ()) := by
    intro b
    have w1 : w64 1 = 1 := by decide
    have w2 : w64 2 = 2 := by decide
    rw [iterW_eq]
    simp [clockValid_L1, hw, inb, imp, req, getD', w1]
    rw [iterW_eq]
    simp [clockValid_L1, hw, inb, imp, req, getD', w2]
    rw [iterW_eq]
    simp [clockValid_L1]
  rw [hL]
  simp only [Option.bind_some]
  by_cases hk : clockOk r.1.length c
  · have hk' := hk
    unfold clockOk at hk'
    have : ((((((((clockWithin c.2.2.2.1 0 1 && clockWithin c.2.2.2.2.2.2.1 (-1) 1) && clockWithin c.2.2.2.2.1 0 100000000) && clockWithin c.2.2.1.1 0 ((r.1.length : Int) - 1)) && clockWithin c.2.1.1 0 400) && clockWithin c.1.1 0 100000000000) && clockWithin c.2.2.1.2.1 0 ((r.1.length : Int) - 1)) && clockWithin c.2.1.2.1 0 400) && clockWithin c.1.2.1 0 100000000000) = true := by
      simp [clockWithin, hk']
    rw [this, if_pos hk]
    rfl
  · have : ((((((((clockWithin c.2.2.2.1 0 1 && clockWithin c.2.2.2.2.2.2.1 (-1) 1) && clockWithin c.2.2.2.2.1 0 100000000) && clockWithin c.2.2.1.1 0 ((r.1.length : Int) - 1)) && clockWithin c.2.1.1 0 400) && clockWithin c.1.1 0 100000000000) && clockWithin c.2.2.1.2.1 0 ((r.1.length : Int) - 1)) && clockWithin c.2.1.2.1 0 400) && clockWithin c.1.2.1 0 100000000000) = false := by
      cases hx : ((((((((clockWithin c.2.2.2.1 0 1 && clockWithin c.2.2.2.2.2.2.1 (-1) 1) && clockWithin c.2.2.2.2.1 0 100000000) && clockWithin c.2.2.1.1 0 ((r.1.length : Int) - 1)) && clockWithin c.2.1.1 0 400) && clockWithin c.1.1 0 100000000000) && clockWithin c.2.2.1.2.1 0 ((r.1.length : Int) - 1)) && clockWithin c.2.1.2.1 0 400) && clockWithin c.1.2.1 0 100000000000) with
      | false => rfl
      | true =>
        simp [clockWithin] at hx
        exact absurd (by unfold clockOk; simp [hx]) hk
    rw [this, if_neg hk]
    rfl
theorem clocked_spec (r : (List (Int × Int × Unit)) × Int × Int × Unit) (c) (h1 : 1 ≤ r.1.length) (h2 : r.1.length ≤ 5) : law3Clocked r c = some (decide (clockOk r.1.length c)) := by
  unfold law3Clocked
  have hL : ∀ b, iterW (law3Clocked_L1 c r) ((b, 0, ()), ()) = some ((((b && (decide (c.2.2.1.1 ≥ 0) && decide (c.2.2.1.1 < (r.1.length : Int)) && decide (c.2.1.1 ≥ 0) && decide (c.2.1.1 ≤ 400) && decide (c.1.1 ≥ 0) && decide (c.1.1 ≤ 100000000000))) &&
      (decide (c.2.2.1.2.1 ≥ 0) && decide (c.2.2.1.2.1 < (r.1.length : Int)) && decide (c.2.1.2.1 ≥ 0) && decide (c.2.1.2.1 ≤ 400) && decide (c.1.2.1 ≥ 0) && decide (c.1.2.1 ≤ 100000000000))), ()), ()) := by
    intro b
    have w1 : w64 1 = 1 := by decide
    have w2 : w64 2 = 2 := by decide
    rw [iterW_eq]
    simp [law3Clocked_L1, inb, imp, req, getD', w1]
    rw [iterW_eq]
    simp [law3Clocked_L1, inb, imp, req, getD', w2]
    rw [iterW_eq]
    simp [law3Clocked_L1, Bool.and_assoc]
  rw [hL]
  simp only [Option.bind_some, Option.some.injEq]
  by_cases hk : clockOk r.1.length c
  · have hk' := hk
    unfold clockOk at hk'
    rw [decide_eq_true hk]
    have a1 : c.2.2.2.1 = 0 ∨ c.2.2.2.1 = 1 := by omega
    have a2 : c.2.2.1.1 < (r.1.length : Int) := by omega
    have a3 : c.2.2.1.2.1 < (r.1.length : Int) := by omega
    rcases a1 with a1 | a1 <;> simp [a1, a2, a3, hk']
  · rw [decide_eq_false hk]
    refine Bool.eq_false_iff.2 fun hx => hk ?_
    simp at hx
    unfold clockOk
    omega

abbrev Rule := (List (Int × Int × Unit)) × Int × Int × Unit
abbrev Clk := (Int × Int × Unit) × (Int × Int × Unit) × (Int × Int × Unit) × Int × Int × Bool × Int × Unit
def clk0 : Clk := ((0, 0, ()), (0, 0, ()), (0, 0, ()), 0, 0, false, 0, ())
theorem look_fault (r : Rule) (c : Clk) (now e : Int) (h : clockValid r c = some e) (he : e ≠ 0) : clockLook r c now = some (clk0, e, ()) := by
  unfold clockLook
  have : (e != 0) = true := by simpa using he
  simp [h, this, clk0]
theorem look_time (r : Rule) (c : Clk) (now : Int) (h : clockValid r c = some 0) (he : now < c.2.2.2.2.1 ∨ 100000000 < now) : clockLook r c now = some (clk0, 11, ()) := by
  unfold clockLook
  have : clockWithin now c.2.2.2.2.1 100000000 = false := by
    unfold clockWithin
    rcases he with he | he
    · have : ¬ now ≥ c.2.2.2.2.1 := by omega
      simp [this]
    · have : ¬ now ≤ 100000000 := by omega
      simp [this]
  simp [h, this, clk0]
theorem look_ok (r : Rule) (c : Clk) (now : Int) (h : clockValid r c = some 0) (ht : c.2.2.2.1 = 0 ∨ c.2.2.2.1 = 1) (h1 : c.2.2.2.2.1 ≤ now) (h2 : now ≤ 100000000) :
    clockLook r c now = some (if c.2.2.2.2.2.2.1 < 0 ∧ getD' [c.1.1, c.1.2.1] (c.2.2.2.1).toNat 0 < clockUsed r c now then
      ((if c.2.2.2.1 = 0 then 0 else c.1.1, if c.2.2.2.1 = 1 then 0 else c.1.2.1, ()), c.2.1, c.2.2.1, c.2.2.2.1, c.2.2.2.2.1, c.2.2.2.2.2.1, c.2.2.2.1, ()) else c, 0, ()) := by
  unfold clockLook
  have hw : clockWithin now c.2.2.2.2.1 100000000 = true := by simp [clockWithin, h1, h2]
  have hi : inb c.2.2.2.1 2 = true := by rcases ht with e | e <;> rw [e] <;> rfl
  simp only [h, Option.bind_some, bne_self_eq_false, cond_false, hw, Bool.not_true, hi, imp, Bool.cond_self, req_true]
  generalize clockUsed r c now = u
  generalize getD' [c.1.1, c.1.2.1] (c.2.2.2.1).toNat 0 = g
  by_cases a : c.2.2.2.2.2.2.1 < 0 <;> by_cases b : g < u
  · rcases ht with e | e <;> simp [a, b, e]
  · simp [a, b]
  · simp [a, b]
  · simp [a, b]
theorem ready_of (r : Rule) (c : Clk) (now : Int) (st : Bool) (x : Clk) (e : Int) (h : clockLook r c now = some (x, e, ())) :
    clockReady r c now st = some (if e ≠ 0 then (clk0, e, ()) else if 0 ≤ x.2.2.2.2.2.2.1 then (clk0, 14, ()) else if x.2.2.2.2.2.1 ≠ st then (clk0, 10, ()) else (x, 0, ())) := by
  unfold clockReady
  simp only [h, Option.bind_some]
  by_cases a : e = 0
  · by_cases b : 0 ≤ x.2.2.2.2.2.2.1
    · simp [a, b, clk0]
    · by_cases d : x.2.2.2.2.2.1 = st
      · simp [a, b, d]
      · have d' : (x.2.2.2.2.2.1 == st) = false := by simpa using d
        simp [a, b, d, d', clk0]
  · have : (e != 0) = true := by simpa using a
    simp [a, this, clk0]
theorem ticks : law3Ticks = some true := by
  have hc : clockCheck law3Minute = some 0 := by
    unfold clockCheck
    have : iterW (clockCheck_L1 law3Minute) ((0, ()), ()) = some (.inl ((), ())) := by
      rw [iterW_eq]
      simp [clockCheck_L1, law3Minute, at?, clockWithin, show w64 0 = 0 from by decide, show w64 1 = 1 from by decide]
      rw [iterW_eq]
      simp [clockCheck_L1]
    rw [this]
    simp [law3Minute, clockWithin]
  unfold law3Ticks clockStart
  have e : ((law3Minute).1, (((law3Minute).2).1, ((((law3Minute).2).2).1, ()))) = law3Minute := rfl
  rw [e, hc]
  simp [law3Minute, clockWithin, at?]
theorem law3ClockStops_true (r : Rule) (c : Clk) (at' now then' : Int) (hr : Rng (.st (.sl (.st (.int .i64) (.st (.int .i64) .nil))) (.st (.int .i64) (.st (.int .i64) .nil))) r)
    (hc : Rng (.st (.st (.int .i64) (.st (.int .i64) .nil)) (.st (.st (.int .i64) (.st (.int .i64) .nil)) (.st (.st (.int .i64) (.st (.int .i64) .nil)) (.st (.int .i64) (.st (.int .i64) (.st .bool (.st (.int .i64) .nil))))))) c)
    (ha : Rng (.int .i64) at') (hn : Rng (.int .i64) now) (ht : Rng (.int .i64) then') : law3ClockStops r c at' now then' = some true := by
  unfold law3ClockStops
  simp only [ticks, Option.bind_some, Bool.not_true, cond_false]
  obtain ⟨n, h1, h2, h3⟩ := check_spec r
  by_cases hn0 : n = 0
  · subst hn0
    obtain ⟨g1, g2, d1, d2⟩ := h3 rfl
    have hv := valid_spec r c h1 g1 g2
    have hk := clocked_spec r c g1 g2
    by_cases ok : clockOk r.1.length c
    · rw [if_pos ok] at hv
      rw [decide_eq_true ok] at hk
      by_cases ht0 : at' < c.2.2.2.2.1 ∨ 100000000 < at'
      · have hs : clockStop r c at' = some (clk0, 11, ()) := by
          unfold clockStop
          rw [ready_of r c at' false _ _ (look_time r c at' hv ht0)]
          rfl
        have hb : (decide (at' < c.2.2.2.2.1) || decide (at' > 100000000)) = true := by simpa using ht0
        simp [hs, h2, gopt, hk, hv, hb, clk0]
      · have hb : (decide (at' < c.2.2.2.2.1) || decide (at' > 100000000)) = false := by
          simp only [Bool.or_eq_false_iff, decide_eq_false_iff_not]
          omega
        have hlook := fun now h1 h2 => look_ok r c now hv (by have := ok.1; omega) h1 h2
        have hl := hlook at' (by omega) (by omega)
        have hok := ok
        unfold clockOk at hok
        simp only [h2, gopt, hk, hv, hb, Option.bind_some, beq_self_eq_true, cond_true, Bool.not_true, Bool.and_false, cond_false, bne_self_eq_false]
        obtain ⟨⟨l0, l1, _⟩, ⟨m0, m1, _⟩, ⟨p0, p1, _⟩, tu, si, st, fa, _⟩ := c
        obtain ⟨ps, inc, del, _⟩ := r
        simp only at hok hl hb ht0 g1 g2 d1 d2
        have htu : tu = 0 ∨ tu = 1 := by omega
        have hle : 0 ≤ getD' [l0, l1] tu.toNat 0 := by rcases htu with rfl | rfl <;> simp [getD'] <;> omega
        have hle2 : getD' [l0, l1] tu.toNat 0 ≤ 100000000000 := by rcases htu with rfl | rfl <;> simp [getD'] <;> omega
        have hin : inb tu 2 = true := by rcases htu with rfl | rfl <;> rfl
        cases st with
        | true =>
          have hu : ∀ x, clockUsed (ps, inc, del, ()) ((l0, l1, ()), (m0, m1, ()), (p0, p1, ()), tu, si, true, fa, ()) x = 0 := fun _ => rfl
          rw [hu, if_neg (by omega)] at hl
          have hs : clockStop (ps, inc, del, ()) ((l0, l1, ()), (m0, m1, ()), (p0, p1, ()), tu, si, true, fa, ()) at' = some (clk0, if 0 ≤ fa then 14 else 10, ()) := by
            unfold clockStop
            rw [ready_of _ _ at' false _ _ hl]
            by_cases hf : 0 ≤ fa <;> simp [hf, clk0]
          have hg : clockGo (ps, inc, del, ()) ((l0, l1, ()), (m0, m1, ()), (p0, p1, ()), tu, si, true, fa, ()) at' = some (if 0 ≤ fa then (clk0, 14, ()) else (((l0, l1, ()), (m0, m1, ()), (p0, p1, ()), tu, at', false, fa, ()), 0, ())) := by
            unfold clockGo
            rw [ready_of _ _ at' true _ _ hl]
            by_cases hf : 0 ≤ fa <;> simp [hf, clk0]
          rw [hs, hg]
          by_cases hf : 0 ≤ fa <;> simp [hf]
        | false =>
          have hu : clockUsed (ps, inc, del, ()) ((l0, l1, ()), (m0, m1, ()), (p0, p1, ()), tu, si, false, fa, ()) at' = ref3Spent (ps, inc, del, ()) (w64 (at' - si)) := by
            unfold clockUsed ref3Spent
            simp only [cond_false, w64_id (n := at' - si) (by omega) (by omega), w64_id (n := at' - si - del) (by omega) (by omega)]
            by_cases hx : at' - si ≤ del
            · rw [if_neg (by omega)]; simp [hx]
            · rw [if_pos (by omega)]; simp [hx]
          have hsp : 0 ≤ ref3Spent (ps, inc, del, ()) (w64 (at' - si)) ∧ ref3Spent (ps, inc, del, ()) (w64 (at' - si)) ≤ 100000000 := by
            unfold ref3Spent
            simp only [w64_id (n := at' - si) (by omega) (by omega), w64_id (n := at' - si - del) (by omega) (by omega)]
            by_cases hx : at' - si ≤ del <;> simp [hx] <;> omega
          rw [hu] at hl
          generalize hsv : ref3Spent (ps, inc, del, ()) (w64 (at' - si)) = sp at hl hu hsp ⊢
          by_cases hf : 0 ≤ fa
          · rw [if_neg (by omega)] at hl
            have hs : clockStop (ps, inc, del, ()) ((l0, l1, ()), (m0, m1, ()), (p0, p1, ()), tu, si, false, fa, ()) at' = some (clk0, 14, ()) := by
              unfold clockStop
              rw [ready_of _ _ at' false _ _ hl]
              simp [hf, clk0]
            rw [hs]
            simp [hf, imp, req, clk0]
          · by_cases hx : getD' [l0, l1] tu.toNat 0 < sp
            · rw [if_pos ⟨by omega, hx⟩] at hl
              have hs : clockStop (ps, inc, del, ()) ((l0, l1, ()), (m0, m1, ()), (p0, p1, ()), tu, si, false, fa, ()) at' = some (clk0, 14, ()) := by
                unfold clockStop
                rw [ready_of _ _ at' false _ _ hl]
                simp [hok, clk0]
              rw [hs]
              simp [hf, imp, req, clk0, hin, hx]
            · rw [if_neg (by omega)] at hl
              have hs : clockStop (ps, inc, del, ()) ((l0, l1, ()), (m0, m1, ()), (p0, p1, ()), tu, si, false, fa, ()) at' = some (((bif tu == 0 then w64 (getD' [l0, l1] tu.toNat 0 - sp) else l0, bif tu == 1 then w64 (getD' [l0, l1] tu.toNat 0 - sp) else l1, ()), (m0, m1, ()), (p0, p1, ()), tu, at', true, fa, ()), 0, ()) := by
                unfold clockStop
                rw [ready_of _ _ at' false _ _ hl]
                simp [hf, hin, req, hu]
              rw [hs]
              have b0 : 0 ≤ (bif tu == 0 then w64 (getD' [l0, l1] tu.toNat 0 - sp) else l0) ∧ (bif tu == 0 then w64 (getD' [l0, l1] tu.toNat 0 - sp) else l0) ≤ 100000000000 := by
                rw [w64_id (by omega) (by omega)]
                cases tu == 0 <;> simp only [cond_true, cond_false] <;> omega
              have b1 : 0 ≤ (bif tu == 1 then w64 (getD' [l0, l1] tu.toNat 0 - sp) else l1) ∧ (bif tu == 1 then w64 (getD' [l0, l1] tu.toNat 0 - sp) else l1) ≤ 100000000000 := by
                rw [w64_id (by omega) (by omega)]
                cases tu == 1 <;> simp only [cond_true, cond_false] <;> omega
              generalize (bif tu == 0 then w64 (getD' [l0, l1] tu.toNat 0 - sp) else l0) = a0 at b0 ⊢
              generalize (bif tu == 1 then w64 (getD' [l0, l1] tu.toNat 0 - sp) else l1) = a1 at b1 ⊢
              by_cases hn1 : now < at' ∨ 100000000 < now
              · rcases hn1 with hn1 | hn1 <;> simp [hf, imp, req, hin, hx, hn1]
              · have n1 : ¬ now < at' := by omega
                have n2 : ¬ 100000000 < now := by omega
                have hv2 := valid_spec (ps, inc, del, ()) ((a0, a1, ()), (m0, m1, ()), (p0, p1, ()), tu, at', true, fa, ()) h1 g1 g2
                rw [if_pos (by unfold clockOk; simp only; omega)] at hv2
                have hl2 := look_ok (ps, inc, del, ()) ((a0, a1, ()), (m0, m1, ()), (p0, p1, ()), tu, at', true, fa, ()) now hv2 htu (by simp only; omega) (by omega)
                have hle3 : 0 ≤ getD' [a0, a1] tu.toNat 0 := by rcases htu with rfl | rfl <;> simp [getD'] <;> omega
                rw [if_neg (by
                  have : clockUsed (ps, inc, del, ()) ((a0, a1, ()), (m0, m1, ()), (p0, p1, ()), tu, at', true, fa, ()) now = 0 := rfl
                  rw [this]
                  simp only
                  omega)] at hl2
                have hg : clockGo (ps, inc, del, ()) ((a0, a1, ()), (m0, m1, ()), (p0, p1, ()), tu, at', true, fa, ()) now = some (((a0, a1, ()), (m0, m1, ()), (p0, p1, ()), tu, now, false, fa, ()), 0, ()) := by
                  unfold clockGo
                  rw [ready_of _ _ now true _ _ hl2]
                  simp [hf]
                simp [hf, imp, req, hin, hx, n1, n2, hl2, hg]
    · rw [if_neg ok] at hv
      rw [decide_eq_false ok] at hk
      have hs : clockStop r c at' = some (clk0, 4, ()) := by
        unfold clockStop
        rw [ready_of r c at' false _ _ (look_fault r c at' 4 hv (by decide))]
        rfl
      simp [hs, h2, gopt, hk, hv, clk0]
  · have hv : clockValid r c = some n := by
      unfold clockValid
      have : (n != 0) = true := by simpa using hn0
      simp [h1, this]
    have hs : clockStop r c at' = some (clk0, n, ()) := by
      unfold clockStop
      rw [ready_of r c at' false _ _ (look_fault r c at' n hv hn0)]
      have : (n != 0) = true := by simpa using hn0
      simp [hn0, this, clk0]
    have h0 : (n == 0) = false := by simpa using hn0
    have h0' : (n != 0) = true := by simpa using hn0
    simp [hs, h2, h0, h0', gopt, hv, clk0]
end Go.Proofs.Ytejmikpmkfnlgaa
