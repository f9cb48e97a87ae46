/- The law ClockRuns, in plain Lean: rules of time, looks. No condition of its own. -/
import Derived.Test.YtcdpkebphgeipaaDenP
import Derived.Test.YtcdpkebphgeipaaDenF
import Derived.Test.YtcdpkebphgeipaaClockRunsS
namespace Go.Proofs.Ytcdpkebphgeipaa
open Go.Den
set_option linter.unusedVariables false
set_option linter.unusedSimpArgs false
set_option maxRecDepth 100000

theorem check_loop (r : (List (Int × Int × Unit)) × Int × Int × Unit) (h1 : 1 ≤ r.1.length) (h2 : r.1.length ≤ 5) : clockCheck_L1 r = ref3Ruled_L1 r := by
  funext x
  obtain ⟨⟨i, _⟩, _⟩ := x
  have hw : w64 (((r.1.length : Nat) : Int) - 1) = (r.1.length : Int) - 1 := w64_id (by omega) (by omega)
  unfold clockCheck_L1 ref3Ruled_L1
  simp only [hw]
  by_cases hi : i < (r.1.length : Int)
  · simp only [hi, decide_true, cond_true]
    congr 1
    funext d
    have e1 : ((!clockWithin d.1 0 400) || !clockWithin d.2.1 1 100000000) = (((decide (d.1 < 0) || decide (d.1 > 400)) || decide (d.2.1 ≤ 0)) || decide (d.2.1 > 100000000)) := by
      unfold clockWithin
      by_cases a1 : d.1 < 0 <;> by_cases a2 : d.1 > 400 <;> by_cases a3 : d.2.1 ≤ 0 <;> by_cases a4 : d.2.1 > 100000000 <;> simp [a1, a2, a3, a4] <;> omega
    have e2 : (!((d.1 == 0) == (i == (r.1.length : Int) - 1))) = ((decide (i < (r.1.length : Int) - 1) && d.1 == 0) || (i == (r.1.length : Int) - 1 && d.1 != 0)) := by
      by_cases a1 : d.1 = 0 <;> by_cases a2 : i = (r.1.length : Int) - 1
      · simp [a1, a2]
      · have : i < (r.1.length : Int) - 1 := by omega
        simp [a1, a2, this]
      · have b1 : (d.1 == 0) = false := by simpa using a1
        simp [b1, a2, bne]
      · have b1 : (d.1 == 0) = false := by simpa using a1
        have b2 : (i == (r.1.length : Int) - 1) = false := by simpa using a2
        simp [b1, b2, bne]
    rw [e1, e2]
  · simp [hi]
theorem check_some (r : (List (Int × Int × Unit)) × Int × Int × Unit) (h1 : 1 ≤ r.1.length) (h2 : r.1.length ≤ 5) : ∃ q, iterW (clockCheck_L1 r) ((0, ()), ()) = some q := by
  obtain ⟨q, h, _⟩ := iterW_meas (f := clockCheck_L1 r) (fun x => 0 ≤ x.1.1 ∧ x.1.1 ≤ (r.1.length : Int)) (fun x => ((r.1.length : Int) - x.1.1).toNat) (fun _ => True) (by
    rintro ⟨⟨i, _⟩, _⟩ ⟨h3, h4⟩
    simp only at h3 h4
    unfold clockCheck_L1
    by_cases hi : i < (r.1.length : Int)
    · simp only [hi, decide_true, cond_true, at?_eq r.1 i h3 hi, Option.bind_some]
      cases ((!clockWithin (r.1[i.toNat]'(by omega)).1 0 400) || !clockWithin (r.1[i.toNat]'(by omega)).2.1 1 100000000) with
      | true => exact .inr ⟨_, rfl, trivial⟩
      | false =>
        cases (!(((r.1[i.toNat]'(by omega)).1 == 0) == (i == w64 ((r.1.length : Int) - 1)))) with
        | true => exact .inr ⟨_, rfl, trivial⟩
        | false =>
          refine .inl ⟨_, rfl, ?_, ?_⟩ <;> simp only [w64_id (n := i + 1) (by omega) (by omega)] <;> omega
    · exact .inr ⟨_, by simp only [hi, decide_false, cond_false]; rfl, trivial⟩) ((0, ()), ()) ⟨by simp, by simp⟩
  exact ⟨q, h⟩
theorem check_spec (r : (List (Int × Int × Unit)) × Int × Int × Unit) : ∃ n, clockCheck r = some n ∧ ref3Ruled r = some n ∧ (n = 0 → 1 ≤ r.1.length ∧ r.1.length ≤ 5 ∧ 0 ≤ r.2.2.1 ∧ r.2.2.1 ≤ 100000000) := by
  unfold clockCheck ref3Ruled
  have e0 : (!clockWithin ((r.1.length : Nat) : Int) 1 5) = (decide (((r.1.length : Nat) : Int) < 1) || decide (((r.1.length : Nat) : Int) > 5)) := by
    unfold clockWithin
    by_cases a1 : ((r.1.length : Nat) : Int) < 1 <;> by_cases a2 : ((r.1.length : Nat) : Int) > 5 <;> simp [a1, a2] <;> omega
  have e1 : ((!clockWithin r.2.1 0 100000000) || !clockWithin r.2.2.1 0 100000000) = (((decide (r.2.1 < 0) || decide (r.2.2.1 < 0)) || decide (r.2.1 > 100000000)) || decide (r.2.2.1 > 100000000)) := by
    unfold clockWithin
    by_cases a1 : r.2.1 < 0 <;> by_cases a2 : r.2.2.1 < 0 <;> by_cases a3 : r.2.1 > 100000000 <;> by_cases a4 : r.2.2.1 > 100000000 <;> simp [a1, a2, a3, a4] <;> omega
  rw [e0, e1]
  cases hc : (decide (((r.1.length : Nat) : Int) < 1) || decide (((r.1.length : Nat) : Int) > 5)) with
  | true => exact ⟨2, rfl, rfl, fun h => by cases h⟩
  | false =>
    simp only [Bool.or_eq_false_iff, decide_eq_false_iff_not] at hc
    cases hd : (((decide (r.2.1 < 0) || decide (r.2.2.1 < 0)) || decide (r.2.1 > 100000000)) || decide (r.2.2.1 > 100000000)) with
    | true => exact ⟨4, rfl, rfl, fun h => by cases h⟩
    | false =>
      simp only [Bool.or_eq_false_iff, decide_eq_false_iff_not] at hd
      obtain ⟨q, hq⟩ := check_some r (by omega) (by omega)
      rw [← check_loop r (by omega) (by omega), hq]
      refine ⟨Sum.elim (fun _ => 0) id q, ?_, ?_, fun _ => by omega⟩ <;> cases q <;> rfl

def clockOk (n : Nat) (c : (Int × Int × Unit) × (Int × Int × Unit) × (Int × Int × Unit) × Int × Int × Bool × Int × Unit) : Prop :=
  (0 ≤ c.2.2.2.1 ∧ c.2.2.2.1 ≤ 1) ∧ (-1 ≤ c.2.2.2.2.2.2.1 ∧ c.2.2.2.2.2.2.1 ≤ 1) ∧ (0 ≤ c.2.2.2.2.1 ∧ c.2.2.2.2.1 ≤ 100000000) ∧
  ((0 ≤ c.2.2.1.1 ∧ c.2.2.1.1 ≤ (n : Int) - 1) ∧ (0 ≤ c.2.1.1 ∧ c.2.1.1 ≤ 400) ∧ (0 ≤ c.1.1 ∧ c.1.1 ≤ 100000000000)) ∧
  ((0 ≤ c.2.2.1.2.1 ∧ c.2.2.1.2.1 ≤ (n : Int) - 1) ∧ (0 ≤ c.2.1.2.1 ∧ c.2.1.2.1 ≤ 400) ∧ (0 ≤ c.1.2.1 ∧ c.1.2.1 ≤ 100000000000))
instance (n c) : Decidable (clockOk n c) := by unfold clockOk; infer_instance
theorem valid_spec (r : (List (Int × Int × Unit)) × Int × Int × Unit) (c) (h : clockCheck r = some 0) (h1 : 1 ≤ r.1.length) (h2 : r.1.length ≤ 5) : clockValid r c = some (if clockOk r.1.length c then 0 else 4) := by
  have hw : w64 (((r.1.length : Nat) : Int) - 1) = (r.1.length : Int) - 1 := w64_id (by omega) (by omega)
  unfold clockValid
  rw [h]
  simp only [Option.bind_some, bne_self_eq_false, cond_false]
  have hL : ∀ b, iterW (clockValid_L1 c r) ((b, 0, ()), ()) = some (((((((((b && clockWithin c.2.2.1.1 0 ((r.1.length : Int) - 1)) && clockWithin c.2.1.1 0 400) && clockWithin c.1.1 0 100000000000)) && clockWithin c.2.2.1.2.1 0 ((r.1.length : Int) - 1)) && clockWithin c.2.1.2.1 0 400) && clockWithin c.1.2.1 0 100000000000), ()), ()) := by
    intro b
    have w1 : w64 1 = 1 := by decide
    have w2 : w64 2 = 2 := by decide
    rw [iterW_eq]
    simp [clockValid_L1, hw, inb, imp, req, getD', w1]
    rw [iterW_eq]
    simp [clockValid_L1, hw, inb, imp, req, getD', w2]
    rw [iterW_eq]
    simp [clockValid_L1]
  rw [hL]
  simp only [Option.bind_some]
  by_cases hk : clockOk r.1.length c
  · have hk' := hk
    unfold clockOk at hk'
    have : ((((((((clockWithin c.2.2.2.1 0 1 && clockWithin c.2.2.2.2.2.2.1 (-1) 1) && clockWithin c.2.2.2.2.1 0 100000000) && clockWithin c.2.2.1.1 0 ((r.1.length : Int) - 1)) && clockWithin c.2.1.1 0 400) && clockWithin c.1.1 0 100000000000) && clockWithin c.2.2.1.2.1 0 ((r.1.length : Int) - 1)) && clockWithin c.2.1.2.1 0 400) && clockWithin c.1.2.1 0 100000000000) = true := by
      simp [clockWithin, hk']
    rw [this, if_pos hk]
    rfl
  · have : ((((((((clockWithin c.2.2.2.1 0 1 && clockWithin c.2.2.2.2.2.2.1 (-1) 1) && clockWithin c.2.2.2.2.1 0 100000000) && clockWithin c.2.2.1.1 0 ((r.1.length : Int) - 1)) && clockWithin c.2.1.1 0 400) && clockWithin c.1.1 0 100000000000) && clockWithin c.2.2.1.2.1 0 ((r.1.length : Int) - 1)) && clockWithin c.2.1.2.1 0 400) && clockWithin c.1.2.1 0 100000000000) = false := by
      cases hx : ((((((((clockWithin c.2.2.2.1 0 1 && clockWithin c.2.2.2.2.2.2.1 (-1) 1) && clockWithin c.2.2.2.2.1 0 100000000) && clockWithin c.2.2.1.1 0 ((r.1.length : Int) - 1)) && clockWithin c.2.1.1 0 400) && clockWithin c.1.1 0 100000000000) && clockWithin c.2.2.1.2.1 0 ((r.1.length : Int) - 1)) && clockWithin c.2.1.2.1 0 400) && clockWithin c.1.2.1 0 100000000000) with
      | false => rfl
      | true =>
        simp [clockWithin] at hx
        exact absurd (by unfold clockOk; simp [hx]) hk
    rw [this, if_neg hk]
    rfl
abbrev Rule := (List (Int × Int × Unit)) × Int × Int × Unit
abbrev Clk := (Int × Int × Unit) × (Int × Int × Unit) × (Int × Int × Unit) × Int × Int × Bool × Int × Unit
def clk0 : Clk := ((0, 0, ()), (0, 0, ()), (0, 0, ()), 0, 0, false, 0, ())
theorem look_fault (r : Rule) (c : Clk) (now e : Int) (h : clockValid r c = some e) (he : e ≠ 0) : clockLook r c now = some (clk0, e, ()) := by
  unfold clockLook
  have : (e != 0) = true := by simpa using he
  simp [h, this, clk0]
theorem look_time (r : Rule) (c : Clk) (now : Int) (h : clockValid r c = some 0) (he : now < c.2.2.2.2.1 ∨ 100000000 < now) : clockLook r c now = some (clk0, 11, ()) := by
  unfold clockLook
  have : clockWithin now c.2.2.2.2.1 100000000 = false := by
    unfold clockWithin
    rcases he with he | he
    · have : ¬ now ≥ c.2.2.2.2.1 := by omega
      simp [this]
    · have : ¬ now ≤ 100000000 := by omega
      simp [this]
  simp [h, this, clk0]
theorem look_ok (r : Rule) (c : Clk) (now : Int) (h : clockValid r c = some 0) (ht : c.2.2.2.1 = 0 ∨ c.2.2.2.1 = 1) (h1 : c.2.2.2.2.1 ≤ now) (h2 : now ≤ 100000000) :
    clockLook r c now = some (if c.2.2.2.2.2.2.1 < 0 ∧ getD' [c.1.1, c.1.2.1] (c.2.2.2.1).toNat 0 < clockUsed r c now then
      ((if c.2.2.2.1 = 0 then 0 else c.1.1, if c.2.2.2.1 = 1 then 0 else c.1.2.1, ()), c.2.1, c.2.2.1, c.2.2.2.1, c.2.2.2.2.1, c.2.2.2.2.2.1, c.2.2.2.1, ()) else c, 0, ()) := by
  unfold clockLook
  have hw : clockWithin now c.2.2.2.2.1 100000000 = true := by simp [clockWithin, h1, h2]
  have hi : inb c.2.2.2.1 2 = true := by rcases ht with e | e <;> rw [e] <;> rfl
  simp only [h, Option.bind_some, bne_self_eq_false, cond_false, hw, Bool.not_true, hi, imp, Bool.cond_self, req_true]
  generalize clockUsed r c now = u
  generalize getD' [c.1.1, c.1.2.1] (c.2.2.2.1).toNat 0 = g
  by_cases a : c.2.2.2.2.2.2.1 < 0 <;> by_cases b : g < u
  · rcases ht with e | e <;> simp [a, b, e]
  · simp [a, b]
  · simp [a, b]
  · simp [a, b]
theorem ready_of (r : Rule) (c : Clk) (now : Int) (st : Bool) (x : Clk) (e : Int) (h : clockLook r c now = some (x, e, ())) :
    clockReady r c now st = some (if e ≠ 0 then (clk0, e, ()) else if 0 ≤ x.2.2.2.2.2.2.1 then (clk0, 14, ()) else if x.2.2.2.2.2.1 ≠ st then (clk0, 10, ()) else (x, 0, ())) := by
  unfold clockReady
  simp only [h, Option.bind_some]
  by_cases a : e = 0
  · by_cases b : 0 ≤ x.2.2.2.2.2.2.1
    · simp [a, b, clk0]
    · by_cases d : x.2.2.2.2.2.1 = st
      · simp [a, b, d]
      · have d' : (x.2.2.2.2.2.1 == st) = false := by simpa using d
        simp [a, b, d, d', clk0]
  · have : (e != 0) = true := by simpa using a
    simp [a, this, clk0]
theorem ticks : law3Ticks = some true := by
  have hc : clockCheck law3Minute = some 0 := by
    unfold clockCheck
    have : iterW (clockCheck_L1 law3Minute) ((0, ()), ()) = some (.inl ((), ())) := by
      rw [iterW_eq]
      simp [clockCheck_L1, law3Minute, at?, clockWithin, show w64 0 = 0 from by decide, show w64 1 = 1 from by decide]
      rw [iterW_eq]
      simp [clockCheck_L1]
    rw [this]
    simp [law3Minute, clockWithin]
  unfold law3Ticks clockStart
  have e : ((law3Minute).1, (((law3Minute).2).1, ((((law3Minute).2).2).1, ()))) = law3Minute := rfl
  rw [e, hc]
  simp [law3Minute, clockWithin, at?]
end Go.Proofs.Ytcdpkebphgeipaa
