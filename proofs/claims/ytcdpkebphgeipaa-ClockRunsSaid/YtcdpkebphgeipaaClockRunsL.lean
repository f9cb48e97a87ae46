/- The law ClockRuns, in plain Lean. No condition of its own. -/
import Derived.Test.YtcdpkebphgeipaaClockRunsB
namespace Go.Proofs.Ytcdpkebphgeipaa
open Go.Den
set_option linter.unusedVariables false
set_option linter.unusedSimpArgs false
set_option maxRecDepth 100000
set_option maxHeartbeats 1000000

theorem agree_self {α : Type} (x : Option α) : agree x x = x := by simp [agree]
/-- what a player has, by the moves that were made -/
def Has (r : Rule) (n : Nat) (l m q s : Int) : Prop := m = (((bud r n).2.2 : Nat) : Int) ∧ q = (((bud r n).2.1 : Nat) : Int) ∧ l = (bud r n).1 - s ∧ 0 ≤ l ∧ 0 ≤ s
abbrev St := (Int × Int × Unit) × ((Int × Int × Int × Int × Int × Int × Int × Int × Bool × Int × Unit) × (Int × Int × Unit) × (Int × Int × Unit) × Unit)
def stt (now k l0 l1 m0 m1 q0 q1 p a b s0 s1 : Int) : St := ((now, k, ()), ((l0, l1, m0, m1, q0, q1, p, now, false, -1, ()), (a, b, ()), (s0, s1, ()), ()))
theorem ok_of {r : Rule} (g : Good r) {a b : Nat} (ha : a ≤ 40) (hb : b ≤ 40) {l0 l1 m0 m1 q0 q1 s0 s1 now : Int} (h0 : Has r a l0 m0 q0 s0) (h1 : Has r b l1 m1 q1 s1) (ht : 0 ≤ now ∧ now ≤ 100000000) : okC r.1.length (l0, l1, ()) (m0, m1, ()) (q0, q1, ()) now := by
  obtain ⟨x1, x2, x3, x4, x5⟩ := bud_ok g a
  obtain ⟨y1, y2, y3, y4, y5⟩ := bud_ok g b
  obtain ⟨e1, e2, e3, e4, e5⟩ := h0
  obtain ⟨f1, f2, f3, f4, f5⟩ := h1
  refine ⟨ht, fun p hp => ?_⟩
  rcases hp with rfl | rfl
  · show (0 ≤ q0 ∧ q0 ≤ _) ∧ (0 ≤ m0 ∧ m0 ≤ _) ∧ (0 ≤ l0 ∧ l0 ≤ _)
    omega
  · show (0 ≤ q1 ∧ q1 ≤ _) ∧ (0 ≤ m1 ∧ m1 ≤ _) ∧ (0 ≤ l1 ∧ l1 ≤ _)
    omega
theorem step0 {r : Rule} (g : Good r) (hc : clockCheck r = some 0) (long : List Int) (T : List Int) (hT : (long.take ((if (60 : Int) < ((long.length : Nat) : Int) then (60 : Int) else ((long.length : Nat) : Int))).toNat).drop 0 = T) {k a b : Nat} (hk : (k : Int).tmod 2 = 0) (hkT : k < T.length) (hk60 : k ≤ 60) (ha : a ≤ 39) (hb : b ≤ 39)
    {l0 l1 m0 m1 q0 q1 s0 s1 now : Int} (h0 : Has r a l0 m0 q0 s0) (h1 : Has r b l1 m1 q1 s1) (ht : 0 ≤ now ∧ now ≤ 100000000) :
    law3ClockRuns_L1 long r (stt now k l0 l1 m0 m1 q0 q1 0 a b s0 s1) = some (.inr (.inr true)) ∨
    ∃ now' l' m' q' s', law3ClockRuns_L1 long r (stt now k l0 l1 m0 m1 q0 q1 0 a b s0 s1) = some (.inl (stt now' ((k + 1 : Nat) : Int) l' l1 m' m1 q' q1 1 ((a + 1 : Nat) : Int) b s' s1)) ∧ Has r (a + 1) l' m' q' s' ∧ 0 ≤ now' ∧ now' ≤ 100000000 := by
  have hok := ok_of g (by omega) (by omega) h0 h1 ht
  obtain ⟨x1, x2, x3, x4, x5⟩ := bud_ok g a
  obtain ⟨y1, y2, y3, y4, y5⟩ := bud_ok g (a + 1)
  obtain ⟨e1, e2, e3, e4, e5⟩ := h0
  have hdel := g.del
  have hinc := g.inc
  have h1T : (k : Int) < (T.length : Int) := by omega
  unfold law3ClockRuns_L1 stt
  simp only [hT, h1T, decide_true, cond_true, at?_eq T (k : Int) (by omega) h1T, Option.bind_some, Int.toNat_natCast, hk]
  generalize T[k] = t
  by_cases ct : t < 0 ∨ 100000000 < t
  · left
    have : (decide (t < 0) || decide (t > 100000000)) = true := by simpa using ct
    rw [this]
    rfl
  · have : (decide (t < 0) || decide (t > 100000000)) = false := by simp only [Bool.or_eq_false_iff, decide_eq_false_iff_not]; omega
    have wn : w64 (now + t) = now + t := w64_id (by omega) (by omega)
    have ii : inb 0 2 = true := rfl
    have bs := budget_spec g a (by omega)
    have hb1 : ref3Budget r (getD' [(a : Int), (b : Int)] ((0 : Int)).toNat 0) = some ((bud r a).1, (((bud r a).2.1 : Nat) : Int), (((bud r a).2.2 : Nat) : Int), ()) := bs
    have hP := press_spec g hc (L := (l0, l1, ())) (M := (m0, m1, ())) (Q := (q0, q1, ())) (p := 0) (t := now) (now := now + t) (.inl rfl) hok (bud r a).2.1 e2 x1 (by show m0 ≤ 300; omega) (by show l0 ≤ 50000000000; omega) (by show _ → m0 < _; rw [e1]; exact x3)
    have hLf := left_spec g hc (L := (l0, l1, ())) (M := (m0, m1, ())) (Q := (q0, q1, ())) (p := 0) (t := now) (now := now + t) (.inl rfl) hok
    have hLk := look_spec g hc (L := (l0, l1, ())) (M := (m0, m1, ())) (Q := (q0, q1, ())) (p := 0) (t := now) (now := now + t) (.inl rfl) hok
    have hdt : now + t - now = t := by omega
    rw [hdt] at hP hLf hLk
    have hu := used_eq g (l0, l1, ()) (m0, m1, ()) (q0, q1, ()) 0 now (now + t)
    have sS : ∀ z w : Int, sel 0 (z, w, ()) = z := fun z w => rfl
    simp only [sS] at hP hLf hLk
    unfold mk at hP hLf hLk
    simp only [this, cond_false, ii, req_true, hb1, Option.bind_some, wn, hP, hLf]
    by_cases cn : 100000000 < now + t
    · left
      have cn' : now + t < now ∨ 100000000 < now + t := .inr cn
      have cn2 : decide (now + t > 100000000) = true := by simpa using cn
      simp only [if_pos cn', cn2, cond_true]
      rfl
    · have cn' : ¬ (now + t < now ∨ 100000000 < now + t) := by omega
      have cn2 : decide (now + t > 100000000) = false := by simpa using cn
      have hu := hu ⟨by omega, by omega⟩ (by omega)
      rw [hdt] at hu
      obtain ⟨_, u2, u3, u4, u5⟩ := hu
      have wS : w64 (s0 + ref3Spent r t) = s0 + ref3Spent r t := w64_id (by omega) (by omega)
      have gS : getD' [s0, s1] ((0 : Int)).toNat 0 = s0 := rfl
      simp only [if_neg cn', cn2, cond_false, gS, wS]
      by_cases cs : l0 < ref3Spent r t
      · left
        have : decide (s0 + ref3Spent r t > (bud r a).1) = true := by simp only [decide_eq_true_eq]; omega
        simp only [this, cond_true, hLk, if_neg cn', if_pos cs, Option.bind_some]
        rfl
      · right
        have : decide (s0 + ref3Spent r t > (bud r a).1) = false := by simp only [decide_eq_false_iff_not]; omega
        have gQ : getD' [q0, q1] ((0 : Int)).toNat 0 = q0 := rfl
        have gM : getD' [m0, m1] ((0 : Int)).toNat 0 = m0 := rfl
        have gA : getD' [(a : Int), (b : Int)] ((0 : Int)).toNat 0 = (a : Int) := rfl
        have w1 : w64 ((bud r a).1 - s0) = (bud r a).1 - s0 := w64_id (by omega) (by omega)
        have w2 : w64 ((bud r a).1 - s0 - ref3Spent r t) = (bud r a).1 - s0 - ref3Spent r t := w64_id (by omega) (by omega)
        have w3 : w64 ((a : Int) + 1) = ((a + 1 : Nat) : Int) := by rw [w64_id (by omega) (by omega)]; rfl
        have w4 : w64 (1 - 0) = 1 - 0 := rfl
        have w5 : w64 ((k : Int) + 1) = ((k + 1 : Nat) : Int) := by rw [w64_id (by omega) (by omega)]; rfl
        have hl2 : l0 - ref3Spent r t = (bud r a).1 - s0 - ref3Spent r t := by omega
        have bs2 := budget_spec g (a + 1) (by omega)
        have z0 : ((0 : Int) == 0) = true := rfl
        have z1 : ((0 : Int) == 1) = false := rfl
        simp only [this, cond_false, if_neg cs, gQ, gM, gA, w1, w2, w3, w5, imp, Bool.cond_self, req_true, z0, z1, cond_true, agree_self, Option.bind_some]
        by_cases c3 : pm r (bud r a).2.1 ≠ 0 ∧ m0 + 1 = pm r (bud r a).2.1
        · have c3' : pm r (bud r a).2.1 ≠ 0 ∧ (((bud r a).2.2 + 1 : Nat) : Int) = pm r (bud r a).2.1 := ⟨c3.1, by rw [← c3.2, e1]; rfl⟩
          have hbud : bud r (a + 1) = ((bud r a).1 + r.2.1 + pt r ((bud r a).2.1 + 1), (bud r a).2.1 + 1, 0) := by rw [bud, if_pos c3']
          refine ⟨now + t, l0 - ref3Spent r t + r.2.1 + pt r ((bud r a).2.1 + 1), 0, (((bud r a).2.1 + 1 : Nat) : Int), s0 + ref3Spent r t, ?_, ⟨by rw [hbud]; rfl, by rw [hbud], by rw [hbud]; simp only; omega, by rw [hbud] at y4; simp only at y4; have := (g.per ((bud r a).2.1 + 1) (by rw [hbud] at y1; exact y1)); rw [get_p (by rw [hbud] at y1; exact y1)] at this; simp only at this; omega, by omega⟩, by omega, by omega⟩
          have w6 : w64 ((bud r a).1 + r.2.1 + pt r ((bud r a).2.1 + 1) - (s0 + ref3Spent r t)) = (bud r a).1 + r.2.1 + pt r ((bud r a).2.1 + 1) - (s0 + ref3Spent r t) := by
            rw [hbud] at y4 y5
            simp only at y4 y5
            exact w64_id (by omega) (by omega)
          have e9 : l0 - ref3Spent r t + r.2.1 + pt r ((bud r a).2.1 + 1) = (bud r a).1 + r.2.1 + pt r ((bud r a).2.1 + 1) - (s0 + ref3Spent r t) := by omega
          have hb2 : ref3Budget r (getD' [((a + 1 : Nat) : Int), (b : Int)] ((0 : Int)).toNat 0) = some ((bud r a).1 + r.2.1 + pt r ((bud r a).2.1 + 1), (((bud r a).2.1 + 1 : Nat) : Int), ((0 : Nat) : Int), ()) := by
            have := bs2
            rw [hbud] at this
            exact this
          simp only [if_pos c3, upd, z0, z1, cond_true, cond_false, hl2, ← e2, ← e1, bne_self_eq_false, Bool.or_self, hb2, Option.bind_some, w4]
          have gg : ∀ u v : Int, getD' [u, v] ((0 : Int)).toNat 0 = u := fun u v => rfl
          simp only [gg, w6, ← e9, bne_self_eq_false, Bool.or_self, cond_false]
          have wf : w64 ((bud r a).1 - s0 - ref3Spent r t + r.2.1 + pt r ((bud r a).2.1 + 1)) = (bud r a).1 - s0 - ref3Spent r t + r.2.1 + pt r ((bud r a).2.1 + 1) := by
            rw [hbud] at y4 y5
            simp only at y4 y5
            exact w64_id (by omega) (by omega)
          simp only [hl2, wf, bne_self_eq_false, Bool.or_self, cond_false]
          rfl
        · have c3' : ¬ (pm r (bud r a).2.1 ≠ 0 ∧ (((bud r a).2.2 + 1 : Nat) : Int) = pm r (bud r a).2.1) := fun h => c3 ⟨h.1, by rw [← h.2, e1]; rfl⟩
          have hbud : bud r (a + 1) = ((bud r a).1 + r.2.1, (bud r a).2.1, (bud r a).2.2 + 1) := by rw [bud, if_neg c3']
          refine ⟨now + t, l0 - ref3Spent r t + r.2.1, m0 + 1, q0, s0 + ref3Spent r t, ?_, ⟨by rw [hbud, e1]; rfl, by rw [hbud, e2], by rw [hbud]; simp only; omega, by omega, by omega⟩, by omega, by omega⟩
          have w6 : w64 ((bud r a).1 + r.2.1 - (s0 + ref3Spent r t)) = (bud r a).1 + r.2.1 - (s0 + ref3Spent r t) := by
            rw [hbud] at y4 y5
            simp only at y4 y5
            exact w64_id (by omega) (by omega)
          have e9 : l0 - ref3Spent r t + r.2.1 = (bud r a).1 + r.2.1 - (s0 + ref3Spent r t) := by omega
          have hb2 : ref3Budget r (getD' [((a + 1 : Nat) : Int), (b : Int)] ((0 : Int)).toNat 0) = some ((bud r a).1 + r.2.1, (((bud r a).2.1 : Nat) : Int), (((bud r a).2.2 + 1 : Nat) : Int), ()) := by
            have := bs2
            rw [hbud] at this
            exact this
          simp only [if_neg c3, upd, z0, z1, cond_true, cond_false, hl2, ← e2, ← e1, bne_self_eq_false, Bool.or_self, hb2, Option.bind_some, w4]
          have gg : ∀ u v : Int, getD' [u, v] ((0 : Int)).toNat 0 = u := fun u v => rfl
          simp only [gg, w6, ← e9, bne_self_eq_false, Bool.or_self, cond_false]
          have wf : w64 ((bud r a).1 - s0 - ref3Spent r t + r.2.1) = (bud r a).1 - s0 - ref3Spent r t + r.2.1 := w64_id (by omega) (by omega)
          simp only [hl2, wf, bne_self_eq_false, Bool.or_self, cond_false]
          rfl
theorem step1 {r : Rule} (g : Good r) (hc : clockCheck r = some 0) (long : List Int) (T : List Int) (hT : (long.take ((if (60 : Int) < ((long.length : Nat) : Int) then (60 : Int) else ((long.length : Nat) : Int))).toNat).drop 0 = T) {k a b : Nat} (hk : (k : Int).tmod 2 = 1) (hkT : k < T.length) (hk60 : k ≤ 60) (ha : a ≤ 39) (hb : b ≤ 39)
    {l0 l1 m0 m1 q0 q1 s0 s1 now : Int} (h0 : Has r a l0 m0 q0 s0) (h1 : Has r b l1 m1 q1 s1) (ht : 0 ≤ now ∧ now ≤ 100000000) :
    law3ClockRuns_L1 long r (stt now k l0 l1 m0 m1 q0 q1 1 a b s0 s1) = some (.inr (.inr true)) ∨
    ∃ now' l' m' q' s', law3ClockRuns_L1 long r (stt now k l0 l1 m0 m1 q0 q1 1 a b s0 s1) = some (.inl (stt now' ((k + 1 : Nat) : Int) l0 l' m0 m' q0 q' 0 a ((b + 1 : Nat) : Int) s0 s')) ∧ Has r (b + 1) l' m' q' s' ∧ 0 ≤ now' ∧ now' ≤ 100000000 := by
  have hok := ok_of g (by omega) (by omega) h0 h1 ht
  obtain ⟨x1, x2, x3, x4, x5⟩ := bud_ok g b
  obtain ⟨y1, y2, y3, y4, y5⟩ := bud_ok g (b + 1)
  obtain ⟨e1, e2, e3, e4, e5⟩ := h1
  have hdel := g.del
  have hinc := g.inc
  have h1T : (k : Int) < (T.length : Int) := by omega
  unfold law3ClockRuns_L1 stt
  simp only [hT, h1T, decide_true, cond_true, at?_eq T (k : Int) (by omega) h1T, Option.bind_some, Int.toNat_natCast, hk]
  generalize T[k] = t
  by_cases ct : t < 0 ∨ 100000000 < t
  · left
    have : (decide (t < 0) || decide (t > 100000000)) = true := by simpa using ct
    rw [this]
    rfl
  · have : (decide (t < 0) || decide (t > 100000000)) = false := by simp only [Bool.or_eq_false_iff, decide_eq_false_iff_not]; omega
    have wn : w64 (now + t) = now + t := w64_id (by omega) (by omega)
    have ii : inb 1 2 = true := rfl
    have bs := budget_spec g b (by omega)
    have hb1 : ref3Budget r (getD' [(a : Int), (b : Int)] ((1 : Int)).toNat 0) = some ((bud r b).1, (((bud r b).2.1 : Nat) : Int), (((bud r b).2.2 : Nat) : Int), ()) := bs
    have hP := press_spec g hc (L := (l0, l1, ())) (M := (m0, m1, ())) (Q := (q0, q1, ())) (p := 1) (t := now) (now := now + t) (.inr rfl) hok (bud r b).2.1 e2 x1 (by show m1 ≤ 300; omega) (by show l1 ≤ 50000000000; omega) (by show _ → m1 < _; rw [e1]; exact x3)
    have hLf := left_spec g hc (L := (l0, l1, ())) (M := (m0, m1, ())) (Q := (q0, q1, ())) (p := 1) (t := now) (now := now + t) (.inr rfl) hok
    have hLk := look_spec g hc (L := (l0, l1, ())) (M := (m0, m1, ())) (Q := (q0, q1, ())) (p := 1) (t := now) (now := now + t) (.inr rfl) hok
    have hdt : now + t - now = t := by omega
    rw [hdt] at hP hLf hLk
    have hu := used_eq g (l0, l1, ()) (m0, m1, ()) (q0, q1, ()) 1 now (now + t)
    have sS : ∀ z w : Int, sel 1 (z, w, ()) = w := fun z w => rfl
    simp only [sS] at hP hLf hLk
    unfold mk at hP hLf hLk
    simp only [this, cond_false, ii, req_true, hb1, Option.bind_some, wn, hP, hLf]
    by_cases cn : 100000000 < now + t
    · left
      have cn' : now + t < now ∨ 100000000 < now + t := .inr cn
      have cn2 : decide (now + t > 100000000) = true := by simpa using cn
      simp only [if_pos cn', cn2, cond_true]
      rfl
    · have cn' : ¬ (now + t < now ∨ 100000000 < now + t) := by omega
      have cn2 : decide (now + t > 100000000) = false := by simpa using cn
      have hu := hu ⟨by omega, by omega⟩ (by omega)
      rw [hdt] at hu
      obtain ⟨_, u2, u3, u4, u5⟩ := hu
      have wS : w64 (s1 + ref3Spent r t) = s1 + ref3Spent r t := w64_id (by omega) (by omega)
      have gS : getD' [s0, s1] ((1 : Int)).toNat 0 = s1 := rfl
      simp only [if_neg cn', cn2, cond_false, gS, wS]
      by_cases cs : l1 < ref3Spent r t
      · left
        have : decide (s1 + ref3Spent r t > (bud r b).1) = true := by simp only [decide_eq_true_eq]; omega
        simp only [this, cond_true, hLk, if_neg cn', if_pos cs, Option.bind_some]
        rfl
      · right
        have : decide (s1 + ref3Spent r t > (bud r b).1) = false := by simp only [decide_eq_false_iff_not]; omega
        have gQ : getD' [q0, q1] ((1 : Int)).toNat 0 = q1 := rfl
        have gM : getD' [m0, m1] ((1 : Int)).toNat 0 = m1 := rfl
        have gA : getD' [(a : Int), (b : Int)] ((1 : Int)).toNat 0 = (b : Int) := rfl
        have w1 : w64 ((bud r b).1 - s1) = (bud r b).1 - s1 := w64_id (by omega) (by omega)
        have w2 : w64 ((bud r b).1 - s1 - ref3Spent r t) = (bud r b).1 - s1 - ref3Spent r t := w64_id (by omega) (by omega)
        have w3 : w64 ((b : Int) + 1) = ((b + 1 : Nat) : Int) := by rw [w64_id (by omega) (by omega)]; rfl
        have w4 : w64 (1 - 1) = 1 - 1 := rfl
        have w5 : w64 ((k : Int) + 1) = ((k + 1 : Nat) : Int) := by rw [w64_id (by omega) (by omega)]; rfl
        have hl2 : l1 - ref3Spent r t = (bud r b).1 - s1 - ref3Spent r t := by omega
        have bs2 := budget_spec g (b + 1) (by omega)
        have z0 : ((1 : Int) == 0) = false := rfl
        have z1 : ((1 : Int) == 1) = true := rfl
        simp only [this, cond_false, if_neg cs, gQ, gM, gA, w1, w2, w3, w5, imp, Bool.cond_self, req_true, z0, z1, cond_true, agree_self, Option.bind_some]
        by_cases c3 : pm r (bud r b).2.1 ≠ 0 ∧ m1 + 1 = pm r (bud r b).2.1
        · have c3' : pm r (bud r b).2.1 ≠ 0 ∧ (((bud r b).2.2 + 1 : Nat) : Int) = pm r (bud r b).2.1 := ⟨c3.1, by rw [← c3.2, e1]; rfl⟩
          have hbud : bud r (b + 1) = ((bud r b).1 + r.2.1 + pt r ((bud r b).2.1 + 1), (bud r b).2.1 + 1, 0) := by rw [bud, if_pos c3']
          refine ⟨now + t, l1 - ref3Spent r t + r.2.1 + pt r ((bud r b).2.1 + 1), 0, (((bud r b).2.1 + 1 : Nat) : Int), s1 + ref3Spent r t, ?_, ⟨by rw [hbud]; rfl, by rw [hbud], by rw [hbud]; simp only; omega, by rw [hbud] at y4; simp only at y4; have := (g.per ((bud r b).2.1 + 1) (by rw [hbud] at y1; exact y1)); rw [get_p (by rw [hbud] at y1; exact y1)] at this; simp only at this; omega, by omega⟩, by omega, by omega⟩
          have w6 : w64 ((bud r b).1 + r.2.1 + pt r ((bud r b).2.1 + 1) - (s1 + ref3Spent r t)) = (bud r b).1 + r.2.1 + pt r ((bud r b).2.1 + 1) - (s1 + ref3Spent r t) := by
            rw [hbud] at y4 y5
            simp only at y4 y5
            exact w64_id (by omega) (by omega)
          have e9 : l1 - ref3Spent r t + r.2.1 + pt r ((bud r b).2.1 + 1) = (bud r b).1 + r.2.1 + pt r ((bud r b).2.1 + 1) - (s1 + ref3Spent r t) := by omega
          have hb2 : ref3Budget r (getD' [(a : Int), ((b + 1 : Nat) : Int)] ((1 : Int)).toNat 0) = some ((bud r b).1 + r.2.1 + pt r ((bud r b).2.1 + 1), (((bud r b).2.1 + 1 : Nat) : Int), ((0 : Nat) : Int), ()) := by
            have := bs2
            rw [hbud] at this
            exact this
          simp only [if_pos c3, upd, z0, z1, cond_true, cond_false, hl2, ← e2, ← e1, bne_self_eq_false, Bool.or_self, hb2, Option.bind_some, w4]
          have gg : ∀ u v : Int, getD' [v, u] ((1 : Int)).toNat 0 = u := fun u v => rfl
          simp only [gg, w6, ← e9, bne_self_eq_false, Bool.or_self, cond_false]
          have wf : w64 ((bud r b).1 - s1 - ref3Spent r t + r.2.1 + pt r ((bud r b).2.1 + 1)) = (bud r b).1 - s1 - ref3Spent r t + r.2.1 + pt r ((bud r b).2.1 + 1) := by
            rw [hbud] at y4 y5
            simp only at y4 y5
            exact w64_id (by omega) (by omega)
          simp only [hl2, wf, bne_self_eq_false, Bool.or_self, cond_false]
          rfl
        · have c3' : ¬ (pm r (bud r b).2.1 ≠ 0 ∧ (((bud r b).2.2 + 1 : Nat) : Int) = pm r (bud r b).2.1) := fun h => c3 ⟨h.1, by rw [← h.2, e1]; rfl⟩
          have hbud : bud r (b + 1) = ((bud r b).1 + r.2.1, (bud r b).2.1, (bud r b).2.2 + 1) := by rw [bud, if_neg c3']
          refine ⟨now + t, l1 - ref3Spent r t + r.2.1, m1 + 1, q1, s1 + ref3Spent r t, ?_, ⟨by rw [hbud, e1]; rfl, by rw [hbud, e2], by rw [hbud]; simp only; omega, by omega, by omega⟩, by omega, by omega⟩
          have w6 : w64 ((bud r b).1 + r.2.1 - (s1 + ref3Spent r t)) = (bud r b).1 + r.2.1 - (s1 + ref3Spent r t) := by
            rw [hbud] at y4 y5
            simp only at y4 y5
            exact w64_id (by omega) (by omega)
          have e9 : l1 - ref3Spent r t + r.2.1 = (bud r b).1 + r.2.1 - (s1 + ref3Spent r t) := by omega
          have hb2 : ref3Budget r (getD' [(a : Int), ((b + 1 : Nat) : Int)] ((1 : Int)).toNat 0) = some ((bud r b).1 + r.2.1, (((bud r b).2.1 : Nat) : Int), (((bud r b).2.2 + 1 : Nat) : Int), ()) := by
            have := bs2
            rw [hbud] at this
            exact this
          simp only [if_neg c3, upd, z0, z1, cond_true, cond_false, hl2, ← e2, ← e1, bne_self_eq_false, Bool.or_self, hb2, Option.bind_some, w4]
          have gg : ∀ u v : Int, getD' [v, u] ((1 : Int)).toNat 0 = u := fun u v => rfl
          simp only [gg, w6, ← e9, bne_self_eq_false, Bool.or_self, cond_false]
          have wf : w64 ((bud r b).1 - s1 - ref3Spent r t + r.2.1) = (bud r b).1 - s1 - ref3Spent r t + r.2.1 := w64_id (by omega) (by omega)
          simp only [hl2, wf, bne_self_eq_false, Bool.or_self, cond_false]
          rfl
theorem loop_spec {r : Rule} (g : Good r) (hc : clockCheck r = some 0) (long : List Int) (T : List Int) (hT : (long.take ((if (60 : Int) < ((long.length : Nat) : Int) then (60 : Int) else ((long.length : Nat) : Int))).toNat).drop 0 = T) (hT60 : T.length ≤ 60) : ∀ (d k : Nat) {l0 l1 m0 m1 q0 q1 s0 s1 now : Int}, k + d = T.length →
    Has r ((k + 1) / 2) l0 m0 q0 s0 → Has r (k / 2) l1 m1 q1 s1 → 0 ≤ now ∧ now ≤ 100000000 →
    iterW (law3ClockRuns_L1 long r) (stt now k l0 l1 m0 m1 q0 q1 ((k % 2 : Nat) : Int) (((k + 1) / 2 : Nat) : Int) ((k / 2 : Nat) : Int) s0 s1) = some (.inr true) ∨
    ∃ now' L M Q S A, ∃ p : Int, (p = 0 ∨ p = 1) ∧ okC r.1.length L M Q now' ∧ (sel p L ≤ 50000000000) ∧ iterW (law3ClockRuns_L1 long r) (stt now k l0 l1 m0 m1 q0 q1 ((k % 2 : Nat) : Int) (((k + 1) / 2 : Nat) : Int) ((k / 2 : Nat) : Int) s0 s1) = some (.inl ((), ((L.1, L.2.1, M.1, M.2.1, Q.1, Q.2.1, p, now', false, -1, ()), A, S, ()))) := by
  intro d
  induction d with
  | zero =>
    intro k l0 l1 m0 m1 q0 q1 s0 s1 now hk h0 h1 ht
    right
    refine ⟨now, (l0, l1, ()), (m0, m1, ()), (q0, q1, ()), (s0, s1, ()), ((((k + 1) / 2 : Nat) : Int), ((k / 2 : Nat) : Int), ()), ((k % 2 : Nat) : Int), by omega, ok_of g (by omega) (by omega) h0 h1 ht, ?_, iterW_inr ?_⟩
    · obtain ⟨_, _, _, _, x5⟩ := bud_ok g ((k + 1) / 2)
      obtain ⟨_, _, _, _, y5⟩ := bud_ok g (k / 2)
      obtain ⟨_, _, e3, _, e5⟩ := h0
      obtain ⟨_, _, f3, _, f5⟩ := h1
      rcases (show k % 2 = 0 ∨ k % 2 = 1 by omega) with e | e
      · rw [e]; show l0 ≤ _; omega
      · rw [e]; show l1 ≤ _; omega
    · unfold law3ClockRuns_L1 stt
      have : ¬ (k : Int) < (T.length : Int) := by omega
      simp only [hT, this, decide_false, cond_false]
  | succ d ih =>
    intro k l0 l1 m0 m1 q0 q1 s0 s1 now hk h0 h1 ht
    have htm : (k : Int).tmod 2 = ((k % 2 : Nat) : Int) := by
      rw [Int.tmod_eq_emod_of_nonneg (by omega)]
      omega
    rcases (show k % 2 = 0 ∨ k % 2 = 1 by omega) with e | e
    · have e1 : (((k + 1) % 2 : Nat) : Int) = 1 := by omega
      have ez : ((k % 2 : Nat) : Int) = 0 := by omega
      have e2 : (k + 1 + 1) / 2 = (k + 1) / 2 + 1 := by omega
      have e3 : (k + 1) / 2 = k / 2 := by omega
      rcases step0 g hc long T hT (k := k) (a := (k + 1) / 2) (b := k / 2) (by rw [htm, e]; rfl) (by omega) (by omega) (by omega) (by omega) h0 h1 ht with hs | ⟨now', l', m', q', s', hs, hh, ht'⟩
      · left
        rw [ez]
        exact iterW_inr hs
      · rw [ez, iterW_inl hs]
        have := ih (k + 1) (l0 := l') (l1 := l1) (m0 := m') (m1 := m1) (q0 := q') (q1 := q1) (s0 := s') (s1 := s1) (now := now') (by omega) (by rw [e2]; exact hh) (by rw [e3]; exact h1) ht'
        rw [e1, e2, e3] at this
        rw [e3]
        exact this
    · have e1 : (((k + 1) % 2 : Nat) : Int) = 0 := by omega
      have ez : ((k % 2 : Nat) : Int) = 1 := by omega
      have e2 : (k + 1 + 1) / 2 = (k + 1) / 2 := by omega
      have e3 : (k + 1) / 2 = k / 2 + 1 := by omega
      rcases step1 g hc long T hT (k := k) (a := (k + 1) / 2) (b := k / 2) (by rw [htm, e]; rfl) (by omega) (by omega) (by omega) (by omega) h0 h1 ht with hs | ⟨now', l', m', q', s', hs, hh, ht'⟩
      · left
        rw [ez]
        exact iterW_inr hs
      · rw [ez, iterW_inl hs]
        have := ih (k + 1) (l0 := l0) (l1 := l') (m0 := m0) (m1 := m') (q0 := q0) (q1 := q') (s0 := s0) (s1 := s') (now := now') (by omega) (by rw [e2]; exact h0) (by rw [e3]; exact hh) ht'
        rw [e1, e2] at this
        rw [show k / 2 + 1 = (k + 1) / 2 by omega]
        exact this
theorem fell_spec {r : Rule} (g : Good r) (hc : clockCheck r = some 0) {L M Q : Int × Int × Unit} {p t : Int} (hp : p = 0 ∨ p = 1) (h : okC r.1.length L M Q t) (hL : sel p L ≤ 50000000000) (late : Int) : law3Fell r (mk L M Q p t) late = some true := by
  have hv := valid_ok g hc hp h
  have hdel := g.del
  obtain ⟨b1, b2, b3⟩ := h.2 p hp
  have ht := h.1
  have ii : inb p 2 = true := by rcases hp with rfl | rfl <;> rfl
  have gL : getD' [(mk L M Q p t).1.1, (mk L M Q p t).1.2.1] p.toNat 0 = sel p L := rfl
  have m1 : (mk L M Q p t).2.2.2.1 = p := rfl
  have m2 : (mk L M Q p t).2.2.2.2.1 = t := rfl
  have m3 : (mk L M Q p t).2.2.2.2.2.1 = false := rfl
  have m4 : (mk L M Q p t).2.2.2.2.2.2.1 = -1 := rfl
  have w1 : w64 (t + r.2.2.1) = t + r.2.2.1 := w64_id (by omega) (by omega)
  have w2 : w64 (t + r.2.2.1 + sel p L) = t + r.2.2.1 + sel p L := w64_id (by omega) (by omega)
  have w3 : w64 (t + r.2.2.1 + sel p L + 1) = t + r.2.2.1 + sel p L + 1 := w64_id (by omega) (by omega)
  have w4 : w64 (t + r.2.2.1 + sel p L + 1 - 1) = t + r.2.2.1 + sel p L := by rw [w64_id (by omega) (by omega)]; omega
  unfold law3Fell clockFall
  rw [hv]
  simp only [Option.bind_some, bne_self_eq_false, cond_false, gL, m1, m2, m3, m4, ii, req_true, w1, w2, w3]
  by_cases c : 100000000 < t + r.2.2.1 + sel p L + 1
  · have : decide (t + r.2.2.1 + sel p L + 1 > 100000000) = true := by simpa using c
    simp [this]
  · have : decide (t + r.2.2.1 + sel p L + 1 > 100000000) = false := by simpa using c
    simp only [this, cond_false, w4]
    have hk1 := look_spec g hc (now := t + r.2.2.1 + sel p L + 1) hp h
    rw [if_neg (by omega)] at hk1
    obtain ⟨_, _, _, _, u5⟩ := used_eq g L M Q p t (t + r.2.2.1 + sel p L + 1) (by omega) (by omega)
    have u5 := u5 (by omega)
    rw [if_pos (by omega)] at hk1
    generalize hτ : (if (if t + r.2.2.1 + sel p L < late then t + r.2.2.1 + sel p L else late) > t then (if t + r.2.2.1 + sel p L < late then t + r.2.2.1 + sel p L else late) else t) = τ
    have hτ1 : t ≤ τ ∧ τ ≤ t + r.2.2.1 + sel p L := by
      rw [← hτ]
      split
      · split <;> omega
      · omega
    have hk2 := look_spec g hc (now := τ) hp h
    obtain ⟨_, _, _, v4, v5⟩ := used_eq g L M Q p t τ (by omega) (by omega)
    rw [if_neg (by omega)] at hk2
    have hns : ¬ sel p L < ref3Spent r (τ - t) := by
      by_cases cc : τ - t ≤ r.2.2.1
      · rw [v4 cc]; omega
      · rw [v5 (by omega)]; omega
    rw [if_neg hns] at hk2
    rw [hk1, hk2]
    simp [mk]
theorem law3ClockRuns_true (r : Rule) (begin : Int) (long : List Int) (late : Int) (hr : Rng (.st (.sl (.st (.int .i64) (.st (.int .i64) .nil))) (.st (.int .i64) (.st (.int .i64) .nil))) r)
    (hb : Rng (.int .i64) begin) (hl : Rng (.sl (.int .i64)) long) (hlate : Rng (.int .i64) late) : law3ClockRuns r begin long late = some true := by
  unfold law3ClockRuns
  rw [ticks]
  have hb1 : boundsI 0 (if (60 : Int) < ((long.length : Nat) : Int) then (60 : Int) else ((long.length : Nat) : Int)) long.length = true := by
    unfold boundsI
    simp only [Bool.and_eq_true, decide_eq_true_eq]
    split <;> omega
  obtain ⟨n, hc, hru, hn⟩ := check_spec r
  simp only [Option.bind_some, Bool.not_true, cond_false, hb1, req_true, hru, hc, bne_self_eq_false]
  by_cases c0 : n = 0
  · subst c0
    have g := good_of hc
    have l1 := g.l1
    have hat : at? r.1 0 = some (pm r 0, pt r 0, ()) := at_p (p := 0) (by omega)
    have hp0 := g.per 0 (by omega)
    rw [get_p (by omega)] at hp0
    simp only at hp0
    unfold clockStart
    rw [hc]
    by_cases cb : begin < 0 ∨ 100000000 < begin
    · have e1 : (decide (begin < 0) || decide (begin > 100000000)) = true := by simpa using cb
      have e2 : clockWithin begin 0 100000000 = false := by
        unfold clockWithin
        simp only [Bool.and_eq_false_iff, decide_eq_false_iff_not]
        omega
      simp [e1, e2]
    · have e1 : (decide (begin < 0) || decide (begin > 100000000)) = false := by simp only [Bool.or_eq_false_iff, decide_eq_false_iff_not]; omega
      have e2 : clockWithin begin 0 100000000 = true := by
        unfold clockWithin
        simp only [Bool.and_eq_true, decide_eq_true_eq]
        omega
      simp only [Option.bind_some, bne_self_eq_false, cond_false, e2, Bool.not_true, hat, beq_self_eq_true, e1, Bool.true_and]
      have hT60 : ((long.take ((if (60 : Int) < ((long.length : Nat) : Int) then (60 : Int) else ((long.length : Nat) : Int))).toNat).drop 0).length ≤ 60 := by
        simp only [List.drop_zero, List.length_take]
        split <;> omega
      have h00 : Has r 0 (pt r 0) 0 0 0 := ⟨rfl, rfl, by simp [bud], by omega, by omega⟩
      have hloop := loop_spec g hc long _ rfl hT60 _ 0 (l0 := pt r 0) (l1 := pt r 0) (m0 := 0) (m1 := 0) (q0 := 0) (q1 := 0) (s0 := 0) (s1 := 0) (now := begin) (Nat.zero_add _) h00 h00 (by omega)
      simp only [stt, Nat.zero_mod, Int.natCast_zero, Nat.zero_div, Nat.zero_add, show (0 + 1) / 2 = 0 from rfl, show (1 : Nat) / 2 = 0 from rfl] at hloop
      rcases hloop with hq | ⟨now', L, M, Q, S, A, p, hp, hok, hL, hq⟩
      · rw [hq]
        rfl
      · rw [hq]
        have hf := fell_spec g hc hp hok hL late
        unfold mk at hf
        simp only [Option.bind_some, Sum.elim_inl]
        show Option.bind (law3Fell r (L, M, Q, p, now', false, -1, ()) late) _ = _
        rw [hf]
        rfl
  · unfold clockStart
    rw [hc]
    simp [beq_f c0, bne_t c0]
end Go.Proofs.Ytcdpkebphgeipaa
