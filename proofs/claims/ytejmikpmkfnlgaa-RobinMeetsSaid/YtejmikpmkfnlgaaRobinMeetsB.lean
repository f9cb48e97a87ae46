/- The law RobinMeets, in plain Lean: the reference's answer. No condition of its own. -/
import Derived.Test.YtejmikpmkfnlgaaRobinMeetsA
namespace Go.Proofs.Ytejmikpmkfnlgaa
open Go.Den
set_option linter.unusedVariables false
set_option linter.unusedSimpArgs false
set_option maxRecDepth 100000

/-- the reference's search at one round -/
theorem round_inner {h a b r : Int} (H : Odd31 h) (ha : 0 ≤ a ∧ a < h) (hb : 0 ≤ b ∧ b < h) (hne : a ≠ b) (hr : 0 ≤ r ∧ r < h) :
    ∃ q, iterW (ref3Round_L2 (h + 1) ((r, ()), ()) a b) ((1, ()), ()) = some q ∧ (q = .inr (.inr (.inr (.inr ((meet h a b).1, (meet h a b).2, ())))) ∧ (meet h a b).1 = r ∨ (q = .inl ((), ()) ∧ r ≠ (meet h a b).1)) := by
  obtain ⟨k, hk, e, e1, e2⟩ := H.half
  obtain ⟨p1, p2, p3⟩ := placed H ha hb hne
  have hm2 : w64 ((h + 1).tdiv 2) = k + 1 := by rw [e2]; exact w64_id (by omega) (by omega)
  have hm0 : w64 h = h := w64_id (by omega) (by omega)
  have hm1 : w64 (h + 1 - 1) = h := by rw [show h + 1 - 1 = h by omega]; exact hm0
  have hne0 : (h != 0) = true := bne_t (by omega)
  have hstep : ∀ i : Int, 1 ≤ i → i < (k : Int) + 1 → ref3Round_L2 (h + 1) ((r, ()), ()) a b ((i, ()), ()) =
      (bif px h r i == a && py h r i == b then some (.inr (.inr (.inr (.inr (.inr (r, i.tmod 2 == 0, ())))))) else
       bif px h r i == b && py h r i == a then some (.inr (.inr (.inr (.inr (.inr (r, i.tmod 2 == 1, ())))))) else some (.inl ((i + 1, ()), ()))) := by
    intro i h1 h2
    unfold ref3Round_L2 px py
    simp only [hm2, hm1, hne0, req_true, h2, decide_true, cond_true, w64_id (n := r + i) (by omega) (by omega), w64_id (n := r + (h + 1)) (by omega) (by omega), w64_id (n := r + (h + 1) - 1) (by omega) (by omega), w64_id (n := r + (h + 1) - 1 - i) (by omega) (by omega), w64_id (n := i + 1) (by omega) (by omega), show r + (h + 1) - 1 - i = r + h - i by omega, w64_id (n := r + h - i) (by omega) (by omega)]
  have key : ∀ (j : Nat) (i : Int), 1 ≤ i → i ≤ (k : Int) + 1 → ((k : Int) + 1 - i).toNat = j → (r = (meet h a b).1 → i ≤ place h a b) →
      ∃ q, iterW (ref3Round_L2 (h + 1) ((r, ()), ()) a b) ((i, ()), ()) = some q ∧ (q = .inr (.inr (.inr (.inr ((meet h a b).1, (meet h a b).2, ())))) ∧ (meet h a b).1 = r ∨ (q = .inl ((), ()) ∧ r ≠ (meet h a b).1)) := by
    intro j
    induction j with
    | zero =>
      intro i h1 h2 hj hp
      refine ⟨.inl ((), ()), iterW_inr ?_, .inr ⟨rfl, fun hh => ?_⟩⟩
      · unfold ref3Round_L2
        have : ¬ i < (k : Int) + 1 := by omega
        simp [hm2, this]
      · have := hp hh
        omega
    | succ j ih =>
      intro i h1 h2 hj hp
      have hs := hstep i h1 (by omega)
      obtain ⟨m1, m2, m3, m4, m5⟩ := meets H hr (i := i) ⟨h1, by omega⟩
      by_cases c1 : px h r i = a ∧ py h r i = b
      · rw [c1.1, c1.2] at m1
        rw [beq_t c1.1, beq_t c1.2] at hs
        refine ⟨_, iterW_inr hs, .inl ?_⟩
        rw [m1]
        exact ⟨rfl, rfl⟩
      · have b1 : (px h r i == a && py h r i == b) = false := by
          rw [Bool.and_eq_false_iff]
          by_cases c : px h r i = a
          · exact .inr (beq_f fun d => c1 ⟨c, d⟩)
          · exact .inl (beq_f c)
        rw [b1] at hs
        by_cases c2 : px h r i = b ∧ py h r i = a
        · rw [c2.1, c2.2] at m2
          rw [beq_t c2.1, beq_t c2.2] at hs
          refine ⟨_, iterW_inr hs, .inl ?_⟩
          rw [m2]
          exact ⟨rfl, rfl⟩
        · have b2 : (px h r i == b && py h r i == a) = false := by
            rw [Bool.and_eq_false_iff]
            by_cases c : px h r i = b
            · exact .inr (beq_f fun d => c2 ⟨c, d⟩)
            · exact .inl (beq_f c)
          rw [b2] at hs
          simp only [cond_false] at hs
          rw [iterW_inl hs]
          refine ih (i + 1) (by omega) (by omega) (by omega) fun hh => ?_
          have := hp hh
          have hn : i ≠ place h a b := fun ei => by
            rw [hh, ei] at c1 c2
            exact p3.elim c1 c2
          omega
  exact key _ 1 (by omega) (by omega) rfl (fun _ => p2.1)
theorem round_low {h a b : Int} (H : Odd31 h) (ha : 0 ≤ a ∧ a < h) (hb : 0 ≤ b ∧ b < h) (hne : a ≠ b) : iterW (ref3Round_L1 (h + 1) b a) ((0, ()), ()) = some (.inr ((meet h a b).1, (meet h a b).2, ())) := by
  obtain ⟨k, hk, e, e1, e2⟩ := H.half
  obtain ⟨p1, p2, p3⟩ := placed H ha hb hne
  have hm0 : w64 h = h := w64_id (by omega) (by omega)
  have hm1 : w64 (h + 1 - 1) = h := by rw [show h + 1 - 1 = h by omega]; exact hm0
  have key : ∀ (j : Nat) (r : Int), 0 ≤ r → r ≤ (meet h a b).1 → ((meet h a b).1 - r).toNat = j → iterW (ref3Round_L1 (h + 1) b a) ((r, ()), ()) = some (.inr ((meet h a b).1, (meet h a b).2, ())) := by
    intro j
    induction j with
    | zero =>
      intro r h1 h2 hj
      obtain ⟨q, hq, h3 | h3⟩ := round_inner H ha hb hne (r := r) ⟨h1, by omega⟩
      · refine iterW_inr ?_
        unfold ref3Round_L1
        have : r < h := by omega
        simp [hm0, hm1, this, beq_f (show ¬ b = h by omega), hq, h3.1]
      · exact absurd (by omega) h3.2
    | succ j ih =>
      intro r h1 h2 hj
      obtain ⟨q, hq, h3 | h3⟩ := round_inner H ha hb hne (r := r) ⟨h1, by omega⟩
      · omega
      · rw [iterW_inl (y := ((r + 1, ()), ())) ?_]
        · exact ih (r + 1) (by omega) (by omega) (by omega)
        · unfold ref3Round_L1
          have : r < h := by omega
          simp [hm0, hm1, this, beq_f (show ¬ b = h by omega), hq, h3.1, w64_id (n := r + 1) (by omega) (by omega)]
  exact key _ 0 (by omega) (by omega) rfl
theorem round_high {h a : Int} (H : Odd31 h) (ha : 0 ≤ a ∧ a < h) : iterW (ref3Round_L1 (h + 1) h a) ((0, ()), ()) = some (.inr (a, a.tmod 2 == 0, ())) := by
  obtain ⟨k, hk, e, e1, e2⟩ := H.half
  have hm0 : w64 h = h := w64_id (by omega) (by omega)
  have hm1 : w64 (h + 1 - 1) = h := by rw [show h + 1 - 1 = h by omega]; exact hm0
  have := iterW_states (f := ref3Round_L1 (h + 1) h a) a.toNat (fun i => (((i : Int), ()), ())) (.inr (a, a.tmod 2 == 0, ())) (fun i hi => by
    unfold ref3Round_L1
    have : (i : Int) < h := by omega
    simp [hm0, hm1, this, beq_f (show ¬ (i : Int) = a by omega), w64_id (n := (i : Int) + 1) (by omega) (by omega)]) (by
    unfold ref3Round_L1
    have : ((a.toNat : Nat) : Int) = a := by omega
    simp [hm0, hm1, this, ha.2])
  exact this
/-- what the reference says of two players -/
def meetAll (h a b : Int) : Int × Bool := if a = h then (b, !(b.tmod 2 == 0)) else if b = h then (a, a.tmod 2 == 0) else meet h a b
theorem round_spec {h a b : Int} (H : Odd31 h) (ha : 0 ≤ a ∧ a ≤ h) (hb : 0 ≤ b ∧ b ≤ h) (hne : a ≠ b) : ref3Round (h + 1) a b = some ((meetAll h a b).1, (meetAll h a b).2, ()) := by
  obtain ⟨k, hk, e, e1, e2⟩ := H.half
  have hm0 : w64 h = h := w64_id (by omega) (by omega)
  have hm1 : w64 (h + 1 - 1) = h := by rw [show h + 1 - 1 = h by omega]; exact hm0
  have body : ∀ φ (a b : Int), (0 ≤ a ∧ a < h) → (0 ≤ b ∧ b ≤ h) → a ≠ b → ref3Round_G φ (h + 1, a, b, ()) = some ((meetAll h a b).1, (meetAll h a b).2, ()) := by
    intro φ a b ha hb hne
    unfold ref3Round_G ref3Round_F meetAll
    have na : ¬ a = h := by omega
    simp only [hm1, beq_f na, cond_false, if_neg na]
    by_cases c : b = h
    · subst c
      rw [round_high H ha, if_pos rfl]
      rfl
    · rw [round_low H ha ⟨hb.1, by omega⟩ hne, if_neg c]
      rfl
  have flip : ∀ φ (b : Int), (0 ≤ b ∧ b < h) → ref3Round_G φ (h + 1, h, b, ()) = (φ (h + 1, b, h, ())).bind fun r2 => some (r2.1, !r2.2.1, ()) := by
    intro φ b hb
    unfold ref3Round_G ref3Round_F
    simp only [hm1, beq_self_eq_true, cond_true]
  have fl : ∀ b : Int, (0 ≤ b ∧ b < h) → meetAll h h b = ((meetAll h b h).1, !(meetAll h b h).2) := by
    intro b hb
    unfold meetAll
    rw [if_pos rfl, if_neg (show ¬ b = h by omega), if_pos rfl]
  refine fixW_fun (G := ref3Round_G) (fun x => x.1 = h + 1 ∧ (0 ≤ x.2.1 ∧ x.2.1 ≤ h) ∧ (0 ≤ x.2.2.1 ∧ x.2.2.1 ≤ h) ∧ x.2.1 ≠ x.2.2.1) (fun x => if x.2.1 = h then 1 else 0) (fun x => ((meetAll h x.2.1 x.2.2.1).1, (meetAll h x.2.1 x.2.2.1).2, ())) ?_ ?_ (h + 1, a, b, ()) ⟨rfl, ha, hb, hne⟩
  · rintro φ ⟨_, a, b, _⟩ ⟨rfl, ha, hb, hne⟩ hφ
    simp only at ha hb hne
    by_cases c : a = h
    · rw [c] at hne ⊢
      have hb' : 0 ≤ b ∧ b < h := by omega
      rw [flip φ b hb']
      rcases hφ (h + 1, b, h, ()) ⟨rfl, hb, by simp only; omega, by simp only; omega⟩ with h1 | h1
      · rw [h1]; exact .inl rfl
      · rw [h1]; exact .inr (by simp only [Option.bind_some, fl b hb'])
    · exact .inr (body φ a b ⟨ha.1, by omega⟩ hb hne)
  · rintro φ ⟨_, a, b, _⟩ ⟨rfl, ha, hb, hne⟩ hφ
    simp only at ha hb hne
    by_cases c : a = h
    · rw [c] at hne hφ ⊢
      have hb' : 0 ≤ b ∧ b < h := by omega
      have h1 := hφ (h + 1, b, h, ()) ⟨rfl, hb, by simp only; omega, by simp only; omega⟩ (by simp only [if_neg (show ¬ b = h by omega), if_true]; omega)
      rw [flip φ b hb', h1]
      simp only [Option.bind_some, fl b hb']
    · exact body φ a b ⟨ha.1, by omega⟩ hb hne
end Go.Proofs.Ytejmikpmkfnlgaa
