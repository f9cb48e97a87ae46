/- Where the symmetries of a board move its squares: all boards. No condition of its own. -/
import Derived.Test.YtpajmeljfpolcaaSymmMapsA
namespace Go.Proofs.Ytpajmeljfpolcaa
open Go.Den
set_option linter.unusedVariables false
set_option linter.unusedSimpArgs false
set_option maxRecDepth 100000

theorem himpM (b : Bool) : imp b true = true := by cases b <;> rfl
/-! ### where squares go -/
def invS (s : Nat) : Nat := if s = 5 then 6 else if s = 6 then 5 else s
def gotN (x : Option Int) (n : Int) : Bool := match x with
  | some m => m == n
  | none => false
noncomputable def mvOk (w h s q : Nat) : Bool := match symmTo w h s q, ref1Moved w h s q with
  | some a, some b => (a == b && (decide (0 ≤ a) && decide (a < (w : Int) * h))) && gotN (ref1Moved w h (invS s : Nat) b) q
  | _, _ => false
theorem mv_all : ((List.range 9).all fun w => w == 0 || (List.range 9).all fun h => h == 0 || (List.range (bif w == h then 8 else 4)).all fun s => (List.range (w * h)).all fun q => mvOk w h s q) = true := by decide +kernel
def okB (w h : Int) : Prop := (1 ≤ w ∧ w ≤ 8) ∧ 1 ≤ h ∧ h ≤ 8
instance (w h : Int) : Decidable (okB w h) := by unfold okB; infer_instance
def manyI (w h : Int) : Int := if w = h then 8 else 4
noncomputable def mvTo (w h s q : Int) : Int := (ref1Moved w h s q).getD 0
theorem mv_spec {w h s q : Int} (hb : okB w h) (hs : 0 ≤ s ∧ s < manyI w h) (hq : 0 ≤ q ∧ q < w * h) : symmTo w h s q = some (mvTo w h s q) ∧ ref1Moved w h s q = some (mvTo w h s q) ∧ (0 ≤ mvTo w h s q ∧ mvTo w h s q < w * h) ∧ mvTo w h (invS s.toNat : Nat) (mvTo w h s q) = q := by
  obtain ⟨hw, hh⟩ := hb
  have := mv_all
  simp only [List.all_eq_true, List.mem_range, Bool.or_eq_true] at this
  have h1 := (this w.toNat (by omega)).resolve_left (by simp; omega)
  have h2 := (h1 h.toNat (by omega)).resolve_left (by simp; omega)
  have e1 : ((w.toNat : Nat) : Int) = w := by omega
  have e2 : ((h.toNat : Nat) : Int) = h := by omega
  have e3 : ((s.toNat : Nat) : Int) = s := by omega
  have e4 : ((q.toNat : Nat) : Int) = q := by omega
  have e5 : ((w.toNat * h.toNat : Nat) : Int) = w * h := by rw [Int.natCast_mul, e1, e2]
  unfold manyI at hs
  have h3 := h2 s.toNat (by
    by_cases e : w = h
    · subst e; simp at hs ⊢; omega
    · have : (w.toNat == h.toNat) = false := by
        have : ¬ w.toNat = h.toNat := by omega
        simpa using this
      rw [this, cond_false]
      rw [if_neg e] at hs
      omega) q.toNat (by omega)
  unfold mvOk at h3
  rw [e1, e2, e3, e4] at h3
  unfold mvTo
  match ha : symmTo w h s q, hb : ref1Moved w h s q with
  | some a, some b =>
    rw [ha, hb] at h3
    simp only [Bool.and_eq_true, beq_iff_eq, decide_eq_true_eq] at h3
    obtain ⟨⟨h4, h5, h6⟩, h7⟩ := h3
    subst h4
    refine ⟨rfl, rfl, ⟨h5, h6⟩, ?_⟩
    simp only [Option.getD_some]
    unfold gotN at h7
    split at h7
    · rename_i m hm
      rw [hm]
      simpa using h7
    · cases h7
  | some a, none => rw [ha, hb] at h3; cases h3
  | none, _ => rw [ha] at h3; cases h3
theorem mv_inj {w h s q q' : Int} (hb : okB w h) (hs : 0 ≤ s ∧ s < manyI w h) (hq : 0 ≤ q ∧ q < w * h) (hq' : 0 ≤ q' ∧ q' < w * h) (e : mvTo w h s q = mvTo w h s q') : q = q' := by
  have h1 := (mv_spec hb hs hq).2.2.2
  have h2 := (mv_spec hb hs hq').2.2.2
  rw [← h1, ← h2, e]
end Go.Proofs.Ytpajmeljfpolcaa
