/- The law RobinMeets, in plain Lean. No condition of its own. -/
import Derived.Test.YtejmikpmkfnlgaaDenP
import Derived.Test.YtejmikpmkfnlgaaDenF
import Derived.Test.YtejmikpmkfnlgaaRobinMeetsS
namespace Go.Proofs.Ytejmikpmkfnlgaa
open Go.Den
set_option linter.unusedVariables false
set_option linter.unusedSimpArgs false
set_option maxRecDepth 100000

/-- the two that meet at place i of round r, out of h + 1 players -/
def px (h r i : Int) : Int := (r + i).tmod h
def py (h r i : Int) : Int := (r + h - i).tmod h
/-- when two players meet, and whether the first of them is named first -/
def meet (h a b : Int) : Int × Bool :=
  let r := ((a + b) * ((h + 1).tdiv 2)).tmod h
  let i := (a - r + h).tmod h
  if 1 ≤ i ∧ i ≤ (h - 1).tdiv 2 then (r, i.tmod 2 == 0) else (r, (h - i).tmod 2 == 1)
def place (h a b : Int) : Int :=
  let r := ((a + b) * ((h + 1).tdiv 2)).tmod h
  let i := (a - r + h).tmod h
  if 1 ≤ i ∧ i ≤ (h - 1).tdiv 2 then i else h - i
def ok1 (h r i : Int) : Bool := meet h (px h r i) (py h r i) == (r, i.tmod 2 == 0) && (meet h (py h r i) (px h r i) == (r, i.tmod 2 == 1) && (decide (0 ≤ px h r i) && (decide (px h r i < h) && (decide (0 ≤ py h r i) && (decide (py h r i < h) && !(px h r i == py h r i))))))
def ok2 (h a b : Int) : Bool := a == b || (decide (0 ≤ (meet h a b).1) && (decide ((meet h a b).1 < h) && (decide (1 ≤ place h a b) && (decide (place h a b ≤ (h - 1).tdiv 2) &&
  ((px h (meet h a b).1 (place h a b) == a && py h (meet h a b).1 (place h a b) == b) || (px h (meet h a b).1 (place h a b) == b && py h (meet h a b).1 (place h a b) == a))))))
theorem all1 : ((List.range 16).all fun k => (List.range (2 * k + 1)).all fun r => (List.range k).all fun i => ok1 (2 * k + 1 : Nat) r (i + 1 : Nat)) = true := by decide +kernel
theorem all2 : ((List.range 16).all fun k => (List.range (2 * k + 1)).all fun a => (List.range (2 * k + 1)).all fun b => ok2 (2 * k + 1 : Nat) a b) = true := by decide +kernel
/-- an odd number of rounds -/
def Odd31 (h : Int) : Prop := ∃ k : Nat, k < 16 ∧ h = 2 * k + 1
theorem Odd31.half {h : Int} (H : Odd31 h) : ∃ k : Nat, k < 16 ∧ h = 2 * k + 1 ∧ (h - 1).tdiv 2 = k ∧ (h + 1).tdiv 2 = k + 1 := by
  obtain ⟨k, hk, rfl⟩ := H
  refine ⟨k, hk, rfl, ?_, ?_⟩
  · rw [Int.tdiv_eq_ediv_of_nonneg (by omega)]; omega
  · rw [Int.tdiv_eq_ediv_of_nonneg (by omega)]; omega
theorem meets {h r i : Int} (H : Odd31 h) (hr : 0 ≤ r ∧ r < h) (hi : 1 ≤ i ∧ i ≤ (h - 1).tdiv 2) :
    meet h (px h r i) (py h r i) = (r, i.tmod 2 == 0) ∧ meet h (py h r i) (px h r i) = (r, i.tmod 2 == 1) ∧ (0 ≤ px h r i ∧ px h r i < h) ∧ (0 ≤ py h r i ∧ py h r i < h) ∧ px h r i ≠ py h r i := by
  obtain ⟨k, hk, e, e1, _⟩ := H.half
  have := all1
  simp only [List.all_eq_true, List.mem_range] at this
  have := this k hk r.toNat (by omega) (i.toNat - 1) (by omega)
  rw [show ((2 * k + 1 : Nat) : Int) = h by omega, show ((r.toNat : Nat) : Int) = r by omega, show ((i.toNat - 1 + 1 : Nat) : Int) = i by omega] at this
  unfold ok1 at this
  simp only [Bool.and_eq_true, beq_iff_eq, decide_eq_true_eq, Bool.not_eq_true', beq_eq_false_iff_ne] at this
  exact ⟨this.1, this.2.1, ⟨this.2.2.1, this.2.2.2.1⟩, ⟨this.2.2.2.2.1, this.2.2.2.2.2.1⟩, this.2.2.2.2.2.2⟩
theorem placed {h a b : Int} (H : Odd31 h) (ha : 0 ≤ a ∧ a < h) (hb : 0 ≤ b ∧ b < h) (hne : a ≠ b) :
    (0 ≤ (meet h a b).1 ∧ (meet h a b).1 < h) ∧ (1 ≤ place h a b ∧ place h a b ≤ (h - 1).tdiv 2) ∧ ((px h (meet h a b).1 (place h a b) = a ∧ py h (meet h a b).1 (place h a b) = b) ∨ (px h (meet h a b).1 (place h a b) = b ∧ py h (meet h a b).1 (place h a b) = a)) := by
  obtain ⟨k, hk, e, e1, _⟩ := H.half
  have := all2
  simp only [List.all_eq_true, List.mem_range] at this
  have := this k hk a.toNat (by omega) b.toNat (by omega)
  rw [show ((2 * k + 1 : Nat) : Int) = h by omega, show ((a.toNat : Nat) : Int) = a by omega, show ((b.toNat : Nat) : Int) = b by omega] at this
  unfold ok2 at this
  simp only [Bool.or_eq_true, Bool.and_eq_true, beq_iff_eq, decide_eq_true_eq] at this
  have := this.resolve_left hne
  exact ⟨⟨this.1, this.2.1⟩, ⟨this.2.2.1, this.2.2.2.1⟩, this.2.2.2.2⟩
end Go.Proofs.Ytejmikpmkfnlgaa
