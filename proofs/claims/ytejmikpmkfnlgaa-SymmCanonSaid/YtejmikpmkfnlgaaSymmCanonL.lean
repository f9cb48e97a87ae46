/- The law SymmCanon, in plain Lean. No condition of its own. -/
import Derived.Test.YtejmikpmkfnlgaaDenP
import Derived.Test.YtejmikpmkfnlgaaDenF
import Derived.Test.YtejmikpmkfnlgaaSymmCanonS
namespace Go.Proofs.Ytejmikpmkfnlgaa
open Go.Den
set_option linter.unusedVariables false
set_option linter.unusedSimpArgs false
set_option maxRecDepth 100000

theorem clone_eq (s : List Int) (h : s.length ≤ 1000000) : slicesClone_int s = some s := by
  unfold slicesClone_int
  have hr : room (([] : List Int).length + s.length) 8 = true := room_ok (by simp; omega)
  simp only [hr, req_true, List.nil_append]
  cases s with
  | nil => simp [agree]
  | cons x s => simp
theorem same_eq (a : List Int) (h : a.length ≤ 1000000) : ref1SameInts a a = some true := by
  unfold ref1SameInts
  have : iterW (ref1SameInts_L1 a a) ((0, ()), ()) = some (.inl ((), ())) := by
    refine iterW_states a.length (fun i => (((i : Int), ()), ())) _ (fun i hi => ?_) ?_
    · unfold ref1SameInts_L1
      have : (i : Int) < (a.length : Int) := by omega
      simp only [this, decide_true, cond_true, at?_eq a (i : Int) (by omega) this, Option.bind_some, bne_self_eq_false, cond_false, w64_id (n := (i : Int) + 1) (by omega) (by omega)]
      rfl
    · unfold ref1SameInts_L1
      simp
  rw [this]
  simp
/-- the square to which a symmetry moves a square, for all boards -/
noncomputable def movedOk (w h s q : Nat) : Bool := match symmTo w h s q, ref1Moved w h s q with
  | some a, some b => a == b && (decide (0 ≤ a) && decide (a < (w : Int) * h))
  | _, _ => false
theorem moved_all : ((List.range 9).all fun w => w == 0 || (List.range 9).all fun h => h == 0 || (List.range (bif w == h then 8 else 4)).all fun s => (List.range (w * h)).all fun q => movedOk w h s q) = true := by decide +kernel
theorem moved_spec {w h s q : Int} (hw : 1 ≤ w ∧ w ≤ 8) (hh : 1 ≤ h ∧ h ≤ 8) (hs : 0 ≤ s ∧ s < (if w = h then 8 else 4)) (hq : 0 ≤ q ∧ q < w * h) : ∃ a, symmTo w h s q = some a ∧ ref1Moved w h s q = some a ∧ 0 ≤ a ∧ a < w * h := by
  have := moved_all
  simp only [List.all_eq_true, List.mem_range, Bool.or_eq_true] at this
  have h1 := (this w.toNat (by omega)).resolve_left (by simp; omega)
  have h2 := (h1 h.toNat (by omega)).resolve_left (by simp; omega)
  have e1 : ((w.toNat : Nat) : Int) = w := by omega
  have e2 : ((h.toNat : Nat) : Int) = h := by omega
  have e3 : ((s.toNat : Nat) : Int) = s := by omega
  have e4 : ((q.toNat : Nat) : Int) = q := by omega
  have e5 : ((w.toNat * h.toNat : Nat) : Int) = w * h := by rw [Int.natCast_mul, e1, e2]
  have h3 := h2 s.toNat (by
    by_cases e : w = h
    · subst e; simp at hs ⊢; omega
    · have : (w.toNat == h.toNat) = false := by
        have : ¬ w.toNat = h.toNat := by omega
        simpa using this
      rw [this, cond_false]
      rw [if_neg e] at hs
      omega) q.toNat (by omega)
  unfold movedOk at h3
  rw [e1, e2, e3, e4] at h3
  match ha : symmTo w h s q, hb : ref1Moved w h s q with
  | some a, some b =>
    rw [ha, hb] at h3
    simp at h3
    exact ⟨a, rfl, by rw [h3.1], h3.2.1, h3.2.2⟩
  | some a, none => rw [ha, hb] at h3; cases h3
  | none, _ => rw [ha] at h3; cases h3
/-- what both loops make -/
theorem apply_spec {w h s : Int} (hw : 1 ≤ w ∧ w ≤ 8) (hh : 1 ≤ h ∧ h ≤ 8) (hs : 0 ≤ s ∧ s < (if w = h then 8 else 4)) (cells : List Int) (hl : (cells.length : Int) = w * h) (x : ((List Int) × Int × Int × Unit) × Unit) (hx : x.1.2.2.1 = s) :
    ∃ m, m.length = cells.length ∧ iterW (symmApply_L1 cells w h s) ((0, ()), (List.replicate cells.length 0, ())) = some ((), (m, ())) ∧ iterW (law1SymmCanon_L2 cells w h x) ((0, ()), (List.replicate cells.length 0, ())) = some ((), (m, ())) := by
  have hb : w * h ≤ 64 := by
    have : w * h ≤ 8 * 8 := Int.mul_le_mul hw.2 hh.2 (by omega) (by omega)
    omega
  have hstep : ∀ y : (Int × Unit) × ((List Int) × Unit), (0 ≤ y.1.1 ∧ y.1.1 ≤ (cells.length : Int)) ∧ y.2.1.length = cells.length → symmApply_L1 cells w h s y = law1SymmCanon_L2 cells w h x y ∧
      ((∃ z, symmApply_L1 cells w h s y = some (.inl z) ∧ ((0 ≤ z.1.1 ∧ z.1.1 ≤ (cells.length : Int)) ∧ z.2.1.length = cells.length) ∧ z.1.1 = y.1.1 + 1 ∧ y.1.1 < cells.length) ∨ symmApply_L1 cells w h s y = some (.inr ((), (y.2.1, ())))) := by
    rintro ⟨⟨i, _⟩, ⟨m, _⟩⟩ ⟨⟨h1, h2⟩, h3⟩
    simp only at h1 h2 h3
    unfold symmApply_L1 law1SymmCanon_L2
    simp only [hx]
    by_cases hi : i < (cells.length : Int)
    · obtain ⟨a, ha, hb', h4, h5⟩ := moved_spec hw hh hs (q := i) ⟨h1, by omega⟩
      have hin : inb a m.length = true := inb_iff.2 ⟨h4, by omega⟩
      simp only [hi, decide_true, cond_true, at?_eq cells i h1 hi, Option.bind_some, ha, hb', hin, req_true, w64_id (n := i + 1) (by omega) (by omega)]
      refine ⟨trivial, .inl ⟨_, rfl, ⟨⟨by simp only; omega, by simp only; omega⟩, by simp [h3]⟩, rfl, trivial⟩⟩
    · simp only [hi, decide_false, cond_false]
      exact ⟨trivial, .inr trivial⟩
  obtain ⟨r, h1, h2⟩ := iterW_meas (f := symmApply_L1 cells w h s) (fun y => (0 ≤ y.1.1 ∧ y.1.1 ≤ (cells.length : Int)) ∧ y.2.1.length = cells.length) (fun y => ((cells.length : Int) - y.1.1).toNat) (fun r => r.2.1.length = cells.length) (fun y hy => by
    rcases (hstep y hy).2 with ⟨z, h1, h2, h3, h4⟩ | h1
    · exact .inl ⟨z, h1, h2, by omega⟩
    · exact .inr ⟨_, h1, hy.2⟩) ((0, ()), (List.replicate cells.length 0, ())) ⟨by simp, by simp⟩
  obtain ⟨_, m, _⟩ := r
  refine ⟨m, h2, h1, ?_⟩
  rw [← iterW_congr (fun y => (0 ≤ y.1.1 ∧ y.1.1 ≤ (cells.length : Int)) ∧ y.2.1.length = cells.length) (fun y hy => (hstep y hy).1) (fun y z hy hz => by
    rcases (hstep y hy).2 with ⟨z', h1, h2, h3, h4⟩ | h1
    · rw [h1] at hz; cases hz; exact h2
    · rw [h1] at hz; cases hz) _ ⟨by simp, by simp⟩]
  exact h1
/-- the first difference -/
def firstLess : List Int → List Int → Bool
  | x :: xs, y :: ys => bif x == y then firstLess xs ys else decide (x < y)
  | _, _ => false
theorem cmp_int (x y : Int) : cmpCompare_int x y = if x < y then -1 else if x > y then 1 else 0 := by
  unfold cmpCompare_int cmpIsNaN_int
  by_cases a : x < y <;> by_cases b : x > y <;> simp [a, b]
theorem drop_cons {a : List Int} {i : Nat} (h : i < a.length) : a.drop i = a[i] :: a.drop (i + 1) := List.drop_eq_getElem_cons h
theorem compare_spec (a b : List Int) (hl : a.length = b.length) (hb : a.length ≤ 1000000) : ∃ n, slicesCompare_int a b = some n ∧ decide (n < 0) = firstLess a b := by
  unfold slicesCompare_int
  have key : ∀ x : (Int × Unit) × Unit, (0 ≤ x.1.1 ∧ x.1.1 ≤ (a.length : Int)) → ∃ r, iterW (slicesCompare_int_L1 a b) x = some r ∧ (match r with | .inl _ => firstLess (a.drop x.1.1.toNat) (b.drop x.1.1.toNat) = false | .inr n => decide (n < 0) = firstLess (a.drop x.1.1.toNat) (b.drop x.1.1.toNat)) := by
    have : ∀ k (x : (Int × Unit) × Unit), (0 ≤ x.1.1 ∧ x.1.1 ≤ (a.length : Int)) → ((a.length : Int) - x.1.1).toNat = k → ∃ r, iterW (slicesCompare_int_L1 a b) x = some r ∧ (match r with | .inl _ => firstLess (a.drop x.1.1.toNat) (b.drop x.1.1.toNat) = false | .inr n => decide (n < 0) = firstLess (a.drop x.1.1.toNat) (b.drop x.1.1.toNat)) := by
      intro k
      induction k with
      | zero =>
        rintro ⟨⟨i, _⟩, _⟩ ⟨h1, h2⟩ hk
        simp only at h1 h2 hk
        refine ⟨.inl ((), ()), iterW_inr ?_, ?_⟩
        · unfold slicesCompare_int_L1
          have : ¬ i < (a.length : Int) := by omega
          simp [this]
        · have : a.drop i.toNat = [] := List.drop_eq_nil_of_le (by omega)
          simp [this, firstLess]
      | succ k ih =>
        rintro ⟨⟨i, _⟩, _⟩ ⟨h1, h2⟩ hk
        simp only at h1 h2 hk
        have hi : i < (a.length : Int) := by omega
        have hn : ¬ i ≥ (b.length : Int) := by omega
        have ha := drop_cons (a := a) (i := i.toNat) (by omega)
        have hb' := drop_cons (a := b) (i := i.toNat) (by omega)
        have hstep : slicesCompare_int_L1 a b ((i, ()), ()) = (bif cmpCompare_int (a[i.toNat]'(by omega)) (b[i.toNat]'(by omega)) != 0 then some (.inr (.inr (cmpCompare_int (a[i.toNat]'(by omega)) (b[i.toNat]'(by omega))))) else some (.inl ((i + 1, ()), ()))) := by
          unfold slicesCompare_int_L1
          simp only [hi, decide_true, cond_true, at?_eq a i h1 hi, Option.bind_some, hn, decide_false, cond_false, at?_eq b i h1 (by omega), w64_id (n := i + 1) (by omega) (by omega)]
        by_cases e : a[i.toNat]'(by omega) = b[i.toNat]'(by omega)
        · have : cmpCompare_int (a[i.toNat]'(by omega)) (b[i.toNat]'(by omega)) = 0 := by rw [cmp_int, e]; simp
          rw [this] at hstep
          simp only [bne_self_eq_false, cond_false] at hstep
          obtain ⟨r, h3, h4⟩ := ih ((i + 1, ()), ()) ⟨by simp only; omega, by simp only; omega⟩ (by simp only; omega)
          refine ⟨r, by rw [← h3]; exact iterW_inl hstep, ?_⟩
          simp only [show (i + 1).toNat = i.toNat + 1 by omega] at h4
          simp only [ha, hb', firstLess, e, beq_self_eq_true, cond_true]
          exact h4
        · have h5 : (cmpCompare_int (a[i.toNat]'(by omega)) (b[i.toNat]'(by omega)) != 0) = true := by
            rw [cmp_int]
            simp only [bne_iff_ne]
            split
            · decide
            · split
              · decide
              · omega
          rw [h5] at hstep
          refine ⟨_, iterW_inr hstep, ?_⟩
          have h6 : (a[i.toNat]'(by omega) == b[i.toNat]'(by omega)) = false := by simpa using e
          simp only [ha, hb', firstLess, h6, cond_false]
          rw [cmp_int]
          by_cases h7 : a[i.toNat]'(by omega) < b[i.toNat]'(by omega)
          · simp [h7]
          · simp only [h7, if_false]
            split <;> simp
    exact fun x hx => this _ x hx rfl
  obtain ⟨r, h1, h2⟩ := key ((0, ()), ()) ⟨by simp, by simp⟩
  rw [h1]
  simp only [Int.toNat_zero, List.drop_zero] at h2
  cases r with
  | inl _ => exact ⟨0, by simp [hl], by simp [h2]⟩
  | inr n => exact ⟨n, by simp, h2⟩
/-- which of two is better, with its number -/
def better (m : List Int) (i : Int) (best : List Int) (by' : Int) : List Int × Int := bif firstLess m best then (m, i) else (best, by')
theorem pick_spec (m : List Int) (x : ((List Int) × Int × Int × Unit) × Unit) (best : List Int) (by' : Int) (hl : m.length = best.length) (hb : m.length ≤ 1000000) :
    iterW (law1SymmCanon_L3 ((), (m, ())) x) ((best, by', 0, ()), ()) = some (((better m x.1.2.2.1 best by').1, (better m x.1.2.2.1 best by').2, ()), ()) := by
  have : ∀ k (i : Int), 0 ≤ i → i ≤ (m.length : Int) → ((m.length : Int) - i).toNat = k → iterW (law1SymmCanon_L3 ((), (m, ())) x) ((best, by', i, ()), ()) =
      some (bif firstLess (m.drop i.toNat) (best.drop i.toNat) then ((m, x.1.2.2.1, ()), ()) else ((best, by', ()), ())) := by
    intro k
    induction k with
    | zero =>
      intro i h1 h2 hk
      refine iterW_inr ?_
      have : m.drop i.toNat = [] := List.drop_eq_nil_of_le (by omega)
      unfold law1SymmCanon_L3
      have hn : ¬ i < (m.length : Int) := by omega
      simp [hn, this, firstLess]
    | succ k ih =>
      intro i h1 h2 hk
      have hi : i < (m.length : Int) := by omega
      have ha := drop_cons (a := m) (i := i.toNat) (by omega)
      have hb' := drop_cons (a := best) (i := i.toNat) (by omega)
      have hg : getD' m i.toNat 0 = m[i.toNat]'(by omega) := by simp [getD', List.getD, List.getElem?_eq_getElem (show i.toNat < m.length by omega)]
      have hin : inb i m.length = true := inb_iff.2 ⟨h1, hi⟩
      by_cases e : m[i.toNat]'(by omega) = best[i.toNat]'(by omega)
      · have hstep : law1SymmCanon_L3 ((), (m, ())) x ((best, by', i, ()), ()) = some (.inl ((best, by', i + 1, ()), ())) := by
          unfold law1SymmCanon_L3
          simp only [hi, decide_true, cond_true, hin, req_true, at?_eq best i h1 (by omega), Option.bind_some, hg, e, bne_self_eq_false, cond_false, w64_id (n := i + 1) (by omega) (by omega)]
        rw [iterW_inl hstep, ih (i + 1) (by omega) (by omega) (by omega), show (i + 1).toNat = i.toNat + 1 by omega, ha, hb']
        simp [firstLess, e]
      · have h5 : (m[i.toNat]'(by omega) != best[i.toNat]'(by omega)) = true := by simpa using e
        have h6 : (m[i.toNat]'(by omega) == best[i.toNat]'(by omega)) = false := by simpa using e
        refine iterW_inr ?_
        unfold law1SymmCanon_L3
        simp only [hi, decide_true, cond_true, hin, req_true, at?_eq best i h1 (by omega), Option.bind_some, hg, h5, ha, hb', firstLess, h6, cond_false]
        by_cases h7 : m[i.toNat]'(by omega) < best[i.toNat]'(by omega) <;> simp [h7]
  have := this _ 0 (by omega) (by omega) rfl
  rw [this]
  simp only [Int.toNat_zero, List.drop_zero, better]
  cases firstLess m best <;> rfl
theorem canon_loops {w h : Int} (hw : 1 ≤ w ∧ w ≤ 8) (hh : 1 ≤ h ∧ h ≤ 8) (cells : List Int) (hl : (cells.length : Int) = w * h) :
    ∃ best by', best.length = cells.length ∧ iterW (symmCanon_L1 w h cells) ((cells, 0, 0, ()), ()) = some ((best, by', ()), ()) ∧ iterW (law1SymmCanon_L1 w h cells) ((cells, 0, 0, ()), ()) = some ((best, by', ()), ()) := by
  have hb : w * h ≤ 64 := by
    have : w * h ≤ 8 * 8 := Int.mul_le_mul hw.2 hh.2 (by omega) (by omega)
    omega
  have hcnt : symmCount w h = if w = h then 8 else 4 := by
    unfold symmCount
    by_cases e : w = h
    · simp [e]
    · simp [e, beq_f e]
  have hsym : ref1Symmetries w h = if w = h then 8 else 4 := by
    unfold ref1Symmetries ref1In
    by_cases e : w = h
    · subst e; simp [hw]
    · simp [hw, hh, e, bne_t e]
  let I : ((List Int) × Int × Int × Unit) × Unit → Prop := fun x => x.1.1.length = cells.length ∧ 0 ≤ x.1.2.2.1 ∧ x.1.2.2.1 ≤ (if w = h then 8 else 4)
  have hroom : (decide (0 ≤ ((cells.length : Nat) : Int)) && (((cells.length : Nat) : Int) == ((cells.length : Nat) : Int) && room (((cells.length : Nat) : Int)).toNat 8)) = true := by
    have : room cells.length 8 = true := room_ok (by omega)
    simp [this]
  have hroom2 : (decide (0 ≤ ((cells.length : Nat) : Int)) && (((cells.length : Nat) : Int) == ((cells.length : Nat) : Int) && room cells.length 8)) = true := by
    have : room cells.length 8 = true := room_ok (by omega)
    simp [this]
  have hstep : ∀ x, I x → symmCanon_L1 w h cells x = law1SymmCanon_L1 w h cells x ∧ ((∃ z, symmCanon_L1 w h cells x = some (.inl z) ∧ I z ∧ z.1.2.2.1 = x.1.2.2.1 + 1 ∧ x.1.2.2.1 < (if w = h then 8 else 4)) ∨ symmCanon_L1 w h cells x = some (.inr ((x.1.1, x.1.2.1, ()), ()))) := by
    rintro ⟨⟨best, by', i, _⟩, _⟩ ⟨h1, h2, h3⟩
    simp only at h1 h2 h3
    have h8 : (if w = h then (8 : Int) else 4) ≤ 8 := by split <;> omega
    unfold symmCanon_L1 law1SymmCanon_L1
    simp only [hcnt, hsym]
    by_cases hi : i < (if w = h then 8 else 4)
    · obtain ⟨m, hm, ha, hb'⟩ := apply_spec hw hh ⟨h2, hi⟩ cells hl ((best, by', i, ()), ()) rfl
      obtain ⟨n, hn, hn2⟩ := compare_spec m best (by omega) (by omega)
      have hp := pick_spec m ((best, by', i, ()), ()) best by' (by omega) (by omega)
      have hap : symmApply w h i cells = some m := by
        unfold symmApply
        rw [hroom, req_true, show (((cells.length : Nat) : Int)).toNat = cells.length by omega, ha]
        rfl
      simp only [hi, decide_true, cond_true, hap, Option.bind_some, hn, hroom, req_true, show (((cells.length : Nat) : Int)).toNat = cells.length by omega, hroom2, req_true, Option.bind_some, hb', hp, hn2, better, w64_id (n := i + 1) (by omega) (by omega)]
      cases hf : firstLess m best with
      | true => exact ⟨rfl, .inl ⟨_, rfl, ⟨hm, by simp only; omega, by simp only; omega⟩, rfl, trivial⟩⟩
      | false => exact ⟨rfl, .inl ⟨_, rfl, ⟨h1, by simp only; omega, by simp only; omega⟩, rfl, trivial⟩⟩
    · simp only [hi, decide_false, cond_false]
      exact ⟨trivial, .inr trivial⟩
  have h0 : I ((cells, 0, 0, ()), ()) := ⟨rfl, by simp, by simp only; split <;> omega⟩
  obtain ⟨r, h1, h2⟩ := iterW_meas (f := symmCanon_L1 w h cells) I (fun y => ((if w = h then (8 : Int) else 4) - y.1.2.2.1).toNat) (fun r => r.1.1.length = cells.length) (fun y hy => by
    rcases (hstep y hy).2 with ⟨z, h1, h2, h3, h4⟩ | h1
    · exact .inl ⟨z, h1, h2, by omega⟩
    · exact .inr ⟨_, h1, hy.1⟩) _ h0
  obtain ⟨⟨best, by', _⟩, _⟩ := r
  refine ⟨best, by', h2, h1, ?_⟩
  rw [← iterW_congr I (fun y hy => (hstep y hy).1) (fun y z hy hz => by
    rcases (hstep y hy).2 with ⟨z', h1, h2, h3, h4⟩ | h1
    · rw [h1] at hz; cases hz; exact h2
    · rw [h1] at hz; cases hz) _ h0]
  exact h1
theorem app0 : symmApply 2 1 0 [6, 5] = some [6, 5] := by
  unfold symmApply
  rw [show iterW (symmApply_L1 [6, 5] 2 1 0) ((0, ()), (List.replicate ((([6, 5] : List Int).length : Nat) : Int).toNat 0, ())) = some ((), ([6, 5], ())) from iterW_of (n := 5) (by decide +kernel)]
  rfl
theorem app1 : symmApply 2 1 1 [6, 5] = some [5, 6] := by
  unfold symmApply
  rw [show iterW (symmApply_L1 [6, 5] 2 1 1) ((0, ()), (List.replicate ((([6, 5] : List Int).length : Nat) : Int).toNat 0, ())) = some ((), ([5, 6], ())) from iterW_of (n := 5) (by decide +kernel)]
  rfl
theorem app2 : symmApply 2 1 2 [6, 5] = some [6, 5] := by
  unfold symmApply
  rw [show iterW (symmApply_L1 [6, 5] 2 1 2) ((0, ()), (List.replicate ((([6, 5] : List Int).length : Nat) : Int).toNat 0, ())) = some ((), ([6, 5], ())) from iterW_of (n := 5) (by decide +kernel)]
  rfl
theorem app3 : symmApply 2 1 3 [6, 5] = some [5, 6] := by
  unfold symmApply
  rw [show iterW (symmApply_L1 [6, 5] 2 1 3) ((0, ()), (List.replicate ((([6, 5] : List Int).length : Nat) : Int).toNat 0, ())) = some ((), ([5, 6], ())) from iterW_of (n := 5) (by decide +kernel)]
  rfl
theorem cmp_of (a b : List Int) (n : Int) (h : iterN (slicesCompare_int_L1 a b) 5 ((0, ()), ()) = some (.inr n)) : slicesCompare_int a b = some n := by
  unfold slicesCompare_int
  rw [iterW_of h]
  rfl
theorem cmp_same : ∀ a : List Int, a = [6, 5] ∨ a = [5, 6] → slicesCompare_int a a = some 0 := by
  rintro a (rfl | rfl)
  · unfold slicesCompare_int
    rw [show iterW (slicesCompare_int_L1 [6, 5] [6, 5]) ((0, ()), ()) = some (.inl ((), ())) from iterW_of (n := 5) (by decide +kernel)]
    rfl
  · unfold slicesCompare_int
    rw [show iterW (slicesCompare_int_L1 [5, 6] [5, 6]) ((0, ()), ()) = some (.inl ((), ())) from iterW_of (n := 5) (by decide +kernel)]
    rfl
theorem canon_first : symmCanon 2 1 [6, 5] = some ([5, 6], 1, 0, ()) := by
  have c1 := cmp_same [6, 5] (.inl rfl)
  have c2 := cmp_same [5, 6] (.inr rfl)
  have c3 := cmp_of [5, 6] [6, 5] (-1) (by decide +kernel)
  have c4 := cmp_of [6, 5] [5, 6] 1 (by decide +kernel)
  have hL : iterW (symmCanon_L1 2 1 [6, 5]) (([6, 5], 0, 0, ()), ()) = some (([5, 6], 1, ()), ()) := by
    rw [iterW_inl (y := (([6, 5], 0, 1, ()), ())) (by unfold symmCanon_L1; simp only [app0, c1, Option.bind_some]; kernel_rfl)]
    rw [iterW_inl (y := (([5, 6], 1, 2, ()), ())) (by unfold symmCanon_L1; simp only [app1, c3, Option.bind_some]; kernel_rfl)]
    rw [iterW_inl (y := (([5, 6], 1, 3, ()), ())) (by unfold symmCanon_L1; simp only [app2, c4, Option.bind_some]; kernel_rfl)]
    rw [iterW_inl (y := (([5, 6], 1, 4, ()), ())) (by unfold symmCanon_L1; simp only [app3, c2, Option.bind_some]; kernel_rfl)]
    exact iterW_inr (by unfold symmCanon_L1; kernel_rfl)
  unfold symmCanon
  rw [clone_eq _ (by decide), Option.bind_some, hL, Option.bind_some]
  rfl
theorem law1SymmCanon_true (width height : Int) (cells : List Int) (hw : Rng (.int .i64) width) (hh : Rng (.int .i64) height) (hc : Rng (.sl (.int .i64)) cells) : law1SymmCanon width height cells = some true := by
  have hs2 : ref1SameInts [5, 6] [5, 6] = some true := same_eq _ (by decide)
  unfold law1SymmCanon
  rw [canon_first]
  simp only [Option.bind_some, bne_self_eq_false, Bool.or_self, cond_false, hs2, Bool.not_true]
  by_cases hr : (1 ≤ width ∧ width ≤ 8) ∧ 1 ≤ height ∧ height ≤ 8
  · obtain ⟨hw, hh⟩ := hr
    have hck : symmCheck width height = 0 := by
      unfold symmCheck
      have : ((((decide (width < (1 : Int))) || (decide (width > (8 : Int)))) || (decide (height < (1 : Int)))) || (decide (height > (8 : Int)))) = false := by
        simp only [Bool.or_eq_false_iff, decide_eq_false_iff_not]; omega
      rw [this]; rfl
    have hsym : ref1Symmetries width height ≠ 0 := by
      unfold ref1Symmetries ref1In
      by_cases e : width = height
      · subst e; simp [hw]
      · simp [hw, hh, e, bne_t e]
    have hsym' : (ref1Symmetries width height == 0) = false := by simpa using hsym
    have hb : width * height ≤ 64 := by
      have : width * height ≤ 8 * 8 := Int.mul_le_mul hw.2 hh.2 (by omega) (by omega)
      omega
    have hb0 : 0 ≤ width * height := Int.mul_nonneg (by omega) (by omega)
    have hww : w64 (width * height) = width * height := w64_id (by omega) (by omega)
    unfold symmCanon
    simp only [hck, bne_self_eq_false, cond_false, hsym', hww]
    by_cases hl : (cells.length : Int) = width * height
    · obtain ⟨best, by', h1, h2, h3⟩ := canon_loops hw hh cells hl
      rw [clone_eq cells (by omega)]
      have hse := same_eq best (by omega)
      have hl' : (((cells.length : Nat) : Int) != width * height) = false := by simpa using hl
      simp [hl', h2, h3, gopt, hse]
    · have hl' : (((cells.length : Nat) : Int) != width * height) = true := by simpa using hl
      simp [hl']
  · have hck : symmCheck width height = 4 := by
      unfold symmCheck
      have : ((((decide (width < (1 : Int))) || (decide (width > (8 : Int)))) || (decide (height < (1 : Int)))) || (decide (height > (8 : Int)))) = true := by
        simp only [Bool.or_eq_true, decide_eq_true_eq]; omega
      rw [this]; rfl
    have hsym : ref1Symmetries width height = 0 := by
      unfold ref1Symmetries ref1In
      have : ((!(decide (width ≥ 1) && decide (width ≤ 8))) || !(decide (height ≥ 1) && decide (height ≤ 8))) = true := by
        simp only [Bool.or_eq_true, Bool.not_eq_true', Bool.and_eq_false_iff, decide_eq_false_iff_not]; omega
      rw [this]; rfl
    unfold symmCanon
    simp [hck, hsym]
end Go.Proofs.Ytejmikpmkfnlgaa
