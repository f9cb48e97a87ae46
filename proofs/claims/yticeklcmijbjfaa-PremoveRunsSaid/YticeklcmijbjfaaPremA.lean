/- Announced moves: lists. No condition of its own. -/
import Derived.Test.YticeklcmijbjfaaGameQ
import Derived.Test.YticeklcmijbjfaaPremoveRunsS
namespace Go.Proofs.Yticeklcmijbjfaa
open Go.Den
set_option linter.unusedVariables false
set_option linter.unusedSimpArgs false
set_option maxRecDepth 100000

abbrev PM := Int × Mv × Unit
abbrev dPM : PM := (0, ((0, (0, (0, ()))), ()))
theorem at_natP {A : Type} (xs : List A) (i : Nat) (h : i < xs.length) : at? xs (i : Int) = some xs[i] := by
  rw [at?_eq xs _ (Int.natCast_nonneg i) (Int.ofNat_lt.2 h)]
  simp only [Int.toNat_natCast]
theorem flat_idxP {A C : Type} (l : List A) (G : A → List C) : ∀ n, n ≤ l.length → (List.range n).flatMap (fun i => (l[i]?).toList.flatMap G) = (l.take n).flatMap G
  | 0, _ => by simp
  | n + 1, h => by
    rw [List.range_succ, List.flatMap_append, flat_idxP l G n (by omega), List.take_succ_eq_append_getElem (by omega), List.flatMap_append]
    simp [List.getElem?_eq_getElem (show n < l.length by omega)]
/-- a loop over a list that appends -/
theorem iter_listP {A C R : Type} (xs : List A) (B : Nat) (f : (((List C) × Int × Unit) × Unit) → Option ((((List C) × Int × Unit) × Unit) ⊕ R)) (G : A → List C) (fin : List C → R) (a0 : List C) (hG : ∀ x ∈ xs, (G x).length ≤ B)
    (hs : ∀ i (hi : i < xs.length) (a : List C), a.length ≤ a0.length + i * B → f ((a, (i : Int), ()), ()) = some (.inl ((a ++ G xs[i], ((i : Int) + 1), ()), ()))) (he : ∀ a, f ((a, (xs.length : Int), ()), ()) = some (.inr (fin a))) :
    iterW f ((a0, (0 : Int), ()), ()) = some (fin (a0 ++ xs.flatMap G)) := by
  have := iter_app xs.length B f (fun i => (xs[i]?).toList.flatMap G) fin a0 (fun i hi => by
    simp only [List.getElem?_eq_getElem hi, Option.toList_some, List.flatMap_cons, List.flatMap_nil, List.append_nil]
    exact hG _ (List.getElem_mem hi)) (fun i hi a ha => by
    simp only [List.getElem?_eq_getElem hi, Option.toList_some, List.flatMap_cons, List.flatMap_nil, List.append_nil]
    exact hs i hi a ha) he
  rw [this, flat_idxP xs G _ (Nat.le_refl _), List.take_length]
/-- the moves of a player; the others -/
def ofL (l : List PM) (pl : Int) : List Mv := l.flatMap fun x => bif x.1 == pl then [x.2.1] else []
def woL (l : List PM) (pl : Int) : List PM := l.filter fun x => !(x.1 == pl)
def odd1 (x : PM) : Bool := (x.1 != 0) && (x.1 != 1)
def pmErr (l : List PM) : Int := if 4 < (ofL l 0).length ∨ 4 < (ofL l 1).length then 2 else if l.any odd1 = true then 4 else 0
theorem of_len (pl : Int) : ∀ l : List PM, (ofL l pl).length + (woL l pl).length = l.length
  | [] => rfl
  | x :: l => by
    have := of_len pl l
    unfold ofL woL at *
    rw [List.flatMap_cons, List.filter_cons, List.length_append]
    cases (x.1 == pl)
    · simp only [cond_false, Bool.not_false, if_true, List.length_nil, List.length_cons]; omega
    · simp only [cond_true, Bool.not_true, if_neg (show ¬ (false = true) by decide), List.length_cons, List.length_nil]; omega
theorem of_spec (l : List PM) (pl : Int) (hl : l.length ≤ 1000000) : premoveOf l pl = some (ofL l pl) := by
  unfold premoveOf
  have := iter_listP l 1 (premoveOf_L1 l pl) (fun x => bif x.1 == pl then [x.2.1] else []) (fun a => ((a, ()), ())) [] (fun x _ => by
    cases (x.1 == pl)
    · exact Nat.zero_le _
    · exact Nat.le_refl _) (fun i hi a ha => by
    simp only [List.length_nil] at ha
    unfold premoveOf_L1
    simp only [show decide ((i : Int) < ((l.length : Nat) : Int)) = true by simp; omega, cond_true]
    rw [at_natP l i hi, Option.bind_some, w64_id (n := (i : Int) + 1) (by omega) (by omega)]
    cases (l[i].1 == pl)
    · simp only [cond_false, Option.bind_some, List.append_nil]
    · simp only [cond_true]
      rw [room_ok (by simp only [List.length_cons, List.length_nil]; omega), req_true]
      rfl) (fun a => by unfold premoveOf_L1; simp)
  rw [this, Option.bind_some]
  rfl
theorem check_specP (l : List PM) (hl : l.length ≤ 1000000) : premoveCheck l = some (pmErr l) := by
  unfold premoveCheck pmErr
  rw [of_spec l 0 hl, Option.bind_some, of_spec l 1 hl, Option.bind_some]
  have hL := iterW_any l odd1 (premoveCheck_L1 l) (.inr 4) (.inl ((), ())) (fun i hi => by
    unfold premoveCheck_L1 odd1
    simp only [show decide ((i : Int) < ((l.length : Nat) : Int)) = true by simp; omega, cond_true]
    rw [at_natP l i hi, Option.bind_some, w64_id (n := (i : Int) + 1) (by omega) (by omega), show decide ((i : Int) ≥ 0) = true by simp]
    cases ((l[i].1 != 0) && (l[i].1 != 1)) <;> rfl) (by unfold premoveCheck_L1; simp)
  rw [hL]
  by_cases h : 4 < (ofL l 0).length ∨ 4 < (ofL l 1).length
  · rw [if_pos h]
    by_cases h0 : 4 < (ofL l 0).length
    · rw [show decide ((((ofL l 0).length : Nat) : Int) > 4) = true by simp only [decide_eq_true_eq]; omega]
      rfl
    · rw [show decide ((((ofL l 0).length : Nat) : Int) > 4) = false by simp only [decide_eq_false_iff_not]; omega, show decide ((((ofL l 1).length : Nat) : Int) > 4) = true by simp only [decide_eq_true_eq]; omega]
      rfl
  · rw [if_neg h, show decide ((((ofL l 0).length : Nat) : Int) > 4) = false by simp only [decide_eq_false_iff_not]; omega, show decide ((((ofL l 1).length : Nat) : Int) > 4) = false by simp only [decide_eq_false_iff_not]; omega]
    simp only [cond_false, Option.bind_some]
    cases l.any odd1 <;> rfl
theorem clonePM (s : List PM) (h : s.length ≤ 1000000) : slicesClone_PremoveMove s = some s := by
  unfold slicesClone_PremoveMove
  have : room (([] : List PM).length + s.length) 32 = true := room_ok (by simp; omega)
  rw [this]
  cases s with
  | nil => simp [req_true, agree_self]
  | cons a l => simp [req_true]
theorem concatPM (a b : List PM) (ha : a.length ≤ 1000) (hb : b.length ≤ 1000) : slicesConcat_PremoveMove [a, b] = some (a ++ b) := by
  have w1 : w64 (0 + ((a.length : Nat) : Int)) = (a.length : Int) := by rw [Int.zero_add]; exact w64_id (by omega) (by omega)
  have w2 : w64 ((a.length : Int) + ((b.length : Nat) : Int)) = ((a.length + b.length : Nat) : Int) := by rw [w64_id (by omega) (by omega)]; omega
  have w3 : w64 ((0 : Int) + 1) = 1 := by decide
  have w4 : w64 ((1 : Int) + 1) = 2 := by decide
  have g0 : at? [a, b] 0 = some a := rfl
  have g1 : at? [a, b] 1 = some b := rfl
  have l1 : iterW (slicesConcat_PremoveMove_L1 [a, b]) (((0 : Int), (0 : Int), ()), ()) = some (((((a.length + b.length : Nat) : Int)), ()), ()) := by
    have s0 : slicesConcat_PremoveMove_L1 [a, b] (((0 : Int), (0 : Int), ()), ()) = some (.inl ((((a.length : Nat) : Int), (1 : Int), ()), ())) := by
      unfold slicesConcat_PremoveMove_L1
      simp only [g0, w1, w3, Option.bind_some]
      rw [show decide (((a.length : Nat) : Int) < 0) = false by simp]
      rfl
    have s1 : slicesConcat_PremoveMove_L1 [a, b] ((((a.length : Nat) : Int), (1 : Int), ()), ()) = some (.inl ((((a.length + b.length : Nat) : Int), (2 : Int), ()), ())) := by
      unfold slicesConcat_PremoveMove_L1
      simp only [g1, w2, w4, Option.bind_some]
      rw [show decide (((a.length + b.length : Nat) : Int) < 0) = false by simp; omega]
      rfl
    have s2 : slicesConcat_PremoveMove_L1 [a, b] ((((a.length + b.length : Nat) : Int), (2 : Int), ()), ()) = some (.inr ((((a.length + b.length : Nat) : Int), ()), ())) := rfl
    rw [iterW_inl s0, iterW_inl s1, iterW_inr s2]
  have l2 : iterW (slicesConcat_PremoveMove_L2 [a, b]) ((([] : List PM), (0 : Int), ()), ()) = some ((a ++ b, ()), ()) := by
    have s0 : slicesConcat_PremoveMove_L2 [a, b] ((([] : List PM), (0 : Int), ()), ()) = some (.inl ((a, (1 : Int), ()), ())) := by
      unfold slicesConcat_PremoveMove_L2
      simp only [g0, w3, Option.bind_some]
      rw [room_ok (by simp; omega)]
      rfl
    have s1 : slicesConcat_PremoveMove_L2 [a, b] ((a, (1 : Int), ()), ()) = some (.inl ((a ++ b, (2 : Int), ()), ())) := by
      unfold slicesConcat_PremoveMove_L2
      simp only [g1, w4, Option.bind_some]
      rw [room_ok (by omega)]
      rfl
    have s2 : slicesConcat_PremoveMove_L2 [a, b] ((a ++ b, (2 : Int), ()), ()) = some (.inr ((a ++ b, ()), ())) := rfl
    rw [iterW_inl s0, iterW_inl s1, iterW_inr s2]
  unfold slicesConcat_PremoveMove
  simp only [l1, Option.bind_some]
  rw [show decide (((a.length + b.length : Nat) : Int) < 0) = false by simp; omega]
  have w5 : w64 (((a.length + b.length : Nat) : Int) - 0) = ((a.length + b.length : Nat) : Int) := by rw [Int.sub_zero]; exact w64_id (by omega) (by omega)
  simp only [w5, cond_false]
  by_cases c : a.length + b.length = 0
  · rw [c]
    simp only [Int.natCast_zero, show decide ((0 : Int) > 0) = false by decide, cond_false, Option.bind_some]
    rw [l2]
    rfl
  · have c1 : decide (((a.length + b.length : Nat) : Int) > 0) = true := by simp; omega
    have c2 : decide (0 < ((a.length + b.length : Nat) : Int)) = true := by simp; omega
    have c3 : room ((((a.length + b.length : Nat) : Int)).toNat) 32 = true := room_ok (by omega)
    have c4 : ∀ l : List PM, boundsI 0 0 l.length = true := fun l => by simp [boundsI]
    simp only [c1, c2, c3, c4, cond_true, Bool.and_self, req_true, Option.bind_some, List.take_zero]
    rw [l2]
    rfl
/-! the first -/
def fstI (p : Nat → Bool) : Nat → Nat → Nat
  | i, 0 => i
  | i, k + 1 => bif p i then i else fstI p (i + 1) k
theorem fst_rng (p : Nat → Bool) : ∀ (k i : Nat), i ≤ fstI p i k ∧ fstI p i k ≤ i + k ∧ (fstI p i k < i + k → p (fstI p i k) = true) ∧ ∀ j, i ≤ j → j < fstI p i k → p j = false
  | 0, i => ⟨Nat.le_refl _, Nat.le_refl _, fun h => absurd h (Nat.lt_irrefl _), fun j h1 h2 => absurd h2 (Nat.not_lt.2 h1)⟩
  | k + 1, i => by
    have ih := fst_rng p k (i + 1)
    unfold fstI
    cases h : p i
    · simp only [cond_false]
      refine ⟨by omega, by omega, fun hl => ih.2.2.1 (by omega), fun j h1 h2 => ?_⟩
      by_cases e : j = i
      · subst e; exact h
      · exact ih.2.2.2 j (by omega) h2
    · simp only [cond_true]
      exact ⟨Nat.le_refl _, by omega, fun _ => h, fun j h1 h2 => absurd h2 (Nat.not_lt.2 h1)⟩
theorem scan_fst {β : Type} (p : Nat → Bool) (g : Nat → β) (B : β) : ∀ (k i : Nat), scan (fun i => bif p i then some (g i) else none) B i k = if fstI p i k < i + k then g (fstI p i k) else B
  | 0, i => by
    unfold fstI scan
    rw [if_neg (show ¬ i < i + 0 by omega)]
  | k + 1, i => by
    conv => lhs; unfold scan
    unfold fstI
    cases h : p i
    · simp only [cond_false]
      rw [scan_fst p g B k (i + 1), show i + 1 + k = i + (k + 1) by omega]
    · simp only [cond_true]
      rw [if_pos (by omega)]
def fstP (l : List PM) (pl : Int) : Nat := fstI (fun i => (l.getD i dPM).1 == pl) 0 l.length
theorem getD_at (l : List PM) (i : Nat) (h : i < l.length) : l.getD i dPM = l[i] := by simp [List.getD_eq_getElem?_getD, h]
theorem fstP_le (l : List PM) (pl : Int) : fstP l pl ≤ l.length := by
  have := (fst_rng (fun i => (l.getD i dPM).1 == pl) l.length 0).2.1
  unfold fstP
  omega
/-! slices.DeleteFunc -/
theorem wo_L2 (l : List PM) (pl : Int) (hl : l.length ≤ 1000000) : ∀ (k w j : Nat) (ys : List PM), j + k = l.length → w ≤ j → ys.length = l.length → ys.take w = (l.take j).filter (fun x => !(x.1 == pl)) → ys.drop j = l.drop j →
    ∃ (w' : Nat) (zs : List PM), iterW (premoveWithout_L2 pl) (((w : Int), (j : Int), ()), (ys, ())) = some (((w' : Int), ()), (zs, ())) ∧ w' ≤ l.length ∧ zs.length = l.length ∧ zs.take w' = woL l pl := by
  intro k
  induction k with
  | zero =>
    intro w j ys hj hw hy h1 h2
    have : j = l.length := by omega
    subst this
    refine ⟨w, ys, iterW_inr ?_, hw, hy, by rw [h1, List.take_length]; rfl⟩
    unfold premoveWithout_L2
    simp only [show decide (((l.length : Nat) : Int) < ((ys.length : Nat) : Int)) = false by simp; omega, cond_false]
  | succ k ih =>
    intro w j ys hj hw hy h1 h2
    have hjl : j < l.length := by omega
    have hjy : j < ys.length := by omega
    have hyj : ys[j] = l[j] := by
      have e1 : (ys.drop j)[0]? = (l.drop j)[0]? := by rw [h2]
      rw [List.getElem?_drop, List.getElem?_drop, Nat.add_zero, List.getElem?_eq_getElem hjy, List.getElem?_eq_getElem hjl] at e1
      exact Option.some.inj e1
    have hdr : ∀ zs : List PM, zs.drop j = l.drop j → zs.drop (j + 1) = l.drop (j + 1) := fun zs h => by
      rw [← List.drop_drop, ← List.drop_drop, h]
    have hg : getD' ys j dPM = l[j] := by unfold getD'; rw [getD_at ys j hjy, hyj]
    have htk : (l.take (j + 1)).filter (fun x => !(x.1 == pl)) = (l.take j).filter (fun x => !(x.1 == pl)) ++ (if (!(l[j].1 == pl)) = true then [l[j]] else []) := by
      rw [List.take_succ_eq_append_getElem hjl, List.filter_append, List.filter_cons, List.filter_nil]
    by_cases hk : (l[j].1 == pl) = true
    · obtain ⟨w', zs, q1, q2⟩ := ih w (j + 1) ys (by omega) (by omega) hy (by rw [htk, hk, h1]; simp) (hdr ys h2)
      refine ⟨w', zs, ?_, q2⟩
      rw [iterW_inl (y := (((w : Int), ((j + 1 : Nat) : Int), ()), (ys, ())))]
      · exact q1
      · unfold premoveWithout_L2
        simp only [show decide ((j : Int) < ((ys.length : Nat) : Int)) = true by simp; omega, cond_true]
        rw [inb_iff.2 ⟨by omega, by omega⟩, req_true, Int.toNat_natCast]
        rw [hg, hk, Bool.not_true, cond_false, Option.bind_some, w64_id (n := (j : Int) + 1) (by omega) (by omega)]
        rfl
    · have hk := Bool.eq_false_iff.2 hk
      have hws : w < ys.length := by omega
      obtain ⟨w', zs, q1, q2⟩ := ih (w + 1) (j + 1) (ys.set w l[j]) (by omega) (by omega) (by rw [List.length_set]; exact hy) (by
        rw [htk, hk, ← h1, List.take_succ_eq_append_getElem (by rw [List.length_set]; exact hws), List.getElem_set_self, List.take_set_of_le (Nat.le_refl _)]
        simp) (by
        rw [List.drop_set_of_lt (by omega)]
        exact hdr ys h2)
      refine ⟨w', zs, ?_, q2⟩
      rw [iterW_inl (y := ((((w + 1 : Nat) : Int), ((j + 1 : Nat) : Int), ()), (ys.set w l[j], ())))]
      · exact q1
      · unfold premoveWithout_L2
        simp only [show decide ((j : Int) < ((ys.length : Nat) : Int)) = true by simp; omega, cond_true]
        rw [inb_iff.2 ⟨by omega, by omega⟩, req_true, Int.toNat_natCast]
        rw [hg, hk, Bool.not_false, cond_true, inb_iff.2 ⟨by omega, by omega⟩, req_true, Option.bind_some, w64_id (n := (j : Int) + 1) (by omega) (by omega), w64_id (n := (w : Int) + 1) (by omega) (by omega), Int.toNat_natCast]
        rfl
theorem without_spec (l : List PM) (pl : Int) (hl : l.length ≤ 1000000) : premoveWithout l pl = some (woL l pl) := by
  unfold premoveWithout
  rw [clonePM l hl, Option.bind_some]
  have key : ∀ k i : Nat, i + k = l.length → (∀ j, j < i → ((l.getD j dPM).1 == pl) = false) → Option.bind (iterW (premoveWithout_L1 l pl) (((i : Int), ()), ())) (Sum.elim (fun _ => some l) some) = some (woL l pl) := by
    have pre : ∀ i, i ≤ l.length → (∀ j, j < i → ((l.getD j dPM).1 == pl) = false) → (l.take i).filter (fun x => !(x.1 == pl)) = l.take i := fun i hi h => by
      rw [List.filter_eq_self]
      intro x hx
      obtain ⟨j, hj, rfl⟩ := List.mem_iff_getElem.1 hx
      rw [List.length_take] at hj
      rw [List.getElem_take, ← getD_at l j (by omega), h j (by omega)]
      rfl
    intro k
    induction k with
    | zero =>
      intro i hi h
      have : i = l.length := by omega
      subst this
      rw [iterW_inr (r := .inl ((), ())) (by unfold premoveWithout_L1; simp)]
      have := pre l.length (Nat.le_refl _) h
      rw [List.take_length] at this
      show some l = some (woL l pl)
      unfold woL
      rw [this]
    | succ k ih =>
      intro i hi h
      have hil : i < l.length := by omega
      have hg : getD' l i dPM = l.getD i dPM := rfl
      cases hp : ((l.getD i dPM).1 == pl)
      · rw [iterW_inl (y := ((((i + 1 : Nat) : Int), ()), ()))]
        · exact ih (i + 1) (by omega) fun j hj => by
            by_cases e : j = i
            · subst e; exact hp
            · exact h j (by omega)
        · unfold premoveWithout_L1
          simp only [show decide ((i : Int) < ((l.length : Nat) : Int)) = true by simp; omega, cond_true]
          rw [inb_iff.2 ⟨by omega, by omega⟩, req_true, Int.toNat_natCast, hg, hp, cond_false, w64_id (n := (i : Int) + 1) (by omega) (by omega)]
          rfl
      · obtain ⟨w', zs, q1, q2, q3, q4⟩ := wo_L2 l pl hl (l.length - (i + 1)) i (i + 1) l (by omega) (by omega) rfl (by
          rw [List.take_succ_eq_append_getElem hil, List.filter_append, List.filter_cons, List.filter_nil, ← getD_at l i hil, hp, pre i (by omega) h]
          simp) rfl
        have hf : premoveWithout_L1 l pl (((i : Int), ()), ()) = some (.inr (.inr (woL l pl))) := by
          unfold premoveWithout_L1
          simp only [show decide ((i : Int) < ((l.length : Nat) : Int)) = true by simp; omega, cond_true]
          rw [inb_iff.2 ⟨by omega, by omega⟩, req_true, Int.toNat_natCast, hg, hp, cond_true, beq_f (show ¬ (i : Int) = -1 by omega), cond_false, w64_id (n := (i : Int) + 1) (by omega) (by omega)]
          rw [show ((i : Int) + 1) = ((i + 1 : Nat) : Int) by omega, q1, Option.bind_some]
          simp only [Int.toNat_natCast]
          rw [show boundsI (w' : Int) ((zs.length : Nat) : Int) zs.length = true by simp only [boundsI, Bool.and_eq_true, decide_eq_true_eq]; omega, req_true]
          rw [show ∀ ys : List PM, boundsI 0 (w' : Int) (zs.take w' ++ ys).length = true from fun ys => by
            simp only [boundsI, Bool.and_eq_true, decide_eq_true_eq, List.length_append, List.length_take]
            omega, req_true, ← q4]
          rw [show ∀ ys : List PM, (zs.take w' ++ ys).take w' = zs.take w' from fun ys => by
            rw [List.take_append_of_le_length (by rw [List.length_take]; omega), List.take_take, Nat.min_self]]
          rfl
        rw [iterW_inr hf]
        rfl
  exact key l.length 0 (by omega) (fun j hj => by omega)
/-! premove.next -/
def openM (r : Rules) (p : Place) : List Mv := if resultOf r p = 0 then movesOf r p else []
theorem openM_spec {r : Rules} {p : Place} (h : Valid r p) : endsMoves r p = some (openM r p) := by
  unfold endsMoves openM
  rw [result_spec h, Option.bind_some]
  by_cases c : resultOf r p = 0
  · rw [bne_f c, cond_false, if_pos c, list_spec h]; rfl
  · rw [bne_t c, cond_true, if_neg c]
theorem openM_mem {r : Rules} {p : Place} {m : Mv} : m ∈ openM r p ↔ resultOf r p = 0 ∧ allowedB r p m = true := by
  unfold openM
  by_cases c : resultOf r p = 0
  · rw [if_pos c, movesOf_mem]; exact ⟨fun h => ⟨c, h⟩, fun h => h.2⟩
  · rw [if_neg c]; exact ⟨fun h => (by cases h), fun h => absurd h.1 c⟩
theorem openM_len {r : Rules} {p : Place} (h : Valid r p) : (openM r p).length ≤ 100000 := by
  unfold openM
  split
  · exact movesOf_len h
  · simp
/-- what comes next: the move, is there one, the rest -/
def resN (r : Rules) (p : Place) (l : List PM) (i : Nat) : Mv × Bool × List PM × Unit :=
  if (l.getD i dPM).2.1 ∈ openM r p then ((l.getD i dPM).2.1, (true, (l.take i ++ l.drop (i + 1), ()))) else ((0, (0, (0, ()))), (false, (woL l p.turn, ())))
def nextP (r : Rules) (p : Place) (l : List PM) : Mv × Bool × List PM × Unit :=
  if fstP l p.turn < l.length then resN r p l (fstP l p.turn) else ((0, (0, (0, ()))), (false, (woL l p.turn, ())))
theorem next_spec {r : Rules} {p : Place} (h : Valid r p) (l : List PM) (hl : l.length ≤ 1000) : premoveNext r p l = some (nextP r p l) := by
  unfold premoveNext
  have hL := iterW_scan l.length (premoveNext_L1 l p r) (fun i => bif (l.getD i dPM).1 == p.turn then some (Sum.inr (resN r p l i)) else none) (.inl ((), ())) (fun i hi => by
    unfold premoveNext_L1 resN
    simp only [show decide ((i : Int) < ((l.length : Nat) : Int)) = true by simp; omega, cond_true]
    rw [at_natP l i hi, Option.bind_some, w64_id (n := (i : Int) + 1) (by omega) (by omega), getD_at l i hi]
    show (bif (l[i].1 == p.turn) then _ else _) = _
    cases hp : (l[i].1 == p.turn)
    · rfl
    · simp only [cond_true]
      rw [show decide ((i : Int) < 0) = false by simp]
      simp only [Bool.not_false, cond_false, agree_self]
      have hgat : ∀ z, gat true z l (i : Int) = some l[i] := fun z => by show at? l (i : Int) = _; exact at_natP l i hi
      rw [hgat, Option.bind_some, openM_spec h, Option.bind_some, index_spec _ _ (by have := openM_len h; omega), Option.bind_some, Option.bind_some]
      simp only
      by_cases hm : l[i].2.1 ∈ openM r p
      · rw [decide_eq_true hm, if_pos hm]
        simp only [Bool.not_true, cond_false]
        rw [show boundsI 0 (i : Int) l.length = true by simp only [boundsI, Bool.and_eq_true, decide_eq_true_eq]; omega, show boundsI ((i : Int) + 1) ((l.length : Nat) : Int) l.length = true by simp only [boundsI, Bool.and_eq_true, decide_eq_true_eq]; omega]
        simp only [req_true, agree_self, Option.bind_some, Int.toNat_natCast, List.drop_zero, List.take_length]
        rw [concatPM _ _ (by rw [List.length_take]; omega) (by rw [List.length_drop]; omega)]
        rw [show ((i : Int) + 1).toNat = i + 1 by omega]
        rfl
      · rw [decide_eq_false hm, if_neg hm]
        simp only [Bool.not_false, cond_true]
        rw [show p.2.2.1 = p.turn from rfl, without_spec l _ (by omega)]
        rfl) (by unfold premoveNext_L1; simp)
  rw [hL, scan_fst, Nat.zero_add]
  unfold nextP
  show Option.bind (some (if fstP l p.turn < l.length then Sum.inr (resN r p l (fstP l p.turn)) else Sum.inl ((), ()))) _ = _
  by_cases c : fstP l p.turn < l.length
  · rw [if_pos c, if_pos c]
    rfl
  · rw [if_neg c, if_neg c]
    simp only [Option.bind_some, Sum.elim_inl]
    have hg : ∀ z : PM, gat false z l (-1) = some z := fun z => rfl
    rw [hg, Option.bind_some]
    simp only [agree_self, Option.bind_some, cond_true]
    rw [show p.2.2.1 = p.turn from rfl, without_spec l _ (by omega)]
    rfl
end Go.Proofs.Yticeklcmijbjfaa
