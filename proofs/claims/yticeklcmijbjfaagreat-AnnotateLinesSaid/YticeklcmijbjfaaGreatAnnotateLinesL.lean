/- AnnotateLines: the plain law. No condition of its own. -/
import Derived.Test.YticeklcmijbjfaaGreatRecD
import Derived.Test.YticeklcmijbjfaaGreatAnnotateLinesS
import Derived.Test.YticeklcmijbjfaaGreatDenQ
namespace Go.Proofs.YticeklcmijbjfaaGreat
open Go.Den
set_option linter.unusedVariables false
set_option linter.unusedSimpArgs false
set_option maxRecDepth 100000

theorem eqMove_spec (a b : List Mv) (ha : a.length ≤ 1000000000) : slicesEqual_Move a b = some (decide (a = b)) := by
  unfold slicesEqual_Move
  by_cases hl : a.length = b.length
  · rw [bne_f (show ((a.length : Nat) : Int) = ((b.length : Nat) : Int) by omega), cond_false]
    have hL := iterW_any (List.range a.length) (fun i => !(a.getD i (0, (0, (0, ()))) == b.getD i (0, (0, (0, ()))))) (slicesEqual_Move_L1 a b) (.inr false) (.inl ((), ())) (fun i hi => by
      have hi' : i < a.length := by simpa using hi
      unfold slicesEqual_Move_L1
      simp only [show decide ((i : Int) < ((a.length : Nat) : Int)) = true by simp; omega, cond_true, List.getElem_range]
      rw [at_nat a i hi', at_nat b i (by omega), Option.bind_some, Option.bind_some, w64_id (n := (i : Int) + 1) (by omega) (by omega)]
      have := eqMv_iff a[i] (b[i]'(by omega))
      unfold eqMv at this
      rw [this, List.getD_eq_getElem?_getD, List.getD_eq_getElem?_getD, List.getElem?_eq_getElem hi', List.getElem?_eq_getElem (show i < b.length by omega), Option.getD_some, Option.getD_some]
      cases (a[i] == b[i]'(by omega)) <;> rfl) (by unfold slicesEqual_Move_L1; simp)
    rw [hL, eqL_of hl]
    cases decide (a = b) <;> rfl
  · rw [bne_t (show ¬ ((a.length : Nat) : Int) = ((b.length : Nat) : Int) by omega), cond_true]
    have : ¬ a = b := fun h => hl (by rw [h])
    simp [this]
/-- a search for the first -/
theorem scan_first (p : Nat → Bool) : ∀ (k i : Nat), ∃ o : Option Nat, (∀ f, o = some f → i ≤ f ∧ f < i + k) ∧ ∀ (β : Type) (g : Nat → β) (B : β), scan (fun i => bif p i then some (g i) else none) B i k = o.elim B g := by
  intro k
  induction k with
  | zero => exact fun i => ⟨none, ⟨fun f h => (by cases h), fun β g B => rfl⟩⟩
  | succ k ih =>
    intro i
    cases hp : p i
    · obtain ⟨o, h1, h2⟩ := ih (i + 1)
      refine ⟨o, fun f hf => by have := h1 f hf; omega, fun β g B => ?_⟩
      rw [← h2 β g B]
      conv => lhs; unfold scan
      simp only [hp, cond_false]
    · refine ⟨some i, fun f hf => by cases hf; omega, fun β g B => ?_⟩
      conv => lhs; unfold scan
      simp only [hp, cond_true]
      rfl
section
variable {r : Rules} (hr : Rng tyRules r) (x : Rec) (hx : Rng tyRec x) (h30 : x.2.2.1.length ≤ 30)
include hr hx h30
theorem path_spec (node : Int) : annotatePath r x node = some (if recErr r x ≠ 0 then ([], (recErr r x, ())) else if node < 0 ∨ ((x.2.2.1.length : Nat) : Int) ≤ node then ([], (1, ())) else (wayM x.2.2.1 node, (0, ()))) := by
  unfold annotatePath annotateChecked
  rw [rcheck_spec hr x hx h30, Option.bind_some]
  by_cases c : recErr r x = 0
  rotate_left
  · rw [bne_t c, cond_true, Option.bind_some, bne_t c, cond_true, if_pos c]
  rw [bne_f c, cond_false, if_neg (fun h => h c)]
  by_cases c1 : node < 0 ∨ ((x.2.2.1.length : Nat) : Int) ≤ node
  · rw [if_pos c1, show (decide (node < 0) || decide (node ≥ ((x.2.2.1.length : Nat) : Int))) = true by simp only [Bool.or_eq_true, decide_eq_true_eq]; omega]
    rfl
  · rw [if_neg c1, show (decide (node < 0) || decide (node ≥ ((x.2.2.1.length : Nat) : Int))) = false by simp only [Bool.or_eq_false_iff, decide_eq_false_iff_not]; omega]
    have ho : Ord x.2.2.1 x.2.2.1.length := by
      unfold recErr at c
      repeat (first | (split at c; · contradiction) | exact ord_of c)
    simp only [cond_false, Option.bind_some, bne_self_eq_false]
    rw [way_rec x (by omega) (by omega) (by omega) (ho.down.mono (by omega)), Option.bind_some]
end
theorem rec_ord {r : Rules} {x : Rec} (c : recErr r x = 0) : Ord x.2.2.1 x.2.2.1.length := by
  unfold recErr at c
  repeat (first | (split at c; · contradiction) | exact ord_of c)
def linesL (ns : List RNode) : List (List Mv) := (leaves ns ns.length).map fun (i : Nat) => wayM ns (i : Int)
theorem lines_spec {r : Rules} (hr : Rng tyRules r) (x : Rec) (hx : Rng tyRec x) (h30 : x.2.2.1.length ≤ 30) : annotateLines r x = some (if recErr r x ≠ 0 then ([], (recErr r x, ())) else (linesL x.2.2.1, (0, ()))) := by
  unfold annotateLines
  rw [rcheck_spec hr x hx h30, Option.bind_some]
  by_cases c : recErr r x = 0
  rotate_left
  · rw [bne_t c, cond_true, if_pos c]
  rw [bne_f c, cond_false, if_neg (fun h => h c)]
  have ho := rec_ord c
  have := iter_fold x.2.2.1.length (annotateLines_L1 x) (fun i a => a ++ (bif leafB x.2.2.1 i then [wayM x.2.2.1 (i : Int)] else [])) (fun a => ((a, ()), ())) (fun i a => a.length ≤ i) [] (Nat.le_refl _) (fun i hi a ha => by
    refine ⟨?_, by
      rw [List.length_append]
      cases leafB x.2.2.1 i
      · simp only [cond_false, List.length_nil]; omega
      · simp only [cond_true, List.length_cons, List.length_nil]; omega⟩
    unfold annotateLines_L1
    simp only [show decide ((i : Int) < ((x.2.2.1.length : Nat) : Int)) = true by simp; omega, cond_true]
    rw [kids_spec x _ (by omega), Option.bind_some, kids_leaf, way_rec x (by omega) (n := (i : Int)) (by omega) (by omega) (ho.down.mono (by omega)), w64_id (n := (i : Int) + 1) (by omega) (by omega)]
    cases leafB x.2.2.1 i
    · simp only [cond_false, Option.bind_some, List.append_nil]
    · simp only [cond_true, Option.bind_some]
      rw [room_ok (by simp only [List.length_cons, List.length_nil]; omega), req_true]
      rfl) (fun a _ => by unfold annotateLines_L1; simp)
  rw [this, Option.bind_some]
  have hL : ∀ n, foldN (fun i a => a ++ (bif leafB x.2.2.1 i then [wayM x.2.2.1 (i : Int)] else [])) n [] = (leaves x.2.2.1 n).map fun (i : Nat) => wayM x.2.2.1 (i : Int) := fun n => by
    induction n with
    | zero => rfl
    | succ n ih =>
      rw [leaves_succ, List.map_append, ← ih]
      show foldN _ n [] ++ _ = _
      congr 1
      cases leafB x.2.2.1 n <;> rfl
  rw [hL]
  rfl
/-- the main line -/
def mainL (ns : List RNode) : List Mv := match (leaves ns ns.length).head? with
  | some f => wayM ns (f : Int)
  | none => []
theorem leaves_head {ns : List RNode} {f : Nat} (hf : f < ns.length) (hl : leafB ns f = true) (hn : ∀ j, j < f → leafB ns j = false) : (leaves ns ns.length).head? = some f := by
  unfold leaves
  rw [List.head?_filter, List.find?_range_eq_some]
  exact ⟨hl, List.mem_range.2 hf, fun j hj => by simp [hn j hj]⟩
theorem line_states (x : Rec) (h30 : x.2.2.1.length ≤ 30) (m : Nat) (hm : m ≤ x.2.2.1.length) (hk : ∀ t, t < m → ∃ q, kidsI x.2.2.1 ((t : Int) - 1) = (t : Int) :: q) (he : kidsI x.2.2.1 ((m : Int) - 1) = []) : annotateLine x = some ((List.range m).map fun (t : Nat) => (t : Int)) := by
  unfold annotateLine
  rw [kids_spec x _ (by omega), Option.bind_some]
  have := iterW_states (f := annotateLine_L1 x) m (fun t => (((List.range t).map fun (t : Nat) => (t : Int), kidsI x.2.2.1 ((t : Int) - 1), ()), ())) (((List.range m).map fun (t : Nat) => (t : Int), ()), ()) (fun t ht => by
    obtain ⟨q, e⟩ := hk t ht
    unfold annotateLine_L1
    simp only [e]
    rw [show decide (((((t : Int) :: q).length : Nat) : Int) > 0) = true by simp, cond_true, show inb 0 ((t : Int) :: q).length = true from inb_iff.2 (by simp), req_true, room_ok (by simp only [List.length_map, List.length_range, List.length_cons, List.length_nil]; omega), req_true, req_true, show getD' ((t : Int) :: q) 0 0 = (t : Int) from rfl, kids_spec x _ (by omega), Option.bind_some, List.range_succ, List.map_append, show ((t + 1 : Nat) : Int) - 1 = (t : Int) by omega]
    rfl) (by
    unfold annotateLine_L1
    simp only [he]
    rfl)
  simp only [List.range_zero, List.map_nil, Int.natCast_zero, Int.zero_sub] at this
  rw [this, Option.bind_some]
theorem main_spec {r : Rules} (hr : Rng tyRules r) (x : Rec) (hx : Rng tyRec x) (h30 : x.2.2.1.length ≤ 30) : annotateMain r x = some (if recErr r x ≠ 0 then ([], (recErr r x, ())) else (mainL x.2.2.1, (0, ()))) := by
  unfold annotateMain
  rw [rcheck_spec hr x hx h30, Option.bind_some]
  by_cases c : recErr r x = 0
  rotate_left
  · rw [bne_t c, cond_true, if_pos c]
  rw [bne_f c, cond_false, if_neg (fun h => h c)]
  have ho := rec_ord c
  obtain ⟨m, hm, h1, h2⟩ : ∃ m, m ≤ x.2.2.1.length ∧ annotateLine x = some ((List.range m).map fun (t : Nat) => (t : Int)) ∧ mainL x.2.2.1 = (List.range m).map (rmv x.2.2.1) := by
    by_cases h0 : x.2.2.1.length = 0
    · refine ⟨0, by omega, line_states x h30 0 (by omega) (fun t ht => by omega) (kids_nil _ _ fun k hk => by omega), ?_⟩
      unfold mainL leaves
      rw [h0]
      rfl
    · obtain ⟨f, f1, f2, f3⟩ := leaf_ex ho.down (by omega)
      refine ⟨f + 1, by omega, line_states x h30 (f + 1) (by omega) (fun t ht => kids_first ho f1 f3 t (by omega)) (kids_nil _ _ fun k hk e => ?_), ?_⟩
      · exact (leaf_iff _ _).1 f2 k hk (by omega)
      · unfold mainL
        rw [leaves_head f1 f2 f3]
        show wayM _ _ = _
        unfold wayM
        rw [way_first ho f1 f3 f (Nat.le_refl _), List.map_reverse, List.reverse_reverse]
  rw [h1, h2, Option.bind_some]
  have := iter_app m 1 (annotateMain_L1 ((List.range m).map fun (t : Nat) => (t : Int)) x) (fun t => [rmv x.2.2.1 t]) (fun a => ((a, ()), ())) [] (fun _ _ => Nat.le_refl _) (fun i hi a ha => by
    simp only [List.length_nil] at ha
    have hg : getD' ((List.range m).map fun (t : Nat) => (t : Int)) ((i : Int)).toNat 0 = (i : Int) := by
      rw [Int.toNat_natCast]
      simp [getD', List.getD_eq_getElem?_getD, hi]
    obtain ⟨d, e1, e2, e3⟩ := at_node (ns := x.2.2.1) (n := (i : Int)) (by omega) (by omega)
    unfold annotateMain_L1
    simp only [List.length_map, List.length_range]
    simp only [show decide ((i : Int) < ((m : Nat) : Int)) = true by simp; omega, cond_true]
    rw [inb_iff.2 ⟨by omega, by omega⟩, req_true, hg, e1, Option.bind_some, e3, room_ok (by simp only [List.length_cons, List.length_nil]; omega), req_true, w64_id (n := (i : Int) + 1) (by omega) (by omega), Int.toNat_natCast]) (fun a => by
    unfold annotateMain_L1
    simp only [List.length_map, List.length_range]
    simp)
  rw [this, Option.bind_some]
  simp only [List.nil_append, ← List.map_eq_flatMap]
theorem find_spec {r : Rules} (hr : Rng tyRules r) (x : Rec) (hx : Rng tyRec x) (h30 : x.2.2.1.length ≤ 30) (l : List Mv) : annotateFind r x l = some (if recErr r x ≠ 0 then (0, (recErr r x, ())) else scan (fun i => bif decide (wayM x.2.2.1 (i : Int) = l) then some ((i : Int), (0, ())) else none) (0, (8, ())) 0 x.2.2.1.length) := by
  unfold annotateFind
  rw [rcheck_spec hr x hx h30, Option.bind_some]
  by_cases c : recErr r x = 0
  rotate_left
  · rw [bne_t c, cond_true, if_pos c]
  rw [bne_f c, cond_false, if_neg (fun h => h c)]
  have ho := rec_ord c
  have := iterW_scan x.2.2.1.length (annotateFind_L1 x l) (fun i => bif decide (wayM x.2.2.1 (i : Int) = l) then some (Sum.inr ((i : Int), (0, ()))) else none) (Sum.inl ((), ())) (fun i hi => by
    have hwl := wayN_len _ (i : Int) (Nat.le_refl _) (ho.down.mono (by omega))
    unfold annotateFind_L1
    simp only [show decide ((i : Int) < ((x.2.2.1.length : Nat) : Int)) = true by simp; omega, cond_true]
    rw [way_rec x (by omega) (n := (i : Int)) (by omega) (by omega) (ho.down.mono (by omega)), Option.bind_some, eqMove_spec _ _ (by unfold wayM; rw [List.length_reverse, List.length_map]; omega), Option.bind_some, w64_id (n := (i : Int) + 1) (by omega) (by omega)]
    cases decide (wayM x.2.2.1 (i : Int) = l) <;> rfl) (by unfold annotateFind_L1; simp)
  rw [this, Option.bind_some]
  obtain ⟨o, _, h2⟩ := scan_first (fun i => decide (wayM x.2.2.1 (i : Int) = l)) x.2.2.1.length 0
  rw [h2, h2]
  cases o <;> rfl
theorem ways_spec (ns : List RNode) (h30 : ns.length ≤ 30) (ho : Ord ns ns.length) : ref3Ways ns = some ((List.range ns.length).map fun (i : Nat) => wayM ns (i : Int)) := by
  unfold ref3Ways
  have := iter_app ns.length 1 (ref3Ways_L1 ns) (fun (i : Nat) => [wayM ns (i : Int)]) (fun a => ((a, ()), ())) [] (fun _ _ => Nat.le_refl _) (fun i hi a ha => by
    simp only [List.length_nil] at ha
    unfold ref3Ways_L1
    simp only [show decide ((i : Int) < ((ns.length : Nat) : Int)) = true by simp; omega, cond_true]
    rw [way3 ns (by omega) (n := (i : Int)) (by omega) (by omega) (ho.down.mono (by omega)) (fun j hj => ho.low j (by omega)), Option.bind_some, room_ok (by simp only [List.length_cons, List.length_nil]; omega), req_true, w64_id (n := (i : Int) + 1) (by omega) (by omega)]) (fun a => by unfold ref3Ways_L1; simp)
  rw [this, Option.bind_some]
  simp only [List.nil_append, ← List.map_eq_flatMap]
def firstI (ns : List RNode) (i : Nat) : Int := match (leaves ns i).head? with
  | some f => (f : Int)
  | none => -1
theorem law_L1 (r : Rules) (x : Rec) (h30 : x.2.2.1.length ≤ 30) (ho : Ord x.2.2.1 x.2.2.1.length) : iterW (law3AnnotateLines_L1 x (linesL x.2.2.1, (0, ()))) ((0, (-1), 0, ()), ()) = some (.inl ((((leaves x.2.2.1 x.2.2.1.length).length : Nat), firstI x.2.2.1 x.2.2.1.length, ()), ())) := by
  have := iterW_states (f := law3AnnotateLines_L1 x (linesL x.2.2.1, (0, ()))) x.2.2.1.length (fun i => (((((leaves x.2.2.1 i).length : Nat) : Int), firstI x.2.2.1 i, (i : Int), ()), ())) (.inl ((((leaves x.2.2.1 x.2.2.1.length).length : Nat), firstI x.2.2.1 x.2.2.1.length, ()), ())) (fun i hi => by
    have hll := leaves_len x.2.2.1 i
    have hL2 := iter_all x.2.2.1 (fun d => d.1 != (i : Int)) (law3AnnotateLines_L2 x (((((leaves x.2.2.1 i).length : Nat) : Int), firstI x.2.2.1 i, (i : Int), ()), ())) (fun b => ((b, ()), ())) true (fun j hj b => by
      unfold law3AnnotateLines_L2
      simp only [show decide ((j : Int) < ((x.2.2.1.length : Nat) : Int)) = true by simp; omega, cond_true]
      rw [at_nat _ _ hj, Option.bind_some, w64_id (n := (j : Int) + 1) (by omega) (by omega)]) (fun b => by unfold law3AnnotateLines_L2; simp)
    have hle : (true && x.2.2.1.all fun d => d.1 != (i : Int)) = leafB x.2.2.1 i := by rw [Bool.true_and]; rfl
    rw [hle] at hL2
    unfold law3AnnotateLines_L1
    simp only [show decide ((i : Int) < ((x.2.2.1.length : Nat) : Int)) = true by simp; omega, cond_true]
    rw [hL2, Option.bind_some, way3 x.2.2.1 (by omega) (n := (i : Int)) (by omega) (by omega) (ho.down.mono (by omega)) (fun j hj => ho.low j (by omega)), Option.bind_some]
    simp only
    rw [w64_id (n := (i : Int) + 1) (by omega) (by omega)]
    have hfs : firstI x.2.2.1 (i + 1) = bif leafB x.2.2.1 i && decide (firstI x.2.2.1 i < 0) then (i : Int) else firstI x.2.2.1 i := by
      unfold firstI
      rw [leaves_succ]
      cases hleaf : leafB x.2.2.1 i
      · simp only [cond_false, List.append_nil, Bool.false_and]
      · cases hh : leaves x.2.2.1 i with
        | nil => simp
        | cons a t => simp [show ¬ ((a : Int) < 0) by omega]
    have hks : (leaves x.2.2.1 (i + 1)).length = (leaves x.2.2.1 i).length + (bif leafB x.2.2.1 i then 1 else 0) := by
      rw [leaves_succ, List.length_append]
      cases leafB x.2.2.1 i <;> rfl
    rw [hfs, hks]
    cases hleaf : leafB x.2.2.1 i
    · simp only [Bool.false_and, cond_false, Option.bind_some, Bool.and_false, imp, req_true, gopt, Nat.add_zero]
      rfl
    · obtain ⟨t, ht⟩ := leaves_pre x.2.2.1 (x.2.2.1.length - (i + 1)) (i + 1)
      rw [show i + 1 + (x.2.2.1.length - (i + 1)) = x.2.2.1.length by omega, leaves_succ, hleaf, cond_true, List.append_assoc] at ht
      have hlen : (linesL x.2.2.1).length = (leaves x.2.2.1 i).length + 1 + t.length := by
        unfold linesL
        rw [List.length_map, ht, List.length_append, List.length_append]
        simp; omega
      have hget : getD' (linesL x.2.2.1) (leaves x.2.2.1 i).length [] = wayM x.2.2.1 (i : Int) := by
        unfold linesL getD'
        rw [ht, List.map_append, List.getD_eq_getElem?_getD, List.getElem?_append_right (by rw [List.length_map]; omega), List.length_map, Nat.sub_self]
        rfl
      have hwl := wayN_len _ (i : Int) (Nat.le_refl _) (ho.down.mono (by omega))
      have hsl := sameLine_spec (wayM x.2.2.1 (i : Int)) (wayM x.2.2.1 (i : Int)) (by unfold wayM; rw [List.length_reverse, List.length_map]; omega)
      rw [show decide ((((leaves x.2.2.1 i).length : Nat) : Int) ≥ (((linesL x.2.2.1).length : Nat) : Int)) = false by simp only [decide_eq_false_iff_not]; omega]
      rw [show inb (((leaves x.2.2.1 i).length : Nat) : Int) (linesL x.2.2.1).length = true from inb_iff.2 (by omega)]
      simp only [Bool.true_and, cond_true, Bool.not_false, imp, req_true, gopt, Int.toNat_natCast, hget]
      rw [w64_id (n := (((leaves x.2.2.1 i).length : Nat) : Int) + 1) (by omega) (by omega)]
      cases decide (firstI x.2.2.1 i < 0)
      · simp only [cond_false, Option.bind_some]
        rw [hsl]
        simp
      · simp only [cond_true, Option.bind_some]
        rw [hsl]
        simp) (by
    unfold law3AnnotateLines_L1
    simp only [show decide (((x.2.2.1.length : Nat) : Int) < ((x.2.2.1.length : Nat) : Int)) = false by simp, cond_false])
  exact this
theorem short_spec (x : Rec) : law3Short x = some (x.1, (x.2.1, (x.2.2.1.take 30, x.2.2.2))) := by
  unfold law3Short
  by_cases h : 30 < ((x.2.2.1.length : Nat) : Int)
  · simp only [if_pos h]
    rw [show boundsI 0 30 x.2.2.1.length = true by simp only [boundsI, Bool.and_eq_true, decide_eq_true_eq]; omega, req_true]
    rfl
  · simp only [if_neg h]
    rw [show boundsI 0 ((x.2.2.1.length : Nat) : Int) x.2.2.1.length = true by simp only [boundsI, Bool.and_eq_true, decide_eq_true_eq]; omega, req_true, Int.toNat_natCast, List.take_length, List.drop_zero, List.take_of_length_le (by omega)]
theorem cut_ex (l : List Mv) : ∃ l', law3Cut l = some l' := by
  unfold law3Cut
  by_cases h : 40 < ((l.length : Nat) : Int)
  · simp only [if_pos h]
    rw [show boundsI 0 40 l.length = true by simp only [boundsI, Bool.and_eq_true, decide_eq_true_eq]; omega, req_true]
    exact ⟨_, rfl⟩
  · simp only [if_neg h]
    rw [show boundsI 0 ((l.length : Nat) : Int) l.length = true by simp only [boundsI, Bool.and_eq_true, decide_eq_true_eq]; omega, req_true]
    exact ⟨_, rfl⟩
def demoR : Rec := ([], (ByteArray.mk #[], ([(-1, ((-1, (0, (0, ()))), (ByteArray.mk #[], ())))], (0, ()))))
theorem demo_rng : Rng tyRec demoR := rngB_ok _ _ (by decide +kernel)
theorem demo_ok : recErr law3Tic demoR = 0 := by decide +kernel
theorem annotates_true : law3Annotates = some true := by
  unfold law3Annotates
  have h := path_spec tic_rng demoR demo_rng (by decide) 0
  rw [if_neg (fun h => h demo_ok), if_neg (by decide)] at h
  have h' : annotatePath ((law3Tic).1, (((law3Tic).2).1, ((((law3Tic).2).2).1, (((((law3Tic).2).2).2).1, ((((((law3Tic).2).2).2).2).1, (((((((law3Tic).2).2).2).2).2).1, ((((((((law3Tic).2).2).2).2).2).2).1, (((((((((law3Tic).2).2).2).2).2).2).2).1, ((((((((((law3Tic).2).2).2).2).2).2).2).2).1, (((((((((((law3Tic).2).2).2).2).2).2).2).2).2).1, ((((((((((((law3Tic).2).2).2).2).2).2).2).2).2).2).1, ()))))))))))) ([], ((ByteArray.mk #[]), ([(-1, ((law3Drop 0), ((ByteArray.mk #[]), ())))], (0, ())))) 0 = _ := h
  rw [h', Option.bind_some]
  decide +kernel
/-- ████ THE LAW, in plain Lean ████ -/
theorem law3AnnotateLines_true (r : Rules) (x : Rec) (node : Int) (l : List Mv) (hr : Rng tyRules r) (hx : Rng tyRec x) (hnode : Rng (.int .i64) node) (hl : Rng (.sl tyMv) l) : law3AnnotateLines r x node l = some true := by
  unfold law3AnnotateLines
  obtain ⟨l', hl'⟩ := cut_ex l
  obtain ⟨y, hy, h30, hyr⟩ : ∃ y : Rec, law3Short x = some y ∧ y.2.2.1.length ≤ 30 ∧ Rng tyRec y := by
    refine ⟨_, short_spec x, ?_, ⟨hx.1, hx.2.1, ⟨?_, fun d hd => hx.2.2.1.2 d (List.mem_of_mem_take hd)⟩, hx.2.2.2⟩⟩
    · show (x.2.2.1.take 30).length ≤ 30
      rw [List.length_take]
      omega
    · have := hx.2.2.1.1
      show (x.2.2.1.take 30).length ≤ _
      rw [List.length_take]
      exact Nat.le_trans (Nat.min_le_right _ _) this
  rw [annotates_true, Option.bind_some, hy, hl']
  simp only [Bool.not_true, cond_false, Option.bind_some]
  cases hg : law3Great r
  rotate_left
  · rfl
  simp only [cond_false]
  rw [fault_spec hr y hyr h30, Option.bind_some, lines_spec hr y hyr h30, Option.bind_some, main_spec hr y hyr h30, Option.bind_some, path_spec hr y hyr h30, Option.bind_some, find_spec hr y hyr h30, Option.bind_some]
  by_cases c : recErr r y = 0
  rotate_left
  · simp only [if_pos c, bne_t c, cond_true, beq_self_eq_true, Bool.and_self]
    rfl
  have ho := rec_ord c
  simp only [c, ne_eq, not_true_eq_false, if_false, bne_self_eq_false, cond_false]
  -- the way to the node
  have e1 : ∀ (w : List Mv × Int × Unit), w = (if node < 0 ∨ ((y.2.2.1.length : Nat) : Int) ≤ node then ([], (1, ())) else (wayM y.2.2.1 node, (0, ()))) →
      (bif ((decide (node < 0)) || (decide (node ≥ ((y.2.2.1.length : Nat) : Int)))) then (bif ((w.2.1 != 1) || (decide (((w.1.length : Nat) : Int) > 0))) then (some (Sum.inr false) : Option ((Unit × Unit) ⊕ Bool)) else some (Sum.inl ((), ())))
        else Option.bind (ref3Way y.2.2.1 node) fun r20 => Option.bind (gopt (!(w.2.1 != 0)) false (ref3SameLine w.1 r20.1)) fun r21 => bif ((w.2.1 != 0) || (!r21)) then some (Sum.inr false) else some (Sum.inl ((), ()))) = some (Sum.inl ((), ())) := fun w hw => by
    by_cases c1 : node < 0 ∨ ((y.2.2.1.length : Nat) : Int) ≤ node
    · rw [if_pos c1] at hw
      subst hw
      rw [show (decide (node < 0) || decide (node ≥ ((y.2.2.1.length : Nat) : Int))) = true by simp only [Bool.or_eq_true, decide_eq_true_eq]; omega]
      rfl
    · rw [if_neg c1] at hw
      subst hw
      have hwl := wayN_len _ node (Nat.le_refl _) (ho.down.mono (by omega))
      rw [show (decide (node < 0) || decide (node ≥ ((y.2.2.1.length : Nat) : Int))) = false by simp only [Bool.or_eq_false_iff, decide_eq_false_iff_not]; omega, cond_false]
      rw [way3 y.2.2.1 (by omega) (n := node) (by omega) (by omega) (ho.down.mono (by omega)) (fun j hj => ho.low j (by omega)), Option.bind_some]
      simp only [bne_self_eq_false, Bool.not_false, gopt, cond_true, Bool.false_or]
      rw [sameLine_spec _ _ (by unfold wayM; rw [List.length_reverse, List.length_map]; omega)]
      simp
  rw [e1 _ rfl, Option.bind_some]
  simp only [Sum.elim_inl]
  rw [law_L1 r y h30 ho, Option.bind_some]
  simp only [Sum.elim_inl]
  have hlen : (linesL y.2.2.1).length = (leaves y.2.2.1 y.2.2.1.length).length := by unfold linesL; rw [List.length_map]
  have hfirst : ref3Way y.2.2.1 (firstI y.2.2.1 y.2.2.1.length) = some (mainL y.2.2.1, (true, ())) := by
    unfold firstI mainL
    cases hh : (leaves y.2.2.1 y.2.2.1.length).head? with
    | none =>
      have := way3 y.2.2.1 (by omega) (n := -1) (by omega) (by omega) (fun i hi => by simp at hi) (fun i hi => by simp at hi)
      rw [show wayM y.2.2.1 (-1) = [] by unfold wayM; rw [wayN_neg _ (by omega)]; rfl] at this
      exact this
    | some f =>
      have hf : f < y.2.2.1.length := by
        have := List.mem_of_mem_head? hh
        unfold leaves at this
        exact List.mem_range.1 (List.mem_filter.1 this).1
      exact way3 y.2.2.1 (by omega) (n := (f : Int)) (by omega) (by omega) (ho.down.mono (by omega)) (fun j hj => ho.low j (by omega))
  have hml : (mainL y.2.2.1).length ≤ 1000 := by
    unfold mainL
    cases hh : (leaves y.2.2.1 y.2.2.1.length).head? with
    | none => exact Nat.zero_le _
    | some f =>
      have hf : f < y.2.2.1.length := by
        have := List.mem_of_mem_head? hh
        unfold leaves at this
        exact List.mem_range.1 (List.mem_filter.1 this).1
      have hwl := wayN_len _ (f : Int) (Nat.le_refl _) (ho.down.mono (by omega))
      show (wayM y.2.2.1 (f : Int)).length ≤ 1000
      unfold wayM
      rw [List.length_reverse, List.length_map]
      omega
  rw [hfirst, Option.bind_some, hlen]
  simp only [bne_self_eq_false, Bool.or_self, Bool.not_false, gopt, cond_true, Bool.false_or]
  rw [sameLine_spec _ _ (by omega)]
  simp only [decide_true, Option.bind_some, Bool.not_true, cond_false]
  rw [ways_spec y.2.2.1 h30 ho, Option.bind_some]
  -- the search
  obtain ⟨o, h1, h2⟩ := scan_first (fun i => decide (wayM y.2.2.1 (i : Int) = l')) y.2.2.1.length 0
  have hS : ∀ w : Int × Int × Unit, iterW (law3AnnotateLines_L3 ((List.range y.2.2.1.length).map fun (i : Nat) => wayM y.2.2.1 (i : Int)) l' w) ((0, ()), ()) = some (o.elim (Sum.inl ((), ())) fun f => Sum.inr ((w.2.1 == 0) && (w.1 == (f : Int)))) := fun w => by
    rw [← h2 _ (fun f => Sum.inr ((w.2.1 == 0) && (w.1 == (f : Int)))) (Sum.inl ((), ()))]
    have hN : ((List.range y.2.2.1.length).map fun (i : Nat) => wayM y.2.2.1 (i : Int)).length = y.2.2.1.length := by simp
    refine iterW_scan y.2.2.1.length _ _ _ (fun i hi => ?_) ?_
    · have hwl := wayN_len _ (i : Int) (Nat.le_refl _) (ho.down.mono (by omega))
      have hg : getD' ((List.range y.2.2.1.length).map fun (i : Nat) => wayM y.2.2.1 (i : Int)) ((i : Int)).toNat [] = wayM y.2.2.1 (i : Int) := by
        rw [Int.toNat_natCast]
        simp [getD', List.getD_eq_getElem?_getD, hi]
      unfold law3AnnotateLines_L3
      rw [hN]
      simp only [show decide ((i : Int) < ((y.2.2.1.length : Nat) : Int)) = true by simp; omega, cond_true]
      rw [inb_iff.2 ⟨by omega, by omega⟩, req_true, hg, sameLine_spec _ _ (by unfold wayM; rw [List.length_reverse, List.length_map]; omega), Option.bind_some, w64_id (n := (i : Int) + 1) (by omega) (by omega)]
      cases decide (wayM y.2.2.1 (i : Int) = l') <;> rfl
    · unfold law3AnnotateLines_L3
      rw [hN]
      simp
  rw [hS, h2]
  cases o <;> simp
end Go.Proofs.YticeklcmijbjfaaGreat
