/- Records: children, leaves, the main line. No condition of its own. -/
import Derived.Test.YticeklcmijbjfaaGreatRecC
namespace Go.Proofs.YticeklcmijbjfaaGreat
open Go.Den
set_option linter.unusedVariables false
set_option linter.unusedSimpArgs false
set_option maxRecDepth 100000

theorem eqL_of {a b : List Mv} (hl : a.length = b.length) : (List.range a.length).any (fun i => !(a.getD i (0, (0, (0, ()))) == b.getD i (0, (0, (0, ()))))) = !(decide (a = b)) := by
  cases hany : (List.range a.length).any (fun i => !(a.getD i (0, (0, (0, ()))) == b.getD i (0, (0, (0, ()))))) with
  | true =>
    rw [List.any_eq_true] at hany
    obtain ⟨i, _, h⟩ := hany
    have : ¬ a = b := fun e => by subst e; simp at h
    simp [this]
  | false =>
    rw [List.any_eq_false] at hany
    have : a = b := by
      apply List.ext_getElem hl
      intro i h1 h2
      have := hany i (List.mem_range.2 h1)
      simpa [List.getD_eq_getElem?_getD, h1, h2] using this
    simp [this]
theorem sameLine_spec (a b : List Mv) (ha : a.length ≤ 1000000000) : ref3SameLine a b = some (decide (a = b)) := by
  unfold ref3SameLine
  by_cases hl : a.length = b.length
  · rw [bne_f (show ((a.length : Nat) : Int) = ((b.length : Nat) : Int) by omega), cond_false]
    have hL := iterW_any (List.range a.length) (fun i => !(a.getD i (0, (0, (0, ()))) == b.getD i (0, (0, (0, ()))))) (ref3SameLine_L1 a b) (.inr false) (.inl ((), ())) (fun i hi => by
      have hi' : i < a.length := by simpa using hi
      unfold ref3SameLine_L1
      simp only [show decide ((i : Int) < ((a.length : Nat) : Int)) = true by simp; omega, cond_true, List.getElem_range]
      rw [at_nat a i hi', at_nat b i (by omega), Option.bind_some, Option.bind_some, w64_id (n := (i : Int) + 1) (by omega) (by omega)]
      have := eqMv_iff a[i] (b[i]'(by omega))
      unfold eqMv at this
      rw [this, List.getD_eq_getElem?_getD, List.getD_eq_getElem?_getD, List.getElem?_eq_getElem hi', List.getElem?_eq_getElem (show i < b.length by omega), Option.getD_some, Option.getD_some]
      cases (a[i] == b[i]'(by omega)) <;> rfl) (by unfold ref3SameLine_L1; simp)
    rw [hL, eqL_of hl]
    cases decide (a = b) <;> rfl
  · rw [bne_t (show ¬ ((a.length : Nat) : Int) = ((b.length : Nat) : Int) by omega), cond_true]
    have : ¬ a = b := fun h => hl (by rw [h])
    simp [this]
/-- the children's numbers -/
def kidsI (ns : List RNode) (p : Int) : List Int := (List.range ns.length).flatMap fun (k : Nat) => bif rpar ns k == p then [(k : Int)] else []
theorem kids_spec (x : Rec) (p : Int) (h30 : x.2.2.1.length ≤ 1000) : recordKids x p = some (kidsI x.2.2.1 p) := by
  unfold recordKids kidsI
  have := iter_app x.2.2.1.length 1 (recordKids_L1 x p) (fun k => bif rpar x.2.2.1 k == p then [(k : Int)] else []) (fun a => ((a, ()), ())) [] (fun k _ => by
    cases (rpar x.2.2.1 k == p)
    · exact Nat.zero_le _
    · exact Nat.le_refl _) (fun i hi a ha => by
    simp only [List.length_nil] at ha
    unfold recordKids_L1
    simp only [show decide ((i : Int) < ((x.2.2.1.length : Nat) : Int)) = true by simp; omega, cond_true]
    rw [at_nat _ _ hi, Option.bind_some, (node_at hi).1, w64_id (n := (i : Int) + 1) (by omega) (by omega)]
    cases (rpar x.2.2.1 i == p)
    · simp only [cond_false, Option.bind_some, List.append_nil]
    · simp only [cond_true]
      rw [room_ok (by simp only [List.length_cons, List.length_nil]; omega), req_true]
      rfl) (fun a => by unfold recordKids_L1; simp)
  rw [this]
  rfl
def leafB (ns : List RNode) (i : Nat) : Bool := ns.all fun d => d.1 != (i : Int)
theorem leaf_iff (ns : List RNode) (i : Nat) : leafB ns i = true ↔ ∀ k, k < ns.length → ¬ rpar ns k = (i : Int) := by
  unfold leafB
  rw [List.all_eq_true]
  constructor
  · intro h k hk
    have := h _ (List.getElem_mem hk)
    rw [(node_at hk).1] at this
    simpa using this
  · intro h d hd
    obtain ⟨k, hk, rfl⟩ := List.mem_iff_getElem.1 hd
    rw [(node_at hk).1]
    simpa using h k hk
theorem kids_nil (ns : List RNode) (p : Int) (h : ∀ k, k < ns.length → ¬ rpar ns k = p) : kidsI ns p = [] := by
  unfold kidsI
  rw [List.flatMap_eq_nil_iff]
  intro k hk
  rw [beq_f (h k (List.mem_range.1 hk))]
  rfl
theorem kids_head (ns : List RNode) (p : Int) (m : Nat) (hm : m < ns.length) (h1 : ∀ k, k < m → ¬ rpar ns k = p) (h2 : rpar ns m = p) : ∃ t, kidsI ns p = (m : Int) :: t := by
  unfold kidsI
  obtain ⟨d, hd⟩ : ∃ d, ns.length = m + (d + 1) := ⟨ns.length - m - 1, by omega⟩
  rw [hd, List.range_add, List.flatMap_append, List.range_succ_eq_map, List.map_cons, List.flatMap_cons]
  have e0 : (List.range m).flatMap (fun (k : Nat) => bif rpar ns k == p then [(k : Int)] else []) = [] := by
    rw [List.flatMap_eq_nil_iff]
    intro k hk
    rw [beq_f (h1 k (List.mem_range.1 hk))]
    rfl
  rw [e0, Nat.add_zero, beq_t h2]
  exact ⟨_, rfl⟩
theorem kids_leaf (ns : List RNode) (i : Nat) : ((((kidsI ns (i : Int)).length : Nat) : Int) == 0) = leafB ns i := by
  rw [Bool.eq_iff_iff, leaf_iff, beq_iff_eq]
  constructor
  · intro h k hk e
    have hn : kidsI ns (i : Int) = [] := List.eq_nil_of_length_eq_zero (by omega)
    unfold kidsI at hn
    rw [List.flatMap_eq_nil_iff] at hn
    have := hn k (List.mem_range.2 hk)
    rw [beq_t e] at this
    cases this
  · intro h
    rw [kids_nil ns _ h]
    rfl
/-! preorder -/
theorem way_sub {ns : List RNode} : ∀ (k : Nat) (m : Int), (m + 1).toNat ≤ k → Down ns (m + 1).toNat → ∀ p ∈ wayN ns m, ∀ q ∈ wayN ns (p : Int), q ∈ wayN ns m
  | 0, m, hk, _, p, hp, q, hq => by rw [wayN_neg ns (by omega)] at hp; cases hp
  | k + 1, m, hk, hd, p, hp, q, hq => by
    by_cases h : m < 0
    · rw [wayN_neg ns h] at hp; cases hp
    · have hlt := hd m.toNat (by omega)
      have hw := wayN_pos (ns := ns) (n := m) (by omega) hd
      rw [hw] at hp
      rcases List.mem_cons.1 hp with rfl | hp
      · rw [show ((m.toNat : Nat) : Int) = m by omega] at hq; exact hq
      · rw [hw]
        exact List.mem_cons_of_mem _ (way_sub k (rpar ns m.toNat) (by omega) (hd.mono (by omega)) p hp q hq)
theorem ord_cases {ns : List RNode} {k i : Nat} (h : Ord ns k) (hi : i < k) : rpar ns i = -1 ∨ (0 ≤ rpar ns i ∧ (rpar ns i).toNat ∈ wayN ns ((i : Int) - 1)) := by
  have := h i hi
  unfold ordB at this
  simp only [Bool.and_eq_true, Bool.or_eq_true, decide_eq_true_eq, beq_iff_eq] at this
  rcases this.2 with h | h
  · exact .inr h
  · exact .inl h
/-- whoever has children has the next node as the first one -/
theorem first_kid {ns : List RNode} (h : Ord ns ns.length) {i : Nat} (hi : i < ns.length) (hl : leafB ns i = false) : i + 1 < ns.length ∧ rpar ns (i + 1) = (i : Int) := by
  have hd := h.down
  have hex : ∃ j, j < ns.length ∧ rpar ns j = (i : Int) := by
    refine Classical.byContradiction fun hn => ?_
    have : leafB ns i = true := (leaf_iff ns i).2 fun k hk e => hn ⟨k, hk, e⟩
    rw [this] at hl; cases hl
  obtain ⟨j, hj, hji⟩ := hex
  have hjlt := hd j hj
  have hin : i + 1 < ns.length := by omega
  refine ⟨hin, Classical.byContradiction fun hne => ?_⟩
  have key : ∀ d : Nat, i + 1 + d < ns.length → i ∉ wayN ns ((i + 1 + d : Nat) : Int) := by
    intro d
    induction d with
    | zero =>
      intro hlt hm
      rw [wayN_pos (by omega) (hd.mono (by omega)), Int.toNat_natCast] at hm
      have hp := hd (i + 1) hin
      rcases List.mem_cons.1 hm with e | hm
      · omega
      · have := wayN_le _ _ (Nat.le_refl _) (hd.mono (by simp only [Nat.add_zero] at hp ⊢; omega)) _ hm
        simp only [Nat.add_zero] at this
        omega
    | succ d ih =>
      intro hlt hm
      have ih := ih (by omega)
      rw [wayN_pos (by omega) (hd.mono (by omega)), Int.toNat_natCast] at hm
      rcases List.mem_cons.1 hm with e | hm
      · omega
      · rcases ord_cases h hlt with e | ⟨e1, e2⟩
        · rw [e, wayN_neg ns (by omega)] at hm; cases hm
        · rw [show ((i + 1 + (d + 1) : Nat) : Int) - 1 = ((i + 1 + d : Nat) : Int) by omega] at e2
          refine ih (way_sub _ _ (Nat.le_refl _) (hd.mono (by omega)) _ e2 _ ?_)
          rw [show (((rpar ns (i + 1 + (d + 1))).toNat : Nat) : Int) = rpar ns (i + 1 + (d + 1)) by omega]
          exact hm
  by_cases hj1 : j = i + 1
  · subst hj1; exact hne hji
  · rcases ord_cases h hj with e | ⟨e1, e2⟩
    · omega
    · have := key (j - (i + 2)) (by omega)
      rw [show ((i + 1 + (j - (i + 2)) : Nat) : Int) = (j : Int) - 1 by omega] at this
      rw [hji, Int.toNat_natCast] at e2
      exact this e2
/-- the way to the first leaf -/
theorem way_first {ns : List RNode} (h : Ord ns ns.length) {f : Nat} (hf : f < ns.length) (hl : ∀ j, j < f → leafB ns j = false) : ∀ i, i ≤ f → wayN ns (i : Int) = (List.range (i + 1)).reverse := by
  have hd := h.down
  intro i
  induction i with
  | zero =>
    intro _
    have h0 := hd 0 (by omega)
    rw [wayN_pos (by omega) (hd.mono (by omega)), wayN_neg ns (by simp only [Int.natCast_zero, Int.toNat_zero] at h0 ⊢; omega)]
    rfl
  | succ i ih =>
    intro hi
    have := (first_kid h (by omega) (hl i (by omega))).2
    rw [wayN_pos (by omega) (hd.mono (by omega)), Int.toNat_natCast, this, ih (by omega), show List.range (i + 1 + 1) = List.range (i + 1) ++ [i + 1] from List.range_succ, List.reverse_append]
    rfl
theorem kids_first {ns : List RNode} (h : Ord ns ns.length) {f : Nat} (hf : f < ns.length) (hl : ∀ j, j < f → leafB ns j = false) (t : Nat) (ht : t ≤ f) : ∃ r, kidsI ns ((t : Int) - 1) = (t : Int) :: r := by
  have hd := h.down
  match t, ht with
  | 0, _ =>
    have h0 := hd 0 (by omega)
    have h1 := h.low 0 (by omega)
    exact kids_head ns _ 0 (by omega) (fun k hk => by omega) (by simp only [Int.natCast_zero] at h0 ⊢; omega)
  | t + 1, ht =>
    have := first_kid h (i := t) (by omega) (hl t (by omega))
    refine kids_head ns _ (t + 1) this.1 (fun k hk e => ?_) (by rw [this.2]; omega)
    have := hd k (by omega)
    omega
theorem last_leaf {ns : List RNode} (h : Down ns ns.length) (h0 : 0 < ns.length) : leafB ns (ns.length - 1) = true := by
  rw [leaf_iff]
  intro k hk e
  have := h k hk
  omega
/-- the first leaf -/
theorem leaf_ex {ns : List RNode} (h : Down ns ns.length) (h0 : 0 < ns.length) : ∃ f, f < ns.length ∧ leafB ns f = true ∧ ∀ j, j < f → leafB ns j = false := by
  cases hf : (List.range ns.length).find? (leafB ns) with
  | none =>
    rw [List.find?_eq_none] at hf
    exact absurd (last_leaf h h0) (hf _ (List.mem_range.2 (by omega)))
  | some f =>
    rw [List.find?_range_eq_some] at hf
    exact ⟨f, List.mem_range.1 hf.2.1, hf.1, fun j hj => by simpa using hf.2.2 j hj⟩
def leaves (ns : List RNode) (i : Nat) : List Nat := (List.range i).filter (leafB ns)
theorem leaves_succ (ns : List RNode) (i : Nat) : leaves ns (i + 1) = leaves ns i ++ (bif leafB ns i then [i] else []) := by
  unfold leaves
  rw [List.range_succ, List.filter_append]
  congr 1
theorem leaves_pre (ns : List RNode) : ∀ (d i : Nat), ∃ t, leaves ns (i + d) = leaves ns i ++ t
  | 0, i => ⟨[], by simp⟩
  | d + 1, i => by
    obtain ⟨t, ht⟩ := leaves_pre ns d i
    exact ⟨t ++ (bif leafB ns (i + d) then [i + d] else []), by rw [← Nat.add_assoc, leaves_succ, ht, List.append_assoc]⟩
theorem leaves_len (ns : List RNode) (i : Nat) : (leaves ns i).length ≤ i := by
  unfold leaves
  have := List.length_filter_le (leafB ns) (List.range i)
  rw [List.length_range] at this
  exact this
end Go.Proofs.YticeklcmijbjfaaGreat
