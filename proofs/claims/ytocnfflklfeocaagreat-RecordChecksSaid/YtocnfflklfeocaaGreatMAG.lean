/- Several texts in one: Records: children, leaves, the main line. No condition of its own.; Recursions: RecordChecks. No condition of its own.; RecordChecks: the plain law. No condition of its own. -/
import Derived.Test.YtocnfflklfeocaaGreatRecC
import Derived.Test.YtocnfflklfeocaaGreatMAE
import Derived.Test.YtocnfflklfeocaaGreatMAF
namespace Go.Proofs.YtocnfflklfeocaaGreat
open Go.Den
set_option linter.unusedVariables false
set_option linter.unusedSimpArgs false
set_option maxRecDepth 100000

theorem eqL_of {a b : List Mv} (hl : a.length = b.length) : (List.range a.length).any (fun i => !(a.getD i (0, (0, (0, ()))) == b.getD i (0, (0, (0, ()))))) = !(decide (a = b)) := by
  cases hany : (List.range a.length).any (fun i => !(a.getD i (0, (0, (0, ()))) == b.getD i (0, (0, (0, ()))))) with
  | true =>
    rw [List.any_eq_true] at hany
    obtain ⟨i, _, h⟩ := hany
    have : ¬ a = b := fun e => by subst e; simp at h
    simp [this]
  | false =>
    rw [List.any_eq_false] at hany
    have : a = b := by
      apply List.ext_getElem hl
      intro i h1 h2
      have := hany i (List.mem_range.2 h1)
      simpa [List.getD_eq_getElem?_getD, h1, h2] using this
    simp [this]
theorem sameLine_spec (a b : List Mv) (ha : a.length ≤ 1000000000) : ref3SameLine a b = some (decide (a = b)) := by
  unfold ref3SameLine
  by_cases hl : a.length = b.length
  · rw [bne_f (show ((a.length : Nat) : Int) = ((b.length : Nat) : Int) by omega), cond_false]
    have hL := iterW_any (List.range a.length) (fun i => !(a.getD i (0, (0, (0, ()))) == b.getD i (0, (0, (0, ()))))) (ref3SameLine_L1 a b) (.inr false) (.inl ((), ())) (fun i hi => by
      have hi' : i < a.length := by simpa using hi
      unfold ref3SameLine_L1
      simp only [show decide ((i : Int) < ((a.length : Nat) : Int)) = true by simp; omega, cond_true, List.getElem_range]
      rw [at_nat a i hi', at_nat b i (by omega), Option.bind_some, Option.bind_some, w64_id (n := (i : Int) + 1) (by omega) (by omega)]
      have := eqMv_iff a[i] (b[i]'(by omega))
      unfold eqMv at this
      rw [this, List.getD_eq_getElem?_getD, List.getD_eq_getElem?_getD, List.getElem?_eq_getElem hi', List.getElem?_eq_getElem (show i < b.length by omega), Option.getD_some, Option.getD_some]
      cases (a[i] == b[i]'(by omega)) <;> rfl) (by unfold ref3SameLine_L1; simp)
    rw [hL, eqL_of hl]
    cases decide (a = b) <;> rfl
  · rw [bne_t (show ¬ ((a.length : Nat) : Int) = ((b.length : Nat) : Int) by omega), cond_true]
    have : ¬ a = b := fun h => hl (by rw [h])
    simp [this]
/-- the children's numbers -/
def kidsI (ns : List RNode) (p : Int) : List Int := (List.range ns.length).flatMap fun (k : Nat) => bif rpar ns k == p then [(k : Int)] else []
theorem kids_spec (x : Rec) (p : Int) (h30 : x.2.2.1.length ≤ 1000) : recordKids x p = some (kidsI x.2.2.1 p) := by
  unfold recordKids kidsI
  have := iter_app x.2.2.1.length 1 (recordKids_L1 x p) (fun k => bif rpar x.2.2.1 k == p then [(k : Int)] else []) (fun a => ((a, ()), ())) [] (fun k _ => by
    cases (rpar x.2.2.1 k == p)
    · exact Nat.zero_le _
    · exact Nat.le_refl _) (fun i hi a ha => by
    simp only [List.length_nil] at ha
    unfold recordKids_L1
    simp only [show decide ((i : Int) < ((x.2.2.1.length : Nat) : Int)) = true by simp; omega, cond_true]
    rw [at_nat _ _ hi, Option.bind_some, (node_at hi).1, w64_id (n := (i : Int) + 1) (by omega) (by omega)]
    cases (rpar x.2.2.1 i == p)
    · simp only [cond_false, Option.bind_some, List.append_nil]
    · simp only [cond_true]
      rw [room_ok (by simp only [List.length_cons, List.length_nil]; omega), req_true]
      rfl) (fun a => by unfold recordKids_L1; simp)
  rw [this]
  rfl
def leafB (ns : List RNode) (i : Nat) : Bool := ns.all fun d => d.1 != (i : Int)
theorem leaf_iff (ns : List RNode) (i : Nat) : leafB ns i = true ↔ ∀ k, k < ns.length → ¬ rpar ns k = (i : Int) := by
  unfold leafB
  rw [List.all_eq_true]
  constructor
  · intro h k hk
    have := h _ (List.getElem_mem hk)
    rw [(node_at hk).1] at this
    simpa using this
  · intro h d hd
    obtain ⟨k, hk, rfl⟩ := List.mem_iff_getElem.1 hd
    rw [(node_at hk).1]
    simpa using h k hk
theorem kids_nil (ns : List RNode) (p : Int) (h : ∀ k, k < ns.length → ¬ rpar ns k = p) : kidsI ns p = [] := by
  unfold kidsI
  rw [List.flatMap_eq_nil_iff]
  intro k hk
  rw [beq_f (h k (List.mem_range.1 hk))]
  rfl
theorem kids_head (ns : List RNode) (p : Int) (m : Nat) (hm : m < ns.length) (h1 : ∀ k, k < m → ¬ rpar ns k = p) (h2 : rpar ns m = p) : ∃ t, kidsI ns p = (m : Int) :: t := by
  unfold kidsI
  obtain ⟨d, hd⟩ : ∃ d, ns.length = m + (d + 1) := ⟨ns.length - m - 1, by omega⟩
  rw [hd, List.range_add, List.flatMap_append, List.range_succ_eq_map, List.map_cons, List.flatMap_cons]
  have e0 : (List.range m).flatMap (fun (k : Nat) => bif rpar ns k == p then [(k : Int)] else []) = [] := by
    rw [List.flatMap_eq_nil_iff]
    intro k hk
    rw [beq_f (h1 k (List.mem_range.1 hk))]
    rfl
  rw [e0, Nat.add_zero, beq_t h2]
  exact ⟨_, rfl⟩
theorem kids_leaf (ns : List RNode) (i : Nat) : ((((kidsI ns (i : Int)).length : Nat) : Int) == 0) = leafB ns i := by
  rw [Bool.eq_iff_iff, leaf_iff, beq_iff_eq]
  constructor
  · intro h k hk e
    have hn : kidsI ns (i : Int) = [] := List.eq_nil_of_length_eq_zero (by omega)
    unfold kidsI at hn
    rw [List.flatMap_eq_nil_iff] at hn
    have := hn k (List.mem_range.2 hk)
    rw [beq_t e] at this
    cases this
  · intro h
    rw [kids_nil ns _ h]
    rfl
/-! preorder -/
theorem way_sub {ns : List RNode} : ∀ (k : Nat) (m : Int), (m + 1).toNat ≤ k → Down ns (m + 1).toNat → ∀ p ∈ wayN ns m, ∀ q ∈ wayN ns (p : Int), q ∈ wayN ns m
  | 0, m, hk, _, p, hp, q, hq => by rw [wayN_neg ns (by omega)] at hp; cases hp
  | k + 1, m, hk, hd, p, hp, q, hq => by
    by_cases h : m < 0
    · rw [wayN_neg ns h] at hp; cases hp
    · have hlt := hd m.toNat (by omega)
      have hw := wayN_pos (ns := ns) (n := m) (by omega) hd
      rw [hw] at hp
      rcases List.mem_cons.1 hp with rfl | hp
      · rw [show ((m.toNat : Nat) : Int) = m by omega] at hq; exact hq
      · rw [hw]
        exact List.mem_cons_of_mem _ (way_sub k (rpar ns m.toNat) (by omega) (hd.mono (by omega)) p hp q hq)
theorem ord_cases {ns : List RNode} {k i : Nat} (h : Ord ns k) (hi : i < k) : rpar ns i = -1 ∨ (0 ≤ rpar ns i ∧ (rpar ns i).toNat ∈ wayN ns ((i : Int) - 1)) := by
  have := h i hi
  unfold ordB at this
  simp only [Bool.and_eq_true, Bool.or_eq_true, decide_eq_true_eq, beq_iff_eq] at this
  rcases this.2 with h | h
  · exact .inr h
  · exact .inl h
/-- whoever has children has the next node as the first one -/
theorem first_kid {ns : List RNode} (h : Ord ns ns.length) {i : Nat} (hi : i < ns.length) (hl : leafB ns i = false) : i + 1 < ns.length ∧ rpar ns (i + 1) = (i : Int) := by
  have hd := h.down
  have hex : ∃ j, j < ns.length ∧ rpar ns j = (i : Int) := by
    refine Classical.byContradiction fun hn => ?_
    have : leafB ns i = true := (leaf_iff ns i).2 fun k hk e => hn ⟨k, hk, e⟩
    rw [this] at hl; cases hl
  obtain ⟨j, hj, hji⟩ := hex
  have hjlt := hd j hj
  have hin : i + 1 < ns.length := by omega
  refine ⟨hin, Classical.byContradiction fun hne => ?_⟩
  have key : ∀ d : Nat, i + 1 + d < ns.length → i ∉ wayN ns ((i + 1 + d : Nat) : Int) := by
    intro d
    induction d with
    | zero =>
      intro hlt hm
      rw [wayN_pos (by omega) (hd.mono (by omega)), Int.toNat_natCast] at hm
      have hp := hd (i + 1) hin
      rcases List.mem_cons.1 hm with e | hm
      · omega
      · have := wayN_le _ _ (Nat.le_refl _) (hd.mono (by simp only [Nat.add_zero] at hp ⊢; omega)) _ hm
        simp only [Nat.add_zero] at this
        omega
    | succ d ih =>
      intro hlt hm
      have ih := ih (by omega)
      rw [wayN_pos (by omega) (hd.mono (by omega)), Int.toNat_natCast] at hm
      rcases List.mem_cons.1 hm with e | hm
      · omega
      · rcases ord_cases h hlt with e | ⟨e1, e2⟩
        · rw [e, wayN_neg ns (by omega)] at hm; cases hm
        · rw [show ((i + 1 + (d + 1) : Nat) : Int) - 1 = ((i + 1 + d : Nat) : Int) by omega] at e2
          refine ih (way_sub _ _ (Nat.le_refl _) (hd.mono (by omega)) _ e2 _ ?_)
          rw [show (((rpar ns (i + 1 + (d + 1))).toNat : Nat) : Int) = rpar ns (i + 1 + (d + 1)) by omega]
          exact hm
  by_cases hj1 : j = i + 1
  · subst hj1; exact hne hji
  · rcases ord_cases h hj with e | ⟨e1, e2⟩
    · omega
    · have := key (j - (i + 2)) (by omega)
      rw [show ((i + 1 + (j - (i + 2)) : Nat) : Int) = (j : Int) - 1 by omega] at this
      rw [hji, Int.toNat_natCast] at e2
      exact this e2
/-- the way to the first leaf -/
theorem way_first {ns : List RNode} (h : Ord ns ns.length) {f : Nat} (hf : f < ns.length) (hl : ∀ j, j < f → leafB ns j = false) : ∀ i, i ≤ f → wayN ns (i : Int) = (List.range (i + 1)).reverse := by
  have hd := h.down
  intro i
  induction i with
  | zero =>
    intro _
    have h0 := hd 0 (by omega)
    rw [wayN_pos (by omega) (hd.mono (by omega)), wayN_neg ns (by simp only [Int.natCast_zero, Int.toNat_zero] at h0 ⊢; omega)]
    rfl
  | succ i ih =>
    intro hi
    have := (first_kid h (by omega) (hl i (by omega))).2
    rw [wayN_pos (by omega) (hd.mono (by omega)), Int.toNat_natCast, this, ih (by omega), show List.range (i + 1 + 1) = List.range (i + 1) ++ [i + 1] from List.range_succ, List.reverse_append]
    rfl
theorem kids_first {ns : List RNode} (h : Ord ns ns.length) {f : Nat} (hf : f < ns.length) (hl : ∀ j, j < f → leafB ns j = false) (t : Nat) (ht : t ≤ f) : ∃ r, kidsI ns ((t : Int) - 1) = (t : Int) :: r := by
  have hd := h.down
  match t, ht with
  | 0, _ =>
    have h0 := hd 0 (by omega)
    have h1 := h.low 0 (by omega)
    exact kids_head ns _ 0 (by omega) (fun k hk => by omega) (by simp only [Int.natCast_zero] at h0 ⊢; omega)
  | t + 1, ht =>
    have := first_kid h (i := t) (by omega) (hl t (by omega))
    refine kids_head ns _ (t + 1) this.1 (fun k hk e => ?_) (by rw [this.2]; omega)
    have := hd k (by omega)
    omega
theorem last_leaf {ns : List RNode} (h : Down ns ns.length) (h0 : 0 < ns.length) : leafB ns (ns.length - 1) = true := by
  rw [leaf_iff]
  intro k hk e
  have := h k hk
  omega
/-- the first leaf -/
theorem leaf_ex {ns : List RNode} (h : Down ns ns.length) (h0 : 0 < ns.length) : ∃ f, f < ns.length ∧ leafB ns f = true ∧ ∀ j, j < f → leafB ns j = false := by
  cases hf : (List.range ns.length).find? (leafB ns) with
  | none =>
    rw [List.find?_eq_none] at hf
    exact absurd (last_leaf h h0) (hf _ (List.mem_range.2 (by omega)))
  | some f =>
    rw [List.find?_range_eq_some] at hf
    exact ⟨f, List.mem_range.1 hf.2.1, hf.1, fun j hj => by simpa using hf.2.2 j hj⟩
def leaves (ns : List RNode) (i : Nat) : List Nat := (List.range i).filter (leafB ns)
theorem leaves_succ (ns : List RNode) (i : Nat) : leaves ns (i + 1) = leaves ns i ++ (bif leafB ns i then [i] else []) := by
  unfold leaves
  rw [List.range_succ, List.filter_append]
  congr 1
theorem leaves_pre (ns : List RNode) : ∀ (d i : Nat), ∃ t, leaves ns (i + d) = leaves ns i ++ t
  | 0, i => ⟨[], by simp⟩
  | d + 1, i => by
    obtain ⟨t, ht⟩ := leaves_pre ns d i
    exact ⟨t ++ (bif leafB ns (i + d) then [i + d] else []), by rw [← Nat.add_assoc, leaves_succ, ht, List.append_assoc]⟩
theorem leaves_len (ns : List RNode) (i : Nat) : (leaves ns i).length ≤ i := by
  unfold leaves
  have := List.length_filter_le (leafB ns) (List.range i)
  rw [List.length_range] at this
  exact this
end Go.Proofs.YtocnfflklfeocaaGreat
namespace Go.Proofs.YtocnfflklfeocaaGreat
open Go.Den
set_option linter.unusedVariables false
set_option maxRecDepth 100000
theorem recordWriterAfter_L1_mono (self self' : (((ByteArray × Int × Int × (List (Int × Int × Int × (List (Int × Int × Int × Int × Unit)) × Unit)) × (List Int) × Bool × Bool × (List (Int × Int × Int × Bool × Unit)) × Int × Int × Int × Unit) × ((List (ByteArray × ByteArray × Unit)) × ByteArray × (List (Int × (Int × Int × Int × Unit) × ByteArray × Unit)) × Int × Unit) × Unit) × ((List Int) × ((List Int) × (List Int) × Unit) × Int × Int × Unit) × Int × Unit) → Option (((ByteArray × Int × Int × (List (Int × Int × Int × (List (Int × Int × Int × Int × Unit)) × Unit)) × (List Int) × Bool × Bool × (List (Int × Int × Int × Bool × Unit)) × Int × Int × Int × Unit) × ((List (ByteArray × ByteArray × Unit)) × ByteArray × (List (Int × (Int × Int × Int × Unit) × ByteArray × Unit)) × Int × Unit) × Unit) × (List ByteArray))) (hself : ∀ x, Le (self x) (self' x)) (r3 : List Int) (p : (List Int) × ((List Int) × (List Int) × Unit) × Int × Int × Unit) (x5 : ((List ByteArray) × Int × Unit) × ((ByteArray × Int × Int × (List (Int × Int × Int × (List (Int × Int × Int × Int × Unit)) × Unit)) × (List Int) × Bool × Bool × (List (Int × Int × Int × Bool × Unit)) × Int × Int × Int × (List (ByteArray × ByteArray × Unit)) × ByteArray × (List (Int × (Int × Int × Int × Unit) × ByteArray × Unit)) × Int × Unit) × Unit)) : Le (recordWriterAfter_L1 r3 p self x5) (recordWriterAfter_L1 r3 p self' x5) := by
  unfold recordWriterAfter_L1
  repeat (first | exact Le.refl _ | assumption | apply hself | apply Le.cond | apply Le.req | apply Le.gopt | apply Le.map | apply Le.agreeW | refine Le.iterW (fun _ => ?_) _ | refine Le.bind ?_ (Le.elim (fun _ => ?_) (fun _ => ?_)) | refine Le.bind ?_ (fun _ => ?_))
theorem recordWriterAfter_Mono : Mono recordWriterAfter_G := by
  intro self self' hself x
  unfold recordWriterAfter_G recordWriterAfter_F
  repeat (first | exact Le.refl _ | assumption | apply recordWriterAfter_L1_mono | apply hself | apply Le.cond | apply Le.req | apply Le.gopt | apply Le.map | apply Le.agreeW | refine Le.iterW (fun _ => ?_) _ | refine Le.bind ?_ (Le.elim (fun _ => ?_) (fun _ => ?_)) | refine Le.bind ?_ (fun _ => ?_))
end Go.Proofs.YtocnfflklfeocaaGreat
namespace Go.Proofs.YtocnfflklfeocaaGreat
open Go.Den
set_option linter.unusedVariables false
set_option linter.unusedSimpArgs false
set_option maxRecDepth 100000

/-! ### the record of one drop -/
def demoX : Rec := ([], (ByteArray.mk #[], ([(-1, ((-1, (0, (0, ()))), (ByteArray.mk #[], ())))], (0, ()))))
theorem demoX_rng : Rng tyRec demoX := rngB_ok _ _ (by decide +kernel)
theorem demoX_ok : recErr law3Tic demoX = 0 := by decide +kernel
theorem tic_vr0 : VR0 law3Tic := rules_valid tic_ok
abbrev demoM : Mv := (-1, (0, (0, ())))
abbrev demoT : ByteArray := ByteArray.mk #[83, 64, 97, 49]
theorem demo_allowed : allowedB law3Tic (beginOf law3Tic) demoM = true := by decide +kernel
theorem demo_of (p : Place) (l : List Mv) : movetextOf law3Tic p l demoM = some demoT := by
  unfold movetextOf
  rw [show decide ((demoM.1 : Int) < 0) = true from rfl, cond_true]
  decide +kernel
theorem demo_one : recordWriterOne (law3Tic, (demoX, ())) (beginOf law3Tic) 0 = some ((law3Tic, (demoX, ())), [demoT]) := by
  have hv := begin_valid tic_vr0
  unfold recordWriterOne
  have ha : at? demoX.2.2.1 0 = some (-1, (demoM, (ByteArray.mk #[], ()))) := rfl
  simp only [rep_eta, pl_eta, list_spec hv, Option.bind_some, ha, demo_of, agree_self]
  rw [show (!((ByteArray.mk #[]).toList == (ByteArray.mk #[]).toList)) = false by decide +kernel, cond_false, Option.bind_some]
theorem demo_kids : recordKids demoX (-1) = some [0] := by
  rw [kids_spec demoX (-1) (by decide)]
  rfl
theorem demo_kids0 : recordKids demoX 0 = some [] := by
  rw [kids_spec demoX 0 (by decide)]
  rfl
theorem demo_after : recordWriterAfter (law3Tic, (demoX, ())) (beginOf law3Tic) (-1) = some ((law3Tic, (demoX, ())), [demoT]) := by
  have hv := begin_valid tic_vr0
  refine fixW_ind recordWriterAfter_Mono (fun x => x = ((law3Tic, (demoX, ())), beginOf law3Tic, (-1 : Int), ()) ∨ x = ((law3Tic, (demoX, ())), afterOf law3Tic (beginOf law3Tic) demoM, (0 : Int), ())) (fun x => bif x.2.2.1 == 0 then 0 else 1) (fun x => ((law3Tic, (demoX, ())), bif x.2.2.1 == 0 then [] else [demoT])) ?_ _ (.inl rfl)
  rintro φ x (rfl | rfl) hI
  · have hs := hI _ (.inr rfl) (by decide)
    show recordWriterAfter_F φ (law3Tic, (demoX, ())) (beginOf law3Tic) (-1) = _
    unfold recordWriterAfter_F
    have ha : at? demoX.2.2.1 0 = some (-1, (demoM, (ByteArray.mk #[], ()))) := rfl
    simp only [rep_eta, demo_kids, Option.bind_some]
    rw [show ((((([0] : List Int).length : Nat) : Int)) == 0) = false from rfl, cond_false]
    rw [show inb 0 ([0] : List Int).length = true from rfl, req_true, show getD' ([0] : List Int) 0 0 = 0 from rfl, demo_one, Option.bind_some]
    rw [show boundsI 1 (((([0] : List Int).length : Nat) : Int)) ([0] : List Int).length = true from rfl, req_true]
    rw [iterW_inr (r := (([demoT], ()), ((law3Tic.1, (law3Tic.2.1, (law3Tic.2.2.1, (law3Tic.2.2.2.1, (law3Tic.2.2.2.2.1, (law3Tic.2.2.2.2.2.1, (law3Tic.2.2.2.2.2.2.1, (law3Tic.2.2.2.2.2.2.2.1, (law3Tic.2.2.2.2.2.2.2.2.1, (law3Tic.2.2.2.2.2.2.2.2.2.1, (law3Tic.2.2.2.2.2.2.2.2.2.2.1, demoX))))))))))), ()))) rfl, Option.bind_some]
    simp only [req_true, rep_eta, pl_eta, ha, Option.bind_some, make_spec hv demo_allowed, hs, agree_self]
    rfl
  · show recordWriterAfter_F φ (law3Tic, (demoX, ())) (afterOf law3Tic (beginOf law3Tic) demoM) 0 = _
    unfold recordWriterAfter_F
    simp only [rep_eta, demo_kids0, Option.bind_some]
    rfl
theorem demo_text : recordText law3Tic demoX = some (ByteArray.mk #[83, 64, 97, 49, 32, 42, 10], (0, ())) := by
  unfold recordText
  rw [rcheck_spec tic_rng demoX demoX_rng (by decide), demoX_ok, Option.bind_some]
  rw [show ((0 : Int) != 0) = false from rfl, cond_false]
  rw [iterW_inr (r := ((), (([] : List Int), ()))) rfl, Option.bind_some]
  rw [show (!(demoX.2.1.toList == (ByteArray.mk #[]).toList)) = false by decide +kernel, cond_false, Option.bind_some]
  rw [begin_spec _ tic_rng, if_pos tic_ok, Option.bind_some]
  simp only [pl_eta, demo_after, Option.bind_some, agree_self]
  decide +kernel
theorem records_true : law3Records = some true := by
  unfold law3Records
  have h : recordText ((law3Tic).1, (((law3Tic).2).1, ((((law3Tic).2).2).1, (((((law3Tic).2).2).2).1, ((((((law3Tic).2).2).2).2).1, (((((((law3Tic).2).2).2).2).2).1, ((((((((law3Tic).2).2).2).2).2).2).1, (((((((((law3Tic).2).2).2).2).2).2).2).1, ((((((((((law3Tic).2).2).2).2).2).2).2).2).1, (((((((((((law3Tic).2).2).2).2).2).2).2).2).2).1, ((((((((((((law3Tic).2).2).2).2).2).2).2).2).2).2).1, ()))))))))))) ([], ((ByteArray.mk #[]), ([(-1, ((law3Drop 0), ((ByteArray.mk #[]), ())))], (0, ())))) = _ := demo_text
  rw [h, Option.bind_some]
  decide +kernel
/-! ### the law -/
theorem short_specC (x : Rec) : law3Short x = some (x.1, (x.2.1, (x.2.2.1.take 30, x.2.2.2))) := by
  unfold law3Short
  by_cases h : 30 < ((x.2.2.1.length : Nat) : Int)
  · simp only [if_pos h]
    rw [show boundsI 0 30 x.2.2.1.length = true by simp only [boundsI, Bool.and_eq_true, decide_eq_true_eq]; omega, req_true]
    rfl
  · simp only [if_neg h]
    rw [show boundsI 0 ((x.2.2.1.length : Nat) : Int) x.2.2.1.length = true by simp only [boundsI, Bool.and_eq_true, decide_eq_true_eq]; omega, req_true, Int.toNat_natCast, List.take_length, List.drop_zero, List.take_of_length_le (by omega)]
theorem children_spec {r : Rules} (hr : Rng tyRules r) (x : Rec) (hx : Rng tyRec x) (h30 : x.2.2.1.length ≤ 30) (node : Int) : recordChildren r x node = some (if recErr r x ≠ 0 then ([], (recErr r x, ())) else if node < -1 ∨ ((x.2.2.1.length : Nat) : Int) ≤ node then ([], (1, ())) else (kidsI x.2.2.1 node, (0, ()))) := by
  unfold recordChildren
  rw [rcheck_spec hr x hx h30, Option.bind_some]
  by_cases c : recErr r x = 0
  rotate_left
  · rw [bne_t c, cond_true, if_pos c]
  rw [bne_f c, cond_false, if_neg (fun h => h c)]
  by_cases c1 : node < -1 ∨ ((x.2.2.1.length : Nat) : Int) ≤ node
  · rw [if_pos c1, show (decide (node < -1) || decide (node ≥ ((x.2.2.1.length : Nat) : Int))) = true by simp only [Bool.or_eq_true, decide_eq_true_eq]; omega]
    rfl
  · rw [if_neg c1, show (decide (node < -1) || decide (node ≥ ((x.2.2.1.length : Nat) : Int))) = false by simp only [Bool.or_eq_false_iff, decide_eq_false_iff_not]; omega]
    rw [cond_false, kids_spec x _ (by omega), Option.bind_some]
/-- the kids among the first nodes -/
def kidsN (ns : List RNode) (p : Int) (i : Nat) : List Int := (List.range i).flatMap fun (k : Nat) => bif rpar ns k == p then [(k : Int)] else []
theorem kidsN_succ (ns : List RNode) (p : Int) (i : Nat) : kidsN ns p (i + 1) = kidsN ns p i ++ (bif rpar ns i == p then [(i : Int)] else []) := by
  unfold kidsN
  rw [List.range_succ, List.flatMap_append]
  simp
theorem kidsN_pre (ns : List RNode) (p : Int) : ∀ (d i : Nat), ∃ t, kidsN ns p (i + d) = kidsN ns p i ++ t
  | 0, i => ⟨[], by simp⟩
  | d + 1, i => by
    obtain ⟨t, ht⟩ := kidsN_pre ns p d i
    rw [show i + (d + 1) = (i + d) + 1 by omega, kidsN_succ, ht]
    exact ⟨_, List.append_assoc _ _ _⟩
theorem kidsN_len (ns : List RNode) (p : Int) (i : Nat) : (kidsN ns p i).length ≤ i := by
  induction i with
  | zero => exact Nat.zero_le _
  | succ i ih =>
    rw [kidsN_succ, List.length_append]
    cases rpar ns i == p
    · simp only [cond_false, List.length_nil]; omega
    · simp only [cond_true, List.length_cons, List.length_nil]; omega
theorem law_loop (x : Rec) (h30 : x.2.2.1.length ≤ 30) (node : Int) (e : Int × Unit) : iterW (law3RecordChecks_L1 x node (kidsI x.2.2.1 node, e)) ((0, 0, ()), ()) = some (.inl ((((((kidsI x.2.2.1 node).length : Nat) : Int)), ()), ())) := by
  have := iterW_states (f := law3RecordChecks_L1 x node (kidsI x.2.2.1 node, e)) x.2.2.1.length (fun t => (((((kidsN x.2.2.1 node t).length : Nat) : Int), (t : Int), ()), ())) (.inl (((((kidsI x.2.2.1 node).length : Nat) : Int), ()), ())) (fun t ht => by
    have hn := node_at ht
    have hl := kidsN_len x.2.2.1 node t
    unfold law3RecordChecks_L1
    simp only [show decide ((t : Int) < ((x.2.2.1.length : Nat) : Int)) = true by simp; omega, cond_true]
    rw [at_nat _ t ht, Option.bind_some, hn.1, w64_id (n := (t : Int) + 1) (by omega) (by omega)]
    rw [kidsN_succ]
    by_cases c : rpar x.2.2.1 t = node
    rotate_left
    · rw [bne_t c, cond_true, show (rpar x.2.2.1 t == node) = false by simpa using c]
      simp
    · rw [bne_f c, cond_false, show (rpar x.2.2.1 t == node) = true by simpa using c]
      obtain ⟨q, hq⟩ := kidsN_pre x.2.2.1 node (x.2.2.1.length - (t + 1)) (t + 1)
      rw [show t + 1 + (x.2.2.1.length - (t + 1)) = x.2.2.1.length by omega, kidsN_succ, show (rpar x.2.2.1 t == node) = true by simpa using c] at hq
      have hk : kidsI x.2.2.1 node = kidsN x.2.2.1 node t ++ [(t : Int)] ++ q := hq
      have hlt : (kidsN x.2.2.1 node t).length < (kidsI x.2.2.1 node).length := by
        rw [hk]
        simp only [List.length_append, List.length_cons, List.length_nil]
        omega
      have hget : getD' (kidsI x.2.2.1 node) ((((kidsN x.2.2.1 node t).length : Nat) : Int)).toNat 0 = (t : Int) := by
        rw [Int.toNat_natCast, hk]
        unfold getD'
        rw [List.append_assoc, List.getD_eq_getElem?_getD, List.getElem?_append_right (Nat.le_refl _), Nat.sub_self]
        rfl
      rw [hget, show decide ((((kidsN x.2.2.1 node t).length : Nat) : Int) ≥ (((kidsI x.2.2.1 node).length : Nat) : Int)) = false by simp only [decide_eq_false_iff_not]; omega]
      rw [show inb (((kidsN x.2.2.1 node t).length : Nat) : Int) (kidsI x.2.2.1 node).length = true from inb_iff.2 (by omega)]
      rw [show imp (!false) true = true from rfl, req_true, bne_self_eq_false, Bool.or_self, cond_false, w64_id (n := (((kidsN x.2.2.1 node t).length : Nat) : Int) + 1) (by omega) (by omega)]
      simp) (by
    unfold law3RecordChecks_L1
    simp only [show decide (((x.2.2.1.length : Nat) : Int) < ((x.2.2.1.length : Nat) : Int)) = false by simp, cond_false]
    rfl)
  exact this
/-- ████ THE LAW, in plain Lean ████ -/
theorem law3RecordChecks_true (r : Rules) (x : Rec) (node : Int) (hr : Rng tyRules r) (hx : Rng tyRec x) (hnode : Rng (.int .i64) node) : law3RecordChecks r x node = some true := by
  unfold law3RecordChecks
  obtain ⟨y, hy, h30, hyr⟩ : ∃ y : Rec, law3Short x = some y ∧ y.2.2.1.length ≤ 30 ∧ Rng tyRec y := by
    refine ⟨_, short_specC x, ?_, ⟨hx.1, hx.2.1, ⟨?_, fun d hd => hx.2.2.1.2 d (List.mem_of_mem_take hd)⟩, hx.2.2.2⟩⟩
    · show (x.2.2.1.take 30).length ≤ 30
      rw [List.length_take]
      omega
    · have := hx.2.2.1.1
      show (x.2.2.1.take 30).length ≤ _
      rw [List.length_take]
      exact Nat.le_trans (Nat.min_le_right _ _) this
  rw [records_true, Option.bind_some, hy]
  simp only [Bool.not_true, cond_false, Option.bind_some]
  cases hg : law3Great r
  rotate_left
  · rfl
  rw [cond_false, fault_spec hr y hyr h30, Option.bind_some, children_spec hr y hyr h30, Option.bind_some, rcheck_spec hr y hyr h30, Option.bind_some, bne_self_eq_false, cond_false]
  by_cases c : recErr r y = 0
  rotate_left
  · rw [show (recErr r y == 0) = false by simpa using c, Bool.false_and, cond_false, Option.bind_some]
    simp only []
    rw [bne_t c, cond_true, if_pos c]
    simp
  rw [if_neg (fun h => h c), c]
  by_cases c1 : node < -1 ∨ ((y.2.2.1.length : Nat) : Int) ≤ node
  · rw [if_pos c1, show (decide (node < -1) || decide (node ≥ ((y.2.2.1.length : Nat) : Int))) = true by simp only [Bool.or_eq_true, decide_eq_true_eq]; omega]
    rfl
  · rw [if_neg c1, show (decide (node < -1) || decide (node ≥ ((y.2.2.1.length : Nat) : Int))) = false by simp only [Bool.or_eq_false_iff, decide_eq_false_iff_not]; omega]
    rw [Bool.and_false, cond_false, Option.bind_some]
    simp only [bne_self_eq_false, cond_false]
    rw [law_loop y h30 node, Option.bind_some]
    simp
end Go.Proofs.YtocnfflklfeocaaGreat
