/- Records: which are right. No condition of its own. -/
import Derived.Test.YtocnfflklfeocaaGreatMAF
namespace Go.Proofs.YtocnfflklfeocaaGreat
open Go.Den
set_option linter.unusedVariables false
set_option linter.unusedSimpArgs false
set_option maxRecDepth 100000

def rcom (ns : List RNode) (i : Nat) : ByteArray := ((ns[i]?).map (·.2.2.1)).getD ByteArray.empty
/-- a game's error -/
def gErr (r : Rules) (l : List Mv) : Int := if ruleErr r = 0 then (match gameOf r l with
    | .inl _ => 0
    | .inr e => e) else ruleErr r
theorem run_err (r : Rules) (l : List Mv) : (runRes r l).2.2.1 = gErr r l := by
  unfold runRes gErr
  by_cases c : ruleErr r = 0
  · rw [if_pos c, if_pos c]
    cases gameOf r l <;> rfl
  · rw [if_neg c, if_neg c]
theorem places_err (r : Rules) (l : List Mv) : (placesRes r l).2.1 = gErr r l := by
  unfold placesRes gErr
  by_cases c : ruleErr r = 0
  · rw [if_pos c, if_pos c]
    cases gameOf r l <;> rfl
  · rw [if_neg c, if_neg c]
/-- is the parent on the way of the node ahead? -/
def ordB (ns : List RNode) (i : Nat) : Bool := decide (rpar ns i < (i : Int)) && (decide (0 ≤ rpar ns i ∧ (rpar ns i).toNat ∈ wayN ns ((i : Int) - 1)) || (rpar ns i == -1))
def twinB (ns : List RNode) (i : Nat) : Bool := (List.range i).any fun k => (rpar ns k == rpar ns i) && (rmv ns k == rmv ns i)
def sibB (ns : List RNode) (i : Nat) : Bool := (List.range i).any fun k => rpar ns k == rpar ns i
def nErr (r : Rules) (ns : List RNode) (i : Nat) : Int := if cErr (rcom ns i) ≠ 0 then cErr (rcom ns i) else if ordB ns i = false then 3 else if twinB ns i = true then 7 else gErr r (wayM ns (i : Int))
def Ord (ns : List RNode) (k : Nat) : Prop := ∀ i, i < k → ordB ns i = true
theorem Ord.down {ns : List RNode} {k : Nat} (h : Ord ns k) : Down ns k := fun i hi => by
  have := h i hi
  unfold ordB at this
  simp only [Bool.and_eq_true, decide_eq_true_eq] at this
  exact this.1
theorem Ord.low {ns : List RNode} {k : Nat} (h : Ord ns k) : ∀ i, i < k → -1 ≤ rpar ns i := fun i hi => by
  have := h i hi
  unfold ordB at this
  simp only [Bool.and_eq_true, Bool.or_eq_true, decide_eq_true_eq, beq_iff_eq] at this
  omega
theorem Ord.mono {ns : List RNode} {k j : Nat} (h : Ord ns k) (hj : j ≤ k) : Ord ns j := fun i hi => h i (by omega)
theorem Ord.step {ns : List RNode} {k : Nat} (h : Ord ns k) (hk : ordB ns k = true) : Ord ns (k + 1) := fun i hi => by
  by_cases e : i = k
  · subst e; exact hk
  · exact h i (by omega)
theorem node_at {ns : List RNode} {i : Nat} (hi : i < ns.length) : ns[i].1 = rpar ns i ∧ ns[i].2.1 = rmv ns i ∧ ns[i].2.2.1 = rcom ns i := by
  unfold rpar rmv rcom
  rw [List.getElem?_eq_getElem hi]
  exact ⟨rfl, rfl, rfl⟩
/-- a brother lies behind the parent -/
theorem sib_gap {ns : List RNode} {i : Nat} (h : Down ns i) (hs : sibB ns i = true) : rpar ns i + 2 ≤ (i : Int) ∨ rpar ns i < 0 ∧ 1 ≤ i := by
  unfold sibB at hs
  rw [List.any_eq_true] at hs
  obtain ⟨k, hk, e⟩ := hs
  have hk := List.mem_range.1 hk
  have := h k hk
  have e : rpar ns k = rpar ns i := by simpa using e
  omega
structure DeepOK (ns : List RNode) (deep : List Int) (i : Nat) : Prop where
  len : deep.length = ns.length
  all : ∀ j, j < ns.length → 0 ≤ deep.getD j 0 ∧ 2 * deep.getD j 0 ≤ (j : Int) + 1
  zero : ∀ j, i ≤ j → deep.getD j 0 = 0
theorem gdD (xs : List Int) (i : Nat) : getD' xs i 0 = xs.getD i 0 := rfl
theorem setD (xs : List Int) (i j : Nat) (a : Int) (h : i < xs.length) : (xs.set i a).getD j 0 = if i = j then a else xs.getD j 0 := by
  rw [List.getD_eq_getElem?_getD, List.getD_eq_getElem?_getD, List.getElem?_set]
  by_cases e : i = j
  · rw [if_pos e, if_pos e, if_pos h]; rfl
  · rw [if_neg e, if_neg e]
abbrev eqMv (a b : Mv) : Bool := (a.1 == b.1) && ((a.2.1 == b.2.1) && ((a.2.2.1 == b.2.2.1) && true))
theorem eqMv_iff (a b : Mv) : eqMv a b = (a == b) := by
  obtain ⟨a1, a2, a3, ⟨⟩⟩ := a
  obtain ⟨b1, b2, b3, ⟨⟩⟩ := b
  rw [Bool.eq_iff_iff]
  simp [eqMv]
/-- record.node -/
theorem node_spec {r : Rules} (hr : Rng tyRules r) (x : Rec) (hx : Rng tyRec x) (h30 : x.2.2.1.length ≤ 30) {i : Nat} (hi : i < x.2.2.1.length) (ho : Ord x.2.2.1 i) {deep : List Int} (hD : DeepOK x.2.2.1 deep i) :
    ∃ deep', recordNode deep r x (i : Int) = some (deep', nErr r x.2.2.1 i) ∧ (nErr r x.2.2.1 i = 0 → DeepOK x.2.2.1 deep' (i + 1)) := by
  have hcs : (rcom x.2.2.1 i).size ≤ 9223372036854775807 := by
    have := (hx.2.2.1.2 _ (List.getElem_mem hi)).2.2.1
    rw [← (node_at hi).2.2]
    exact this
  have hd := ho.down
  obtain ⟨n1, n2, n3⟩ := node_at hi
  unfold recordNode
  rw [at_nat _ _ hi, Option.bind_some]
  simp only [n1, n2, n3]
  rw [comment_spec _ hcs, Option.bind_some]
  unfold nErr
  by_cases hc : cErr (rcom x.2.2.1 i) = 0
  rotate_left
  · rw [bne_t hc, cond_true, if_pos hc]
    exact ⟨_, rfl, fun h => absurd h hc⟩
  rw [bne_f hc, cond_false, if_neg (fun h => h hc)]
  -- the parent
  have hon : recordOn x (rpar x.2.2.1 i) (w64 ((i : Int) - 1)) = some (decide (0 ≤ rpar x.2.2.1 i ∧ (rpar x.2.2.1 i).toNat ∈ wayN x.2.2.1 ((i : Int) - 1)) || (rpar x.2.2.1 i == -1)) := by
    rw [w64_id (by omega) (by omega)]
    exact on_spec x _ (by omega) (by rw [show ((i : Int) - 1 + 1).toNat = i by omega]; exact hd)
  rw [hon]
  by_cases hob : ordB x.2.2.1 i = true
  rotate_left
  · rw [Bool.not_eq_true] at hob
    rw [if_pos hob]
    refine ⟨deep, ?_, fun h => by cases h⟩
    unfold ordB at hob
    by_cases hp : rpar x.2.2.1 i < (i : Int)
    · rw [decide_eq_true hp, Bool.true_and] at hob
      rw [show decide (rpar x.2.2.1 i ≥ (i : Int)) = false by simp only [decide_eq_false_iff_not]; omega, hob]
      rfl
    · rw [show decide (rpar x.2.2.1 i ≥ (i : Int)) = true by simp only [decide_eq_true_eq]; omega]
      rfl
  rw [if_neg (by rw [hob]; decide)]
  have hor := ho.step hob
  have hd1 := hor.down
  have hpi := hd1 i (Nat.lt_succ_self i)
  have hpl := hor.low i (Nat.lt_succ_self i)
  have hob2 := hob
  unfold ordB at hob2
  rw [decide_eq_true hpi, Bool.true_and] at hob2
  rw [show decide (rpar x.2.2.1 i ≥ (i : Int)) = false by simp only [decide_eq_false_iff_not]; omega, hob2]
  simp only [Bool.not_false, gopt, cond_true, Option.bind_some, Bool.not_true, Bool.or_self, cond_false]
  -- how deep the parent is
  have hdl := hD.len
  obtain ⟨dp, hdp1, hdp2⟩ : ∃ dp : List Int, (bif (decide (rpar x.2.2.1 i ≥ 0)) then req (inb (rpar x.2.2.1 i) deep.length) (req (inb (i : Int) deep.length) (some ((), ((deep.set (((i : Int)).toNat) (getD' deep ((rpar x.2.2.1 i).toNat) 0)), ()))))
      else some ((), (deep, ()))) = some ((), (dp, ())) ∧ (DeepOK x.2.2.1 dp (i + 1) ∧ (2 * dp.getD i 0 ≤ rpar x.2.2.1 i + 1)) := by
    by_cases h0 : 0 ≤ rpar x.2.2.1 i
    · rw [show decide (rpar x.2.2.1 i ≥ 0) = true by simp only [decide_eq_true_eq]; omega, cond_true, inb_iff.2 ⟨h0, by omega⟩, req_true, show inb (i : Int) deep.length = true from inb_iff.2 (by omega), req_true]
      have q := hD.all (rpar x.2.2.1 i).toNat (by omega)
      refine ⟨_, rfl, ⟨by rw [List.length_set]; exact hdl, fun j hj => ?_, fun j hj => ?_⟩, ?_⟩
      · rw [Int.toNat_natCast, gdD, setD _ _ _ _ (by omega)]
        by_cases e : i = j
        · rw [if_pos e]; omega
        · rw [if_neg e]; exact hD.all j hj
      · rw [Int.toNat_natCast, gdD, setD _ _ _ _ (by omega), if_neg (by omega)]
        exact hD.zero j (by omega)
      · rw [Int.toNat_natCast, gdD, setD _ _ _ _ (by omega), if_pos rfl]
        omega
    · rw [show decide (rpar x.2.2.1 i ≥ 0) = false by simp only [decide_eq_false_iff_not]; omega, cond_false]
      exact ⟨_, rfl, ⟨hdl, hD.all, fun j hj => hD.zero j (by omega)⟩, by rw [hD.zero i (Nat.le_refl _)]; omega⟩
  rw [hdp1, Option.bind_some]
  rw [show boundsI 0 (i : Int) x.2.2.1.length = true by simp only [boundsI, Bool.and_eq_true, decide_eq_true_eq]; omega, req_true, req_true]
  have htl : (x.2.2.1.take i).length = i := by rw [List.length_take]; omega
  have tk : ∀ k (hk : k < (x.2.2.1.take i).length), (x.2.2.1.take i)[k].1 = rpar x.2.2.1 k ∧ (x.2.2.1.take i)[k].2.1 = rmv x.2.2.1 k := fun k hk => by
    rw [List.getElem_take]
    exact ⟨(node_at (by omega)).1, (node_at (by omega)).2.1⟩
  obtain ⟨nd, hnd⟩ : ∃ nd : RNode, x.2.2.1[i] = nd := ⟨_, rfl⟩
  rw [hnd] at n1 n2
  rw [hnd]
  have anyT : (x.2.2.1.take i).any (fun d => (d.1 == rpar x.2.2.1 i) && (d.2.1 == rmv x.2.2.1 i)) = twinB x.2.2.1 i := by
    unfold twinB
    rw [Bool.eq_iff_iff, List.any_eq_true, List.any_eq_true]
    constructor
    · rintro ⟨d, hd, e⟩
      obtain ⟨k, hk, rfl⟩ := List.mem_iff_getElem.1 hd
      rw [(tk k hk).1, (tk k hk).2] at e
      exact ⟨k, List.mem_range.2 (by omega), e⟩
    · rintro ⟨k, hk, e⟩
      have hk := List.mem_range.1 hk
      refine ⟨(x.2.2.1.take i)[k]'(by omega), List.getElem_mem _, ?_⟩
      rw [(tk k (by omega)).1, (tk k (by omega)).2]
      exact e
  have anyS : (x.2.2.1.take i).any (fun d => d.1 == rpar x.2.2.1 i) = sibB x.2.2.1 i := by
    unfold sibB
    rw [Bool.eq_iff_iff, List.any_eq_true, List.any_eq_true]
    constructor
    · rintro ⟨d, hd, e⟩
      obtain ⟨k, hk, rfl⟩ := List.mem_iff_getElem.1 hd
      rw [(tk k hk).1] at e
      exact ⟨k, List.mem_range.2 (by omega), e⟩
    · rintro ⟨k, hk, e⟩
      have hk := List.mem_range.1 hk
      refine ⟨(x.2.2.1.take i)[k]'(by omega), List.getElem_mem _, ?_⟩
      rw [(tk k (by omega)).1]
      exact e
  have hL1 := iterW_any (x.2.2.1.take i) (fun d => (d.1 == rpar x.2.2.1 i) && (d.2.1 == rmv x.2.2.1 i)) (recordNode_L1 x (i : Int) nd ((), (dp, ()))) (.inr (dp, 7)) (.inl ((), ())) (fun k hk => by
    unfold recordNode_L1
    simp only [Int.toNat_natCast, List.drop_zero, n1, n2]
    rw [htl]
    simp only [show decide ((k : Int) < ((i : Nat) : Int)) = true by simp; omega, cond_true]
    rw [at_nat _ _ hk, Option.bind_some, (tk k hk).1, (tk k hk).2]
    rw [w64_id (n := (k : Int) + 1) (by omega) (by omega)]
    have := eqMv_iff (rmv x.2.2.1 k) (rmv x.2.2.1 i)
    unfold eqMv at this
    rw [this]
    cases e1 : (rpar x.2.2.1 k == rpar x.2.2.1 i)
    · simp only [bne, e1, Bool.not_false, cond_true, Option.bind_some, Sum.elim_inl, Bool.false_and, cond_false]
      rfl
    · simp only [bne, e1, Bool.not_true, cond_false, Bool.true_and]
      cases (rmv x.2.2.1 k == rmv x.2.2.1 i) <;> rfl) (by
    unfold recordNode_L1
    simp only [Int.toNat_natCast, List.drop_zero]
    rw [htl]
    simp)
  rw [hL1, anyT, Option.bind_some]
  cases htw : twinB x.2.2.1 i
  rotate_left
  · simp only [cond_true, Sum.elim_inr, if_true]
    exact ⟨dp, rfl, fun h => by cases h⟩
  simp only [cond_false, Sum.elim_inl, if_neg (show ¬ (false = true) by decide)]
  -- the game
  have hway : recordWay x (i : Int) = some (wayM x.2.2.1 (i : Int)) := way_rec x (by omega) (by omega) (by omega) (by rw [show ((i : Int) + 1).toNat = i + 1 by omega]; exact hd1)
  have hwl : (wayM x.2.2.1 (i : Int)).length ≤ 1000 := by
    unfold wayM
    rw [List.length_reverse, List.length_map]
    have := wayN_len _ (i : Int) (Nat.le_refl _) (by rw [show ((i : Int) + 1).toNat = i + 1 by omega]; exact hd1)
    omega
  have hrun := run_spec r (wayM x.2.2.1 (i : Int)) hr (by omega)
  have gm : ∀ z : List Int, z.length = x.2.2.1.length → 2 * z.getD i 0 ≤ (i : Int) + 1 → (Option.bind (Option.bind (recordWay x (i : Int)) fun r15 => Option.bind (plainRun r r15) fun r16 => some ((r16.2.2.1, ()), ())) fun x27 : ((Int × Unit) × Unit) =>
      bif (x27.1.1 != 0) then some (z, x27.1.1) else req (inb (i : Int) z.length) (bif (decide ((getD' z (((i : Int)).toNat) 0) > 20)) then some (z, 2) else some (z, 0))) = some (z, gErr r (wayM x.2.2.1 (i : Int))) := fun z hz h2 => by
    rw [hway, Option.bind_some, hrun, Option.bind_some, Option.bind_some, run_err]
    by_cases e : gErr r (wayM x.2.2.1 (i : Int)) = 0
    · simp only [e, bne_self_eq_false, cond_false]
      rw [inb_iff.2 ⟨by omega, by omega⟩, req_true, Int.toNat_natCast, gdD, show decide (z.getD i 0 > 20) = false by simp only [decide_eq_false_iff_not]; omega, cond_false]
    · simp only [bne_t e, cond_true]
  have hL2 := iterW_any (x.2.2.1.take i) (fun d => d.1 == rpar x.2.2.1 i) (recordNode_L2 x (i : Int) nd ((), (dp, ())) r) (.inr ((dp.set i (dp.getD i 0 + 1)), gErr r (wayM x.2.2.1 (i : Int)))) (.inl ((), ())) (fun k hk => by
    unfold recordNode_L2
    simp only [Int.toNat_natCast, List.drop_zero, n1, n2]
    rw [htl]
    simp only [show decide ((k : Int) < ((i : Nat) : Int)) = true by simp; omega, cond_true]
    rw [at_nat _ _ hk, Option.bind_some, (tk k hk).1]
    rw [w64_id (n := (k : Int) + 1) (by omega) (by omega)]
    cases e1 : (rpar x.2.2.1 k == rpar x.2.2.1 i)
    · rfl
    · have hs : sibB x.2.2.1 i = true := by
        unfold sibB
        rw [List.any_eq_true]
        exact ⟨k, List.mem_range.2 (by omega), e1⟩
      have hgap := sib_gap hd hs
      have hq := hdp2.1.all i hi
      have hq2 := hdp2.2
      have hdl2 := hdp2.1.len
      simp only [cond_true, show decide ((k : Int) ≥ 0) = true by simp]
      rw [inb_iff.2 ⟨by omega, by omega⟩, req_true, req_true, Option.bind_some]
      simp only [agree_self]
      have := gm (dp.set i (dp.getD i 0 + 1)) (by rw [List.length_set]; exact hdl2) (by rw [setD _ _ _ _ (by omega), if_pos rfl]; omega)
      simp only [Int.toNat_natCast] at this
      rw [gdD, w64_id (by omega) (by omega), this]
      rfl) (by
    unfold recordNode_L2
    simp only [Int.toNat_natCast, List.drop_zero]
    rw [htl]
    simp)
  rw [hL2, anyS, Option.bind_some]
  have hq := hdp2.1.all i hi
  have hq2 := hdp2.2
  have hdl2 := hdp2.1.len
  cases hsb : sibB x.2.2.1 i
  · simp only [cond_false, Sum.elim_inl, agree_self]
    exact ⟨dp, gm dp hdl2 (by omega), fun _ => hdp2.1⟩
  · have hgap := sib_gap hd hsb
    simp only [cond_true, Sum.elim_inr]
    refine ⟨_, rfl, fun _ => ⟨by rw [List.length_set]; exact hdl2, fun j hj => ?_, fun j hj => ?_⟩⟩
    · rw [setD _ _ _ _ (by omega)]
      by_cases e : i = j
      · rw [if_pos e]; omega
      · rw [if_neg e]; exact hdp2.1.all j hj
    · rw [setD _ _ _ _ (by omega), if_neg (by omega)]
      exact hdp2.1.zero j hj
theorem scan_nz (e : Nat → Int) (i k : Nat) : scan (fun i => nz (e i)) 0 i (k + 1) = if e i = 0 then scan (fun i => nz (e i)) 0 (i + 1) k else e i := by
  by_cases h : e i = 0
  · rw [if_pos h]
    conv => lhs; unfold scan
    simp only [nz, if_pos h]
  · rw [if_neg h]
    conv => lhs; unfold scan
    simp only [nz, if_neg h]
def recErr (r : Rules) (x : Rec) : Int := if ruleErr r ≠ 0 then ruleErr r else if 10 < x.1.length then 2 else if firstNZ (tErr x.1) x.1.length ≠ 0 then firstNZ (tErr x.1) x.1.length else if x.2.2.2.1 < 0 ∨ 3 < x.2.2.2.1 then 4 else if cErr x.2.1 ≠ 0 then cErr x.2.1 else firstNZ (nErr r x.2.2.1) x.2.2.1.length
theorem nErr_ord {r : Rules} {ns : List RNode} {i : Nat} (h : nErr r ns i = 0) : ordB ns i = true := by
  unfold nErr at h
  split at h
  · contradiction
  · cases e : ordB ns i
    · rw [e, if_pos rfl] at h; cases h
    · rfl
theorem ord_of {r : Rules} {ns : List RNode} (h : firstNZ (nErr r ns) ns.length = 0) : Ord ns ns.length := fun i hi => nErr_ord (firstNZ_zero h i hi)
theorem check_loop {r : Rules} (hr : Rng tyRules r) (x : Rec) (hx : Rng tyRec x) (h30 : x.2.2.1.length ≤ 30) : ∀ (k i : Nat) (deep : List Int), i + k = x.2.2.1.length → Ord x.2.2.1 i → DeepOK x.2.2.1 deep i →
    Option.bind (iterW (recordCheck_L1 x r) (((i : Int), ()), (deep, ()))) (Sum.elim (fun _ => some 0) some) = some (scan (fun i => nz (nErr r x.2.2.1 i)) 0 i k) := by
  intro k
  induction k with
  | zero =>
    intro i deep hi ho hD
    have : i = x.2.2.1.length := by omega
    subst this
    rw [iterW_inr (r := .inl ((), (deep, ()))) (by unfold recordCheck_L1; simp)]
    rfl
  | succ k ih =>
    intro i deep hi ho hD
    obtain ⟨deep', h1, h2⟩ := node_spec hr x hx h30 (i := i) (by omega) ho hD
    have hs := scan_nz (nErr r x.2.2.1) i k
    rw [hs]
    by_cases e : nErr r x.2.2.1 i = 0
    · rw [if_pos e, iterW_inl (y := ((((i + 1 : Nat) : Int), ()), (deep', ())))]
      · exact ih (i + 1) deep' (by omega) (ho.step (nErr_ord e)) (h2 e)
      · unfold recordCheck_L1
        simp only [show decide ((i : Int) < ((x.2.2.1.length : Nat) : Int)) = true by simp; omega, cond_true]
        rw [h1, Option.bind_some]
        simp only [e, bne_self_eq_false, cond_false]
        rw [w64_id (by omega) (by omega)]
        rfl
    · rw [if_neg e, iterW_inr (r := .inr (nErr r x.2.2.1 i))]
      · rfl
      · unfold recordCheck_L1
        simp only [show decide ((i : Int) < ((x.2.2.1.length : Nat) : Int)) = true by simp; omega, cond_true]
        rw [h1, Option.bind_some]
        simp only [bne_t e, cond_true]
/-- record.Check -/
theorem rcheck_spec {r : Rules} (hr : Rng tyRules r) (x : Rec) (hx : Rng tyRec x) (h30 : x.2.2.1.length ≤ 30) : recordCheck r x = some (recErr r x) := by
  unfold recordCheck recErr
  rw [check_spec r hr, Option.bind_some]
  by_cases c : ruleErr r = 0
  rotate_left
  · rw [bne_t c, cond_true, if_pos c]
  rw [bne_f c, cond_false, if_neg (fun h => h c)]
  rw [show decide (((x.2.2.1.length : Nat) : Int) > 200) = false by simp only [decide_eq_false_iff_not]; omega, Bool.or_false]
  by_cases c1 : 10 < x.1.length
  · rw [if_pos c1, show decide (((x.1.length : Nat) : Int) > 10) = true by simp only [decide_eq_true_eq]; omega]; rfl
  rw [if_neg c1, show decide (((x.1.length : Nat) : Int) > 10) = false by simp only [decide_eq_false_iff_not]; omega, cond_false, tags_spec x hx, Option.bind_some]
  by_cases c2 : firstNZ (tErr x.1) x.1.length = 0
  rotate_left
  · rw [bne_t c2, cond_true, if_pos c2]
  rw [bne_f c2, cond_false, if_neg (fun h => h c2)]
  by_cases c3 : x.2.2.2.1 < 0 ∨ 3 < x.2.2.2.1
  · rw [if_pos c3, show (decide (x.2.2.2.1 < 0) || decide (x.2.2.2.1 > 3)) = true by simp only [Bool.or_eq_true, decide_eq_true_eq]; omega]; rfl
  rw [if_neg c3, show (decide (x.2.2.2.1 < 0) || decide (x.2.2.2.1 > 3)) = false by simp only [Bool.or_eq_false_iff, decide_eq_false_iff_not]; omega, cond_false]
  rw [comment_spec _ hx.2.1, Option.bind_some]
  by_cases c4 : cErr x.2.1 = 0
  rotate_left
  · rw [bne_t c4, cond_true, if_pos c4]
  rw [bne_f c4, cond_false, if_neg (fun h => h c4)]
  rw [show (decide (0 ≤ ((x.2.2.1.length : Nat) : Int)) && ((((x.2.2.1.length : Nat) : Int) == ((x.2.2.1.length : Nat) : Int)) && room (((x.2.2.1.length : Nat) : Int)).toNat 8)) = true by
    rw [beq_self_eq_true, room_ok (by omega)]; simp, req_true]
  exact check_loop hr x hx h30 x.2.2.1.length 0 _ (by omega) (fun i hi => by omega) ⟨by simp, fun j hj => by simp [List.getD_eq_getElem?_getD, hj]; omega, fun j _ => by
    rw [List.getD_eq_getElem?_getD, List.getElem?_replicate]
    split <;> rfl⟩
/-! the reference -/
theorem within_L2 (ns : List RNode) (h30 : ns.length ≤ 1000) (n c : Int) (h0 : 0 ≤ n) (h1 : n < ((ns.length : Nat) : Int)) (hd : Down ns (n.toNat + 1)) :
    ∃ d, iterW (ref3Within_L2 ((n, c, ()), ()) ns) ((c, 0, ()), ()) = some ((d, ()), ()) ∧ (d = c ∨ d = w64 (c + 1) ∧ sibB ns n.toNat = true) := by
  have key : ∀ k i : Nat, i + k = n.toNat → ∃ d, iterW (ref3Within_L2 ((n, c, ()), ()) ns) ((c, (i : Int), ()), ()) = some ((d, ()), ()) ∧ (d = c ∨ d = w64 (c + 1) ∧ sibB ns n.toNat = true) := by
    intro k
    induction k with
    | zero =>
      intro i hi
      refine ⟨c, iterW_inr ?_, .inl rfl⟩
      unfold ref3Within_L2
      simp only [show decide ((i : Int) < n) = false by simp only [decide_eq_false_iff_not]; omega, cond_false]
    | succ k ih =>
      intro i hi
      obtain ⟨d, q1, q2⟩ := ih (i + 1) (by omega)
      obtain ⟨d3, e1, e2, _⟩ := at_node (ns := ns) (n := (i : Int)) (by omega) (by omega)
      obtain ⟨d4, e3, e4, _⟩ := at_node (ns := ns) (n := n) h0 h1
      by_cases e : rpar ns i = rpar ns n.toNat
      · refine ⟨w64 (c + 1), iterW_inr ?_, .inr ⟨rfl, ?_⟩⟩
        · unfold ref3Within_L2
          simp only [show decide ((i : Int) < n) = true by simp only [decide_eq_true_eq]; omega, cond_true]
          rw [e1, Option.bind_some, e3, Option.bind_some, e2, e4, Int.toNat_natCast, beq_t e, cond_true]
        · unfold sibB
          rw [List.any_eq_true]
          exact ⟨i, List.mem_range.2 (by omega), beq_t e⟩
      · refine ⟨d, ?_, q2⟩
        rw [iterW_inl (y := ((c, ((i + 1 : Nat) : Int), ()), ()))]
        · exact q1
        · unfold ref3Within_L2
          simp only [show decide ((i : Int) < n) = true by simp only [decide_eq_true_eq]; omega, cond_true]
          rw [e1, Option.bind_some, e3, Option.bind_some, e2, e4, Int.toNat_natCast, beq_f e, cond_false, w64_id (by omega) (by omega)]
          rfl
  exact key n.toNat 0 (by omega)
theorem within_spec (ns : List RNode) (h30 : ns.length ≤ 30) {i : Nat} (hi : i < ns.length) (ho : Ord ns (i + 1)) : ∃ n, ref3Within ns (i : Int) = some n ∧ n ≤ 20 := by
  have hI := iterW_meas (f := ref3Within_L1 ns) (fun s => -1 ≤ s.1.1 ∧ s.1.1 ≤ (i : Int) ∧ 0 ≤ s.1.2.1 ∧ 2 * s.1.2.1 + s.1.1 ≤ (i : Int)) (fun s => (s.1.1 + 1).toNat) (fun r => r.1.1 ≤ 20) (by
    rintro ⟨⟨n, c, ⟨⟩⟩, ⟨⟩⟩ ⟨h1, h2, h3, h4⟩
    simp only at h1 h2 h3 h4 ⊢
    by_cases h : n < 0
    · refine .inr ⟨((c, ()), ()), ?_, by simp only; omega⟩
      unfold ref3Within_L1
      simp only [show decide (n ≥ 0) = false by simp only [decide_eq_false_iff_not]; omega, cond_false]
    · obtain ⟨d, q1, q2⟩ := within_L2 ns (by omega) n c (by omega) (by omega) (ho.down.mono (by omega))
      obtain ⟨d7, e1, e2, _⟩ := at_node (ns := ns) (n := n) (by omega) (by omega)
      have hp := ho.down n.toNat (by omega)
      have hp2 := ho.low n.toNat (by omega)
      have hw : w64 (c + 1) = c + 1 := w64_id (by omega) (by omega)
      refine .inl ⟨((rpar ns n.toNat, d, ()), ()), ?_, ?_, by simp only; omega⟩
      · unfold ref3Within_L1
        simp only [show decide (n ≥ 0) = true by simp only [decide_eq_true_eq]; omega, cond_true]
        rw [q1, Option.bind_some, Option.bind_some, e1, Option.bind_some, e2]
      · simp only
        rcases q2 with rfl | ⟨rfl, hs⟩
        · omega
        · have := sib_gap (i := n.toNat) (ho.down.mono (by omega)) hs
          omega)
  obtain ⟨r, q1, q2⟩ := hI (((i : Int), 0, ()), ()) ⟨by simp only; omega, Int.le_refl _, Int.le_refl _, by simp only; omega⟩
  unfold ref3Within
  rw [q1, Option.bind_some]
  exact ⟨_, rfl, q2⟩
theorem refNodes_spec {r : Rules} (hr : Rng tyRules r) (x : Rec) (hx : Rng tyRec x) (h30 : x.2.2.1.length ≤ 30) (z : Option Int) : ∀ (k i : Nat), i + k = x.2.2.1.length → Ord x.2.2.1 i →
    Option.bind (iterW (ref3RecordFault_L3 x r) (((i : Int), ()), ())) (Sum.elim (fun _ => z) some) = if scan (fun i => nz (nErr r x.2.2.1 i)) 0 i k = 0 then z else some (scan (fun i => nz (nErr r x.2.2.1 i)) 0 i k) := by
  intro k
  induction k with
  | zero =>
    intro i hi ho
    have : i = x.2.2.1.length := by omega
    subst this
    rw [iterW_inr (r := .inl ((), ())) (by unfold ref3RecordFault_L3; simp)]
    rfl
  | succ k ih =>
    intro i hi ho
    have hi' : i < x.2.2.1.length := by omega
    have hs := scan_nz (nErr r x.2.2.1) i k
    have hf : ref3RecordFault_L3 x r (((i : Int), ()), ()) = if nErr r x.2.2.1 i = 0 then some (.inl ((((i + 1 : Nat) : Int), ()), ())) else some (.inr (.inr (nErr r x.2.2.1 i))) := by
      obtain ⟨n1, n2, n3⟩ := node_at hi'
      have hd := ho.down
      unfold ref3RecordFault_L3
      simp only [show decide ((i : Int) < ((x.2.2.1.length : Nat) : Int)) = true by simp; omega, cond_true]
      rw [at_nat _ _ hi', Option.bind_some]
      obtain ⟨nd, hnd⟩ : ∃ nd : RNode, x.2.2.1[i] = nd := ⟨_, rfl⟩
      rw [hnd] at n1 n2 n3
      rw [hnd]
      simp only [n1, n3]
      rw [w64_id (n := (i : Int) + 1) (by omega) (by omega)]
      unfold nErr
      by_cases hc1 : 60 < (rcom x.2.2.1 i).size
      · have : cErr (rcom x.2.2.1 i) = 2 := by unfold cErr; rw [if_pos hc1]
        rw [show decide (((rcom x.2.2.1 i).size : Nat) > (60 : Int)) = true by simp only [decide_eq_true_eq]; omega, this]
        rfl
      rw [show decide (((rcom x.2.2.1 i).size : Nat) > (60 : Int)) = false by simp only [decide_eq_false_iff_not]; omega, cond_false, fine_spec _ _ (by omega) (by decide), Option.bind_some]
      cases hc2 : fineT (rcom x.2.2.1 i) (ByteArray.mk #[123, 125])
      · have : cErr (rcom x.2.2.1 i) = 3 := by unfold cErr; rw [if_neg hc1, hc2, if_pos rfl]
        rw [this]
        rfl
      have hc : cErr (rcom x.2.2.1 i) = 0 := by unfold cErr; rw [if_neg hc1, hc2, if_neg (by decide)]
      simp only [hc, ne_eq, not_true, if_false, Bool.not_true, cond_false]
      -- the parent
      have hcond : ∃ b, gopt (((decide ((i : Int) > 0)) && (decide (rpar x.2.2.1 i ≥ 0))) && (!((decide (rpar x.2.2.1 i < -1)) || (decide (rpar x.2.2.1 i ≥ (i : Int)))))) false (ref3Above x.2.2.1 (rpar x.2.2.1 i) (w64 ((i : Int) - 1))) = some b ∧
          ((((decide (rpar x.2.2.1 i < -1)) || (decide (rpar x.2.2.1 i ≥ (i : Int)))) || (((decide ((i : Int) > 0)) && (decide (rpar x.2.2.1 i ≥ 0))) && (!b))) || (((i : Int) == 0) && (rpar x.2.2.1 i != -1))) = !(ordB x.2.2.1 i) := by
        rw [w64_id (by omega) (by omega)]
        generalize hp : rpar x.2.2.1 i = p
        have hob : ordB x.2.2.1 i = (decide (p < (i : Int)) && (decide (0 ≤ p ∧ p.toNat ∈ wayN x.2.2.1 ((i : Int) - 1)) || (p == -1))) := by unfold ordB; rw [hp]
        rw [hob]
        by_cases g1 : p < -1
        · refine ⟨false, by rw [show decide (p < -1) = true from decide_eq_true g1]; simp [gopt], ?_⟩
          rw [show decide (p < -1) = true from decide_eq_true g1, beq_f (show ¬ p = -1 by omega), decide_eq_false (show ¬ (0 ≤ p ∧ p.toNat ∈ wayN x.2.2.1 ((i : Int) - 1)) by omega)]
          simp
        rw [show decide (p < -1) = false from decide_eq_false g1]
        by_cases g2 : p ≥ (i : Int)
        · refine ⟨false, by rw [show decide (p ≥ (i : Int)) = true from decide_eq_true g2]; simp [gopt], ?_⟩
          rw [show decide (p ≥ (i : Int)) = true from decide_eq_true g2, decide_eq_false (show ¬ p < (i : Int) by omega)]
          simp
        rw [show decide (p ≥ (i : Int)) = false from decide_eq_false g2, decide_eq_true (show p < (i : Int) by omega)]
        by_cases g3 : p = -1
        · refine ⟨false, by rw [show decide (p ≥ 0) = false from decide_eq_false (by omega)]; simp [gopt], ?_⟩
          subst g3
          simp
        have g4 : 0 ≤ p := by omega
        have g5 : 0 < i := by omega
        have hab := above_spec x.2.2.1 (a := p) (n := (i : Int) - 1) g4 (by omega) (by rw [show ((i : Int) - 1 + 1).toNat = i by omega]; exact hd)
        refine ⟨_, by rw [show decide ((i : Int) > 0) = true from decide_eq_true (by omega), show decide (p ≥ 0) = true from decide_eq_true g4]; exact hab, ?_⟩
        rw [show decide ((i : Int) > 0) = true from decide_eq_true (by omega), show decide (p ≥ 0) = true from decide_eq_true g4, beq_f (show ¬ p = -1 from g3), beq_f (show ¬ (i : Int) = 0 by omega)]
        by_cases g6 : p.toNat ∈ wayN x.2.2.1 ((i : Int) - 1)
        · simp [g4, g6]
        · simp [g4, g6]
      obtain ⟨b, hb1, hb2⟩ := hcond
      rw [hb1, Option.bind_some, hb2]
      cases hob : ordB x.2.2.1 i
      · rfl
      have hor := ho.step hob
      have hd1 := hor.down
      simp only [Bool.not_true, cond_false, if_neg (show ¬ (true = false) by decide)]
      -- twins
      have hL4 := iterW_any (List.range i) (fun k => (rpar x.2.2.1 k == rpar x.2.2.1 i) && (rmv x.2.2.1 k == rmv x.2.2.1 i)) (ref3RecordFault_L4 (((i : Int), ()), ()) x nd) (.inr (.inr (.inr (.inr 7)))) (.inl ((), ())) (fun k hk => by
        have hk' : k < i := by simpa using hk
        obtain ⟨d, e1, e2, e3⟩ := at_node (ns := x.2.2.1) (n := (k : Int)) (by omega) (by omega)
        rw [Int.toNat_natCast] at e2 e3
        unfold ref3RecordFault_L4
        simp only [show decide ((k : Int) < (i : Int)) = true by simp; omega, cond_true, n1, n2, List.getElem_range]
        rw [e1, Option.bind_some, e2, w64_id (n := (k : Int) + 1) (by omega) (by omega)]
        cases e5 : (rpar x.2.2.1 k == rpar x.2.2.1 i)
        · rfl
        · show Option.bind (at? x.2.2.1 (k : Int)) _ = _
          rw [e1, Option.bind_some]
          have := eqMv_iff d.2.1 (rmv x.2.2.1 i)
          unfold eqMv at this
          rw [this, e3]
          cases (rmv x.2.2.1 k == rmv x.2.2.1 i) <;> rfl) (by
        unfold ref3RecordFault_L4
        rw [List.length_range]
        simp)
      have htw : (List.range i).any (fun k => (rpar x.2.2.1 k == rpar x.2.2.1 i) && (rmv x.2.2.1 k == rmv x.2.2.1 i)) = twinB x.2.2.1 i := rfl
      rw [hL4, htw, Option.bind_some]
      cases twinB x.2.2.1 i
      rotate_left
      · rfl
      simp only [cond_false, Sum.elim_inl, if_neg (show ¬ (false = true) by decide)]
      have hwl : (wayM x.2.2.1 (i : Int)).length ≤ 1000 := by
        unfold wayM
        rw [List.length_reverse, List.length_map]
        have := wayN_len _ (i : Int) (Nat.le_refl _) (by rw [show ((i : Int) + 1).toNat = i + 1 by omega]; exact hd1)
        omega
      rw [way3 x.2.2.1 (by omega) (n := (i : Int)) (by omega) (by omega) (by rw [show ((i : Int) + 1).toNat = i + 1 by omega]; exact hd1) (fun j hj => hor.low j (by omega)), Option.bind_some, places_spec r (wayM x.2.2.1 (i : Int)) hr (by omega), Option.bind_some, places_err]
      by_cases e : gErr r (wayM x.2.2.1 (i : Int)) = 0
      · simp only [e, bne_self_eq_false, cond_false, if_true]
        rfl
      · simp only [bne_t e, cond_true, if_neg e]
        rfl
    rw [hs]
    by_cases e : nErr r x.2.2.1 i = 0
    · rw [if_pos e] at hf
      rw [if_pos e, iterW_inl hf]
      exact ih (i + 1) (by omega) (ho.step (nErr_ord e))
    · rw [if_neg e] at hf
      rw [if_neg e, iterW_inr hf, if_neg e]
      rfl
theorem refDeep_spec (x : Rec) (h30 : x.2.2.1.length ≤ 30) (ho : Ord x.2.2.1 x.2.2.1.length) : iterW (ref3RecordFault_L5 x) ((0, ()), ()) = some (.inl ((), ())) := by
  have := iterW_any x.2.2.1 (fun _ => false) (ref3RecordFault_L5 x) (.inr 2) (.inl ((), ())) (fun i hi => by
    obtain ⟨n, e1, e2⟩ := within_spec x.2.2.1 h30 hi (ho.mono (by omega))
    unfold ref3RecordFault_L5
    simp only [show decide ((i : Int) < ((x.2.2.1.length : Nat) : Int)) = true by simp; omega, cond_true]
    rw [e1, Option.bind_some, show decide (n > 20) = false by simp only [decide_eq_false_iff_not]; omega, cond_false, w64_id (by omega) (by omega)]
    rfl) (by unfold ref3RecordFault_L5; simp)
  rw [this, show x.2.2.1.any (fun _ => false) = false from List.any_eq_false.2 (fun _ _ h => by cases h)]
  rfl
/-- the reference's word -/
theorem fault_spec {r : Rules} (hr : Rng tyRules r) (x : Rec) (hx : Rng tyRec x) (h30 : x.2.2.1.length ≤ 30) : ref3RecordFault r x = some (recErr r x) := by
  unfold ref3RecordFault recErr
  rw [places_spec r [] hr (by simp), Option.bind_some, places_err]
  have hg : gErr r [] = ruleErr r := by
    unfold gErr gameOf
    by_cases c : ruleErr r = 0
    · rw [if_pos c, c]; rfl
    · rw [if_neg c]
  rw [hg]
  by_cases c : ruleErr r = 0
  rotate_left
  · rw [bne_t c, cond_true, if_pos c]
  rw [bne_f c, cond_false, if_neg (fun h => h c)]
  rw [show decide (((x.2.2.1.length : Nat) : Int) > 200) = false by simp only [decide_eq_false_iff_not]; omega, Bool.or_false]
  by_cases c1 : 10 < x.1.length
  · rw [if_pos c1, show decide (((x.1.length : Nat) : Int) > 10) = true by simp only [decide_eq_true_eq]; omega]; rfl
  rw [if_neg c1, show decide (((x.1.length : Nat) : Int) > 10) = false by simp only [decide_eq_false_iff_not]; omega, cond_false, refTags_spec x hx]
  by_cases c2 : firstNZ (tErr x.1) x.1.length = 0
  rotate_left
  · rw [if_neg c2, if_pos c2]
  rw [if_pos c2, if_neg (fun h => h c2)]
  by_cases c3 : x.2.2.2.1 < 0 ∨ 3 < x.2.2.2.1
  · rw [if_pos c3, show (decide (x.2.2.2.1 < 0) || decide (x.2.2.2.1 > 3)) = true by simp only [Bool.or_eq_true, decide_eq_true_eq]; omega]; rfl
  rw [if_neg c3, show (decide (x.2.2.2.1 < 0) || decide (x.2.2.2.1 > 3)) = false by simp only [Bool.or_eq_false_iff, decide_eq_false_iff_not]; omega, cond_false]
  by_cases hc1 : 60 < x.2.1.size
  · have : cErr x.2.1 = 2 := by unfold cErr; rw [if_pos hc1]
    rw [show decide (((x.2.1.size : Nat) : Int) > 60) = true by simp only [decide_eq_true_eq]; omega, this]
    rfl
  rw [show decide (((x.2.1.size : Nat) : Int) > 60) = false by simp only [decide_eq_false_iff_not]; omega, cond_false, fine_spec _ _ (by omega) (by decide), Option.bind_some]
  cases hc2 : fineT x.2.1 (ByteArray.mk #[123, 125])
  · have : cErr x.2.1 = 3 := by unfold cErr; rw [if_neg hc1, hc2, if_pos rfl]
    rw [this]
    rfl
  have hc : cErr x.2.1 = 0 := by unfold cErr; rw [if_neg hc1, hc2, if_neg (by decide)]
  simp only [hc, ne_eq, not_true, if_false, Bool.not_true, cond_false]
  have h3 := refNodes_spec hr x hx h30 (Option.bind (iterW (ref3RecordFault_L5 x) ((0, ()), ())) (Sum.elim (fun x28 => some 0) some)) x.2.2.1.length 0 (by omega) (fun i hi => by omega)
  refine h3.trans ?_
  show (if firstNZ (nErr r x.2.2.1) x.2.2.1.length = 0 then _ else some (firstNZ (nErr r x.2.2.1) x.2.2.1.length)) = some (firstNZ (nErr r x.2.2.1) x.2.2.1.length)
  by_cases c5 : firstNZ (nErr r x.2.2.1) x.2.2.1.length = 0
  · rw [if_pos c5, refDeep_spec x h30 (ord_of c5), c5]
    rfl
  · rw [if_neg c5]
end Go.Proofs.YtocnfflklfeocaaGreat
