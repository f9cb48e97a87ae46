/- Certificates: the loops of the program and of the reference over the replies. No condition of its own. -/
import Derived.Test.YticeklcmijbjfaaCertF
namespace Go.Proofs.Yticeklcmijbjfaa
open Go.Den
set_option linter.unusedVariables false
set_option linter.unusedSimpArgs false
set_option maxRecDepth 100000

def smallL (l : List CNode) : Prop := l.length ≤ 200 ∧ ∀ nd ∈ l, nd.2.1.length < 140737488355328
theorem okK_inc {n i k : Int} (h : okK n i k = true) (hi : 0 ≤ i) : k = -1 ∧ (∀ a, incR n i k a = a) ∨ (i < k ∧ k < n ∧ ∀ a, incR n i k a = incA a k) := by
  unfold okK at h
  simp only [Bool.or_eq_true, beq_iff_eq, Bool.and_eq_true, decide_eq_true_eq] at h
  rcases h with h | ⟨h1, h2⟩
  · refine .inl ⟨h, fun a => ?_⟩
    unfold incR
    rw [decide_eq_false (by omega), Bool.false_and, cond_false]
  · refine .inr ⟨h1, h2, fun a => ?_⟩
    unfold incR
    rw [decide_eq_true (show k > i from h1), decide_eq_true h2, Bool.and_self, cond_true]
theorem okK_bad {n i k : Int} (h : okK n i k = false) : (k == -1) = false ∧ (decide (k ≤ i) || decide (k ≥ n)) = true := by
  unfold okK at h
  rw [Bool.or_eq_false_iff, Bool.and_eq_false_iff, decide_eq_false_iff_not, decide_eq_false_iff_not] at h
  refine ⟨h.1, ?_⟩
  rw [Bool.or_eq_true, decide_eq_true_eq, decide_eq_true_eq]
  omega
theorem form_inner {l : List CNode} (hs : smallL l) {i : Nat} (hi : i < l.length) (a0 : List Int) (h0 : a0.length = l.length) (x : (Int × Unit) × (List Int) × Unit) (hx : x.1.1 = (i : Int)) :
    iterW (certForm_L2 l[i] x l) (((0 : Int), ()), (a0, ())) = some (bif formI l i then .inl ((), (nameI l i a0, ())) else .inr (.inr (.inr (.inr false)))) := by
  have hlen : (repN l i).length < 140737488355328 := by rw [repN_get hi]; exact hs.2 _ (List.getElem_mem hi)
  have hr := repN_get hi
  have hn := hs.1
  refine iter_ex (repN l i).length (certForm_L2 l[i] x l) (fun j a => (((j : Int), ()), (a, ()))) (fun j => okK (l.length : Int) (i : Int) ((repN l i).getD j 0)) (fun j a => incR (l.length : Int) (i : Int) ((repN l i).getD j 0) a) (fun a => .inl ((), (a, ()))) _ (fun a => a.length = l.length)
    (fun j hj a ha => ?_) (fun j a ha => by rw [incR_len]; exact ha) (fun a ha => ?_) (repN l i).length 0 a0 (by omega) h0
  · have hjr : j < l[i].2.1.length := by rw [← hr]; exact hj
    have hgj : (repN l i).getD j 0 = l[i].2.1[j] := by rw [List.getD_eq_getElem?_getD, hr, List.getElem?_eq_getElem hjr, Option.getD_some]
    have hw : w64 ((j : Int) + 1) = ((j + 1 : Nat) : Int) := by rw [w64_id (by omega) (by omega)]; omega
    unfold certForm_L2
    simp only [hgj, hx]
    rw [decide_eq_true (show (j : Int) < ((l[i].2.1.length : Nat) : Int) by omega), cond_true, at?_eq l[i].2.1 (j : Int) (by omega) (by omega), Option.bind_some, hw]
    simp only [Int.toNat_natCast]
    cases hok : okK (l.length : Int) (i : Int) l[i].2.1[j] with
    | true =>
      rcases okK_inc hok (by omega) with ⟨e, h2⟩ | ⟨h1, h2, h3⟩
      · rw [beq_t e, cond_true, h2]; rfl
      · rw [beq_f (show ¬ l[i].2.1[j] = -1 by omega), cond_false, decide_eq_false (show ¬ l[i].2.1[j] ≤ (i : Int) by omega), decide_eq_false (show ¬ l[i].2.1[j] ≥ ((l.length : Nat) : Int) by omega), Bool.or_self, cond_false, inb_iff.2 ⟨by omega, by omega⟩, req_true, req_true, h3]
        rfl
    | false =>
      obtain ⟨h1, h2⟩ := okK_bad hok
      rw [h1, cond_false, h2, cond_true]
      rfl
  · unfold certForm_L2
    simp only []
    rw [decide_eq_false (by rw [hr]; omega), cond_false]
theorem form_outer {l : List CNode} (hs : smallL l) : iterW (certForm_L1 l) (((0 : Int), ()), (List.replicate l.length 0, ())) = some (bif formB l then .inl ((), (named l, ())) else .inr false) := by
  have hn := hs.1
  refine iter_ex l.length (certForm_L1 l) (fun i a => (((i : Int), ()), (a, ()))) (formI l) (fun i a => nameI l i a) (fun a => .inl ((), (a, ()))) (.inr false) (fun a => a.length = l.length)
    (fun i hi a ha => ?_) (fun i a ha => by rw [nameI_len]; exact ha) (fun a ha => ?_) l.length 0 _ (by omega) (by simp)
  · have hw : w64 ((i : Int) + 1) = ((i + 1 : Nat) : Int) := by rw [w64_id (by omega) (by omega)]; omega
    unfold certForm_L1
    simp only []
    rw [ltd l i hi, cond_true, at?_eq l (i : Int) (by omega) (by omega), Option.bind_some]
    simp only [Int.toNat_natCast]
    rw [form_inner hs hi a ha _ rfl, hw]
    cases formI l i <;> rfl
  · unfold certForm_L1
    simp only []
    rw [nltd l, cond_false]
theorem all_tail {l : List Int} (x8 : Unit × (List Int) × Unit) (hx : x8.2.1 = l) (hl : l.length ≤ 200) :
    Option.bind (iterW (certForm_L3 x8) (((0 : Int), ()), ())) (Sum.elim (fun _ => some true) some) = some ((l.drop 1).all (fun n => n == 1)) := by
  have hK : ((x8.2.1.take (((x8.2.1.length : Nat) : Int)).toNat).drop 1) = l.drop 1 := by rw [hx, Int.toNat_natCast, List.take_length]
  have := iter_ex (l.drop 1).length (certForm_L3 x8) (fun i (_ : Unit) => (((i : Int), ()), ())) (fun i => ((l.drop 1).getD i 0) == 1) (fun _ a => a) (fun _ => .inl ((), ())) (.inr false) (fun _ => True)
    (fun i hi a _ => by
      have hw : w64 ((i : Int) + 1) = ((i + 1 : Nat) : Int) := by
        simp only [List.length_drop] at hi
        rw [w64_id (by omega) (by omega)]; omega
      unfold certForm_L3
      simp only []
      rw [hK, ltd _ i hi, cond_true, at?_eq _ (i : Int) (by omega) (by omega), Option.bind_some, hw]
      simp only [Int.toNat_natCast, List.getD_eq_getElem?_getD, List.getElem?_eq_getElem hi, Option.getD_some]
      by_cases c : (l.drop 1)[i] = 1
      · rw [bne_f c, beq_t c]; rfl
      · rw [bne_t c, beq_f c, cond_true, cond_false, decide_eq_true (by omega)]; rfl) (fun _ _ _ => trivial) (fun a _ => by
      unfold certForm_L3
      simp only []
      rw [hK, nltd, cond_false]) (l.drop 1).length 0 () (by omega) trivial
  have this2 : iterW (certForm_L3 x8) (((0 : Int), ()), ()) = _ := this
  rw [this2, Option.bind_some]
  have e : allF (fun i => ((l.drop 1).getD i 0) == 1) 0 (l.drop 1).length = (l.drop 1).all (fun n => n == 1) := by
    rw [Bool.eq_iff_iff, allF_iff, List.all_eq_true]
    constructor
    · intro h x hx
      obtain ⟨i, hi, e⟩ := List.mem_iff_getElem.1 hx
      have := h i (by omega) (by omega)
      rw [List.getD_eq_getElem?_getD, List.getElem?_eq_getElem hi, Option.getD_some, e] at this
      exact this
    · intro h j _ hj
      rw [List.getD_eq_getElem?_getD, List.getElem?_eq_getElem (by omega), Option.getD_some]
      exact h _ (List.getElem_mem _)
  rw [e]
  cases (l.drop 1).all (fun n => n == 1) <;> rfl
theorem form_spec {l : List CNode} (hs : smallL l) (h0 : 0 < l.length) : certForm l = some (shapeB l) := by
  have hn := hs.1
  have hnl := named_len l
  unfold certForm shapeB
  simp only [Int.toNat_natCast, beq_self_eq_true, Bool.true_and]
  rw [decide_eq_true (show (0 : Int) ≤ ((l.length : Nat) : Int) by omega), room_ok (by omega), Bool.and_self, req_true, form_outer hs, Option.bind_some]
  cases hb : formB l with
  | false => rfl
  | true =>
    simp only [cond_true, Sum.elim_inl, Bool.true_and]
    rw [show boundsI 1 (((named l).length : Nat) : Int) (named l).length = true by simp [boundsI]; omega, req_true]
    exact all_tail _ rfl (by omega)
/-! the reference's loops -/
theorem foldF_pair {A : Type} (ok : Nat → Bool) (g : Nat → A → A) : ∀ (m i : Nat) (b : Bool) (a : A), foldF (fun j (q : Bool × A) => (q.1 && ok j, g j q.2)) i m (b, a) = (b && allF ok i m, foldF g i m a)
  | 0, i, b, a => by simp [foldF, allF]
  | m + 1, i, b, a => by rw [foldF, foldF_pair ok g m, allF, foldF, Bool.and_assoc]
theorem allF_true : ∀ (m i : Nat), allF (fun _ => true) i m = true
  | 0, _ => rfl
  | m + 1, i => by rw [allF, allF_true m]; rfl
def cutL (l : List CNode) : List CNode := (l.take ((if (200 : Int) < ((l.length : Nat) : Int) then (200 : Int) else ((l.length : Nat) : Int))).toNat).drop 0
theorem ref_inner {l : List CNode} (hs : smallL (cutL l)) {i : Nat} (hi : i < (cutL l).length) (b0 : Bool) (a0 : List Int) (h0 : a0.length = (cutL l).length) (x : (Bool × Int × Unit) × (List Int) × Unit) (hx : x.1.2.1 = (i : Int)) :
    iterW (law1CertChecks_L2 (cutL l)[i] x l) ((b0, (0 : Int), ()), (a0, ())) = some ((b0 && formI (cutL l) i, ()), (nameI (cutL l) i a0, ())) := by
  have hlen : (repN (cutL l) i).length < 140737488355328 := by rw [repN_get hi]; exact hs.2 _ (List.getElem_mem hi)
  have hr := repN_get hi
  have hn := hs.1
  have hcut : (l.take ((if (200 : Int) < ((l.length : Nat) : Int) then (200 : Int) else ((l.length : Nat) : Int))).toNat).drop 0 = cutL l := rfl
  have := iter_ex (repN (cutL l) i).length (law1CertChecks_L2 (cutL l)[i] x l) (fun j (q : Bool × List Int) => ((q.1, (j : Int), ()), (q.2, ()))) (fun _ => true) (fun j (q : Bool × List Int) => (q.1 && okK ((cutL l).length : Int) (i : Int) ((repN (cutL l) i).getD j 0), incR ((cutL l).length : Int) (i : Int) ((repN (cutL l) i).getD j 0) q.2)) (fun q => ((q.1, ()), (q.2, ()))) ((b0, ()), (a0, ())) (fun q => q.2.length = (cutL l).length)
    (fun j hj q ha => ?_) (fun j q ha => by simp only [incR_len]; exact ha) (fun q ha => ?_) (repN (cutL l) i).length 0 (b0, a0) (by omega) h0
  · rw [allF_true, cond_true, foldF_pair] at this
    exact this
  · obtain ⟨b, a⟩ := q
    have hjr : j < (cutL l)[i].2.1.length := by rw [← hr]; exact hj
    have hgj : (repN (cutL l) i).getD j 0 = (cutL l)[i].2.1[j] := by rw [List.getD_eq_getElem?_getD, hr, List.getElem?_eq_getElem hjr, Option.getD_some]
    have hw : w64 ((j : Int) + 1) = ((j + 1 : Nat) : Int) := by rw [w64_id (by omega) (by omega)]; omega
    simp only [] at ha
    unfold law1CertChecks_L2
    simp only [hgj, hx, hcut]
    rw [decide_eq_true (show (j : Int) < (((cutL l)[i].2.1.length : Nat) : Int) by omega), cond_true, at?_eq (cutL l)[i].2.1 (j : Int) (by omega) (by omega), Option.bind_some, hw]
    simp only [Int.toNat_natCast, cond_true]
    unfold incR okK
    cases hc : (decide ((cutL l)[i].2.1[j] > (i : Int)) && decide ((cutL l)[i].2.1[j] < (((cutL l).length : Nat) : Int))) with
    | true =>
      have hc' := hc
      simp only [Bool.and_eq_true, decide_eq_true_eq] at hc'
      rw [cond_true, cond_true, inb_iff.2 ⟨by omega, by omega⟩, req_true, req_true, Bool.or_true, Bool.and_true]
      rfl
    | false =>
      rw [cond_false, cond_false, Bool.or_false]
      by_cases e : (cutL l)[i].2.1[j] = -1
      · rw [bne_f e, beq_t e, Bool.and_true]; rfl
      · rw [bne_t e, beq_f e, Bool.and_false]; rfl
  · obtain ⟨b, a⟩ := q
    unfold law1CertChecks_L2
    simp only []
    rw [decide_eq_false (by rw [hr]; omega), cond_false]
theorem ref_outer {l : List CNode} (hs : smallL (cutL l)) : iterW (law1CertChecks_L1 l) ((true, (0 : Int), ()), (List.replicate (cutL l).length 0, ())) = some ((formB (cutL l), ()), (named (cutL l), ())) := by
  have hn := hs.1
  have hcut : (l.take ((if (200 : Int) < ((l.length : Nat) : Int) then (200 : Int) else ((l.length : Nat) : Int))).toNat).drop 0 = cutL l := rfl
  have := iter_ex (cutL l).length (law1CertChecks_L1 l) (fun i (q : Bool × List Int) => ((q.1, (i : Int), ()), (q.2, ()))) (fun _ => true) (fun i (q : Bool × List Int) => (q.1 && formI (cutL l) i, nameI (cutL l) i q.2)) (fun q => ((q.1, ()), (q.2, ()))) ((true, ()), ([], ())) (fun q => q.2.length = (cutL l).length)
    (fun i hi q ha => ?_) (fun i q ha => by simp only [nameI_len]; exact ha) (fun q ha => ?_) (cutL l).length 0 (true, List.replicate (cutL l).length 0) (by omega) (by simp)
  · rw [allF_true, cond_true, foldF_pair, Bool.true_and] at this
    exact this
  · obtain ⟨b, a⟩ := q
    have hw : w64 ((i : Int) + 1) = ((i + 1 : Nat) : Int) := by rw [w64_id (by omega) (by omega)]; omega
    simp only [] at ha
    unfold law1CertChecks_L1
    simp only [hcut]
    rw [ltd (cutL l) i hi, cond_true, at?_eq (cutL l) (i : Int) (by omega) (by omega), Option.bind_some]
    simp only [Int.toNat_natCast, cond_true]
    rw [ref_inner hs hi b a ha _ rfl, hw]
    rfl
  · obtain ⟨b, a⟩ := q
    unfold law1CertChecks_L1
    simp only [hcut]
    rw [nltd (cutL l), cond_false]
theorem ref_shape {l : List CNode} (hs : smallL l) (h0 : 0 < l.length) (x : (Bool × Unit) × (List Int) × Unit) (hx : x = ((formB l, ()), (named l, ()))) : iterW (law1CertChecks_L3 x) ((formB l, (0 : Int), ()), ()) = some ((shapeB l, ()), ()) := by
  have hn := hs.1
  have hnl := named_len l
  have := iter_ex (named l).length (law1CertChecks_L3 x) (fun i (b : Bool) => ((b, (i : Int), ()), ())) (fun _ => true) (fun i b => b && (((i : Int) == 0) || ((named l).getD i 0 == 1))) (fun b => ((b, ()), ())) ((true, ()), ()) (fun _ => True)
    (fun i hi b _ => by
      have hw : w64 ((i : Int) + 1) = ((i + 1 : Nat) : Int) := by rw [w64_id (by omega) (by omega)]; omega
      subst hx
      unfold law1CertChecks_L3
      simp only []
      rw [ltd _ i hi, cond_true, inbN _ i hi, req_true, hw, Int.toNat_natCast]
      rfl) (fun _ _ _ => trivial) (fun b _ => by
      subst hx
      unfold law1CertChecks_L3
      simp only []
      rw [nltd, cond_false]) (named l).length 0 (formB l) (by omega) trivial
  have this2 : iterW (law1CertChecks_L3 x) ((formB l, (0 : Int), ()), ()) = _ := this
  rw [this2, allF_true, cond_true]
  have e : ∀ m i b, foldF (fun (i : Nat) b => b && (((i : Int) == 0) || ((named l).getD i 0 == 1))) i m b = (b && allF (fun i => ((i : Int) == 0) || ((named l).getD i 0 == 1)) i m) := by
    intro m
    induction m with
    | zero => intro i b; simp [foldF, allF]
    | succ m ih => intro i b; rw [foldF, ih, allF, Bool.and_assoc]
  rw [e]
  unfold shapeB
  have e2 : allF (fun i => ((i : Int) == 0) || ((named l).getD i 0 == 1)) 0 (named l).length = ((named l).drop 1).all (fun n => n == 1) := by
    rw [Bool.eq_iff_iff, allF_iff, List.all_eq_true]
    constructor
    · intro h y hy
      obtain ⟨i, hi, e⟩ := List.mem_iff_getElem.1 hy
      rw [List.length_drop] at hi
      have h2 := h (i + 1) (by omega) (by omega)
      rw [List.getElem_drop] at e
      rw [beq_f (show ¬ (((i + 1 : Nat) : Int)) = 0 by omega), Bool.false_or, List.getD_eq_getElem?_getD, List.getElem?_eq_getElem (by omega), Option.getD_some] at h2
      rw [← e]
      simpa [Nat.add_comm] using h2
    · intro h j _ hj
      by_cases e : j = 0
      · subst e; rfl
      · rw [List.getD_eq_getElem?_getD, List.getElem?_eq_getElem (by omega), Option.getD_some]
        have hm : (named l)[j]'(by omega) ∈ (named l).drop 1 := by
          refine List.mem_of_getElem? (i := j - 1) ?_
          rw [List.getElem?_drop, show 1 + (j - 1) = j by omega, List.getElem?_eq_getElem (by omega)]
        rw [h _ hm, Bool.or_true]
  rw [e2]
end Go.Proofs.Yticeklcmijbjfaa
