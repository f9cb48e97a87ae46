/- Regions: what the interpreter says of them holds. No condition of its own. -/
import Derived.Test.YtejmikpmkfnlgaaDen9
namespace Go.Den
open Go.Eng
set_option linter.unusedVariables false
set_option linter.unusedSimpArgs false

/-! ### a region that draws: operations that are quiet in a class come first, the others follow in one order -/
section
variable {P : Program} {ops : Array Oper} {md : Region.Mode} {C : World → Prop}
def anyC (P : Program) (md : Region.Mode) (ops : Array Oper) (C : World → Prop) (n : Nat) (L : Array Bool → Act → Prop) : Nat → Array Bool → Act → Prop
  | 0, listed, a => L listed a
  | f + 1, listed, a => Region.ready md ops listed ≠ [] ∧ ∀ i ∈ Region.ready md ops listed, i < n ∧ qOp P ops C i (anyC P md ops C n L f (listed.setIfInBounds i true)) a
theorem anyC_head {n g : Nat} {L : Array Bool → Act → Prop} {Q : Exit → Act → World → Prop} (hL : ∀ listed a w, C w → L listed a → wpAny P md ops Q g listed a w) :
    ∀ (f : Nat) (listed : Array Bool) (a : Act) (w : World), C w → anyC P md ops C n L f listed a → wpAny P md ops Q (f + g) listed a w
  | 0, listed, a, w, hw, h => by rw [Nat.zero_add]; exact hL _ _ _ hw h
  | f + 1, listed, a, w, hw, h => by
    rw [show f + 1 + g = (f + g) + 1 by omega]
    exact ⟨fun h0 => absurd h0 h.1, fun i hi => wpOp_of_qOp hw (fun a' w' hw' h' => anyC_head hL f _ a' w' hw' h') (h.2 i hi).2⟩
theorem anyC_first {n i : Nat} {oi : Oper} {v : Value} {L : Array Bool → Act → Prop} (hi : ops[i]? = some oi) (hsel : ∀ (j : Nat) (o : Oper) cs b, ops[j]? = some o → o.op ≠ .select cs b)
    (hs : Region.sinkB md ops n = true) (hc : Region.chainB md ops n = true) (hn : n < ops.size) (hin : i < n) (hdone : ∀ listed a, L listed a → ∀ j ∈ Region.ready md ops listed, n ≤ j) :
    ∀ (f : Nat) (listed : Array Bool) (a : Act), HeadInv md ops n listed →
      (∀ j oj, ops[j]? = some oj → j ≠ i → listed.getD j true = false → (∀ e ∈ oj.after, Region.binds md e = true → e.on ≠ i) → oi.apart ops oj = true) →
      i ∈ Region.ready md ops listed → YieldsIn P ops C oi v a →
      anyC P md ops C n L f (listed.setIfInBounds i true) (a.put oi.dst v) → anyC P md ops C n L (f + 1) listed a := by
  intro f
  induction f with
  | zero =>
    intro listed a inv _ hr hy H
    have hun := (mem_ready.1 hr).1
    refine ⟨fun h => (by rw [h] at hr; cases hr), fun j hj => ?_⟩
    have hjn : j < n := by
      rcases Nat.lt_or_ge j n with h | h
      · exact h
      · exact absurd hj (tail_waits hs hc hn inv _ i rfl hin hun j h)
    refine ⟨hjn, ?_⟩
    by_cases hji : j = i
    · subst hji; exact hy.qOp hi H
    · have := hdone _ _ H j (ready_mono hj hji)
      omega
  | succ f ih =>
    intro listed a inv hfree hr hy H
    have hun := (mem_ready.1 hr).1
    refine ⟨fun h => (by rw [h] at hr; cases hr), fun j hj => ?_⟩
    have hjn : j < n := by
      rcases Nat.lt_or_ge j n with h | h
      · exact h
      · exact absurd hj (tail_waits hs hc hn inv _ i rfl hin hun j h)
    refine ⟨hjn, ?_⟩
    by_cases hji : j = i
    · subst hji; exact hy.qOp hi H
    · have h1 := (H.2 j (ready_mono hj hji)).2
      obtain ⟨hjun, oj, hoj, hall⟩ := mem_ready.1 hj
      have hnot : ∀ e ∈ oj.after, Region.binds md e = true → e.on ≠ i := fun e he hb heq => by
        have h1 := hall e he hb
        rw [heq, getD_both hun] at h1
        cases h1
      have h2 := qOp_put hoj (hfree j oj hoj hji hjun hnot) (fun cs b => hsel i oi cs b hi) (fun cs b => hsel j oj cs b hoj) hy h1
      have hfree' : ∀ k ok, ops[k]? = some ok → k ≠ i → (listed.setIfInBounds j true).getD k true = false →
          (∀ e ∈ ok.after, Region.binds md e = true → e.on ≠ i) → oi.apart ops ok = true := fun k ok hk hki hun hno => by
        refine hfree k ok hk hki ?_ hno
        by_cases hjk : j = k
        · subst hjk; exact hjun
        · rw [getD_set_ne true hjk] at hun; exact hun
      refine qOp_mono (fun a' h3 => ih (listed.setIfInBounds j true) a' (inv.set hj hjn) hfree' (ready_mono hr (Ne.symm hji)) h3.1 ?_) h2
      rw [Array.setIfInBounds_comm _ _ hji]
      exact h3.2
theorem anyC_lex {n g : Nat} {Lq : Act → Prop} (hsel : Region.noSelect ops = true) (hs : Region.sinkB md ops n = true) (hc : Region.chainB md ops n = true) (hn : n < ops.size) :
    ∀ (l : List Oper) (k : Nat) (listed : Array Bool) (a : Act), (∀ j, j < l.length → l[j]? = ops[k + j]?) → k + l.length = n → HeadInv md ops n listed →
    Region.lexHead md ops g l.length k listed = true → wpQuiet P ops C Lq l a → anyC P md ops C n (fun listed' a' => Region.seqB md ops g n listed' = true ∧ Lq a') l.length listed a
  | [], k, listed, a, _, hk, _, hB, h => by
    have : k = n := by simpa using hk
    subst this
    exact ⟨by simpa [Region.lexHead] using hB, h⟩
  | o :: l, k, listed, a, hl, hk, inv, hB, h => by
    have h0 : ops[k]? = some o := by simpa using (hl 0 (by simp)).symm
    simp only [List.length_cons, Region.lexHead, Bool.and_eq_true] at hB
    obtain ⟨⟨hr, hf⟩, hB'⟩ := hB
    have hkn : k < n := by simp only [List.length_cons] at hk; omega
    have hr' : k ∈ Region.ready md ops listed := by simpa using hr
    have hst : qOp P ops C k (wpQuiet P ops C Lq l) a := by unfold qOp; simp only [h0]; exact h
    obtain ⟨v, hy, hK⟩ := yieldsIn_of_qOp h0 hst
    exact anyC_first h0 (Region.noSelect_spec hsel) hs hc hn hkn (fun listed' a' hL => seqB_ready hL.1) l.length listed a inv (Region.free_spec h0 hf) hr' hy
      (anyC_lex hsel hs hc hn l (k + 1) _ _ (fun j hj => by have := hl (j + 1) (by simp; omega); simpa [Nat.add_assoc, Nat.add_comm 1 j] using this) (by simp only [List.length_cons] at hk; omega) (inv.set hr' hkn) hB' hK)
theorem wp_region_quiet_tail {id : Nat} {Q : Exit → Act → World → Prop} {a : Act} {w : World} (n : Nat) (hm : P.follows .mixedOrders = true) (hB : Region.lexTailB .any ops n = true) (hC : C { w with drawn := w.drawn + 1 })
    (h : wpQuiet P ops C (fun a' => ∀ w', C w' → wpList P ops Q (ops.toList.drop n) a' w') (ops.toList.take n) a) : (Code.region id ops true).wp P Q a w := by
  simp only [Region.lexTailB, Bool.and_eq_true, decide_eq_true_eq] at hB
  obtain ⟨⟨⟨⟨hsel, hn⟩, hs⟩, hc⟩, hlex⟩ := hB
  have htl : (ops.toList.take n).length = n := by simp; omega
  have hdl : (ops.toList.drop n).length = ops.size - n := by simp
  have inv0 : HeadInv .any ops n (Array.replicate ops.size false) :=
    ⟨by simp, fun j oj _ hl => (by rw [getD_replicate_false] at hl; cases hl), fun t _ ht => getD_in (by simpa using ht) (getD_replicate_false _ _)⟩
  have H := anyC_lex (md := .any) (g := ops.size - n) hsel hs hc hn (ops.toList.take n) 0 _ a (fun j hj => by
    have hj' : j < n := by rw [htl] at hj; exact hj
    simp [hj']) (by simpa using htl) inv0 (by rw [htl]; exact hlex) h
  refine wp_region_any hm ?_
  have := anyC_head (Q := Q) (g := ops.size - n) (fun listed a' w' hw' hL => by
    have := wpAny_of_seq (md := .any) (Q' := Q) (ops.toList.drop n) n listed a' w' (fun j => by simp [List.getElem?_drop]) (by rw [hdl]; exact hL.1) (hL.2 w' hw')
    rwa [hdl] at this) _ _ _ _ hC H
  rw [htl, show n + (ops.size - n) = ops.size by omega] at this
  exact this
end

/-! ### guards -/
section
variable {P : Program} {env : Env} {F : Fr} {σ : AState} {γ : Gh} {a : Act} {w : World} {ops : Array Oper} {o : Oper} {α : Type} {res : α} {Q : Exit → Act → World → Prop}

theorem Step.gsUp (σ : AState) (γ : Gh) (w : World) (k : Nat) : Step σ γ w { σ with gs := Nat.lor σ.gs k } γ w := ⟨rfl, rfl, rfl, fun _ _ _ h => h, fun _ _ _ => rfl, Keep.refl _ _ _⟩
theorem litB_not {x : Nat × Bool} (h : litB σ (x.1, !x.2) = true) : litB σ x = false := by
  obtain ⟨d, b⟩ := x
  unfold litB at h ⊢
  split at h
  · rename_i t c hg
    rw [hg]
    cases b <;> cases c <;> simp_all
  · cases h
theorem falsT_spec (r : Rel F σ γ a w) : ∀ {tg : Tag}, falsT σ.known tg = true → ∃ x ∈ tg, litB σ x = false
  | [], h => by cases h
  | y :: q, h => by
    simp only [falsT, Bool.or_eq_true] at h
    rcases h with h | h
    · exact ⟨y, List.mem_cons_self, litB_not (r.known _ (memT_spec h)).1⟩
    · obtain ⟨x, hx, hl⟩ := falsT_spec r h
      exact ⟨x, List.mem_cons_of_mem _ hx, hl⟩
theorem simpT_spec (r : Rel F σ γ a w) : ∀ {tg : Tag}, (tagT σ (simpT σ.known tg) ↔ tagT σ tg) ∧ ∀ x ∈ simpT σ.known tg, x ∈ tg
  | [] => ⟨Iff.rfl, fun x hx => hx⟩
  | y :: q => by
    obtain ⟨ih1, ih2⟩ := simpT_spec r (tg := q)
    simp only [simpT]
    by_cases hm : memT y σ.known = true
    · simp only [hm, cond_true]
      have hy := (r.known y (memT_spec hm)).1
      refine ⟨⟨fun h => tagT_cons hy (ih1.1 h), fun h => ih1.2 fun x hx => h x (List.mem_cons_of_mem _ hx)⟩, fun x hx => List.mem_cons_of_mem _ (ih2 x hx)⟩
    · simp only [Bool.eq_false_iff.2 hm, cond_false]
      refine ⟨⟨fun h => tagT_cons (h y List.mem_cons_self) (ih1.1 fun x hx => h x (List.mem_cons_of_mem _ hx)), fun h => tagT_cons (h y List.mem_cons_self) (ih1.2 fun x hx => h x (List.mem_cons_of_mem _ hx))⟩, fun x hx => ?_⟩
      rcases List.mem_cons.1 hx with rfl | hx
      · exact List.mem_cons_self
      · exact List.mem_cons_of_mem _ (ih2 x hx)
theorem yielded_of {j : Nat} {oj : Oper} {d : Nat} (h1 : ops[j]? = some oj) (h2 : oj.dst = some d) : yielded ops a.tmps j = match a.tmps[d]? with | some (.bool b) => some b | _ => none := by
  simp [yielded, h1, h2]; rfl
/-- whether an operation is carried out -/
theorem tagOf_spec (r : Rel F σ γ a w) {q : Tag × Bool × Nat} (h : tagOf ops σ o = some q) :
    (q.2.1 = true → Region.wanted o (yielded ops a.tmps) = false ∧ ¬ tagT σ q.1) ∧ (q.2.1 = false → (Region.wanted o (yielded ops a.tmps) = true ↔ tagT σ q.1)) ∧ ∀ x ∈ q.1, bitB (Nat.lor σ.gs q.2.2) x.1 = true := by
  unfold tagOf at h
  split at h
  · rename_i hg
    cases h
    refine ⟨fun h => (by cases h), fun _ => ⟨fun _ x hx => (by cases hx), fun _ => (by simp [Region.wanted, hg])⟩, fun x hx => (by cases hx)⟩
  · rename_i j want hg
    simp only [Option.bind_eq_some_iff] at h
    obtain ⟨oj, h1, d, h2, ⟨tgd, pv⟩, h3, h4⟩ := h
    have hw : Region.wanted o (yielded ops a.tmps) = (yielded ops a.tmps j == some want) := by simp [Region.wanted, hg]
    have hy := yielded_of (a := a) h1 h2
    have hgs : ∀ x ∈ ((d, want) :: tgd), bitB (Nat.lor σ.gs (Nat.shiftLeft 1 d)) x.1 = true := fun x hx => by
      rcases List.mem_cons.1 hx with rfl | hx
      · exact bitB_self _ _
      · exact bitB_lor (r.gs d tgd pv h3 x hx)
    -- the guard was not carried out itself
    have hoff : ¬ tagT σ tgd → Region.wanted o (yielded ops a.tmps) = false := fun hn => by
      rw [hw, hy, r.off d tgd pv h3 hn]; rfl
    by_cases hf : falsT σ.known ((d, want) :: tgd) = true
    · simp only [hf, cond_true, Option.some.injEq] at h4
      subst h4
      have hnt : ¬ tagT σ ((d, want) :: tgd) := fun hT => by
        obtain ⟨x, hx, hl⟩ := falsT_spec r hf
        rw [hT x hx] at hl; cases hl
      refine ⟨fun _ => ⟨?_, hnt⟩, fun h => (by cases h), hgs⟩
      by_cases ht : tagT σ tgd
      · have hl : litB σ (d, want) = false := by
          cases hb : litB σ (d, want)
          · rfl
          · exact absurd (tagT_cons hb ht) hnt
        obtain ⟨v, hv, hp⟩ := r.slots d tgd pv h3 ht
        rw [hw, hy, hv]
        cases v with
        | bool b =>
          obtain ⟨x, hx, hxl⟩ := falsT_spec r hf
          rcases List.mem_cons.1 hx with rfl | hx
          · -- known to be the other way
            have hkn : (∃ c, pv = .c (.v (.bool c))) := by
              have hmem : falsT σ.known ((d, want) :: tgd) = true := hf
              simp only [falsT, Bool.or_eq_true] at hmem
              rcases hmem with hm | hm
              · have := (r.known _ (memT_spec hm)).1
                unfold litB at this
                simp only [h3] at this
                split at this
                · rename_i t c heq
                  simp only [Option.some.injEq, Prod.mk.injEq] at heq
                  exact ⟨c, heq.2⟩
                · cases this
              · obtain ⟨y, hy', hyl⟩ := falsT_spec r hm
                rw [ht y hy'] at hyl; cases hyl
            obtain ⟨c, rfl⟩ := hkn
            have hbc : b = c := by simpa [PR, VR] using hp
            subst hbc
            simp only [litB, h3] at hl
            cases want <;> cases b <;> simp_all
          · rw [ht x hx] at hxl; cases hxl
        | _ => rfl
      · exact hoff ht
    · simp only [Bool.eq_false_iff.2 hf, cond_false, Option.bind_eq_some_iff, Option.some.injEq] at h4
      obtain ⟨b, hb, rfl⟩ := h4
      have hpv := asBool_spec hb
      subst hpv
      obtain ⟨hs1, hs2⟩ := simpT_spec r (tg := (d, want) :: tgd)
      refine ⟨fun h => (by cases h), fun _ => ?_, fun x hx => hgs x (hs2 x hx)⟩
      rw [hs1]
      by_cases ht : tagT σ tgd
      · obtain ⟨v, hv, hp⟩ := r.slots d tgd _ h3 ht
        have hv2 : v = .bool b := by simpa [PR, VR] using hp
        subst hv2
        rw [hw, hy, hv]
        have hl : litB σ (d, want) = (b == want) := by simp only [litB, h3]; cases want <;> cases b <;> rfl
        constructor
        · intro hh
          refine tagT_cons ?_ ht
          rw [hl]
          simpa using hh
        · intro hT
          have := hT (d, want) List.mem_cons_self
          rw [hl] at this
          simpa using this
      · rw [hoff ht]
        exact ⟨fun h => (by cases h), fun hT => absurd (fun x hx => hT x (List.mem_cons_of_mem _ hx)) ht⟩

theorem denStill_sound (hE : EnvOK P env) {k : AState → Option α} {K : Act → Prop} : ∀ (l : List Oper) {σ : AState} {a : Act}, Rel F σ γ a w → denStill P env ops l σ k = some res →
    (∀ σ' a', Rel F σ' γ a' w → Step σ γ w σ' γ w → k σ' = some res → K a') → wpQuiet P ops (Chg [] w) K l a
  | [], σ, a, r, h, hK => hK σ a r (Step.refl _ _ _) h
  | o :: l, σ, a, r, h, hK => by
    simp only [denStill, Option.bind_eq_some_iff, chk_some, Bool.and_eq_true, Bool.not_eq_true'] at h
    obtain ⟨q, h1, ⟨h2, h3⟩, h4⟩ := h
    obtain ⟨_, hw, hgs⟩ := tagOf_spec r h1
    have hw := hw h2
    obtain ⟨hA, hB⟩ := stepS_sound hE r h4
    show (if Region.wanted o (yielded ops a.tmps) then o.quiet P a (Chg [] w) (wpQuiet P ops (Chg [] w) K l) else wpQuiet P ops (Chg [] w) K l (a.put o.dst undef))
    split
    · rename_i hwt
      have hT := hw.1 hwt
      obtain ⟨pv, v, hq, hp, h5⟩ := hB hT
      obtain ⟨σ', h6, h7⟩ := Option.bind_eq_some_iff.1 h5
      refine ⟨v, hq, denStill_sound hE l ((r.gsUp q.2.2).putO h6 hgs (fun _ => hp) (fun hn => absurd hT hn)) h7 fun σ2 a2 r2 s2 h8 => hK σ2 a2 r2 ?_ h8⟩
      have := Step.putO (γ := γ) (w := w) h6
      exact Step.trans (Step.trans (Step.gsUp σ γ w _) this) s2
    · rename_i hwt
      have hnT : ¬ tagT σ q.1 := fun hT => hwt (hw.2 hT)
      obtain ⟨pv, h5⟩ := hA
      obtain ⟨σ', h6, h7⟩ := Option.bind_eq_some_iff.1 h5
      refine denStill_sound hE l ((r.gsUp q.2.2).putO h6 hgs (fun hT => absurd hT hnT) (fun _ => rfl)) h7 fun σ2 a2 r2 s2 h8 => hK σ2 a2 r2 ?_ h8
      have := Step.putO (γ := γ) (w := w) h6
      exact Step.trans (Step.trans (Step.gsUp σ γ w _) this) s2
end
end Go.Den
