/- The interpreter is right: what it gives for a function is what the function returns. No condition of its own. -/
import Derived.Test.YtocnfflklfeocaaDenD
namespace Go.Den
open Go.Eng
set_option linter.unusedVariables false
set_option linter.unusedSectionVars false
set_option linter.unusedSimpArgs false
variable [CT : Ctx]

section
variable {P : Program} {env : Env}

theorem iterW_some {T α : Type} {f : T → Option (T ⊕ α)} {x : T} {r : α} (h : iterW f x = some r) : ∃ n, iterN f n x = some r := by
  unfold iterW at h
  split at h
  · exact ⟨_, h⟩
  · cases h
theorem Rel.enter {F : Fr} {σ : AState} {γ : Gh} {a : Act} {w : World} {s : Shape} {n : Nat} (r : Rel F σ γ a w) : Rel F (σ.enter s n) γ a w := ⟨r.size, r.defers, r.slots, r.off, r.gs, r.known, r.o⟩
theorem Rel.leave {F : Fr} {σ σ0 : AState} {γ : Gh} {a : Act} {w : World} (r : Rel F σ γ a w) : Rel F (σ.leave σ0) γ a w := ⟨r.size, r.defers, r.slots, r.off, r.gs, r.known, r.o⟩
theorem Step.leave {σ σ' : AState} {γ γ' : Gh} {w w' : World} {s : Shape} {n : Nat} (h : Step (σ.enter s n) γ w σ' γ' w') : Step σ γ w (σ'.leave σ) γ' w' :=
  ⟨h.n, rfl, rfl, fun t e ht he => h.slots t e (bitB_lor ht) he, fun o ho hp => h.objs o ho (bitB_lor hp), h.keep⟩

theorem Post.then {α : Type} {F : Fr} {σ σ' : AState} {γ γ' : Gh} {w w' : World} {K : Kt α} {res : α} {Q : Exit → Act → World → Prop} (hp : Post F σ γ w K res Q) (s : Step σ γ w σ' γ' w') : Post F σ' γ' w' K res Q :=
  ⟨fun σ2 γ2 a2 w2 hk r2 hc s2 => hp.n σ2 γ2 a2 w2 hk r2 hc (s.trans s2), fun i σ2 γ2 a2 w2 hk r2 hc s2 => hp.x i σ2 γ2 a2 w2 hk r2 hc (s.trans s2), fun σ2 γ2 a2 w2 hk r2 hc s2 => hp.r σ2 γ2 a2 w2 hk r2 hc (s.trans s2)⟩
/-- a loop that is unrolled -/
def RdOK {α : Type} (P : Program) (N : Nat) (rc : Ann → Code → AState → Kt α → Option α) : Prop :=
  ∀ b σ K res, rc .nil (.loop b) σ K = some res → ∀ F γ a w Q, Rel F σ γ a w → Cl σ → Post F σ γ w K res Q → Code.rounds P b Q N a w
theorem denP_sound (hE : EnvOK P env) (hm : P.follows .mixedOrders = true) {α : Type} {n : Nat} {rc : Ann → Code → AState → Kt α → Option α} (hrc : RcOK P rc) (hrd : RdOK P n rc) {ann : Ann} {c : Code} {σ : AState} {K : Kt α} {res : α} (h : denP P env rc ann c σ K = some res)
    {F : Fr} {γ : Gh} {a : Act} {w : World} {Q : Exit → Act → World → Prop} (r : Rel F σ γ a w) (hcl : Cl σ) (hp : Post F σ γ w K res Q) : c.wp P Q a w := by
  have fin : ∀ σ' γ' a' w', K.n σ'.endR = some res → Rel F σ' γ' a' w' → Step σ γ w σ' γ' w' → Q .normal a' w' := fun σ' γ' a' w' hk r' s' => hp.n σ'.endR γ' a' w' hk r'.endR ⟨rfl, rfl⟩ (s'.trans Step.endR)
  unfold denP at h
  split at h
  · exact wp_skip (hp.n σ γ a w h r hcl (Step.refl _ _ _))
  · exact wp_label (hp.n σ γ a w h r hcl (Step.refl _ _ _))
  · refine wp_seq (hrc _ _ _ _ _ h F γ a w _ r hcl ⟨fun σ' γ' a' w' hk r' hc' s' => ?_, fun i σ' γ' a' w' hk r' hc' s' => hp.x i σ' γ' a' w' hk r' hc' s', fun σ' γ' a' w' hk r' hc' s' => hp.r σ' γ' a' w' hk r' hc' s'⟩)
    exact hrc _ _ _ _ _ hk F γ' a' w' Q r' hc' (hp.then s')
  · simp only [Option.bind_eq_some_iff] at h
    obtain ⟨v, h1, t, h2, h3⟩ := h
    have hev := ev_bool r (tagT_nil σ) h1 h2
    cases t
    · exact wp_cond_false hev (hrc _ _ _ _ _ h3 F γ a w Q r hcl hp)
    · exact wp_cond_true hev (hrc _ _ _ _ _ h3 F γ a w Q r hcl hp)
  · refine wp_block (hrc _ _ _ _ _ h F γ a w _ r hcl ⟨fun σ' γ' a' w' hk r' hc' s' => hp.n σ' γ' a' w' hk r' hc' s', fun i σ' γ' a' w' hk r' hc' s' => ?_, fun σ' γ' a' w' hk r' hc' s' => hp.r σ' γ' a' w' hk r' hc' s'⟩)
    simp only [Exit.inBlock]
    split
    · rename_i e
      subst e
      simp only [Nat.beq_refl, cond_true] at hk
      exact hp.n σ' γ' a' w' hk r' hc' s'
    · rename_i e
      have : Nat.beq i _ = false := Bool.eq_false_iff.2 fun hb => e (Nat.eq_of_beq_eq_true hb)
      simp only [this, cond_false] at hk
      exact hp.x i σ' γ' a' w' hk r' hc' s'
  · refine wp_loop_rounds (n + 1) ?_
    rw [rounds_succ]
    refine hrc _ _ _ _ _ h F γ a w _ r hcl ⟨fun σ' γ' a' w' hk r' hc' s' => ?_, fun i σ' γ' a' w' hk r' hc' s' => hp.x i σ' γ' a' w' hk r' hc' s', fun σ' γ' a' w' hk r' hc' s' => hp.r σ' γ' a' w' hk r' hc' s'⟩
    exact hrd _ _ _ _ hk F γ' a' w' Q r' hc' (hp.then s')
  · exact wp_exit (hp.x _ σ γ a w h r hcl (Step.refl _ _ _))
  · exact wp_ret (hp.r σ γ a w h r hcl (Step.refl _ _ _))
  · exact wp_region_list (denOps_sound hE hrc _ _ r h fin)
  · rename_i id ops
    have hdr : Chg [] w { w with drawn := w.drawn + 1 } := ⟨rfl, rfl, rfl, Nat.le_refl _, fun _ _ _ => rfl, fun _ => Nat.le_succ _⟩
    split at h
    · rename_i s g ann' _
      obtain ⟨hsel, h⟩ := chk_some.1 h
      refine wp_region_v hm (f := 0) (denAny_sound hE hrc hsel (3 * ops.size + 20) ops.size (by simp) ?_ (r.ext hdr) h fun σ2 γ2 a2 w2 hk2 r2 s2 => fin σ2 γ2 a2 w2 hk2 r2 ((Step.ext hdr).trans s2))
      unfold nUn
      exact Nat.le_trans List.countP_le_length (by simp)
    split at h
    · obtain ⟨hB, h⟩ := chk_some.1 h
      refine wp_region_quiet (C := Chg [] w) hm hB hdr (denStill_sound hE _ r h fun σ' a' r' s' hk w' hc => ?_)
      exact fin σ' γ a' w' hk (r'.ext hc) (s'.trans (Step.ext hc))
    · obtain ⟨hB2, h⟩ := chk_some.1 h
      refine wp_region_quiet_tail (C := Chg [] w) _ hm hB2 hdr (denStill_sound hE _ r h fun σ' a' r' s' hk w' hc => ?_)
      exact denOps_sound hE hrc _ _ (r'.ext hc) hk fun σ2 γ2 a2 w2 hk2 r2 s2 => fin σ2 γ2 a2 w2 hk2 r2 (s'.trans ((Step.ext hc).trans s2))
  · cases h
/-- THE INTERPRETER IS RIGHT -/
theorem den_sound (hE : EnvOK P env) (hm : P.follows .mixedOrders = true) : ∀ (n : Nat) (α : Type), RcOK P (den P env n α) ∧ RdOK P n (den P env n α) := by
  intro n
  induction n with
  | zero => exact fun α => ⟨fun ann c σ K res h => by simp [den] at h, fun b σ K res h => by simp [den] at h⟩
  | succ n ih0 =>
    intro α
    have ih := fun α => (ih0 α).1
    refine ⟨?_, fun b σ K res h F γ a w Q r hcl hp => ?_⟩
    case refine_2 =>
      simp only [den, denP] at h
      rw [rounds_succ]
      refine ih α _ _ _ _ _ h F γ a w _ r hcl ⟨fun σ' γ' a' w' hk r' hc' s' => ?_, fun i σ' γ' a' w' hk r' hc' s' => hp.x i σ' γ' a' w' hk r' hc' s', fun σ' γ' a' w' hk r' hc' s' => hp.r σ' γ' a' w' hk r' hc' s'⟩
      exact (ih0 α).2 _ _ _ _ hk F γ' a' w' Q r' hc' (hp.then s')
    intro ann c σ K res h F γ a w Q r hcl hp
    cases ann with
    | nil => exact denP_sound hE hm (ih α) (ih0 α).2 h r hcl hp
    | two x y => exact denP_sound hE hm (ih α) (ih0 α).2 h r hcl hp
    | own x => exact denP_sound hE hm (ih α) (ih0 α).2 h r hcl hp
    | vw x => exact denP_sound hE hm (ih α) (ih0 α).2 h r hcl hp
    | tail m x => exact denP_sound hE hm (ih α) (ih0 α).2 h r hcl hp
    | any s g x => exact denP_sound hE hm (ih α) (ih0 α).2 h r hcl hp
    | ord i u x y => exact denP_sound hE hm (ih α) (ih0 α).2 h r hcl hp
    | alt x y => exact denP_sound hE hm (ih α) (ih0 α).2 h r hcl hp
    | spl d x => exact denP_sound hE hm (ih α) (ih0 α).2 h r hcl hp
    | sel o i x y =>
      simp only [den] at h
      exact ih α _ _ _ _ _ h F γ a w Q r hcl hp
    | frz l x =>
      simp only [den, Option.bind_eq_some_iff] at h
      obtain ⟨objs1, h1, h2⟩ := h
      obtain ⟨f1, _⟩ := freezeL_spec r.o h1
      have s1 : Step σ γ w { σ with objs := objs1 } γ w := ⟨rfl, rfl, rfl, fun _ _ _ h => h, fun o _ hp => f1.prot o hp, f1.keep⟩
      exact ih α _ _ _ _ _ h2 F γ a w Q (r.setObjs f1.keep f1.same f1.o) hcl (hp.then s1)
    | join s x =>
      simp only [den, chk_some, Option.bind_eq_some_iff] at h
      obtain ⟨hho, y, h1, h2⟩ := h
      refine ih s.T _ _ _ _ _ h1 F γ a w Q r.enter hcl ⟨fun σ' γ' a' w' hk r' hc' s' => ?_, fun i σ' γ' a' w' hk => (by cases hk), fun σ' γ' a' w' hk => (by cases hk)⟩
      obtain ⟨γF, rF, cF, sF⟩ := conc_sound r hho r' s'.n (fun t ht e he => (kf_spec (s'.slots t e (by rw [AState.enter]; exact (by rw [bitB_lor', mask_bit.2 ht]; simp)) he)).1) (fun o ho hl => s'.objs o ho (by rw [AState.enter]; exact (by rw [bitB_lor', prot_bit ho hl]; simp))) s'.keep hk
      exact hp.n _ γF a' w' h2 rF cF sF
    | joinE s x =>
      simp only [den, chk_some, Option.bind_eq_some_iff] at h
      obtain ⟨hho, y, h1, h2⟩ := h
      cases y with
      | inl y =>
        refine ih (s.T ⊕ α) _ _ _ _ _ h1 F γ a w Q r.enter hcl ⟨fun σ' γ' a' w' hk r' hc' s' => ?_, fun i σ' γ' a' w' hk => ?_, fun σ' γ' a' w' hk => ?_⟩
        · simp only [Option.map_eq_some_iff, Sum.inl.injEq, exists_eq_right] at hk
          obtain ⟨γF, rF, cF, sF⟩ := conc_sound r hho r' s'.n (fun t ht e he => (kf_spec (s'.slots t e (by rw [AState.enter]; exact (by rw [bitB_lor', mask_bit.2 ht]; simp)) he)).1) (fun o ho hl => s'.objs o ho (by rw [AState.enter]; exact (by rw [bitB_lor', prot_bit ho hl]; simp))) s'.keep hk
          exact hp.n _ γF a' w' h2 rF cF sF
        · simp at hk
        · simp at hk
      | inr y =>
        simp only [Sum.elim_inr, Option.some.injEq] at h2
        subst h2
        refine ih (s.T ⊕ α) _ _ _ _ _ h1 F γ a w Q r.enter hcl ⟨fun σ' γ' a' w' hk r' hc' s' => ?_, fun i σ' γ' a' w' hk r' hc' s' => ?_, fun σ' γ' a' w' hk r' hc' s' => ?_⟩
        · simp at hk
        · simp only [Option.map_eq_some_iff, Sum.inr.injEq, exists_eq_right] at hk
          exact hp.x i _ γ' a' w' hk r'.leave hc' s'.leave
        · simp only [Option.map_eq_some_iff, Sum.inr.injEq, exists_eq_right] at hk
          exact hp.r _ γ' a' w' hk r'.leave hc' s'.leave
    | loop s x =>
      cases c with
      | loop b =>
        simp only [den, chk_some, Option.bind_eq_some_iff] at h
        obtain ⟨hho, x0, h1, h2⟩ := h
        obtain ⟨N, h3⟩ := iterW_some h2
        refine wp_loop_rounds N ?_
        obtain ⟨γ0, r0, c0, s0⟩ := conc_sound r hho r rfl (fun t ht e he => (kf_spec he).1) (fun o ho hl => rfl) (Keep.refl _ _ _) h1
        clear h1 h2
        have key : ∀ (N : Nat) (y : s.T) (γ1 : Gh) (a1 : Act) (w1 : World), iterN (fun x_1 => den P env n (s.T ⊕ α) x b ((conc s σ x_1).enter s σ.objs.length) ⟨fun σ' => Option.map Sum.inl (absT s σ.objs.length σ'), fun i σ' => Option.map Sum.inr (K.x i (σ'.leave σ)), fun σ' => Option.map Sum.inr (K.r (σ'.leave σ))⟩) N y = some res →
            Rel F (conc s σ y) γ1 a1 w1 → Cl (conc s σ y) → Step σ γ w (conc s σ y) γ1 w1 → Code.rounds P b Q N a1 w1 := by
          intro N
          induction N with
          | zero => intro y γ1 a1 w1 h; simp [iterN] at h
          | succ N ihN =>
            intro y γ1 a1 w1 h r1 c1 s1
            rw [rounds_succ]
            simp only [iterN] at h
            have hkeep : ∀ t ∈ s.keep, ∀ e, kf σ.slots t = some e → kf (conc s σ y).slots t = some e := fun t ht e he => by
              have hh := hho
              simp only [holesOk, Bool.and_eq_true, List.all_eq_true, Bool.not_eq_true'] at hh
              obtain ⟨⟨⟨hpm, hsl⟩, hndo, hol⟩, hg0, hkn0⟩ := hh
              obtain ⟨k1, k2, k3⟩ := kf_spec he
              refine kf_of ?_ k2 k3
              unfold conc
              rw [(concS_len s.slots y.1 _).2.2.2.2.2.2.2 t (fun q hq e1 => by
                have := (hsl q hq).1
                rw [e1, memN_spec.2 ht] at this
                cases this)]
              show get (keepF σ.slots s.keep) t = some e
              rw [get_keepF ht]
              exact he
            have hobj : ∀ o, o < σ.objs.length → listed o s.objs = false → (conc s σ y).objs[o]? = σ.objs[o]? := fun o ho hl => by
              unfold conc
              rw [(concS_len s.slots y.1 _).2.1 o (Nat.lt_of_lt_of_le ho (concO_len s.objs y.2 σ.objs))]
              exact concO_keep s.objs y.2 σ.objs o ho hl
            have hlen : σ.objs.length ≤ (conc s σ y).objs.length := s1.len
            split at h
            · cases h
            · rename_i z hz
              refine ih (s.T ⊕ α) _ _ _ _ _ hz F γ1 a1 w1 _ r1.enter c1 ⟨fun σ' γ' a' w' hk r' hc' s' => ?_, fun i σ' γ' a' w' hk => ?_, fun σ' γ' a' w' hk => ?_⟩
              · simp only [Option.map_eq_some_iff, Sum.inl.injEq, exists_eq_right] at hk
                obtain ⟨γF, rF, cF, sF⟩ := conc_sound r hho r' (s'.n.trans s1.n) (fun t ht e he => (kf_spec (s'.slots t e (by rw [AState.enter]; exact (by rw [bitB_lor', mask_bit.2 ht]; simp)) (hkeep t ht e he))).1)
                  (fun o ho hl => (s'.objs o (Nat.lt_of_lt_of_le ho hlen) (by rw [AState.enter]; exact (by rw [bitB_lor', prot_bit ho hl]; simp))).trans (hobj o ho hl)) (s1.keep.trans (s'.keep.less hlen)) hk
                exact ihN z γF a' w' h rF cF sF
              · simp at hk
              · simp at hk
            · rename_i z hz
              cases h
              refine ih (s.T ⊕ α) _ _ _ _ _ hz F γ1 a1 w1 _ r1.enter c1 ⟨fun σ' γ' a' w' hk r' hc' s' => ?_, fun i σ' γ' a' w' hk r' hc' s' => ?_, fun σ' γ' a' w' hk r' hc' s' => ?_⟩
              · simp at hk
              · simp only [Option.map_eq_some_iff, Sum.inr.injEq, exists_eq_right] at hk
                refine hp.x i _ γ' a' w' hk r'.leave hc' (s1.trans ?_)
                have s2 := s'.leave
                exact ⟨s2.n, s1.prS.symm, s1.prO.symm, s2.slots, s2.objs, s2.keep⟩
              · simp only [Option.map_eq_some_iff, Sum.inr.injEq, exists_eq_right] at hk
                refine hp.r _ γ' a' w' hk r'.leave hc' (s1.trans ?_)
                have s2 := s'.leave
                exact ⟨s2.n, s1.prS.symm, s1.prO.symm, s2.slots, s2.objs, s2.keep⟩
        exact key N x0 γ0 a w h3 r0 c0 s0
      | _ => simp [den] at h
end
end Go.Den
