/- Where ways meet again: the state that a shape describes. No condition of its own. -/
import Derived.Test.YtocnfflklfeocaaDenC
namespace Go.Den
open Go.Eng
set_option linter.unusedVariables false
set_option linter.unusedSectionVars false
set_option linter.unusedSimpArgs false
variable [CT : Ctx]

theorem listed_spec {o : Nat} : ∀ {l : List (Nat × Option OTy)}, listed o l = true ↔ o ∈ l.map Prod.fst
  | [] => by simp [listed]
  | (p, q) :: r => by
    simp only [listed, Bool.or_eq_true, List.map_cons, List.mem_cons, listed_spec (l := r)]
    constructor
    · rintro (h | h)
      · exact .inl (Nat.eq_of_beq_eq_true h).symm
      · exact .inr h
    · rintro (rfl | h)
      · exact .inl (by simp)
      · exact .inr h
theorem dropped_listed {o : Nat} : ∀ {l : List (Nat × Option OTy)}, droppedO o l = true → listed o l = true
  | (p, none) :: r, h => by
    simp only [droppedO, Bool.or_eq_true] at h
    simp only [listed, Bool.or_eq_true]
    exact h.imp id dropped_listed
  | (p, some _) :: r, h => by
    simp only [droppedO] at h
    simp only [listed, Bool.or_eq_true]
    exact .inr (dropped_listed h)

section
variable {F : Fr} {n0 : Nat} {objs' : List OB} {γ' : Gh} {w' : World} {T : Nat → Prop}

theorem concO_len : ∀ (l : List (Nat × Option OTy)) (y : DL (tysO l)) (base : List OB), base.length ≤ (concO l y base).length
  | [], _, base => Nat.le_refl _
  | (o, none) :: r, y, base => by
    have := concO_len r y (base.set o .dead)
    simpa [concO] using this
  | (o, some (.box τ)) :: r, y, base => by
    have := concO_len r y.2 (base.set o (.box (cc τ y.1 base.length).1) ++ (cc τ y.1 base.length).2)
    simp only [List.length_append, List.length_set] at this
    simp only [concO]
    omega
  | (o, some (.arr i e)) :: r, y, base => by
    have := concO_len r y.2 (base.set o (.arr i e y.1 false))
    simpa [concO] using this
theorem concO_keep : ∀ (l : List (Nat × Option OTy)) (y : DL (tysO l)) (base : List OB) (o : Nat), o < base.length → listed o l = false → (concO l y base)[o]? = base[o]?
  | [], _, base, o, _, _ => rfl
  | (p, none) :: r, y, base, o, ho, hl => by
    simp only [listed, Bool.or_eq_false_iff] at hl
    have hne : p ≠ o := fun e => by subst e; simp at hl
    simp only [concO]
    rw [concO_keep r y (base.set p .dead) o (by simpa using ho) hl.2, get_set_ne hne]
  | (p, some (.box τ)) :: r, y, base, o, ho, hl => by
    simp only [listed, Bool.or_eq_false_iff] at hl
    have hne : p ≠ o := fun e => by subst e; simp at hl
    simp only [concO]
    rw [concO_keep r y.2 _ o (by simp; omega) hl.2, List.getElem?_append_left (by simpa using ho), get_set_ne hne]
  | (p, some (.arr i e)) :: r, y, base, o, ho, hl => by
    simp only [listed, Bool.or_eq_false_iff] at hl
    have hne : p ≠ o := fun e => by subst e; simp at hl
    simp only [concO]
    rw [concO_keep r y.2 (base.set p (.arr i e y.1 false)) o (by simpa using ho) hl.2, get_set_ne hne]
/-- what the new objects of a shape are -/
theorem concO_spec (r : ORel F objs' γ' w') (hT : ∀ k, Imm objs' γ' w' k → T k) : ∀ (l : List (Nat × Option OTy)) {y : DL (tysO l)} (base : List OB), absO objs' l = some y → (l.map Prod.fst).Nodup → (∀ q ∈ l, q.1 < n0) → n0 ≤ base.length →
    (∀ o ∈ objIds (idsD objs') objs' l, ∀ b, (γ' o).2 = some b → T b) →
    ∃ gs : List (Value × Option Nat), (concO l y base).length = base.length + gs.length ∧ gs.flatMap (fun g => g.2.toList) = blocks γ' (objIds (idsO objs') objs' l) ∧ (∀ o ∈ objIds (idsO objs') objs' l, Mut objs' o) ∧
      (∀ q ∈ l, Mut (concO l y base) q.1 → Mut objs' q.1 ∧ droppedO q.1 l = false) ∧ (∀ q ∈ l, ∀ i (e : Ty) (xs : List (D e)), (concO l y base)[q.1]? ≠ some (.arr i e xs true)) ∧
      ∀ (OF : List OB) (γF : Gh), (∀ o, o < (concO l y base).length → OF[o]? = (concO l y base)[o]?) → (∀ k, T k → Imm OF γF w' k) → (∀ o, o < n0 → γF o = γ' o) → (∀ j g, gs[j]? = some g → γF (base.length + j) = g) → (concO l y base).length ≤ OF.length →
        (∀ q ∈ l, ∀ ob, OF[q.1]? = some ob → ObR OF γF w' ob (γF q.1)) ∧ (∀ o ob, base.length ≤ o → o < (concO l y base).length → OF[o]? = some ob → ObR OF γF w' ob (γF o) ∧ mutOb ob = true)
  | [], y, base, _, _, _, _, _ => ⟨[], by simp [concO], by simp [objIds, blocks], fun o ho => (by simp [objIds] at ho), fun q hq => (by cases hq), fun q hq => (by cases hq), fun OF γF _ _ _ _ _ => ⟨fun q hq => (by cases hq), fun o ob h1 h2 => (by simp [concO] at h2; omega)⟩⟩
  | (p, none) :: l, y, base, h, hnd, hlt, hb, hids => by
    simp only [absO] at h
    simp only [List.map_cons, List.nodup_cons] at hnd
    have hpl : listed p l = false := Bool.eq_false_iff.2 fun hh => hnd.1 (listed_spec.1 hh)
    have hp := hlt (p, none) List.mem_cons_self
    obtain ⟨gs, g1, g2, g3, g4, g4b, g5⟩ := concO_spec r hT l (base.set p .dead) h hnd.2 (fun q hq => hlt q (List.mem_cons_of_mem _ hq)) (by simpa using hb) (fun o ho => hids o (by simpa [objIds] using ho))
    have hpe : (concO l y (base.set p .dead))[p]? = some .dead := by
      rw [concO_keep l y _ p (by simp; simp at hp; omega) hpl, List.getElem?_set_self (by simp at hp; omega)]
    refine ⟨gs, by simpa [concO] using g1, by simpa [objIds] using g2, fun o ho => g3 o (by simpa [objIds] using ho), fun q hq hm => ?_, fun q hq i e xs => ?_, fun OF γF e1 e2 e3 e4 e5 => ?_⟩
    · rcases List.mem_cons.1 hq with rfl | hq
      · obtain ⟨ob, h1, h2⟩ := hm
        simp only [concO] at h1
        rw [hpe] at h1
        cases h1; cases h2
      · obtain ⟨h1, h2⟩ := g4 q hq hm
        refine ⟨h1, ?_⟩
        simp only [droppedO, Bool.or_eq_false_iff]
        refine ⟨Bool.eq_false_iff.2 fun hh => ?_, h2⟩
        have := Nat.eq_of_beq_eq_true hh
        exact hnd.1 (this ▸ List.mem_map_of_mem hq)
    · rcases List.mem_cons.1 hq with rfl | hq
      · simp only [concO]; rw [hpe]; simp
      · exact g4b q hq i e xs
    · obtain ⟨f1, f2⟩ := g5 OF γF e1 e2 e3 (by simpa using e4) e5
      refine ⟨fun q hq ob hob => ?_, fun o ob h1 h2 => f2 o ob (by simpa using h1) h2⟩
      rcases List.mem_cons.1 hq with rfl | hq
      · have hlen := concO_len l y (base.set p .dead)
        rw [e1 p (by simp only [concO]; simp at hlen hp; omega)] at hob
        simp only [concO] at hob
        rw [hpe] at hob
        cases hob; trivial
      · exact f1 q hq ob hob
  | (p, some (.arr i e)) :: l, y, base, h, hnd, hlt, hb, hids => by
    simp only [absO, Option.bind_eq_some_iff] at h
    obtain ⟨ob, hob, h⟩ := h
    cases ob with
    | arr i' e' xs fz =>
      cases fz with
      | true => simp at h
      | false =>
        simp only [chk_some, Option.bind_eq_some_iff] at h
        obtain ⟨hi, x, hx, y2, hy, hyy⟩ := h
        have hyy : (x, y2) = y := Option.some.inj hyy
        subst hyy
        have hi := Nat.eq_of_beq_eq_true hi
        subst hi
        obtain ⟨rfl, hx⟩ := castL_spec hx
        subst hx
        simp only [List.map_cons, List.nodup_cons] at hnd
        have hpl : listed p l = false := Bool.eq_false_iff.2 fun hh => hnd.1 (listed_spec.1 hh)
        have hp := hlt (p, some (.arr i e')) List.mem_cons_self
        obtain ⟨gs, g1, g2, g3, g4, g4b, g5⟩ := concO_spec r hT l (base.set p (.arr i e' xs false)) hy hnd.2 (fun q hq => hlt q (List.mem_cons_of_mem _ hq)) (by simpa using hb) (fun o ho => hids o (by simpa [objIds] using ho))
        have hpe : (concO l y2 (base.set p (.arr i e' xs false)))[p]? = some (.arr i e' xs false) := by
          rw [concO_keep l y2 _ p (by simp; simp at hp; omega) hpl, List.getElem?_set_self (by simp at hp; omega)]
        refine ⟨gs, by simpa [concO] using g1, by simpa [objIds] using g2, fun o ho => g3 o (by simpa [objIds] using ho), fun q hq hm => ?_, fun q hq i2 e2 xs2 => ?_, fun OF γF e1 e2 e3 e4 e5 => ?_⟩
        · rcases List.mem_cons.1 hq with rfl | hq
          · refine ⟨⟨_, hob, rfl⟩, ?_⟩
            simp only [droppedO]
            exact Bool.eq_false_iff.2 fun hh => by rw [dropped_listed hh] at hpl; cases hpl
          · obtain ⟨h1, h2⟩ := g4 q hq hm
            exact ⟨h1, by simpa [droppedO] using h2⟩
        · rcases List.mem_cons.1 hq with rfl | hq
          · simp only [concO]; rw [hpe]; simp
          · exact g4b q hq i2 e2 xs2
        · obtain ⟨f1, f2⟩ := g5 OF γF e1 e2 e3 (by simpa using e4) e5
          refine ⟨fun q hq ob' hob' => ?_, fun o ob h1 h2 => f2 o ob (by simpa using h1) h2⟩
          rcases List.mem_cons.1 hq with rfl | hq
          · have hlen := concO_len l y2 (base.set p (.arr i e' xs false))
            rw [e1 p (by simp only [concO]; simp at hlen hp; omega)] at hob'
            simp only [concO] at hob'
            rw [hpe] at hob'
            cases hob'
            obtain ⟨us, h6, h7⟩ := r.rep p _ hob
            rw [e3 p hp]
            exact ⟨us, h6, h7.mono fun x c hx => Rep.mono (fun k hk => e2 k (hT k hk)) (fun _ _ => rfl) _ hx (by simp)⟩
          · exact f1 q hq ob' hob'
    | _ => simp at h
  | (p, some (.box τ)) :: l, y, base, h, hnd, hlt, hb, hids => by
    simp only [absO, Option.bind_eq_some_iff] at h
    obtain ⟨ob, hob, h⟩ := h
    cases ob with
    | box cs =>
      simp only [Option.bind_eq_some_iff] at h
      obtain ⟨x, hx, y2, hy, hyy⟩ := h
      have hyy : (x, y2) = y := Option.some.inj hyy
      subst hyy
      simp only [List.map_cons, List.nodup_cons] at hnd
      have hpl : listed p l = false := Bool.eq_false_iff.2 fun hh => hnd.1 (listed_spec.1 hh)
      have hp : p < n0 := hlt (p, some (.box τ)) List.mem_cons_self
      obtain ⟨b, Tt, cells, hg, hheap, hvl⟩ := r.rep p _ hob
      have hids1 : ∀ o ∈ idsD objs' τ cs, ∀ b, (γ' o).2 = some b → T b := fun o ho => hids o (by simp only [objIds, hob, List.mem_append]; exact .inl ho)
      obtain ⟨hrep, hmo⟩ := toD_spec (S := T) r hT τ hx hvl hids1
      obtain ⟨gs0, c1, c2, c3⟩ := cc_spec τ hrep base.length
      obtain ⟨gs, g1, g2, g3, g4, g4b, g5⟩ := concO_spec r hT l (base.set p (.box (cc τ x base.length).1) ++ (cc τ x base.length).2) hy hnd.2 (fun q hq => hlt q (List.mem_cons_of_mem _ hq)) (by simp; omega) (fun o ho => hids o (by simp only [objIds, hob, List.mem_append]; exact .inr ho))
      have hpe : (concO l y2 (base.set p (.box (cc τ x base.length).1) ++ (cc τ x base.length).2))[p]? = some (.box (cc τ x base.length).1) := by
        rw [concO_keep l y2 _ p (by simp; omega) hpl, List.getElem?_append_left (by simp; omega), List.getElem?_set_self (by omega)]
      have hlen0 : (base.set p (.box (cc τ x base.length).1) ++ (cc τ x base.length).2).length = base.length + gs0.length := by simp [c1]
      refine ⟨gs0 ++ gs, ?_, ?_, fun o ho => ?_, fun q hq hm => ?_, fun q hq i2 e2 xs2 => ?_, fun OF γF e1 e2 e3 e4 e5 => ?_⟩
      · simp only [concO]
        rw [g1, hlen0, List.length_append, Nat.add_assoc]
      · rw [List.flatMap_append, ← c2, g2]
        simp only [objIds, hob, blocks, List.flatMap_append]
      · simp only [objIds, hob, List.mem_append] at ho
        exact ho.elim (hmo o) (g3 o)
      · rcases List.mem_cons.1 hq with rfl | hq
        · refine ⟨⟨_, hob, rfl⟩, ?_⟩
          simp only [droppedO]
          exact Bool.eq_false_iff.2 fun hh => by rw [dropped_listed hh] at hpl; cases hpl
        · obtain ⟨h1, h2⟩ := g4 q hq hm
          exact ⟨h1, by simpa [droppedO] using h2⟩
      · rcases List.mem_cons.1 hq with rfl | hq
        · simp only [concO]; rw [hpe]; simp
        · exact g4b q hq i2 e2 xs2
      · have hle := concO_len l y2 (base.set p (.box (cc τ x base.length).1) ++ (cc τ x base.length).2)
        rw [hlen0] at hle
        simp only [concO] at e1 e5
        have c3' := c3 OF γF e2 (fun j g hj => e4 j g (by rw [List.getElem?_append_left (get_lt hj)]; exact hj)) (by omega)
        obtain ⟨f1, f2⟩ := g5 OF γF e1 e2 e3 (fun j g hj => by
          rw [hlen0, Nat.add_assoc]
          exact e4 (gs0.length + j) g (by rw [List.getElem?_append_right (by omega)]; simpa using hj)) e5
        refine ⟨fun q hq ob' hob' => ?_, fun o ob' h1 h2 h3 => ?_⟩
        · rcases List.mem_cons.1 hq with rfl | hq
          · rw [e1 p (by omega), hpe] at hob'
            cases hob'
            rw [e3 p hp]
            exact ⟨b, Tt, cells, hg, hheap, c3'.1⟩
          · exact f1 q hq ob' hob'
        · simp only [concO] at h2
          by_cases ho : o < base.length + gs0.length
          · rw [e1 o h2, concO_keep l y2 _ o (by rw [hlen0]; exact ho) (Bool.eq_false_iff.2 fun hh => by
              obtain ⟨q, hq, rfl⟩ := List.mem_map.1 (listed_spec.1 hh)
              have := hlt q (List.mem_cons_of_mem _ hq)
              omega), List.getElem?_append_right (by simpa using h1)] at h3
            simp only [List.length_set] at h3
            have hj : o - base.length < gs0.length := by omega
            have e6 := e4 (o - base.length) gs0[o - base.length] (by rw [List.getElem?_append_left hj]; exact List.getElem?_eq_getElem hj)
            rw [show base.length + (o - base.length) = o by omega] at e6
            rw [e6]
            exact c3'.2 (o - base.length) ob' _ h3 (List.getElem?_eq_getElem hj)
          · exact f2 o ob' (by rw [hlen0]; omega) h2 h3
    | _ => simp at h

theorem concS_len : ∀ (l : List (Nat × Ty)) (x : DL (tysS l)) (σ : AState), σ.objs.length ≤ (concS l x σ).objs.length ∧ (∀ o, o < σ.objs.length → (concS l x σ).objs[o]? = σ.objs[o]?) ∧ (concS l x σ).n = σ.n ∧ (concS l x σ).prS = σ.prS ∧ (concS l x σ).prO = σ.prO ∧ (concS l x σ).gs = σ.gs ∧ (concS l x σ).known = σ.known ∧ ∀ t, (∀ q ∈ l, q.1 ≠ t) → get (concS l x σ).slots t = get σ.slots t
  | [], _, σ => ⟨Nat.le_refl _, fun _ _ => rfl, rfl, rfl, rfl, rfl, rfl, fun _ _ => rfl⟩
  | (t, τ) :: r, x, σ => by
    simp only [concS]
    obtain ⟨h1, h2, h3, h4, h5, h6, h7, h8⟩ := concS_len r x.2 { σ with slots := (t, some ([], pvCells τ.isAgg (cc τ x.1 σ.objs.length).1)) :: σ.slots, objs := σ.objs ++ (cc τ x.1 σ.objs.length).2 }
    simp only [List.length_append] at h1
    refine ⟨by omega, fun o ho => ?_, h3, h4, h5, h6, h7, fun t' ht' => ?_⟩
    · rw [h2 o (by simp; omega)]
      simp only
      rw [List.getElem?_append_left ho]
    · rw [h8 t' fun q hq => ht' q (List.mem_cons_of_mem _ hq)]
      simp only
      rw [get_cons, if_neg (ht' (t, τ) List.mem_cons_self)]
theorem concS_spec {σ' : AState} {a' : Act} (r' : Rel F σ' γ' a' w') (hT : ∀ k, Imm σ'.objs γ' w' k → T k) : ∀ (l : List (Nat × Ty)) {x : DL (tysS l)} (σ1 : AState), absS σ'.objs σ'.slots l = some x →
    (∀ o ∈ slotIds (idsD σ'.objs) σ'.slots l, ∀ b, (γ' o).2 = some b → T b) →
    ∃ gs : List (Value × Option Nat), (concS l x σ1).objs.length = σ1.objs.length + gs.length ∧ gs.flatMap (fun g => g.2.toList) = blocks γ' (slotIds (idsO σ'.objs) σ'.slots l) ∧ (∀ o ∈ slotIds (idsO σ'.objs) σ'.slots l, Mut σ'.objs o) ∧
      ∀ (γF : Gh), (∀ k, T k → Imm (concS l x σ1).objs γF w' k) → (∀ j g, gs[j]? = some g → γF (σ1.objs.length + j) = g) →
        ∀ (OF : List OB), OF = (concS l x σ1).objs →
        (∀ t tg pv, get (concS l x σ1).slots t = some (tg, pv) → get σ1.slots t = some (tg, pv) ∨ (tg = [] ∧ ∃ v, a'.tmps[t]? = some v ∧ PR OF γF w' pv v)) ∧
        (∀ o ob, σ1.objs.length ≤ o → OF[o]? = some ob → ObR OF γF w' ob (γF o) ∧ mutOb ob = true)
  | [], x, σ1, h, _ => ⟨[], by simp [concS], by simp [slotIds, blocks], fun o ho => by simp [slotIds] at ho, fun γF _ _ OF hOF => ⟨fun t tg pv hg => .inl hg, fun o ob h1 h2 => by subst hOF; have := get_lt h2; simp only [concS] at this; omega⟩⟩
  | (t, τ) :: l, x, σ1, h, hids => by
    simp only [absS, Option.bind_eq_some_iff, chk_some] at h
    obtain ⟨⟨tg, pv⟩, h1, h2, cs, h3, h4, x1, h5, x2, h6, hx⟩ := h
    have hx : (x1, x2) = x := Option.some.inj hx
    subst hx
    have htg : tg = [] := by simpa using h2
    subst htg
    obtain ⟨v, hv, hp⟩ := r'.slots t [] pv h1 (tagT_nil _)
    have hvl := cellsPV_spec h3 hp
    have hidd : (((get σ'.slots t).bind fun e => cellsPV e.2).elim [] (idsD σ'.objs τ)) = idsD σ'.objs τ cs := by simp only [h1, Option.bind_some, h3, Option.elim_some]
    have hido : (((get σ'.slots t).bind fun e => cellsPV e.2).elim [] (idsO σ'.objs τ)) = idsO σ'.objs τ cs := by simp only [h1, Option.bind_some, h3, Option.elim_some]
    obtain ⟨hrep, hmo⟩ := toD_spec (S := T) r'.o hT τ h5 hvl (fun o ho => hids o (by simp only [slotIds, hidd, List.mem_append]; exact .inl ho))
    obtain ⟨gs0, c1, c2, c3⟩ := cc_spec τ hrep σ1.objs.length
    obtain ⟨gs, g1, g2, g3, g5⟩ := concS_spec r' hT l { σ1 with slots := (t, some ([], pvCells τ.isAgg (cc τ x1 σ1.objs.length).1)) :: σ1.slots, objs := σ1.objs ++ (cc τ x1 σ1.objs.length).2 } h6 (fun o ho => hids o (by simp only [slotIds, hidd, List.mem_append]; exact .inr ho))
    have hcl := concS_len l x2 { σ1 with slots := (t, some ([], pvCells τ.isAgg (cc τ x1 σ1.objs.length).1)) :: σ1.slots, objs := σ1.objs ++ (cc τ x1 σ1.objs.length).2 }
    simp only [List.length_append, ← c1] at g1 g5 hcl
    refine ⟨gs0 ++ gs, ?_, ?_, fun o ho => ?_, fun γF e2 e4 OF hOF => ?_⟩
    · simp only [concS]
      rw [g1, List.length_append, Nat.add_assoc]
    · rw [List.flatMap_append, ← c2, g2]
      simp only [slotIds, hido, blocks, List.flatMap_append]
    · simp only [slotIds, hido, List.mem_append] at ho
      exact ho.elim (hmo o) (g3 o)
    · simp only [concS] at e2 hOF ⊢
      subst hOF
      have c3' := c3 _ γF e2 (fun j g hj => e4 j g (by rw [List.getElem?_append_left (get_lt hj)]; exact hj)) (by omega)
      obtain ⟨f1, f2⟩ := g5 γF e2 (fun j g hj => by
        rw [Nat.add_assoc]
        exact e4 (gs0.length + j) g (by rw [List.getElem?_append_right (by omega)]; simpa using hj)) _ rfl
      refine ⟨fun t' tg' pv' hg => ?_, fun o ob h1' h2' => ?_⟩
      · rcases f1 t' tg' pv' hg with hg' | hg'
        · rw [get_cons] at hg'
          split at hg'
          · rename_i e
            subst e
            cases hg'
            refine .inr ⟨rfl, v, hv, ?_⟩
            have := pvCells_spec (τ := τ) (cc_length τ x1 σ1.objs.length) c3'.1
            rw [← oneV_spec h3 h4 hp] at this
            exact this
          · exact .inl hg'
        · exact .inr hg'
      · by_cases ho : o < σ1.objs.length + gs0.length
        · rw [hcl.2.1 o ho] at h2'
          rw [List.getElem?_append_right h1'] at h2'
          have hj : o - σ1.objs.length < gs0.length := by omega
          have e6 := e4 (o - σ1.objs.length) gs0[o - σ1.objs.length] (by rw [List.getElem?_append_left hj]; exact List.getElem?_eq_getElem hj)
          rw [show σ1.objs.length + (o - σ1.objs.length) = o by omega] at e6
          rw [e6]
          exact c3'.2 _ ob _ h2' (List.getElem?_eq_getElem hj)
        · exact f2 o ob (by omega) h2'
end

theorem keepF_get {slots : Slots} {t : Nat} {e : Tag × PV} : ∀ {l : List Nat}, get (keepF slots l) t = some e → t ∈ l ∧ kf slots t = some e
  | [], h => by simp [keepF, get] at h
  | u :: l, h => by
    simp only [keepF] at h
    rw [get_cons] at h
    split at h
    · rename_i e1; subst e1; exact ⟨List.mem_cons_self, h⟩
    · obtain ⟨h1, h2⟩ := keepF_get h; exact ⟨List.mem_cons_of_mem _ h1, h2⟩
theorem get_keepF {slots : Slots} {t : Nat} : ∀ {l : List Nat}, t ∈ l → get (keepF slots l) t = kf slots t
  | u :: l, h => by
    simp only [keepF]
    rw [get_cons]
    split
    · rename_i e1; subst e1; rfl
    · rename_i e1
      rcases List.mem_cons.1 h with rfl | h
      · exact absurd rfl e1
      · exact get_keepF h
theorem kf_spec {slots : Slots} {t : Nat} {e : Tag × PV} (h : kf slots t = some e) : get slots t = some e ∧ e.1 = [] ∧ stable e.2 = true := by
  simp only [kf, Option.bind_eq_some_iff, chk_some, Bool.and_eq_true, Option.some.injEq] at h
  obtain ⟨e', h1, ⟨h2, h3⟩, rfl⟩ := h
  exact ⟨h1, by simpa using h2, h3⟩
theorem kf_of {slots : Slots} {t : Nat} {e : Tag × PV} (h1 : get slots t = some e) (h2 : e.1 = []) (h3 : stable e.2 = true) : kf slots t = some e := by
  simp [kf, h1, h2, h3, chk]
theorem mask_bit {t : Nat} : ∀ {l : List Nat}, bitB (maskN l) t = true ↔ t ∈ l
  | [] => by
    rw [bitB_eq]
    simp [maskN]
  | u :: l => by
    simp only [maskN]
    rw [bitB_lor', bitB_shift, Bool.or_eq_true, mask_bit (l := l), List.mem_cons]
    simp only [decide_eq_true_eq]
    exact ⟨fun h => h.imp Eq.symm id, fun h => h.imp Eq.symm id⟩
theorem prot_bit {l : List (Nat × Option OTy)} {o : Nat} : ∀ {n : Nat}, o < n → listed o l = false → bitB (protO l n) o = true
  | n + 1, h, hl => by
    simp only [protO]
    by_cases e : o = n
    · subst e
      rw [hl]
      exact bitB_self _ _
    · have := prot_bit (n := n) (by omega) hl
      by_cases hn : listed n l = true
      · simp only [hn, cond_true]; exact this
      · simp only [Bool.eq_false_iff.2 hn, cond_false]; exact bitB_lor this
theorem ofSl_os {e : Ty} {objs : List OB} {o : Nat} {xs : List (D e)} (h : ofSl e objs (.os o) = some xs) : ∃ i, ∃ e : Ty, ∃ xs : List (D e), ∃ fz, objs[o]? = some (.arr i e xs fz) := by
  simp only [ofSl, Option.bind_eq_some_iff] at h
  obtain ⟨ob, hob, h3⟩ := h
  cases ob with
  | arr i e' xs fz => exact ⟨i, e', xs, fz, hob⟩
  | _ => simp at h3
theorem toD_ids {objs : List OB} {o : Nat} : ∀ (τ : Ty) {l : List Cv} {x : D τ}, toD objs τ l = some x → o ∈ idsD objs τ l → ∃ i, ∃ e : Ty, ∃ xs : List (D e), ∃ fz, objs[o]? = some (.arr i e xs fz)
  | .int _, l, _, _, h => by simp [idsD] at h
  | .bool, l, _, _, h => by simp [idsD] at h
  | .str, l, _, _, h => by simp [idsD] at h
  | .nil, l, _, _, h => by simp [idsD] at h
  | .osl _ _, l, _, _, h => by simp [idsD] at h
  | .sl e, l, x, hx, h => by
    obtain ⟨c, h1, h2⟩ := Option.bind_eq_some_iff.1 hx
    simp only [idsD, h1, Option.elim_some] at h
    clear hx
    cases c with
    | os p =>
      have hop : o = p := by simpa [osId] using h
      subst hop
      exact ofSl_os h2
    | _ => simp [osId] at h
  | .obx e, l, x, hx, h => by
    obtain ⟨bl, h1, h2⟩ := Option.bind_eq_some_iff.1 (show ((ownB objs l).bind fun l => toD objs e l) = some x from hx)
    simp only [idsD, h1, Option.getD_some] at h
    exact toD_ids (x := x) e h2 h
  | .st f r, l, x, hx, h => by
    simp only [toD, Option.bind_eq_some_iff] at hx
    obtain ⟨x1, h1, x2, h2, _⟩ := hx
    simp only [idsD, List.mem_append] at h
    exact h.elim (toD_ids f h1) (toD_ids r h2)
theorem absS_ids {objs : List OB} {slots : Slots} {o : Nat} : ∀ (l : List (Nat × Ty)) {x : DL (tysS l)}, absS objs slots l = some x → o ∈ slotIds (idsD objs) slots l → ∃ i, ∃ e : Ty, ∃ xs : List (D e), ∃ fz, objs[o]? = some (.arr i e xs fz)
  | [], _, _, h => by simp [slotIds] at h
  | (t, τ) :: l, x, hx, h => by
    simp only [absS, Option.bind_eq_some_iff, chk_some] at hx
    obtain ⟨⟨tg, pv⟩, h1, h2, cs, h3, h4, x1, h5, x2, h6, _⟩ := hx
    simp only [slotIds, h1, Option.bind_some, h3, Option.elim_some, List.mem_append] at h
    exact h.elim (toD_ids τ h5) (absS_ids l h6)
theorem absO_ids {objs : List OB} {o : Nat} : ∀ (l : List (Nat × Option OTy)) {x : DL (tysO l)}, absO objs l = some x → o ∈ objIds (idsD objs) objs l → ∃ i, ∃ e : Ty, ∃ xs : List (D e), ∃ fz, objs[o]? = some (.arr i e xs fz)
  | [], _, _, h => by simp [objIds] at h
  | (p, none) :: l, x, hx, h => absO_ids l hx (by simpa [objIds] using h)
  | (p, some (.arr i e)) :: l, x, hx, h => by
    simp only [absO, Option.bind_eq_some_iff] at hx
    obtain ⟨ob, hob, h2⟩ := hx
    cases ob with
    | arr i' e' xs fz =>
      cases fz with
      | true => simp at h2
      | false =>
        simp only [chk_some, Option.bind_eq_some_iff] at h2
        obtain ⟨_, x1, _, y2, hy, _⟩ := h2
        exact absO_ids l hy (by simpa [objIds] using h)
    | _ => simp at h2
  | (p, some (.box τ)) :: l, x, hx, h => by
    simp only [absO, Option.bind_eq_some_iff] at hx
    obtain ⟨ob, hob, h2⟩ := hx
    cases ob with
    | box cs =>
      simp only [Option.bind_eq_some_iff] at h2
      obtain ⟨x1, h3, y2, hy, _⟩ := h2
      simp only [objIds, hob, List.mem_append] at h
      exact h.elim (toD_ids τ h3) (absO_ids l hy)
    | _ => simp at h2
theorem flat_inj {gs : List (Value × Option Nat)} {b : Nat} : ∀ {j1 j2 : Nat} {g1 g2 : Value × Option Nat}, (gs.flatMap fun g => g.2.toList).Nodup → gs[j1]? = some g1 → gs[j2]? = some g2 → g1.2 = some b → g2.2 = some b → j1 = j2 := by
  induction gs with
  | nil => intro j1 j2 g1 g2 _ h; simp at h
  | cons g l ih =>
    intro j1 j2 g1 g2 hn h1 h2 hb hb'
    simp only [List.flatMap_cons, List.nodup_append] at hn
    cases j1 with
    | zero =>
      cases j2 with
      | zero => rfl
      | succ j2 =>
        simp at h1 h2
        exact absurd rfl (hn.2.2 b (by rw [h1, hb]; simp) b (List.mem_flatMap.2 ⟨g2, List.mem_of_getElem? h2, by simp [hb']⟩))
    | succ j1 =>
      cases j2 with
      | zero =>
        simp at h1 h2
        exact absurd rfl (hn.2.2 b (by rw [h2, hb']; simp) b (List.mem_flatMap.2 ⟨g1, List.mem_of_getElem? h1, by simp [hb]⟩))
      | succ j2 => exact congrArg _ (ih hn.2.1 (by simpa using h1) (by simpa using h2) hb hb')
def OB.below (n : Nat) : OB → Prop
  | .box l => CvL.below n l
  | .bld _ c => c.below n
  | _ => True
theorem ObR.below {objs : List OB} {γ : Gh} {w : World} {ob : OB} {g : Value × Option Nat} (h : ObR objs γ w ob g) : OB.below objs.length ob := by
  cases ob with
  | box l => obtain ⟨_, _, _, _, _, h1⟩ := h; exact h1.below
  | bld t c => obtain ⟨_, _, _, _, _, _, h1⟩ := h; exact h1.below
  | _ => trivial
theorem ObR.keep' {objs objs' : List OB} {γ γ' : Gh} {w w' : World} {n : Nat} (h : Keep objs γ w objs' γ' w' n) {ob : OB} {g : Value × Option Nat} (hb : ∀ b, g.2 = some b → w'.heap[b]? = w.heap[b]?) (hbel : OB.below n ob) (hr : ObR objs γ w ob g) : ObR objs' γ' w' ob g := by
  cases ob with
  | box l =>
    obtain ⟨b, T, cs, e, h1, h2⟩ := hr
    exact ⟨b, T, cs, e, (hb b (by simp [e])).trans h1, VRL.keep h hbel h2⟩
  | arr i e xs fz =>
    obtain ⟨us, h1, h2⟩ := hr
    exact ⟨us, h1.mono fun b hm => hb b (by simpa using hm), RepL.keep h h2⟩
  | dead => trivial
  | bld t c =>
    obtain ⟨b, p, v, e, h1, h2, h3⟩ := hr
    exact ⟨b, p, v, e, (hb b (by simp [e])).trans h1, h2, VR.keep h hbel h3⟩
/-- THE STATE OF A SHAPE -/
theorem conc_sound {F : Fr} {s : Shape} {σ σ' : AState} {γ γ' : Gh} {a a' : Act} {w w' : World} (r : Rel F σ γ a w) (hh : holesOk s σ = true) (r' : Rel F σ' γ' a' w') (hn : σ'.n = σ.n)
    (hk : ∀ t ∈ s.keep, ∀ e, kf σ.slots t = some e → get σ'.slots t = some e) (ho : ∀ o, o < σ.objs.length → listed o s.objs = false → σ'.objs[o]? = σ.objs[o]?) (K0 : Keep σ.objs γ w σ'.objs γ' w' σ.objs.length)
    {x : s.T} (hx : absT s σ.objs.length σ' = some x) : ∃ γF, Rel F (conc s σ x) γF a' w' ∧ Cl (conc s σ x) ∧ Step σ γ w (conc s σ x) γF w' := by
  simp only [absT, chk_some, Bool.and_eq_true, Option.bind_eq_some_iff] at hx
  obtain ⟨⟨hown, hdat⟩, x1, hx1, x2, hx2, hxx⟩ := hx
  have hxx : (x1, x2) = x := Option.some.inj hxx
  subst hxx
  simp only [holesOk, Bool.and_eq_true, List.all_eq_true, Bool.not_eq_true'] at hh
  obtain ⟨⟨⟨hpm, hsl⟩, hndo, hol⟩, hg0, hkn0⟩ := hh
  have hndo := nodupN_spec hndo
  have hol' : ∀ q ∈ s.objs, q.1 < σ.objs.length ∧ bitB σ.prO q.1 = false := fun q hq => ⟨by have := (hol q hq).1; simpa [Nat.blt_eq] using this, (hol q hq).2⟩
  simp only [okOwned, Bool.and_eq_true] at hown
  obtain ⟨hown1, hown2⟩ := hown
  have hownd := nodupN_spec hown1
  have hownst : ∀ o ∈ slotIds (idsO σ'.objs) σ'.slots s.slots ++ objIds (idsO σ'.objs) σ'.objs s.objs, stays s σ.objs.length o = false := fun o ho => by
    have := List.all_eq_true.1 hown2 o ho
    simpa using this
  -- what is not written behind it
  let own := slotIds (idsO σ'.objs) σ'.slots s.slots ++ objIds (idsO σ'.objs) σ'.objs s.objs
  let T : Nat → Prop := fun k => k < w'.heap.size ∧ γ'.S k ∧ ∀ o', Mut σ'.objs o' → (o' ∈ own ∨ stays s σ.objs.length o' = true) → (γ' o').2 ≠ some k
  have hT : ∀ k, Imm σ'.objs γ' w' k → T k := fun k hk => ⟨hk.lt, hk.s, fun o' hm _ => hk.own o' hm⟩
  have hids : ∀ o ∈ slotIds (idsD σ'.objs) σ'.slots s.slots ++ objIds (idsD σ'.objs) σ'.objs s.objs, ∀ b, (γ' o).2 = some b → T b := fun o ho' b hb => by
    have harr : ∃ i, ∃ e : Ty, ∃ xs : List (D e), ∃ fz, σ'.objs[o]? = some (.arr i e xs fz) := (List.mem_append.1 ho').elim (absS_ids _ hx1) (absO_ids _ hx2)
    obtain ⟨i, e, xs, fz, hob⟩ := harr
    cases fz with
    | true => exact hT b (r'.o.frz o i e xs b hob hb)
    | false =>
      have hd := List.all_eq_true.1 hdat o ho'
      rw [hob] at hd
      simp only [Bool.false_or, Bool.and_eq_true, Bool.not_eq_true'] at hd
      obtain ⟨hd1, hd2⟩ := hd
      have hmo : Mut σ'.objs o := ⟨_, hob, rfl⟩
      refine ⟨r'.o.lt o b (get_lt hob) hb, r'.o.up b (r'.o.own o b hmo hb), fun o' hm hor hb' => ?_⟩
      have e1 := r'.o.inj o' o b hm hmo hb' hb
      subst e1
      rcases hor with hor | hor
      · have : memN o' own = true := memN_spec.2 hor
        rw [this] at hd2; cases hd2
      · rw [hor] at hd1; cases hd1
  obtain ⟨gsO, p1, p2, p3, p4, p4b, p5⟩ := concO_spec (n0 := σ.objs.length) r'.o hT s.objs σ.objs hx2 hndo (fun q hq => (hol' q hq).1) (Nat.le_refl _) (fun o ho' => hids o (List.mem_append.2 (.inr ho')))
  obtain ⟨gsS, q1, q2, q3, q5⟩ := concS_spec r' hT s.slots { σ with slots := keepF σ.slots s.keep, objs := concO s.objs x2 σ.objs, gs := 0, known := [] } hx1 (fun o ho' => hids o (List.mem_append.2 (.inl ho')))
  have hcl := concS_len s.slots x1 { σ with slots := keepF σ.slots s.keep, objs := concO s.objs x2 σ.objs, gs := 0, known := [] }
  have hcO := concO_len s.objs x2 σ.objs
  show ∃ γF, Rel F (concS s.slots x1 { σ with slots := keepF σ.slots s.keep, objs := concO s.objs x2 σ.objs, gs := 0, known := [] }) γF a' w' ∧ Cl (concS s.slots x1 { σ with slots := keepF σ.slots s.keep, objs := concO s.objs x2 σ.objs, gs := 0, known := [] }) ∧ Step σ γ w (concS s.slots x1 { σ with slots := keepF σ.slots s.keep, objs := concO s.objs x2 σ.objs, gs := 0, known := [] }) γF w'
  generalize hC : concS s.slots x1 { σ with slots := keepF σ.slots s.keep, objs := concO s.objs x2 σ.objs, gs := 0, known := [] } = C at *
  simp only at q1 hcl q5
  have hOlen : C.objs.length = σ.objs.length + (gsO ++ gsS).length := by rw [q1, p1, List.length_append, Nat.add_assoc]
  have hflat : (gsO ++ gsS).flatMap (fun g => g.2.toList) = blocks γ' (objIds (idsO σ'.objs) σ'.objs s.objs ++ slotIds (idsO σ'.objs) σ'.slots s.slots) := by
    rw [List.flatMap_append, p2, q2]; simp [blocks]
  have hownm : ∀ o ∈ own, Mut σ'.objs o := fun o ho' => (List.mem_append.1 ho').elim (q3 o) (p3 o)
  have hndb : ((gsO ++ gsS).flatMap fun g => g.2.toList).Nodup := by
    rw [hflat]
    refine blocks_nodup r'.o ?_ (fun o ho' => hownm o (List.mem_append.2 ((List.mem_append.1 ho').symm)))
    exact (List.perm_append_comm.nodup_iff).1 hownd
  have hlow : ∀ o, o < σ.objs.length → C.objs[o]? = (concO s.objs x2 σ.objs)[o]? := fun o ho' => hcl.2.1 o (by omega)
  -- the ghosts
  have hγlow : ∀ o, o < σ.objs.length → upd γ' σ.objs.length (gsO ++ gsS) o = γ' o := fun o ho' => upd_lt ho'
  have hA : ∀ o, o < σ.objs.length → Mut C.objs o → Mut σ'.objs o ∧ stays s σ.objs.length o = true := fun o ho' hm => by
    have hst : droppedO o s.objs = false → stays s σ.objs.length o = true := fun hd => by
      simp only [stays, hd, Bool.not_false, Bool.and_true]
      simpa [Nat.blt_eq] using ho'
    obtain ⟨ob, h1, h2⟩ := hm
    rw [hlow o ho'] at h1
    by_cases hl : listed o s.objs = true
    · obtain ⟨q, hq, rfl⟩ := List.mem_map.1 (listed_spec.1 hl)
      obtain ⟨h3, h4⟩ := p4 q hq ⟨ob, h1, h2⟩
      exact ⟨h3, hst h4⟩
    · have hl := Bool.eq_false_iff.2 hl
      rw [concO_keep s.objs x2 σ.objs o ho' hl, ← ho o ho' hl] at h1
      exact ⟨⟨ob, h1, h2⟩, hst (Bool.eq_false_iff.2 fun hd => by rw [dropped_listed hd] at hl; cases hl)⟩
  have hB : ∀ o b, σ.objs.length ≤ o → o < C.objs.length → (upd γ' σ.objs.length (gsO ++ gsS) o).2 = some b → ∃ o' ∈ own, (γ' o').2 = some b := fun o b h1 h2 hb => by
    have hj : o - σ.objs.length < (gsO ++ gsS).length := by omega
    have e1 := upd_ge (γ := γ') (n := σ.objs.length) (List.getElem?_eq_getElem hj)
    rw [show σ.objs.length + (o - σ.objs.length) = o by omega] at e1
    rw [e1] at hb
    have hmem : b ∈ (gsO ++ gsS).flatMap (fun g => g.2.toList) := List.mem_flatMap.2 ⟨_, List.getElem_mem hj, by simp [hb]⟩
    rw [hflat] at hmem
    obtain ⟨o', ho', hb'⟩ := List.mem_flatMap.1 hmem
    exact ⟨o', List.mem_append.2 ((List.mem_append.1 ho').symm), by simpa using hb'⟩
  have hTI : ∀ k, T k → Imm C.objs (upd γ' σ.objs.length (gsO ++ gsS)) w' k := fun k hk => by
    refine ⟨hk.1, hk.2.1, fun o hm hb => ?_⟩
    by_cases ho' : o < σ.objs.length
    · obtain ⟨h1, h2⟩ := hA o ho' hm
      rw [hγlow o ho'] at hb
      exact hk.2.2 o h1 (.inr h2) hb
    · obtain ⟨o', h1, h2⟩ := hB o k (by omega) hm.lt hb
      exact hk.2.2 o' (hownm o' h1) (.inl h1) h2
  have hgO : ∀ j g, gsO[j]? = some g → upd γ' σ.objs.length (gsO ++ gsS) (σ.objs.length + j) = g := fun j g hj => upd_ge (by rw [List.getElem?_append_left (get_lt hj)]; exact hj)
  have hgS : ∀ j g, gsS[j]? = some g → upd γ' σ.objs.length (gsO ++ gsS) ((concO s.objs x2 σ.objs).length + j) = g := fun j g hj => by
    rw [p1, Nat.add_assoc]
    exact upd_ge (by rw [List.getElem?_append_right (by omega)]; simpa using hj)
  obtain ⟨u1, u2⟩ := p5 C.objs _ (fun o ho' => hcl.2.1 o ho') hTI hγlow hgO hcl.1
  obtain ⟨v1, v2⟩ := q5 _ hTI hgS C.objs rfl
  have K1 : Keep σ'.objs γ' w' C.objs (upd γ' σ.objs.length (gsO ++ gsS)) w' σ.objs.length := ⟨fun k hk => hTI k (hT k hk), fun _ _ => rfl, by omega, hγlow, Nat.le_refl _, rfl⟩
  have hlen' := K0.len
  have hnew : ∀ o ob, σ.objs.length ≤ o → C.objs[o]? = some ob → ObR C.objs (upd γ' σ.objs.length (gsO ++ gsS)) w' ob (upd γ' σ.objs.length (gsO ++ gsS) o) ∧ mutOb ob = true := fun o ob h1 h2 => by
    by_cases h3 : o < (concO s.objs x2 σ.objs).length
    · exact u2 o ob h1 h3 h2
    · exact v2 o ob (by omega) h2
  have hor : ORel F C.objs (upd γ' σ.objs.length (gsO ++ gsS)) w' := by
    refine ⟨fun o ob hob => ?_, fun o o' b hm hm' hb hb' => ?_, fun o b hm hb => ?_, fun o b hlt hb => ?_, r'.o.chg, fun o i e xs b hob hb => ?_, r'.o.up, r'.o.tab.mono (fun k hk => hTI k (hT k hk)) (fun _ _ => rfl)⟩
    · by_cases ho' : o < σ.objs.length
      · by_cases hl : listed o s.objs = true
        · obtain ⟨q, hq, rfl⟩ := List.mem_map.1 (listed_spec.1 hl)
          exact u1 q hq ob hob
        · have hl := Bool.eq_false_iff.2 hl
          rw [hlow o ho', concO_keep s.objs x2 σ.objs o ho' hl] at hob
          rw [hγlow o ho']
          exact ObR.keep' K1 (fun _ _ => rfl) (r.o.rep o ob hob).below (r'.o.rep o ob (by rw [ho o ho' hl]; exact hob))
      · exact (hnew o ob (by omega) hob).1
    · by_cases h1 : o < σ.objs.length <;> by_cases h2 : o' < σ.objs.length
      · rw [hγlow o h1] at hb; rw [hγlow o' h2] at hb'
        exact r'.o.inj o o' b (hA o h1 hm).1 (hA o' h2 hm').1 hb hb'
      · rw [hγlow o h1] at hb
        obtain ⟨o2, h3, h4⟩ := hB o' b (by omega) hm'.lt hb'
        have e1 := r'.o.inj o o2 b (hA o h1 hm).1 (hownm o2 h3) hb h4
        subst e1
        have := hownst o h3
        rw [(hA o h1 hm).2] at this; cases this
      · rw [hγlow o' h2] at hb'
        obtain ⟨o2, h3, h4⟩ := hB o b (by omega) hm.lt hb
        have e1 := r'.o.inj o' o2 b (hA o' h2 hm').1 (hownm o2 h3) hb' h4
        subst e1
        have := hownst o' h3
        rw [(hA o' h2 hm').2] at this; cases this
      · have l1 := hm.lt
        have l2 := hm'.lt
        have hj1 : o - σ.objs.length < (gsO ++ gsS).length := by omega
        have hj2 : o' - σ.objs.length < (gsO ++ gsS).length := by omega
        have e1 := upd_ge (γ := γ') (n := σ.objs.length) (List.getElem?_eq_getElem hj1)
        have e2 := upd_ge (γ := γ') (n := σ.objs.length) (List.getElem?_eq_getElem hj2)
        rw [show σ.objs.length + (o - σ.objs.length) = o by omega] at e1
        rw [show σ.objs.length + (o' - σ.objs.length) = o' by omega] at e2
        rw [e1] at hb; rw [e2] at hb'
        have := flat_inj hndb (List.getElem?_eq_getElem hj1) (List.getElem?_eq_getElem hj2) hb hb'
        omega
    · by_cases h1 : o < σ.objs.length
      · rw [hγlow o h1] at hb; exact r'.o.own o b (hA o h1 hm).1 hb
      · obtain ⟨o2, h3, h4⟩ := hB o b (by omega) hm.lt hb
        exact r'.o.own o2 b (hownm o2 h3) h4
    · by_cases h1 : o < σ.objs.length
      · rw [hγlow o h1] at hb; exact r'.o.lt o b (by omega) hb
      · obtain ⟨o2, h3, h4⟩ := hB o b (by omega) hlt hb
        exact r'.o.lt o2 b (hownm o2 h3).lt h4
    · by_cases h1 : o < σ.objs.length
      · rw [hlow o h1] at hob
        rw [hγlow o h1] at hb
        by_cases hl : listed o s.objs = true
        · obtain ⟨q, hq, rfl⟩ := List.mem_map.1 (listed_spec.1 hl)
          exact absurd hob (p4b q hq i e xs)
        · have hl := Bool.eq_false_iff.2 hl
          rw [concO_keep s.objs x2 σ.objs o h1 hl, ← ho o h1 hl] at hob
          exact hTI b (hT b (r'.o.frz o i e xs b hob hb))
      · cases (hnew o _ (by omega) hob).2
  have hslots : ∀ t tg pv, get C.slots t = some (tg, pv) → tg = [] ∧ ∃ v, a'.tmps[t]? = some v ∧ PR C.objs (upd γ' σ.objs.length (gsO ++ gsS)) w' pv v := fun t tg pv ht => by
    rcases v1 t tg pv ht with h1 | h1
    · obtain ⟨h2, h3⟩ := keepF_get h1
      obtain ⟨h4, h5, h6⟩ := kf_spec h3
      simp only at h5 h6
      subst h5
      refine ⟨rfl, ?_⟩
      obtain ⟨v, h7, h8⟩ := r'.slots t [] pv (hk t h2 _ h3) (tagT_nil _)
      obtain ⟨v0, _, h9⟩ := r.slots t [] pv h4 (tagT_nil _)
      exact ⟨v, h7, PR.keep K1 h9.below (.inl h6) h8⟩
    · exact h1
  refine ⟨upd γ' σ.objs.length (gsO ++ gsS), ⟨?_, r'.defers, fun t tg pv ht _ => (hslots t tg pv ht).2, fun t tg pv ht hnT => ?_, fun t tg pv ht x hx => ?_, fun x hx => ?_, hor⟩, ⟨hcl.2.2.2.2.2.1, hcl.2.2.2.2.2.2.1⟩, ⟨hcl.2.2.1, hcl.2.2.2.1, hcl.2.2.2.2.1, fun t e ht he => ?_, fun o ho' hp => ?_, K0.trans K1⟩⟩
  · rw [r'.size, hn, hcl.2.2.1]
  · obtain ⟨rfl, _⟩ := hslots t tg pv ht
    exact absurd (tagT_nil _) hnT
  · obtain ⟨rfl, _⟩ := hslots t tg pv ht
    cases hx
  · rw [hcl.2.2.2.2.2.2.1] at hx
    cases hx
  · have htk : t ∈ s.keep := by
      have hb := Nat.eq_of_beq_eq_true hpm
      rw [bitB_eq] at ht
      have h2 : (Nat.land σ.prS (maskN s.keep)).testBit t = true := by rw [hb]; exact ht
      have h3 : (σ.prS &&& maskN s.keep).testBit t = true := h2
      rw [Nat.testBit_and, Bool.and_eq_true] at h3
      exact mask_bit.1 (by rw [bitB_eq]; exact h3.2)
    have hnh : ∀ q ∈ s.slots, q.1 ≠ t := fun q hq e1 => by
      have := (hsl q hq).1
      rw [e1, memN_spec.2 htk] at this
      cases this
    obtain ⟨h4, h5, h6⟩ := kf_spec he
    refine kf_of ?_ h5 h6
    rw [hcl.2.2.2.2.2.2.2 t hnh, get_keepF htk]
    exact he
  · have hl : listed o s.objs = false := Bool.eq_false_iff.2 fun hl => by
      obtain ⟨q, hq, rfl⟩ := List.mem_map.1 (listed_spec.1 hl)
      rw [(hol' q hq).2] at hp
      cases hp
    rw [hlow o ho', concO_keep s.objs x2 σ.objs o ho' hl]
end Go.Den
