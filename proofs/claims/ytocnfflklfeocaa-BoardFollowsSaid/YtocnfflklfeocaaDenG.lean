/- Contracts of functions that are handed a box, out of the interpreter. No condition of its own. -/
import Derived.Test.YtocnfflklfeocaaDenF
namespace Go.Den
open Go.Eng (sameKind CellsAt Chg InR adr aggOf)
set_option linter.unusedVariables false
set_option linter.unusedSectionVars false
set_option linter.unusedSimpArgs false
variable [CT : Ctx]

section
variable {P : Program} {env : Env}
theorem argPVs_specB {objs : List OB} {γ : Gh} {w : World} {S : Nat → Prop} (hS : ∀ k, S k → Imm objs γ w k) : ∀ {ps : List Ty} {x : DL ps} {vs : List Value}, ArgsR w S ps x vs → PRL objs γ w (argPVs ps x) vs
  | [], _, _, h => h
  | τ :: r, x, _, ⟨v, q, e, ⟨cs, h1, h2⟩, h3⟩ => by
    refine ⟨v, q, e, ?_, argPVs_specB hS h3⟩
    have := cellsOf_spec τ (Rep.mono hS (fun _ _ => rfl) τ h1 (by simp))
    rw [h2]
    exact pvCells_spec (cellsOf_length τ x.1) this
theorem rep_lt {w : World} : ∀ (τ : Ty) {x : D τ} {M : List Nat} {cs : List Value} {S : Nat → Prop}, Rep w S τ x M cs → ∀ b ∈ M, b < w.heap.size := by
  intro τ
  induction τ with
  | osl i e _ => intro x M cs S h; obtain ⟨v, us, _, h2, _⟩ := h; exact h2.lt
  | obx e ih =>
    intro x M cs S h b hb
    obtain ⟨b', M', T, cells, rfl, _, h3, h4⟩ := h
    rcases List.mem_cons.1 hb with rfl | hb
    · exact arr_lt h3
    · exact ih h4 b hb
  | bld tb ib =>
    intro x M cs S h b hb
    obtain ⟨b', M', p', v', us, rfl, _, h3, _, h5, _⟩ := h
    rcases List.mem_cons.1 hb with rfl | hb
    · exact arr_lt h3
    · exact h5.lt b hb
  | st f r ihf ihr =>
    intro x M cs S h b hb
    obtain ⟨c1, c2, M1, M2, _, rfl, h3, h4⟩ := h
    rcases List.mem_append.1 hb with hb | hb
    · exact ihf h3 b hb
    · exact ihr h4 b hb
  | _ => intro x M cs S h b hb; rw [h.1] at hb; cases hb
/-- A CONTRACT, OUT OF WHAT THE INTERPRETER GIVES -/
theorem ioc_of_den (hE : EnvOK P env) (hm : P.follows .mixedOrders = true) {f : FuncId} {fn : Func} (hf : P.funcs[f]? = some fn) (c : Ioc) (ann : Ann)
    (hok : (fn.body.isSome && (Nat.ble (c.ps.length + 1) fn.ntmps && (c.ps.all Ty.pure && (c.one || !Nat.beq c.res.length 1)))) = true) (hwf : c.one = false → c.ρ = stOf c.res)
    (h : ∀ x, c.φ x = denIO P env ann fn c.bx c.ps c.one c.res c.ρ x) : IocOK P f c := by
  simp only [Bool.and_eq_true] at hok
  obtain ⟨hbody, hn, hpure, hone⟩ := hok
  have hn := Nat.le_of_ble_eq_true hn
  refine ⟨hpure, hwf, fun w S b T cs M args x r hS hTab hheap hMnd hbM hrep hargs hr => ?_⟩
  obtain ⟨body, hb⟩ := Option.isSome_iff_exists.1 hbody
  have hbo : Eng.bodyOf fn = body := by simp [Eng.bodyOf, hb]
  rw [h x] at hr
  unfold denIO at hr
  rw [hbo] at hr
  have hblt : b < w.heap.size := (Array.getElem?_eq_some_iff.1 hheap).1
  have hMlt := rep_lt c.bx hrep
  obtain ⟨gs, hgl, hgM, hgp⟩ := cc_spec c.bx hrep 1
  obtain ⟨q, hq⟩ : ∃ q, cc c.bx x.1 1 = q := ⟨_, rfl⟩
  rw [hq] at hgl hgp hr
  let γ : Gh := ⟨fun o => match o with
    | 0 => (.pointer (some ⟨b, 0, none⟩), some b)
    | j + 1 => (gs[j]?).getD (undef, none), fun k => S k ∨ w.heap.size ≤ k ∨ k ∈ b :: M⟩
  have hγ : ∀ j g, gs[j]? = some g → γ (1 + j) = g := fun j g hj => by
    rw [Nat.add_comm]
    show (gs[j]?).getD (undef, none) = g
    rw [hj]; rfl
  have hblocks : ∀ o k, o < (OB.box q.1 :: q.2).length → (γ o).2 = some k → k ∈ b :: M := fun o k ho hk => by
    cases o with
    | zero => simp [γ] at hk; simp [hk]
    | succ j =>
      have hj : j < gs.length := by rw [hgl]; simpa using ho
      have := hγ j _ (List.getElem?_eq_getElem hj)
      rw [Nat.add_comm] at this
      rw [this] at hk
      refine List.mem_cons_of_mem _ ?_
      rw [hgM]
      exact List.mem_flatMap.2 ⟨_, List.getElem_mem hj, by simp [hk]⟩
  have hSI : ∀ k, S k → Imm (OB.box q.1 :: q.2) γ w k := fun k hk => ⟨(hS k hk).1, .inl hk, fun o hm hb' => by
    obtain ⟨ob, h1, _⟩ := hm
    rcases List.mem_cons.1 (hblocks o k (get_lt h1) hb') with e | e
    · exact (hS k hk).2.1 e
    · exact (hS k hk).2.2 e⟩
  obtain ⟨hv1, hv2⟩ := hgp (OB.box q.1 :: q.2) γ hSI hγ (by simp [hgl]; omega)
  have hor : ORel ⟨w, b :: M⟩ (OB.box q.1 :: q.2) γ w := by
    refine ⟨fun o ob ho => ?_, fun o o' k h1 h2 hb1 hb2 => ?_, fun o k hm hk => .inr ?_, fun o k ho hk => ?_, Chg.refl _ _, fun o i e xs k ho hk => ?_, fun k hk => ?_, hTab.mono hSI (fun _ _ => rfl)⟩
    · cases o with
      | zero => simp at ho; subst ho; exact ⟨b, T, cs, rfl, hheap, hv1⟩
      | succ j =>
        simp only [List.getElem?_cons_succ] at ho
        have hj : j < gs.length := by rw [hgl]; exact get_lt ho
        have := (hv2 j ob _ ho (List.getElem?_eq_getElem hj)).1
        have e := hγ j _ (List.getElem?_eq_getElem hj)
        rw [Nat.add_comm] at e
        rw [e]; exact this
    · have key : ∀ o k, o < (OB.box q.1 :: q.2).length → (γ o).2 = some k → (o = 0 ∧ k = b) ∨ ∃ j g, o = j + 1 ∧ gs[j]? = some g ∧ g.2 = some k ∧ k ∈ M := fun o k ho hk => by
        cases o with
        | zero => simp [γ] at hk; exact .inl ⟨rfl, hk.symm⟩
        | succ j =>
          have hj : j < gs.length := by rw [hgl]; simpa using ho
          have e := hγ j _ (List.getElem?_eq_getElem hj)
          rw [Nat.add_comm] at e
          rw [e] at hk
          exact .inr ⟨j, _, rfl, List.getElem?_eq_getElem hj, hk, by rw [hgM]; exact List.mem_flatMap.2 ⟨_, List.getElem_mem hj, by simp [hk]⟩⟩
      rcases key o k h1.lt hb1 with ⟨rfl, e1⟩ | ⟨j1, g1, rfl, hg1, hk1, m1⟩ <;> rcases key o' k h2.lt hb2 with ⟨rfl, e2⟩ | ⟨j2, g2, rfl, hg2, hk2, m2⟩
      · rfl
      · exact absurd (e1 ▸ m2) hbM
      · exact absurd (e2 ▸ m1) hbM
      · rw [flat_inj (hgM ▸ hMnd) hg1 hg2 hk1 hk2]
    · obtain ⟨ob, h1, _⟩ := hm; exact hblocks o k (get_lt h1) hk
    · rcases List.mem_cons.1 (hblocks o k ho hk) with e | e
      · rw [e]; exact hblt
      · exact hMlt k e
    · cases o with
      | zero => simp at ho
      | succ j =>
        simp only [List.getElem?_cons_succ] at ho
        have hj : j < gs.length := by rw [hgl]; exact get_lt ho
        cases (hv2 j _ _ ho (List.getElem?_eq_getElem hj)).2
    · rcases hk with hk | hk
      · exact .inr (.inl hk)
      · exact .inr (.inr hk)
  have hv : PRL (OB.box q.1 :: q.2) γ w (.c (.ptr 0 0) :: argPVs c.ps x.2) (.pointer (some ⟨b, 0, none⟩) :: args) := ⟨_, _, rfl, ⟨by simp, b, rfl, rfl⟩, argPVs_specB hSI hargs⟩
  have r00 : Rel ⟨w, b :: M⟩ ⟨0, [], OB.box q.1 :: q.2, 0, 0, 0, []⟩ γ { tmps := #[], defers := [] } w := ⟨rfl, rfl, fun t tg pv h => by simp [get] at h, fun t tg pv h => by simp [get] at h, fun t tg pv h => by simp [get] at h, fun x hx => (by cases hx), hor⟩
  have r0 := rel_enter (n := fn.ntmps) r00 hv (by rw [List.length_cons, argPVs_length]; exact hn)
  have hlast : ∀ σ' γ' a' w', retIO P fn c.bx c.one c.res c.ρ σ' = some r → Rel ⟨w, b :: M⟩ σ' γ' a' w' → Step ⟨fn.ntmps, argSlots 0 (.c (.ptr 0 0) :: argPVs c.ps x.2), OB.box q.1 :: q.2, 0, 0, 0, []⟩ γ w σ' γ' w' →
      a'.defers = [] ∧ ∃ v, (results fn a'.tmps).run P w' = .ok v w' ∧ ∃ v2, Ending.returned v = .returned v2 ∧ Chg (b :: M) w w' ∧ IoR w w' S b M c r v2 := by
    intro σ' γ' a' w' hk r' s'
    simp only [retIO, Option.bind_eq_some_iff] at hk
    obtain ⟨vs, h1, cs1, h2, ob, hob, h3⟩ := hk
    cases ob with
    | box bs =>
      simp only [chk_some, Bool.and_eq_true, Bool.not_eq_true'] at h3
      obtain ⟨⟨hbl, hm00⟩, h3⟩ := h3
      have hbl := Nat.eq_of_beq_eq_true hbl
      obtain ⟨vals, h4, h5, h6⟩ := resOf_spec (P := P) r' h1
      refine ⟨r'.defers, _, results_run h5 h6, _, rfl, r'.o.chg, ?_⟩
      obtain ⟨cells, h7, h8, h9⟩ := allCells_spec rfl h2 h4
      obtain ⟨b', T', cs', hg', hheap', hvb⟩ := r'.o.rep 0 _ hob
      have hγ0 : γ' 0 = γ 0 := s'.keep.gh 0 (by simp)
      have hbb : b' = b := by rw [hγ0] at hg'; simp [γ] at hg'; exact hg'.symm
      subst hbb
      have hm0 : Mut σ'.objs 0 := ⟨_, hob, rfl⟩
      have hg0 : (γ' 0).2 = some b' := by rw [hg']
      have hva := hvb.append h7
      simp only [retD, chk_some, Bool.and_eq_true, List.all_eq_true, Bool.not_eq_true'] at h3
      obtain ⟨⟨hnd, hdis⟩, h10⟩ := h3
      have hmut := (toD_spec (S := fun _ => True) r'.o (fun _ _ => trivial) (.st c.bx c.ρ) h10 hva (fun _ _ _ _ => trivial)).2
      have hSeq : γ'.S = γ.S := s'.keep.s
      have hMmem : ∀ k ∈ blocks γ' (idsO σ'.objs (.st c.bx c.ρ) (bs ++ cs1)), ∃ o ∈ idsO σ'.objs (.st c.bx c.ρ) (bs ++ cs1), (γ' o).2 = some k := fun k hk => by
        obtain ⟨o, ho, hb'⟩ := List.mem_flatMap.1 hk
        exact ⟨o, ho, by simpa using hb'⟩
      have hne0 : ∀ o k, Mut σ'.objs o → o ≠ 0 → (γ' o).2 = some k → k ≠ b' := fun o k m1 m2 m3 e => m2 (r'.o.inj o 0 b' m1 hm0 (e ▸ m3) hg0)
      have hids0 : ∀ o ∈ idsO σ'.objs (.st c.bx c.ρ) (bs ++ cs1), o ≠ 0 := fun o ho e => by
        rw [e] at ho
        rw [memN_spec.2 ho] at hm00
        cases hm00
      have hsplit : ∀ k, γ.S k → k ≠ b' → S k ∨ w.heap.size ≤ k ∨ k ∈ M := fun k hk hne => by
        rcases hk with hk | hk | hk
        · exact .inl hk
        · exact .inr (.inl hk)
        · rcases List.mem_cons.1 hk with e | e
          · exact absurd e hne
          · exact .inr (.inr e)
      have himm : ∀ k, Imm σ'.objs γ' w' k → k < w'.heap.size ∧ (S k ∨ w.heap.size ≤ k ∨ k ∈ M) ∧ k ∉ blocks γ' (idsO σ'.objs (.st c.bx c.ρ) (bs ++ cs1)) ∧ k ≠ b' := fun k hk => by
        have hne : k ≠ b' := fun e => hk.own 0 hm0 (by rw [e]; exact hg0)
        refine ⟨hk.lt, hsplit k (by have := hk.s; rw [hSeq] at this; exact this) hne, fun hm => ?_, hne⟩
        obtain ⟨o, ho, hb2⟩ := hMmem k hm
        exact hk.own o (hmut o ho) hb2
      have hrep' := (toD_spec (S := fun k => k < w'.heap.size ∧ (S k ∨ w.heap.size ≤ k ∨ k ∈ M) ∧ k ∉ blocks γ' (idsO σ'.objs (.st c.bx c.ρ) (bs ++ cs1)) ∧ k ≠ b') r'.o himm (.st c.bx c.ρ) h10 hva (fun o ho k hk => by
        obtain ⟨i, e, xs, fz, hobd⟩ := toD_ids (.st c.bx c.ρ) h10 ho
        cases fz with
        | true => exact himm k (r'.o.frz o i e xs k hobd hk)
        | false =>
          have hmo : Mut σ'.objs o := ⟨_, hobd, rfl⟩
          have ho0 : o ≠ 0 := fun e0 => by rw [e0, hob] at hobd; cases hobd
          have hne := hne0 o k hmo ho0 hk
          refine ⟨r'.o.lt o k (get_lt hobd) hk, ?_, fun hm => ?_, hne⟩
          · rcases r'.o.own o k hmo hk with h11 | h11
            · exact .inr (.inl h11)
            · rcases List.mem_cons.1 h11 with e1 | e1
              · exact absurd e1 hne
              · exact .inr (.inr e1)
          · obtain ⟨o', ho', hb2⟩ := hMmem k hm
            have e1 := r'.o.inj o o' k hmo (hmut o' ho') hk hb2
            subst e1
            have := hdis o ho
            rw [memN_spec.2 ho'] at this
            cases this)).1
      obtain ⟨c1, c2, M1, M2, e1, e2, hR1, hR2⟩ := hrep'
      have hl1 : c1.length = c.bx.size := Rep.length c.bx hR1
      have hl2 : cs'.toList.length = c.bx.size := by rw [hvb.length]; exact hbl
      obtain ⟨e3, e4⟩ := List.append_inj e1 (by rw [hl1, hl2])
      subst e3; subst e4
      rw [e2] at hR1 hR2
      have hbn : (M1 ++ M2).Nodup := e2 ▸ blocks_nodup r'.o (nodupN_spec hnd) hmut
      refine ⟨T', cs', M1, M2, cells, hheap', hbn, fun k hk => ?_, hR1, hR2, ?_⟩
      · obtain ⟨o, ho, hb2⟩ := hMmem k (e2 ▸ hk)
        have hne := hne0 o k (hmut o ho) (hids0 o ho) hb2
        refine ⟨?_, hne⟩
        rcases r'.o.own o k (hmut o ho) hb2 with h11 | h11
        · exact .inr h11
        · rcases List.mem_cons.1 h11 with e5 | e5
          · exact absurd e5 hne
          · exact .inl e5
      · unfold resV
        cases hc1 : c.one with
        | true =>
          rw [hc1] at h8 h9
          simp only [resTys, cond_true, tupV] at h8
          rw [← h8]
          have hl : cells.length = c.ρ.size := by rw [Rep.length c.ρ hR2]
          rw [← hl, List.take_length]
          rfl
        | false =>
          rw [hc1] at h8 h9 hone
          simp only [resTys, cond_false] at h8 h9
          simp only [Bool.false_or, Bool.not_eq_true'] at hone
          rw [h8]
          have hne : vals.length ≠ 1 := fun e => by rw [← h9, e] at hone; cases hone
          match vals, hne with
          | [], _ => rfl
          | [_], hne => exact absurd rfl hne
          | _ :: _ :: _, _ => rfl
    | _ => simp at h3
  have := (den_sound hE hm 10000 (D (.st c.bx c.ρ))).1 ann body _ _ r hr ⟨w, b :: M⟩ γ _ w (bodyPost P fn fun e w' => ∃ v, e = .returned v ∧ Chg (b :: M) w w' ∧ IoR w w' S b M c r v) r0 ⟨rfl, rfl⟩
    ⟨fun σ' γ' a' w' hk r' _ s' => hlast σ' γ' a' w' hk r' s', fun i σ' γ' a' w' hk => (by cases hk), fun σ' γ' a' w' hk r' _ s' => hlast σ' γ' a' w' hk r' s'⟩
  have hcalls := calls_of_wp (args := (.pointer (some ⟨b, 0, none⟩) :: args).toArray) hf hb (by simpa using this)
  exact hcalls
/-- a function that calls itself -/
theorem ioc_fix {f : FuncId} {bx : Ty} {ps : List Ty} {one : Bool} {rs : List Ty} {ρ : Ty} {G : (DL (bx :: ps) → Option (D (.st bx ρ))) → DL (bx :: ps) → Option (D (.st bx ρ))} (hpure : ps.all Ty.pure = true) (hwf : one = false → ρ = stOf rs)
    (h : ∀ φ, IocOK P f ⟨bx, ps, one, rs, ρ, φ⟩ → IocOK P f ⟨bx, ps, one, rs, ρ, G φ⟩) : IocOK P f ⟨bx, ps, one, rs, ρ, fixW G⟩ := by
  have key : ∀ n, IocOK P f ⟨bx, ps, one, rs, ρ, fixN G n⟩ := by
    intro n
    induction n with
    | zero => exact ⟨hpure, hwf, fun w S b T cs M args x r _ _ _ _ _ _ _ hr => by simp [fixN] at hr⟩
    | succ n ih => exact h _ ih
  exact ⟨hpure, hwf, fun w S b T cs M args x r h1 h1' h2 h3 h4 h5 h6 hr => by
    obtain ⟨n, hn⟩ := fixW_some hr
    exact (key n).calls w S b T cs M args x r h1 h1' h2 h3 h4 h5 h6 hn⟩
/-! ### functions that are handed an owned slice -/
theorem prl_putAt {objs : List OB} {γ : Gh} {w : World} {p : PV} {v : Value} (hp : PR objs γ w p v) : ∀ {j : Nat} {l : List PV} {args all : List Value}, pullAt j all = some (v, args) → PRL objs γ w l args → PRL objs γ w (putAt j p l) all
  | _, l, args, [], h, _ => by simp [pullAt] at h
  | 0, l, args, y :: all, h, hl => by
    simp only [pullAt, Option.some.injEq, Prod.mk.injEq] at h
    obtain ⟨rfl, rfl⟩ := h
    exact ⟨_, _, rfl, hp, hl⟩
  | j + 1, l, args, y :: all, h, hl => by
    simp only [pullAt, Option.bind_eq_some_iff, Option.some.injEq, Prod.mk.injEq] at h
    obtain ⟨⟨v', args'⟩, h1, rfl, rfl⟩ := h
    cases l with
    | nil => simp [PRL] at hl
    | cons x l =>
      obtain ⟨u, q, e, h2, h3⟩ := hl
      simp only [List.cons.injEq] at e
      obtain ⟨rfl, rfl⟩ := e
      exact ⟨y, all, rfl, h2, prl_putAt hp h1 h3⟩
theorem putAt_length {α : Type} (x : α) : ∀ (j : Nat) (l : List α), (putAt j x l).length = l.length + 1
  | 0, l => rfl
  | j + 1, [] => rfl
  | j + 1, y :: l => by simp [putAt, putAt_length x j l]
/-- A CONTRACT OF A FUNCTION THAT IS HANDED AN OWNED SLICE, OUT OF WHAT THE INTERPRETER GIVES -/
theorem roc_of_den (hE : EnvOK P env) (hm : P.follows .mixedOrders = true) {f : FuncId} {fn : Func} (hf : P.funcs[f]? = some fn) (c : Roc) (ann : Ann)
    (hok : (fn.body.isSome && (Nat.ble (c.ps.length + 1) fn.ntmps && (c.ps.all Ty.pure && ((c.e.flat && c.ρ.flat) && (c.one || !Nat.beq c.res.length 1))))) = true) (hwf : c.one = false → c.ρ = stOf c.res)
    (h : ∀ x, c.φ x = denRO P env ann fn c.j c.i c.e c.ps c.one c.res c.ρ x) : RocOK P f c := by
  simp only [Bool.and_eq_true] at hok
  obtain ⟨hbody, hn, hpure, ⟨hfe, hfr⟩, hone⟩ := hok
  have hn := Nat.le_of_ble_eq_true hn
  refine ⟨hpure, hfe, hfr, hwf, fun w S v M us args all x r hS hTab hown hrep hargs hpull hr => ?_⟩
  obtain ⟨body, hb⟩ := Option.isSome_iff_exists.1 hbody
  have hbo : Eng.bodyOf fn = body := by simp [Eng.bodyOf, hb]
  rw [h x] at hr
  unfold denRO at hr
  rw [hbo] at hr
  have hMlt := hown.lt
  have hMh : M = M.head?.toList := by
    rcases hown with ⟨h1, _⟩ | ⟨b, _, _, h1, _⟩ <;> rw [h1] <;> rfl
  let γ : Gh := ⟨fun _ => (v, M.head?), fun k => S k ∨ w.heap.size ≤ k ∨ k ∈ M⟩
  have hγM : ∀ o k, (γ o).2 = some k → k ∈ M := fun o k hk => by
    rw [hMh]; simpa [γ] using hk
  have hSI : ∀ k, S k → Imm [OB.arr c.i c.e x.1 false] γ w k := fun k hk => ⟨(hS k hk).1, .inl hk, fun o _ hb' => (hS k hk).2 (hγM o k hb')⟩
  have hor : ORel ⟨w, M⟩ [OB.arr c.i c.e x.1 false] γ w := by
    refine ⟨fun o ob ho => ?_, fun o o' k h1 h2 hb1 hb2 => ?_, fun o k hm hk => .inr (hγM o k hk), fun o k ho hk => hMlt k (hγM o k hk), Chg.refl _ _, fun o i e xs k ho hk => ?_, fun k hk => ?_, hTab.mono hSI (fun _ _ => rfl)⟩
    · cases o with
      | zero =>
        simp at ho
        subst ho
        refine ⟨us, ?_, hrep.mono fun x c' hx => flat_any c.e hfe hx⟩
        show OwnR w c.i c.e.size v M.head?.toList _ us
        rw [← hMh]; exact hown
      | succ j => simp at ho
    · have e1 := h1.lt
      have e2 := h2.lt
      simp at e1 e2
      omega
    · cases o with
      | zero =>
        simp only [List.getElem?_cons_zero, Option.some.injEq] at ho
        cases ho
      | succ j => simp at ho
    · rcases hk with hk | hk
      · exact .inr (.inl hk)
      · exact .inr (.inr hk)
  have hv0 : PR [OB.arr c.i c.e x.1 false] γ w (.c (.os 0)) v := by
    refine ⟨by simp, rfl, ?_⟩
    rcases hown with ⟨_, ⟨ao, rfl⟩, _⟩ | ⟨b, cap, cur, _, rfl, _⟩
    · exact ⟨_, _, _, rfl⟩
    · exact ⟨_, _, _, rfl⟩
  have hv := prl_putAt hv0 hpull (argPVs_specB hSI hargs)
  have r00 : Rel ⟨w, M⟩ ⟨0, [], [OB.arr c.i c.e x.1 false], 0, 0, 0, []⟩ γ { tmps := #[], defers := [] } w := ⟨rfl, rfl, fun t tg pv h => by simp [get] at h, fun t tg pv h => by simp [get] at h, fun t tg pv h => by simp [get] at h, fun x hx => (by cases hx), hor⟩
  have r0 := rel_enter (n := fn.ntmps) r00 hv (by rw [putAt_length, argPVs_length]; exact hn)
  have hlast : ∀ σ' γ' a' w', retRO P fn c.i c.e c.one c.res c.ρ σ' = some r → Rel ⟨w, M⟩ σ' γ' a' w' → Step ⟨fn.ntmps, argSlots 0 (putAt c.j (.c (.os 0)) (argPVs c.ps x.2)), [OB.arr c.i c.e x.1 false], 0, 0, 0, []⟩ γ w σ' γ' w' →
      a'.defers = [] ∧ ∃ v', (results fn a'.tmps).run P w' = .ok v' w' ∧ Ending.returned v' = .returned (resV c.one c.res c.ρ (cellsV c.ρ r.2)) ∧ Chg M w w' ∧ ∃ us', OwnR w' c.i c.e.size v M (List.length (α := D c.e) r.1) us' ∧ RepL (fun x c' => Rep w' (fun _ => False) c.e x [] c') r.1 us' := by
    intro σ' γ' a' w' hk r' s'
    simp only [retRO, Option.bind_eq_some_iff] at hk
    obtain ⟨vs, h1, cs1, h2, ob, hob, h3⟩ := hk
    cases ob with
    | arr i' e' xs fz =>
      cases fz with
      | true => simp at h3
      | false =>
        simp only [chk_some, Option.bind_eq_some_iff] at h3
        obtain ⟨hi, ys, hys, rr, hrr, hre⟩ := h3
        have hi := Nat.eq_of_beq_eq_true hi
        subst hi
        obtain ⟨he, hys⟩ := castL_spec hys
        subst he
        simp only at hys
        subst hys
        have hre : ((xs, rr) : List (D c.e) × D c.ρ) = r := Option.some.inj hre
        subst hre
        obtain ⟨vals, h4, h5, h6⟩ := resOf_spec (P := P) r' h1
        obtain ⟨cells, h7, h8, h9⟩ := allCells_spec rfl h2 h4
        have hγ0 : γ' 0 = γ 0 := s'.keep.gh 0 (by simp)
        obtain ⟨us', hown', hrep'⟩ := r'.o.rep 0 _ hob
        rw [hγ0] at hown'
        have hrw := (toD_spec (S := fun _ => True) r'.o (fun _ _ => trivial) c.ρ hrr h7 (fun _ _ _ _ => trivial)).1
        have hcv := flat_rep c.ρ hfr hrw
        refine ⟨r'.defers, _, results_run h5 h6, ?_, r'.o.chg, us', ?_, hrep'.mono fun x c' hx => flat_any c.e hfe hx⟩
        · congr 1
          show _ = resV c.one c.res c.ρ (cellsV c.ρ rr)
          rw [← hcv]
          unfold resV
          cases hc1 : c.one with
          | true =>
            rw [hc1] at h8 h9
            simp only [resTys, cond_true, tupV] at h8
            rw [← h8]
            have hl : cells.length = c.ρ.size := by rw [Rep.length c.ρ hrw]
            rw [← hl, List.take_length]
            rfl
          | false =>
            rw [hc1] at h8 h9 hone
            simp only [resTys, cond_false] at h8 h9
            simp only [Bool.false_or, Bool.not_eq_true'] at hone
            rw [h8]
            have hne : vals.length ≠ 1 := fun e => by rw [← h9, e] at hone; cases hone
            match vals, hne with
            | [], _ => rfl
            | [_], hne => exact absurd rfl hne
            | _ :: _ :: _, _ => rfl
        · have : OwnR w' c.i c.e.size v M.head?.toList xs.length us' := hown'
          rw [← hMh] at this
          exact this
    | _ => simp at h3
  have := (den_sound hE hm 10000 (D (.st (.osl c.i c.e) c.ρ))).1 ann body _ _ r hr ⟨w, M⟩ γ _ w (bodyPost P fn fun e w' => e = .returned (resV c.one c.res c.ρ (cellsV c.ρ r.2)) ∧ Chg M w w' ∧ ∃ us', OwnR w' c.i c.e.size v M (List.length (α := D c.e) r.1) us' ∧ RepL (fun x c' => Rep w' (fun _ => False) c.e x [] c') r.1 us') r0 ⟨rfl, rfl⟩
    ⟨fun σ' γ' a' w' hk r' _ s' => hlast σ' γ' a' w' hk r' s', fun i σ' γ' a' w' hk => (by cases hk), fun σ' γ' a' w' hk r' _ s' => hlast σ' γ' a' w' hk r' s'⟩
  have hcalls := calls_of_wp (args := all.toArray) hf hb (by simpa using this)
  exact hcalls
/-- a function that calls itself -/
theorem roc_fix {f : FuncId} {j : Nat} {i : TypeId} {e : Ty} {ps : List Ty} {one : Bool} {rs : List Ty} {ρ : Ty} {G : (DL (.osl i e :: ps) → Option (D (.st (.osl i e) ρ))) → DL (.osl i e :: ps) → Option (D (.st (.osl i e) ρ))} (hpure : ps.all Ty.pure = true) (hfe : e.flat = true) (hfr : ρ.flat = true) (hwf : one = false → ρ = stOf rs)
    (h : ∀ φ, RocOK P f ⟨j, i, e, ps, one, rs, ρ, φ⟩ → RocOK P f ⟨j, i, e, ps, one, rs, ρ, G φ⟩) : RocOK P f ⟨j, i, e, ps, one, rs, ρ, fixW G⟩ := by
  have key : ∀ n, RocOK P f ⟨j, i, e, ps, one, rs, ρ, fixN G n⟩ := by
    intro n
    induction n with
    | zero => exact ⟨hpure, hfe, hfr, hwf, fun w S v M us args all x r _ _ _ _ _ _ hr => by simp [fixN] at hr⟩
    | succ n ih => exact h _ ih
  exact ⟨hpure, hfe, hfr, hwf, fun w S v M us args all x r h1 h1' h2 h3 h4 h5 hr => by
    obtain ⟨n, hn⟩ := fixW_some hr
    exact (key n).calls w S v M us args all x r h1 h1' h2 h3 h4 h5 hn⟩
end
end Go.Den
