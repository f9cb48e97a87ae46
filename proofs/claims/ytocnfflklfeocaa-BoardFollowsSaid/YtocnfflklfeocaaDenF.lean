/- Contracts out of the interpreter; rows of laws out of contracts. No condition of its own. -/
import Derived.Test.YtocnfflklfeocaaDenE
import Derived.Test.YtocnfflklfeocaaFr
namespace Go.Den
open Go.Eng (sameKind CellsAt Chg InR adr aggOf)
set_option linter.unusedVariables false
set_option linter.unusedSectionVars false
set_option linter.unusedSimpArgs false
variable [CT : Ctx]

section
variable {P : Program} {env : Env}

theorem argPVs_spec {γ : Gh} {w : World} {S : Nat → Prop} (hS : ∀ k, S k → Imm [] γ w k) : ∀ {ps : List Ty} {x : DL ps} {vs : List Value}, ArgsR w S ps x vs → PRL [] γ w (argPVs ps x) vs
  | [], _, _, h => h
  | τ :: r, x, _, ⟨v, q, e, ⟨cs, h1, h2⟩, h3⟩ => by
    refine ⟨v, q, e, ?_, argPVs_spec hS h3⟩
    have := cellsOf_spec τ (Rep.mono hS (fun _ _ => rfl) τ h1 (by simp))
    rw [h2]
    exact pvCells_spec (cellsOf_length τ x.1) this
theorem argPVs_length : ∀ (ps : List Ty) (x : DL ps), (argPVs ps x).length = ps.length
  | [], _ => rfl
  | _ :: r, x => by simp [argPVs, argPVs_length r x.2]
theorem allCells_spec {objs : List OB} {γ : Gh} {w : World} {σ : AState} (hσ : σ.objs = objs) : ∀ {vs : List PV} {ts : List Ty} {cs : List Cv} {vals : List Value}, allCells vs ts = some cs → PRL objs γ w vs vals → ∃ cells, VRL objs γ w cs cells ∧ tupV ts cells = vals ∧ vals.length = ts.length
  | [], [], cs, vals, h, hv => by
    simp only [allCells, Option.some.injEq] at h
    subst h
    simp only [PRL] at hv
    subst hv
    exact ⟨[], rfl, rfl, rfl⟩
  | v :: vs, τ :: ts, cs, vals, h, ⟨u, q, e, h1, h2⟩ => by
    simp only [allCells, Option.bind_eq_some_iff, chk_some, Bool.and_eq_true, Option.some.injEq] at h
    obtain ⟨l, h3, ⟨h4, h5⟩, q2, h6, rfl⟩ := h
    subst hσ
    have hvl := cellsPV_spec h3 h1
    have hl : u.cells.toList.length = τ.size := by rw [hvl.length]; exact Nat.eq_of_beq_eq_true h4
    obtain ⟨cells, h7, h8, h9⟩ := allCells_spec rfl h6 h2
    refine ⟨u.cells.toList ++ cells, hvl.append h7, ?_, by simp [e, h9]⟩
    simp only [tupV]
    rw [← hl, List.take_left, List.drop_left, h8, e, ← oneV_spec h3 h5 h1]
  | [], _ :: _, _, _, h, _ => by simp [allCells] at h
  | _ :: _, [], _, _, h, _ => by simp [allCells] at h
/-- A CONTRACT, OUT OF WHAT THE INTERPRETER GIVES -/
theorem argPVsB_length : ∀ (b : Bool) (ps : List Ty) (x : DL ps), (argPVsB b ps x).length ≤ ps.length
  | false, ps, x => Nat.le_of_eq (argPVs_length ps x)
  | true, [], _ => Nat.le_refl _
  | true, _ :: r, x => by simp [argPVsB, argPVs_length r x.2]
theorem argPVsB_spec {γ : Gh} {w : World} {S : Nat → Prop} (hS : ∀ k, S k → Imm [] γ w k) {b : Bool} {ps : List Ty} {x : DL ps} {vs : List Value} (h : ArgsB w S b ps x vs) : PRL [] γ w (argPVsB b ps x) vs := by
  cases b with
  | false => exact argPVs_spec hS h
  | true =>
    cases ps with
    | nil => exact h.elim
    | cons τ r =>
      obtain ⟨a, us, q, e, h1, h2, h3, h4, h5⟩ := h
      exact ⟨_, q, e, ⟨a, us, rfl, h1, fun hne => hS _ (h2 hne), h3, cellsOf_spec τ (Rep.mono hS (fun _ _ => rfl) τ h4 (by simp))⟩, argPVs_spec hS h5⟩
theorem conB_of_den (hE : EnvOK P env) (hm : P.follows .mixedOrders = true) {f : FuncId} {fn : Func} (hf : P.funcs[f]? = some fn) (b : Bool) (c : Con) (ann : Ann)
    (hok : (fn.body.isSome && (Nat.ble c.ps.length fn.ntmps && (c.ps.all Ty.pure && (c.one || !Nat.beq c.res.length 1)))) = true) (hwf : c.one = false → c.ρ = stOf c.res) (htt : ∀ g, c.tot = some g → ∀ x, c.φ x = some (g x))
    (h : ∀ x, c.φ x = denB P env ann fn b c.ps c.one c.res c.ρ x) : ConB P f b c := by
  simp only [Bool.and_eq_true] at hok
  obtain ⟨hbody, hn, hpure, hone⟩ := hok
  have hn := Nat.le_of_ble_eq_true hn
  refine ⟨hpure, hwf, htt, fun w S args x r hS hTab hargs hr => ?_⟩
  obtain ⟨body, hb⟩ := Option.isSome_iff_exists.1 hbody
  have hbo : Eng.bodyOf fn = body := by simp [Eng.bodyOf, hb]
  rw [h x] at hr
  unfold denB at hr
  rw [hbo] at hr
  let γ : Gh := ⟨fun _ => (undef, none), fun k => S k ∨ w.heap.size ≤ k⟩
  have hSI : ∀ k, S k → Imm [] γ w k := fun k hk => ⟨hS k hk, .inl hk, fun o hm => by obtain ⟨ob, h1, _⟩ := hm; simp at h1⟩
  have hor : ORel ⟨w, []⟩ [] γ w := ⟨fun o ob ho => by simp at ho, fun o o' b hm => by obtain ⟨ob, h1, _⟩ := hm; simp at h1, fun o b hm => by obtain ⟨ob, h1, _⟩ := hm; simp at h1, fun o b ho => by simp at ho, Chg.refl _ _, fun o i e xs b ho => by simp at ho,
    fun k hk => .inr (hk.elim id (fun h => nomatch h)), hTab.mono hSI (fun _ _ => rfl)⟩
  have hv := argPVsB_spec hSI hargs
  have r00 : Rel ⟨w, []⟩ ⟨0, [], [], 0, 0, 0, []⟩ γ { tmps := #[], defers := [] } w := ⟨rfl, rfl, fun t tg pv h => by simp [get] at h, fun t tg pv h => by simp [get] at h, fun t tg pv h => by simp [get] at h, fun x hx => (by cases hx), hor⟩
  have r0 := rel_enter (n := fn.ntmps) r00 hv (Nat.le_trans (argPVsB_length b c.ps x) hn)
  have hlast : ∀ σ' γ' a' w', retK P fn c.one c.res c.ρ σ' = some r → Rel ⟨w, []⟩ σ' γ' a' w' → Step ⟨fn.ntmps, argSlots 0 (argPVsB b c.ps x), [], 0, 0, 0, []⟩ γ w σ' γ' w' →
      a'.defers = [] ∧ ∃ v, (results fn a'.tmps).run P w' = .ok v w' ∧ ∃ v2, Ending.returned v = .returned v2 ∧ Chg [] w w' ∧ ResR w w' S c r v2 := by
    intro σ' γ' a' w' hk r' s'
    simp only [retK, Option.bind_eq_some_iff] at hk
    obtain ⟨vs, h1, cs, h2, h3⟩ := hk
    obtain ⟨vals, h4, h5, h6⟩ := resOf_spec (P := P) r' h1
    refine ⟨r'.defers, _, results_run h5 h6, _, rfl, r'.o.chg, ?_⟩
    obtain ⟨cells, h7, h8, h9⟩ := allCells_spec rfl h2 h4
    simp only [retD, chk_some, Bool.and_eq_true, List.all_eq_true, Bool.not_eq_true'] at h3
    obtain ⟨⟨hnd, hdis⟩, h10⟩ := h3
    have hmut := (toD_spec (S := fun _ => True) r'.o (fun _ _ => trivial) c.ρ h10 h7 (fun _ _ _ _ => trivial)).2
    have hSeq : γ'.S = γ.S := s'.keep.s
    have hMmem : ∀ b ∈ blocks γ' (idsO σ'.objs c.ρ cs), ∃ o ∈ idsO σ'.objs c.ρ cs, (γ' o).2 = some b := fun b hb => by
      obtain ⟨o, ho, hb'⟩ := List.mem_flatMap.1 hb
      exact ⟨o, ho, by simpa using hb'⟩
    have hrep := (toD_spec (S := fun k => k < w'.heap.size ∧ (S k ∨ w.heap.size ≤ k) ∧ k ∉ blocks γ' (idsO σ'.objs c.ρ cs)) r'.o (fun k hk => ⟨hk.lt, by have := hk.s; rw [hSeq] at this; exact this, fun hm => by
      obtain ⟨o, ho, hb⟩ := hMmem k hm
      exact hk.own o (hmut o ho) hb⟩) c.ρ h10 h7 (fun o ho b hb => by
      obtain ⟨i, e, xs, fz, hob⟩ := toD_ids c.ρ h10 ho
      have hnm : b ∉ blocks γ' (idsO σ'.objs c.ρ cs) := fun hm => by
        obtain ⟨o', ho', hb'⟩ := hMmem b hm
        cases fz with
        | true => exact (r'.o.frz o i e xs b hob hb).own o' (hmut o' ho') hb'
        | false =>
          have e1 := r'.o.inj o o' b ⟨_, hob, rfl⟩ (hmut o' ho') hb hb'
          subst e1
          have := hdis o ho
          rw [memN_spec.2 ho'] at this
          cases this
      refine ⟨r'.o.lt o b (get_lt hob) hb, ?_, hnm⟩
      cases fz with
      | true => have := (r'.o.frz o i e xs b hob hb).s; rw [hSeq] at this; exact this
      | false =>
        rcases r'.o.own o b ⟨_, hob, rfl⟩ hb with h11 | h11
        · exact .inr h11
        · cases h11)).1
    refine ⟨_, cells, blocks_nodup r'.o (nodupN_spec hnd) hmut, fun b hb => ?_, hrep, ?_⟩
    · obtain ⟨o, ho, hb'⟩ := hMmem b hb
      rcases r'.o.own o b (hmut o ho) hb' with h11 | h11
      · exact h11
      · cases h11
    · unfold resV
      cases hc1 : c.one with
      | true =>
        rw [hc1] at h8 h9
        simp only [resTys, cond_true, tupV] at h8
        rw [← h8]
        have hl : cells.length = c.ρ.size := by rw [Rep.length c.ρ hrep]
        rw [← hl, List.take_length]
        rfl
      | false =>
        rw [hc1] at h8 h9 hone
        simp only [resTys, cond_false] at h8 h9
        simp only [Bool.false_or, Bool.not_eq_true'] at hone
        rw [h8]
        have hne : vals.length ≠ 1 := fun e => by rw [← h9, e] at hone; cases hone
        match vals, hne with
        | [], _ => rfl
        | [_], hne => exact absurd rfl hne
        | _ :: _ :: _, _ => rfl
  have := (den_sound hE hm 10000 (D c.ρ)).1 ann body _ _ r hr ⟨w, []⟩ γ _ w (bodyPost P fn fun e w' => ∃ v, e = .returned v ∧ Chg [] w w' ∧ ResR w w' S c r v) r0 ⟨rfl, rfl⟩
    ⟨fun σ' γ' a' w' hk r' _ s' => hlast σ' γ' a' w' hk r' s', fun i σ' γ' a' w' hk => (by cases hk), fun σ' γ' a' w' hk r' _ s' => hlast σ' γ' a' w' hk r' s'⟩
  have hcalls := calls_of_wp (args := args) hf hb (by simpa using this)
  exact hcalls
theorem con_of_den (hE : EnvOK P env) (hm : P.follows .mixedOrders = true) {f : FuncId} {fn : Func} (hf : P.funcs[f]? = some fn) (c : Con) (ann : Ann)
    (hok : (fn.body.isSome && (Nat.ble c.ps.length fn.ntmps && (c.ps.all Ty.pure && (c.one || !Nat.beq c.res.length 1)))) = true) (hwf : c.one = false → c.ρ = stOf c.res) (htt : ∀ g, c.tot = some g → ∀ x, c.φ x = some (g x))
    (h : ∀ x, c.φ x = denF P env ann fn c.ps c.one c.res c.ρ x) : ConOK P f c := (conB_of_den hE hm hf false c ann hok hwf htt h).ok
theorem rd_of_den (hE : EnvOK P env) (hm : P.follows .mixedOrders = true) {f : FuncId} {fn : Func} (hf : P.funcs[f]? = some fn) (c : Con) (ann : Ann)
    (hok : (fn.body.isSome && (Nat.ble c.ps.length fn.ntmps && (c.ps.all Ty.pure && (c.one || !Nat.beq c.res.length 1)))) = true) (hwf : c.one = false → c.ρ = stOf c.res) (htt : ∀ g, c.tot = some g → ∀ x, c.φ x = some (g x))
    (h : ∀ x, c.φ x = denB P env ann fn true c.ps c.one c.res c.ρ x) : ReadOK P f c := conB_of_den hE hm hf true c ann hok hwf htt h

/-- a function that calls itself -/
theorem fixW_some {T α : Type} {G : (T → Option α) → T → Option α} {x : T} {r : α} (h : fixW G x = some r) : ∃ n, fixN G n x = some r := by
  unfold fixW at h
  split at h
  · exact ⟨_, h⟩
  · cases h
theorem con_fix {f : FuncId} {ps : List Ty} {one : Bool} {rs : List Ty} {ρ : Ty} {G : (DL ps → Option (D ρ)) → DL ps → Option (D ρ)} (hpure : ps.all Ty.pure = true) (hwf : one = false → ρ = stOf rs)
    (h : ∀ φ, ConOK P f ⟨ps, one, rs, ρ, φ, none⟩ → ConOK P f ⟨ps, one, rs, ρ, G φ, none⟩) : ConOK P f ⟨ps, one, rs, ρ, fixW G, none⟩ := by
  have key : ∀ n, ConOK P f ⟨ps, one, rs, ρ, fixN G n, none⟩ := by
    intro n
    induction n with
    | zero => exact ⟨hpure, hwf, fun g hg => (by cases hg), fun w S args x r _ _ _ hr => by simp [fixN] at hr⟩
    | succ n ih => exact h _ ih
  exact ⟨hpure, hwf, fun g hg => (by cases hg), fun w S args x r hS hTab ha hr => by
    obtain ⟨n, hn⟩ := fixW_some hr
    exact (key n).calls w S args x r hS hTab ha hn⟩
end

/-! ### the arguments of a law -/
def tyE : Eng.Ty → Ty
  | .int k => .int k
  | .bool => .bool
  | .str => .str
  | .sl e => .sl (tyE e)
  | .nil => .nil
  | .st f r => .st (tyE f) (tyE r)
def dE : (τ : Eng.Ty) → Eng.D τ → D (tyE τ)
  | .int _, n => n
  | .bool, b => b
  | .str, s => s
  | .sl e, (_, _, xs) => xs.map (dE e)
  | .nil, _ => ()
  | .st f r, (x, y) => (dE f x, dE r y)
def RngL {A : Type} (m : Nat) (R : A → Prop) (xs : List A) : Prop := xs.length ≤ m ∧ ∀ x ∈ xs, R x
/-- the numbers are in range, lengths are what memory bears -/
def Rng : (τ : Ty) → D τ → Prop
  | .int k, n => InR k n
  | .bool, _ => True
  | .str, s => s.size ≤ maxLen
  | .sl e, xs => RngL maxLen (Rng e) xs
  | .osl _ e, xs => RngL maxLen (Rng e) xs
  | .obx e, x => Rng e x
  | .err, _ => True
  | .bld _ _, _ => True
  | .nil, _ => True
  | .st f r, x => Rng f x.1 ∧ Rng r x.2
/-- elements take cells -/
def posE : Eng.Ty → Bool
  | .sl e => !Nat.beq e.size 0 && posE e
  | .st f r => posE f && posE r
  | _ => true
theorem sizeE : ∀ τ : Eng.Ty, (tyE τ).size = τ.size
  | .int _ => rfl
  | .bool => rfl
  | .str => rfl
  | .sl _ => rfl
  | .nil => rfl
  | .st f r => by simp [tyE, Ty.size, Eng.Ty.size, sizeE f, sizeE r]
theorem aggE : ∀ τ : Eng.Ty, (tyE τ).isAgg = Eng.isAggTy τ := by intro τ; cases τ <;> rfl
theorem pureE : ∀ τ : Eng.Ty, (tyE τ).pure = true
  | .int _ => rfl
  | .bool => rfl
  | .str => rfl
  | .sl e => pureE e
  | .nil => rfl
  | .st f r => by simp [tyE, Ty.pure, pureE f, pureE r]
theorem rng_of : ∀ (τ : Eng.Ty) {y : Eng.D τ} {w : World}, Eng.Ok w τ y → Rng (tyE τ) (dE τ y)
  | .int _, _, _, h => h
  | .bool, _, _, _ => trivial
  | .str, _, _, h => h
  | .nil, _, _, _ => trivial
  | .sl e, (ao, cap, xs), w, h => by
    obtain ⟨h1, h2, h3⟩ := h
    refine ⟨by simp only [dE, List.length_map]; omega, fun x hx => ?_⟩
    obtain ⟨y, hy, rfl⟩ := List.mem_map.1 hx
    obtain ⟨i, hi, rfl⟩ := List.mem_iff_getElem.1 hy
    exact rng_of e (h3 i hi).2.2
  | .st f r, (x, y), w, h => ⟨rng_of f h.1, rng_of r h.2⟩
theorem rep_of : ∀ (τ : Eng.Ty) {y : Eng.D τ} {w : World}, posE τ = true → Eng.Ok w τ y → Rep w (fun k => k < w.heap.size) (tyE τ) (dE τ y) [] (Eng.enc τ y)
  | .int _, _, _, _, h => ⟨rfl, rfl⟩
  | .bool, _, _, _, _ => ⟨rfl, rfl⟩
  | .str, _, _, _, h => ⟨rfl, rfl⟩
  | .nil, _, _, _, _ => ⟨rfl, rfl⟩
  | .sl e, (ao, cap, xs), w, hp, h => by
    simp only [posE, Bool.and_eq_true, Bool.not_eq_true'] at hp
    obtain ⟨h1, h2, h3⟩ := h
    have hpos : 0 < e.size := by
      rcases Nat.eq_zero_or_pos e.size with h0 | h0
      · rw [h0] at hp; cases hp.1
      · exact h0
    refine ⟨rfl, ao, cap, (xs.map (Eng.enc e)).flatten, by simp [dE, Eng.enc], by simpa [dE] using h1, ?_, fun hne => ?_⟩
    · clear h1 h2
      have : ∀ (l : List (Eng.D e)), (∀ x ∈ l, Eng.Ok w e x) → RepL (fun x c => Rep w (fun k => k < w.heap.size) (tyE e) x [] c) (l.map (dE e)) (l.map (Eng.enc e)).flatten := by
        intro l
        induction l with
        | nil => intro _; rfl
        | cons x l ih => intro hl; exact ⟨_, _, rfl, rep_of e hp.2 (hl x List.mem_cons_self), ih fun y hy => hl y (List.mem_cons_of_mem _ hy)⟩
      exact this xs fun x hx => by
        obtain ⟨i, hi, rfl⟩ := List.mem_iff_getElem.1 hx
        exact (h3 i hi).2.2
    · have hx : xs ≠ [] := fun e => hne (by subst e; rfl)
      have hl0 : 0 < xs.length := List.length_pos_iff.2 hx
      have hs := (h3 0 hl0).1
      obtain ⟨ad, rfl⟩ := Option.isSome_iff_exists.1 hs
      have hcells : CellsAt w ad (xs.map (Eng.enc e)).flatten := by
        intro j v hv
        -- which element
        have key : ∀ (l : List (Eng.D e)) (j : Nat) (v : Value), ((l.map (Eng.enc e)).flatten)[j]? = some v → ∃ i, ∃ hi : i < l.length, ∃ m, j = i * e.size + m ∧ (Eng.enc e l[i])[m]? = some v := by
          intro l
          induction l with
          | nil => intro j v h; simp at h
          | cons x l ih =>
            intro j v h
            simp only [List.map_cons, List.flatten_cons] at h
            by_cases hj : j < (Eng.enc e x).length
            · rw [List.getElem?_append_left hj] at h
              exact ⟨0, by simp, j, by simp, h⟩
            · rw [List.getElem?_append_right (by omega)] at h
              obtain ⟨i, hi, m, h4, h5⟩ := ih _ v h
              rw [Eng.enc_length] at h4 hj
              refine ⟨i + 1, by simpa using hi, m, ?_, by simpa using h5⟩
              rw [Nat.add_mul]; omega
        obtain ⟨i, hi, m, rfl, h5⟩ := key xs j v hv
        have := (h3 i hi).2.1 m v h5
        rw [← add_add]
        exact this
      refine ⟨ad, rfl, ?_, hcells⟩
      obtain ⟨v, hv⟩ : ∃ v, (Eng.enc e xs[0])[0]? = some v := ⟨_, List.getElem?_eq_getElem (Nat.lt_of_lt_of_le hpos (Nat.le_of_eq (Eng.enc_length e xs[0]).symm))⟩
      have := (h3 0 hl0).2.1 0 v hv
      have hb := World.block_lt_of_cell? w _ this
      rw [Eng.add_block, Eng.add_block] at hb
      exact hb
  | .st f r, (x, y), w, hp, h => by
    simp only [posE, Bool.and_eq_true] at hp
    exact ⟨_, _, [], [], rfl, rfl, rep_of f hp.1 h.1, rep_of r hp.2 h.2⟩
theorem arg_of (τ : Eng.Ty) {y : Eng.D τ} {w : World} (hp : posE τ = true) (h : Eng.Ok w τ y) : ArgR w (fun k => k < w.heap.size) (tyE τ) (dE τ y) (Eng.handV τ y) := by
  refine ⟨_, rep_of τ hp h, ?_⟩
  cases τ with
  | sl e => obtain ⟨ao, cap, xs⟩ := y; rfl
  | _ => rfl
/-- A LAW's CALL -/
theorem law_call {P : Program} {f : FuncId} {ps : List Ty} {φ : DL ps → Option Bool} {t : Option (DL ps → Bool)} (hc : ConOK P f ⟨ps, true, [], .bool, φ, t⟩) {w : World} {args : Array Value} {x : DL ps} (hT : TabR (fun k => k < w.heap.size) w) (ha : ArgsR w (fun k => k < w.heap.size) ps x args.toList) (ht : φ x = some true) :
    Calls P f args w fun e w' => e = .returned (.bool true) ∧ RowKit.Below w.heap.size w w' := by
  refine (hc.calls w _ args x true (fun _ h => h) hT ha ht).mono fun e w' hh => ?_
  obtain ⟨v, rfl, hch, M, cs, _, _, hrep, hv⟩ := hh
  refine ⟨?_, hch.toBelow⟩
  obtain ⟨_, rfl⟩ : M = [] ∧ cs = [.bool true] := hrep
  rw [hv]
  rfl
end Go.Den
