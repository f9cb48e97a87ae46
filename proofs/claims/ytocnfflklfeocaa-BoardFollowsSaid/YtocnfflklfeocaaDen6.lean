/- Contracts; what changes when objects are made, written, given up. No condition of its own. -/
import Derived.Test.YtocnfflklfeocaaDen5
namespace Go.Den
open Go.Eng
set_option linter.unusedVariables false
set_option linter.unusedSectionVars false
set_option linter.unusedSimpArgs false
variable [CT : Ctx]

/-! ### contracts -/
def oneV (agg : Bool) (cs : List Value) : Value := bif agg then .agg cs.toArray else cs.headD undef
def tupV : List Ty → List Value → List Value
  | [], _ => []
  | τ :: r, cs => oneV τ.isAgg (cs.take τ.size) :: tupV r (cs.drop τ.size)
def resV (one : Bool) (res : List Ty) (ρ : Ty) (cs : List Value) : Value := bif one then oneV ρ.isAgg cs else .tuple (tupV res cs).toArray
def cellsV : (τ : Ty) → D τ → List Value
  | .int k, n => [.int k n]
  | .bool, b => [.bool b]
  | .str, s => [.string s]
  | .st f r, x => cellsV f x.1 ++ cellsV r x.2
  | _, _ => []
def ArgR (w : World) (S : Nat → Prop) (τ : Ty) (x : D τ) (v : Value) : Prop := ∃ cs, Rep w S τ x [] cs ∧ v = oneV τ.isAgg cs
def ArgsR (w : World) (S : Nat → Prop) : (ps : List Ty) → DL ps → List Value → Prop
  | [], _, vs => vs = []
  | τ :: r, x, vs => ∃ v q, vs = v :: q ∧ ArgR w S τ x.1 v ∧ ArgsR w S r x.2 q
def ResR (w w' : World) (S : Nat → Prop) (c : Con) (r : D c.ρ) (v : Value) : Prop := ∃ M cs, M.Nodup ∧ (∀ b ∈ M, w.heap.size ≤ b) ∧ Rep w' (fun k => k < w'.heap.size ∧ (S k ∨ w.heap.size ≤ k) ∧ k ∉ M) c.ρ r M cs ∧ v = resV c.one c.res c.ρ cs
/-- A CONTRACT HOLDS -/
structure ConOK (P : Program) (f : FuncId) (c : Con) : Prop where
  pure : c.ps.all Ty.pure = true
  wf : c.one = false → c.ρ = stOf c.res
  tt : ∀ g, c.tot = some g → ∀ x, c.φ x = some (g x)
  calls : ∀ (w : World) (S : Nat → Prop) (args : Array Value) (x : DL c.ps) (r : D c.ρ), (∀ k, S k → k < w.heap.size) → TabR S w → ArgsR w S c.ps x args.toList → c.φ x = some r → Calls P f args w (fun e w' => ∃ v, e = .returned v ∧ Chg [] w w' ∧ ResR w w' S c r v)
/-- arguments, of which the first may point to what is meant -/
def ArgsB (w : World) (S : Nat → Prop) : Bool → (ps : List Ty) → DL ps → List Value → Prop
  | false, ps, x, vs => ArgsR w S ps x vs
  | true, [], _, _ => False
  | true, τ :: r, x, vs => ∃ a us q, vs = .pointer (some a) :: q ∧ a.block < w.heap.size ∧ (us ≠ [] → S a.block) ∧ CellsAt w a us ∧ Rep w S τ x.1 [] us ∧ ArgsR w S r x.2 q
/-- A CONTRACT HOLDS, OF EITHER KIND -/
structure ConB (P : Program) (f : FuncId) (b : Bool) (c : Con) : Prop where
  pure : c.ps.all Ty.pure = true
  wf : c.one = false → c.ρ = stOf c.res
  tt : ∀ g, c.tot = some g → ∀ x, c.φ x = some (g x)
  calls : ∀ (w : World) (S : Nat → Prop) (args : Array Value) (x : DL c.ps) (r : D c.ρ), (∀ k, S k → k < w.heap.size) → TabR S w → ArgsB w S b c.ps x args.toList → c.φ x = some r → Calls P f args w (fun e w' => ∃ v, e = .returned v ∧ Chg [] w w' ∧ ResR w w' S c r v)
/-- a contract of a function whose first argument points to cells that it only reads -/
def ReadOK (P : Program) (f : FuncId) (c : Con) : Prop := ConB P f true c
theorem ConOK.b {P : Program} {f : FuncId} {c : Con} (h : ConOK P f c) : ConB P f false c := ⟨h.pure, h.wf, h.tt, h.calls⟩
theorem ConB.ok {P : Program} {f : FuncId} {c : Con} (h : ConB P f false c) : ConOK P f c := ⟨h.pure, h.wf, h.tt, h.calls⟩
/-- A SORT DOES WHAT IT SAYS -/
structure SrtOK (P : Program) (f : FuncId) (s : Srt) : Prop where
  flat : s.e.flat = true
  len : ∀ xs, (s.f xs).length = xs.length
  calls : ∀ (w : World) (S : Nat → Prop) (v : Value) (M : List Nat) (xs : List (D s.e)) (us : List Value), xs.length < 4611686018427387904 → OwnR w s.i s.e.size v M xs.length us → RepL (fun x c => Rep w S s.e x [] c) xs us →
    Calls P f (v :: (s.g.elim [] fun g => [.func (.func g) #[] #[]])).toArray w (fun e w' => e = .returned (.tuple #[]) ∧ Chg M w w' ∧ ∃ us', OwnR w' s.i s.e.size v M xs.length us' ∧ RepL (fun x c => Rep w' (fun _ => False) s.e x [] c) (s.f xs) us')
/-- what a function leaves behind that was handed a box -/
def IoR (w w' : World) (S : Nat → Prop) (b : Nat) (M : List Nat) (c : Ioc) (r : D (.st c.bx c.ρ)) (v : Value) : Prop := ∃ T cs M1 M2 cells, w'.heap[b]? = some (.cells cs T (0, 0)) ∧ (M1 ++ M2).Nodup ∧ (∀ k ∈ M1 ++ M2, (k ∈ M ∨ w.heap.size ≤ k) ∧ k ≠ b) ∧
  Rep w' (fun k => k < w'.heap.size ∧ (S k ∨ w.heap.size ≤ k ∨ k ∈ M) ∧ k ∉ M1 ++ M2 ∧ k ≠ b) c.bx r.1 M1 cs.toList ∧ Rep w' (fun k => k < w'.heap.size ∧ (S k ∨ w.heap.size ≤ k ∨ k ∈ M) ∧ k ∉ M1 ++ M2 ∧ k ≠ b) c.ρ r.2 M2 cells ∧ v = resV c.one c.res c.ρ cells
/-- A CONTRACT OF A FUNCTION THAT IS HANDED A BOX -/
structure IocOK (P : Program) (f : FuncId) (c : Ioc) : Prop where
  pure : c.ps.all Ty.pure = true
  wf : c.one = false → c.ρ = stOf c.res
  calls : ∀ (w : World) (S : Nat → Prop) (b : Nat) (T : TypeId) (cs : Array Value) (M : List Nat) (args : List Value) (x : DL (c.bx :: c.ps)) (r : D (.st c.bx c.ρ)), (∀ k, S k → k < w.heap.size ∧ k ≠ b ∧ k ∉ M) → TabR S w → w.heap[b]? = some (.cells cs T (0, 0)) → M.Nodup → b ∉ M →
    Rep w S c.bx x.1 M cs.toList → ArgsR w S c.ps x.2 args → c.φ x = some r → Calls P f (.pointer (some ⟨b, 0, none⟩) :: args).toArray w (fun e w' => ∃ v, e = .returned v ∧ Chg (b :: M) w w' ∧ IoR w w' S b M c r v)
/-- A CONTRACT OF A FUNCTION THAT IS HANDED AN OWNED SLICE -/
structure RocOK (P : Program) (f : FuncId) (c : Roc) : Prop where
  pure : c.ps.all Ty.pure = true
  flat : c.e.flat = true
  flatR : c.ρ.flat = true
  wf : c.one = false → c.ρ = stOf c.res
  calls : ∀ (w : World) (S : Nat → Prop) (v : Value) (M : List Nat) (us args all : List Value) (x : DL (.osl c.i c.e :: c.ps)) (r : D (.st (.osl c.i c.e) c.ρ)), (∀ k, S k → k < w.heap.size ∧ k ∉ M) → TabR S w → OwnR w c.i c.e.size v M (List.length (α := D c.e) x.1) us → RepL (fun x c' => Rep w S c.e x [] c') x.1 us →
    ArgsR w S c.ps x.2 args → pullAt c.j all = some (v, args) → c.φ x = some r → Calls P f all.toArray w (fun e w' => e = .returned (resV c.one c.res c.ρ (cellsV c.ρ r.2)) ∧ Chg M w w' ∧ ∃ us', OwnR w' c.i c.e.size v M (List.length (α := D c.e) r.1) us' ∧ RepL (fun x c' => Rep w' (fun _ => False) c.e x [] c') r.1 us')
/-- THE CHECK OF A BUILDER -/
def CkOK (P : Program) (f : FuncId) (t : TypeId) : Prop := ∀ (w : World) (b : Nat) (p v : Value), w.heap[b]? = some (.cells #[p, v] t (0, 0)) → (p = .pointer none ∨ p = .pointer (some ⟨b, 0, none⟩)) →
  Calls P f #[.pointer (some ⟨b, 0, none⟩)] w (fun e w' => e = .returned (.tuple #[]) ∧ Chg [b] w w' ∧ w'.heap[b]? = some (.cells #[.pointer (some ⟨b, 0, none⟩), v] t (0, 0)))
/-- THE STRING OF A BUILDER -/
def BsOK (P : Program) (f : FuncId) (t i : TypeId) : Prop := ∀ (w : World) (b : Nat) (p v : Value) (M : List Nat) (xs : List Int), w.heap[b]? = some (.cells #[p, v] t (0, 0)) → OwnR w i 1 v M xs.length (xs.map (Value.int .u8)) → b ∉ M →
  Calls P f #[.pointer (some ⟨b, 0, none⟩)] w (fun e w' => e = .returned (.string (strOf xs)) ∧ Chg M w w')
def EntOK (P : Program) (f : FuncId) : Ent → Prop
  | .con c => ConB P f false c
  | .body fn => P.funcs[f]? = some fn
  | .srt s => SrtOK P f s
  | .io c => IocOK P f c
  | .ro c => RocOK P f c
  | .rd c => ConB P f true c
  | .ck t => CkOK P f t
  | .bs t i => BsOK P f t i
structure EnvOK (P : Program) (env : Env) : Prop where
  all : ∀ f e, env.find f = some e → EntOK P f e
section
variable {P : Program} {env : Env}
theorem EnvOK.con (h : EnvOK P env) (f : FuncId) (b : Bool) (c : Con) (hc : env.cb f = some (b, c)) : ConB P f b c := by
  obtain ⟨e, he, h1⟩ := Option.bind_eq_some_iff.1 hc
  have := h.all f e he
  cases e <;> simp only [Option.some.injEq, Prod.mk.injEq, reduceCtorEq] at h1
  · obtain ⟨rfl, rfl⟩ := h1; exact this
  · obtain ⟨rfl, rfl⟩ := h1; exact this
theorem EnvOK.fn (h : EnvOK P env) (f : FuncId) (fn : Func) (hc : env.fn f = some fn) : P.funcs[f]? = some fn := by
  obtain ⟨e, he, h1⟩ := Option.bind_eq_some_iff.1 hc
  have := h.all f e he
  cases e <;> simp only [Option.some.injEq, reduceCtorEq] at h1
  subst h1; exact this
theorem EnvOK.srt (h : EnvOK P env) (f : FuncId) (s : Srt) (hc : env.srt f = some s) : SrtOK P f s := by
  obtain ⟨e, he, h1⟩ := Option.bind_eq_some_iff.1 hc
  have := h.all f e he
  cases e <;> simp only [Option.some.injEq, reduceCtorEq] at h1
  subst h1; exact this
theorem EnvOK.io (h : EnvOK P env) (f : FuncId) (c : Ioc) (hc : env.io f = some c) : IocOK P f c := by
  obtain ⟨e, he, h1⟩ := Option.bind_eq_some_iff.1 hc
  have := h.all f e he
  cases e <;> simp only [Option.some.injEq, reduceCtorEq] at h1
  subst h1; exact this
theorem EnvOK.ro (h : EnvOK P env) (f : FuncId) (c : Roc) (hc : env.ro f = some c) : RocOK P f c := by
  obtain ⟨e, he, h1⟩ := Option.bind_eq_some_iff.1 hc
  have := h.all f e he
  cases e <;> simp only [Option.some.injEq, reduceCtorEq] at h1
  subst h1; exact this
theorem EnvOK.ck (h : EnvOK P env) (f : FuncId) (t : TypeId) (hc : env.ck f = some t) : CkOK P f t := by
  obtain ⟨e, he, h1⟩ := Option.bind_eq_some_iff.1 hc
  have := h.all f e he
  cases e <;> simp only [Option.some.injEq, reduceCtorEq] at h1
  subst h1; exact this
theorem EnvOK.bs (h : EnvOK P env) (f : FuncId) (t i : TypeId) (hc : env.bs f = some (t, i)) : BsOK P f t i := by
  obtain ⟨e, he, h1⟩ := Option.bind_eq_some_iff.1 hc
  have := h.all f e he
  cases e <;> simp only [Option.some.injEq, Prod.mk.injEq, reduceCtorEq] at h1
  obtain ⟨rfl, rfl⟩ := h1; exact this
theorem EnvOK.nil (P : Program) : EnvOK P [] := ⟨fun f e h => (by cases h)⟩
theorem EnvOK.push {f : FuncId} {e : Ent} (hE : EnvOK P env) (h : EntOK P f e) : EnvOK P ((f, e) :: env) := by
  refine ⟨fun g e' hg => ?_⟩
  simp only [Env.find] at hg
  by_cases he : Nat.beq f g = true
  · simp only [he, cond_true, Option.some.injEq] at hg
    subst hg
    rw [← Nat.eq_of_beq_eq_true he]
    exact h
  · simp only [Bool.eq_false_iff.2 he, cond_false] at hg
    exact hE.all g e' hg
theorem EnvOK.cons {f : FuncId} {c : Con} (hE : EnvOK P env) (h : ConOK P f c) : EnvOK P ((f, .con c) :: env) := hE.push h.b
theorem EnvOK.readonly {f : FuncId} {c : Con} (hE : EnvOK P env) (h : ReadOK P f c) : EnvOK P ((f, .rd c) :: env) := hE.push h
theorem EnvOK.body {f : FuncId} {fn : Func} (hE : EnvOK P env) (h : P.funcs[f]? = some fn) : EnvOK P ((f, .body fn) :: env) := hE.push h
theorem EnvOK.sort {f : FuncId} {s : Srt} (hE : EnvOK P env) (h : SrtOK P f s) : EnvOK P ((f, .srt s) :: env) := hE.push h
theorem EnvOK.inout {f : FuncId} {c : Ioc} (hE : EnvOK P env) (h : IocOK P f c) : EnvOK P ((f, .io c) :: env) := hE.push h
theorem EnvOK.rowio {f : FuncId} {c : Roc} (hE : EnvOK P env) (h : RocOK P f c) : EnvOK P ((f, .ro c) :: env) := hE.push h
theorem EnvOK.check {f : FuncId} {t : TypeId} (hE : EnvOK P env) (h : CkOK P f t) : EnvOK P ((f, .ck t) :: env) := hE.push h
theorem EnvOK.string {f : FuncId} {t i : TypeId} (hE : EnvOK P env) (h : BsOK P f t i) : EnvOK P ((f, .bs t i) :: env) := hE.push h
end
theorem size_one {τ : Ty} (h : τ.isAgg = false) : τ.size = 1 := by cases τ <;> first | rfl | cases h
theorem Ty.pure_ids {objs : List OB} : ∀ (τ : Ty), τ.pure = true → ∀ l, idsO objs τ l = []
  | .int _, _, _ => rfl
  | .bool, _, _ => rfl
  | .str, _, _ => rfl
  | .nil, _, _ => rfl
  | .sl _, _, _ => rfl
  | .err, _, _ => rfl
  | .osl _ _, h, _ => by cases h
  | .obx _, h, _ => by cases h
  | .st f r, h, l => by
    simp only [Ty.pure, Bool.and_eq_true] at h
    simp [idsO, Ty.pure_ids f h.1, Ty.pure_ids r h.2]
/-- what pure data names does not depend on the objects -/
theorem idsD_pure {objs objs' : List OB} : ∀ (τ : Ty), τ.pure = true → ∀ l, idsD objs τ l = idsD objs' τ l
  | .int _, _, _ => rfl
  | .bool, _, _ => rfl
  | .str, _, _ => rfl
  | .nil, _, _ => rfl
  | .sl _, _, _ => rfl
  | .osl _ _, _, _ => rfl
  | .err, _, _ => rfl
  | .obx _, h, _ => by cases h
  | .st f r, h, l => by
    simp only [Ty.pure, Bool.and_eq_true] at h
    simp only [idsD, idsD_pure (objs := objs) (objs' := objs') f h.1, idsD_pure (objs := objs) (objs' := objs') r h.2]
theorem idsD_lt {F : Fr} {objs : List OB} {γ : Gh} {w : World} (r : ORel F objs γ w) {o : Nat} : ∀ (τ : Ty) {l : List Cv} {vs : List Value}, VRL objs γ w l vs → o ∈ idsD objs τ l → o < objs.length
  | .int _, l, _, _, h => by simp [idsD] at h
  | .bool, l, _, _, h => by simp [idsD] at h
  | .str, l, _, _, h => by simp [idsD] at h
  | .nil, l, _, _, h => by simp [idsD] at h
  | .osl _ _, l, _, _, h => by simp [idsD] at h
  | .err, l, _, _, h => by simp [idsD] at h
  | .bld _ _, l, _, _, h => by simp [idsD] at h
  | .sl e, l, vs, hv, h => by
    simp only [idsD] at h
    cases hc : cv1 l with
    | none => rw [hc] at h; cases h
    | some c =>
      rw [hc] at h
      rw [cv1_spec hc] at hv
      obtain ⟨v, rfl, h3⟩ := hv.one'
      cases c <;> simp [osId] at h
      rw [h]; exact h3.1
  | .obx e, l, vs, hv, h => by
    simp only [idsD] at h
    cases hb : ownB objs l with
    | none =>
      rw [hb] at h
      exact idsD_lt r e (l := []) (vs := []) rfl (by simpa using h)
    | some bl =>
      rw [hb] at h
      obtain ⟨p, off, rfl, rfl, hob⟩ := ownB_spec hb
      obtain ⟨b, T, cells, _, _, hvl⟩ := r.rep p _ hob
      exact idsD_lt r e hvl (by simpa using h)
  | .st f q, l, vs, hv, h => by
    simp only [idsD, List.mem_append] at h
    rcases h with h | h
    · exact idsD_lt r f (hv.take f.size) h
    · exact idsD_lt r q (hv.drop f.size) h
theorem VRL.mem {objs : List OB} {γ : Gh} {w : World} : ∀ {l : List Cv} {vs : List Value} {c : Cv}, VRL objs γ w l vs → c ∈ l → ∃ v, VR objs γ w c v
  | c :: l, _, d, ⟨v, q, _, h1, h2⟩, hm => by
    rcases List.mem_cons.1 hm with rfl | hm
    · exact ⟨v, h1⟩
    · exact VRL.mem h2 hm
  | [], _, _, _, hm => by cases hm

section
variable {P : Program} {env : Env} {F : Fr} {σ : AState} {γ : Gh} {a : Act} {w : World} {tg : Tag} {o : Oper} {α : Type}

def PRL (objs : List OB) (γ : Gh) (w : World) : List PV → List Value → Prop
  | [], us => us = []
  | p :: l, us => ∃ u q, us = u :: q ∧ PR objs γ w p u ∧ PRL objs γ w l q
theorem evs_PRL (r : Rel F σ γ a w) (hT : tagT σ tg) : ∀ {l : List Operand} {vs : List PV}, evs σ tg l = some vs → PRL σ.objs γ w vs (l.map a.eval)
  | [], vs, h => by simp only [evs, Option.some.injEq] at h; subst h; rfl
  | x :: l, vs, h => by
    simp only [evs, Option.bind_eq_some_iff, Option.some.injEq] at h
    obtain ⟨v, h1, us, h2, rfl⟩ := h
    exact ⟨a.eval x, l.map a.eval, rfl, ev_sound r hT h1, evs_PRL r hT h2⟩
/-- the value of cells that are one of a description's -/
theorem oneV_spec {τ : Ty} {pv : PV} {l : List Cv} {u : Value} (h : cellsPV pv = some l) (ha : beqB τ.isAgg (isAggPV pv) = true) (hv : PR σ.objs γ w pv u) : u = oneV τ.isAgg u.cells.toList := by
  cases pv with
  | c c =>
    have hb : τ.isAgg = false := by cases hh : τ.isAgg <;> simp_all [beqB, isAggPV]
    simp only [cellsPV, chk_some] at h
    have := cellOk_spec h.1 hv
    rw [hb]
    cases u <;> first | rfl | (simp [Value.oneCell'] at this)
  | agg l' =>
    have hb : τ.isAgg = true := by cases hh : τ.isAgg <;> simp_all [beqB, isAggPV]
    obtain ⟨cs, rfl, _⟩ := hv
    rw [hb]; simp [oneV, Value.cells]
  | _ => simp [cellsPV] at h
theorem argsD_spec {S : Nat → Prop} (r : ORel F σ.objs γ w) (hS : ∀ k, Imm σ.objs γ w k → S k) : ∀ {ps : List Ty} {vs : List PV} {x : DL ps} {us : List Value}, argsD σ.objs ps vs = some x → ps.all Ty.pure = true → PRL σ.objs γ w vs us → (∀ o ∈ argIds ps vs, ∀ b, o < σ.objs.length → (γ o).2 = some b → S b) → ArgsR w S ps x us
  | [], [], x, us, h, _, hv, _ => hv
  | τ :: ps, v :: vs, x, us, h, hp, ⟨u, q, e, h1, h2⟩, hi => by
    simp only [argsD, Option.bind_eq_some_iff, chk_some] at h
    obtain ⟨cs, h3, h4, y, h5, z, h6, hx⟩ := h
    have hx : (y, z) = x := Option.some.inj hx
    subst hx
    simp only [List.all_cons, Bool.and_eq_true] at hp
    have hvl := cellsPV_spec h3 h1
    obtain ⟨h7, _⟩ := toD_spec (S := S) r hS τ h5 hvl (fun o ho b hb => by
      have ho2 := ho
      rw [idsD_pure (objs' := []) τ hp.1] at ho2
      exact hi o (by simp [argIds, h3, ho2]) b (idsD_lt r τ hvl ho) hb)
    rw [Ty.pure_ids τ hp.1] at h7
    exact ⟨u, q, e, ⟨_, h7, oneV_spec h3 h4 h1⟩, argsD_spec r hS h6 hp.2 h2 (fun o ho => hi o (by simp [argIds, ho]))⟩
  | [], _ :: _, x, us, h, _, _, _ => by simp [argsD] at h
  | _ :: _, [], x, us, h, _, _, _ => by simp [argsD] at h

theorem cellsAt_spec {l : List Cv} {pv : PV} {v : Value} (r : ORel F σ.objs γ w) (h : cellsAt σ.objs pv = some l) (hv : PR σ.objs γ w pv v) : ∃ a us, v = .pointer (some a) ∧ a.block < w.heap.size ∧ CellsAt w a us ∧ VRL σ.objs γ w l us := by
  unfold cellsAt at h
  split at h
  · cases h
    obtain ⟨a, us, h1, h2, _, h3, h4⟩ := hv
    exact ⟨a, us, h1, h2, h3, h4⟩
  · rename_i p off
    simp only [chk_some, Option.bind_eq_some_iff] at h
    obtain ⟨h0, ob, hob, h2⟩ := h
    cases ob with
    | box cs =>
      simp only [Option.some.injEq] at h2
      subst h2
      have h0 := Nat.eq_of_beq_eq_true h0
      subst h0
      obtain ⟨hp1, b, hg, rfl⟩ := hv
      obtain ⟨b', T, cells, hgg, hheap, hvl⟩ := r.rep p _ hob
      have hbb : b' = b := by rw [hgg] at hg; simpa using hg
      subst hbb
      have := cellsAt_blk hheap 0
      rw [List.drop_zero] at this
      exact ⟨_, cells.toList, rfl, (Array.getElem?_eq_some_iff.1 hheap).1, this, hvl⟩
    | _ => simp at h2
  · cases h
theorem argsB_spec (r : ORel F σ.objs γ w) {b : Bool} {ps : List Ty} {vs : List PV} {x : DL ps} {us : List Value} (h : argsB σ.objs b ps vs = some x) (hp : ps.all Ty.pure = true) (hv : PRL σ.objs γ w vs us) : ArgsB w (fun k => k < w.heap.size) b ps x us := by
  cases b with
  | false => exact argsD_spec r (fun k hk => hk.lt) h hp hv (fun o _ b ho hb => r.lt o b ho hb)
  | true =>
    match ps, vs, x, us, h, hp, hv with
    | τ :: ps, v :: vs, x, us, h, hp, ⟨u, q, e, h1, h2⟩ =>
      simp only [argsB, Option.bind_eq_some_iff] at h
      obtain ⟨cs, h3, y, h5, z, h6, hx⟩ := h
      have hx : (y, z) = x := Option.some.inj hx
      subst hx
      simp only [List.all_cons, Bool.and_eq_true] at hp
      obtain ⟨a, cells, rfl, h7, h8, h9⟩ := cellsAt_spec r h3 h1
      obtain ⟨h10, _⟩ := toD_spec (S := fun k => k < w.heap.size) r (fun k hk => hk.lt) τ h5 h9 (fun o ho b hb => r.lt o b (idsD_lt r τ h9 ho) hb)
      rw [Ty.pure_ids τ hp.1] at h10
      exact ⟨a, cells, q, e, h7, fun _ => h7, h8, h10, argsD_spec r (fun k hk => hk.lt) h6 hp.2 h2 (fun o _ b ho hb => r.lt o b ho hb)⟩
    | [], _, _, _, h, _, _ => simp [argsB] at h
    | _ :: _, [], _, _, h, _, _ => simp [argsB] at h

/-- results -/
theorem pvCells_spec {objs : List OB} {τ : Ty} {l : List Cv} {cs : List Value} (hl : l.length = τ.size) (hv : VRL objs γ w l cs) : PR objs γ w (pvCells τ.isAgg l) (oneV τ.isAgg cs) := by
  cases hb : τ.isAgg with
  | true => exact ⟨cs.toArray, rfl, hv⟩
  | false =>
    rw [size_one hb] at hl
    obtain ⟨c, rfl⟩ := List.length_eq_one_iff.1 hl
    obtain ⟨v, rfl, h1⟩ := hv.one'
    exact h1
theorem pwCells_spec {objs : List OB} {τ : Ty} {l : List Cv} {cs : List Value} (hl : l.length = τ.size) (hv : VRL objs γ w l cs) : PWR objs γ w (pwCells τ.isAgg l) (oneV τ.isAgg cs) := by
  cases hb : τ.isAgg with
  | true => exact ⟨cs.toArray, rfl, hv⟩
  | false =>
    rw [size_one hb] at hl
    obtain ⟨c, rfl⟩ := List.length_eq_one_iff.1 hl
    obtain ⟨v, rfl, h1⟩ := hv.one'
    exact h1
theorem tupOf_spec {objs : List OB} : ∀ {res : List Ty} {l : List Cv} {cs : List Value}, l.length = (stOf res).size → VRL objs γ w l cs → PWL objs γ w (tupOf res l) (tupV res cs)
  | [], l, cs, _, _ => rfl
  | τ :: r, l, cs, hl, hv => by
    simp only [stOf, Ty.size] at hl
    exact ⟨_, _, rfl, pwCells_spec (by simp; omega) (hv.take τ.size), tupOf_spec (by simp; omega) (hv.drop τ.size)⟩
theorem resPV_spec {objs : List OB} {c : Con} (wf : c.one = false → c.ρ = stOf c.res) {x : D c.ρ} {n : Nat} {cs : List Value} (hv : VRL objs γ w (cc c.ρ x n).1 cs) : PR objs γ w (resPV c x n).1 (resV c.one c.res c.ρ cs) := by
  unfold resPV resV
  cases hb : c.one with
  | true => exact pvCells_spec (cc_length _ _ _) hv
  | false =>
    refine ⟨_, rfl, ?_⟩
    exact tupOf_spec (by rw [cc_length, wf hb]) hv

/-! ### flat results -/
theorem flat_rep {S : Nat → Prop} : ∀ (τ : Ty) {x : D τ} {M : List Nat} {cs : List Value}, τ.flat = true → Rep w S τ x M cs → cs = cellsV τ x
  | .int _, _, _, _, _, h => h.2
  | .bool, _, _, _, _, h => h.2
  | .str, _, _, _, _, h => h.2
  | .nil, _, _, _, _, h => h.2
  | .sl _, _, _, _, hf, _ => by cases hf
  | .osl _ _, _, _, _, hf, _ => by cases hf
  | .obx _, _, _, _, hf, _ => by cases hf
  | .st f r, x, M, cs, hf, ⟨c1, c2, M1, M2, h1, _, h3, h4⟩ => by
    simp only [Ty.flat, Bool.and_eq_true] at hf
    rw [h1, flat_rep f hf.1 h3, flat_rep r hf.2 h4]; rfl
theorem flat_cc {objs : List OB} : ∀ (τ : Ty) (x : D τ) (n : Nat), τ.flat = true → VRL objs γ w (cc τ x n).1 (cellsV τ x) ∧ (cc τ x n).2 = []
  | .int _, _, _, _ => ⟨⟨_, _, rfl, rfl, rfl⟩, rfl⟩
  | .bool, _, _, _ => ⟨⟨_, _, rfl, rfl, rfl⟩, rfl⟩
  | .str, _, _, _ => ⟨⟨_, _, rfl, rfl, rfl⟩, rfl⟩
  | .nil, _, _, _ => ⟨rfl, rfl⟩
  | .sl _, _, _, hf => by cases hf
  | .osl _ _, _, _, hf => by cases hf
  | .obx _, _, _, hf => by cases hf
  | .st f r, x, n, hf => by
    simp only [Ty.flat, Bool.and_eq_true] at hf
    obtain ⟨h1, h2⟩ := flat_cc (objs := objs) f x.1 n hf.1
    obtain ⟨h3, h4⟩ := flat_cc (objs := objs) r x.2 (n + (cc f x.1 n).2.length) hf.2
    refine ⟨h1.append h3, ?_⟩
    show (cc f x.1 n).2 ++ (cc r x.2 (n + (cc f x.1 n).2.length)).2 = []
    rw [h4, h2]; rfl

/-! ### still operations, all of them -/
def StQ (P : Program) (σ : AState) (γ : Gh) (a : Act) (w : World) (tg : Tag) (o : Oper) (k : PV → Option α) (res : α) : Prop :=
  (∃ pv, k pv = some res) ∧ (tagT σ tg → ∃ pv v, (∀ w', Chg [] w w' → o.quietAt P a (Chg [] w') w' v) ∧ PR σ.objs γ w pv v ∧ k pv = some res)
theorem StR.quiet {k : PV → Option α} {res : α} (h : StR P σ γ a w tg o k res) : StQ P σ γ a w tg o k res :=
  ⟨h.1, fun hT => by
    obtain ⟨pv, ⟨v, h1, h2⟩, h3⟩ := h.2 hT
    refine ⟨pv, v, fun w' hc => ?_, h2, h3⟩
    unfold Oper.quietAt
    rw [h1 w' (fun _ => hc)]
    exact ⟨rfl, rfl⟩⟩
theorem exec_call {ρ : Operand → Value} {f : Operand} {args : Array Operand} {ats : Array TypeId} {g : FuncId} {l : List Value} (ho : o.op = .call ⟨.value f, args, ats⟩) (hf : ρ f = .func (.func g) #[] l.toArray) : execOp ρ o = callFunc g ((args.toList.map ρ) ++ l).toArray := by
  obtain ⟨dst, op, type, pos, after, guard⟩ := o
  simp only at ho
  subst ho
  simp only [execOp, resolve, hf, Deferred.ofValue]
  show (Sem.bind (Sem.pure _) _) = _
  simp only [Sem.bind, invoke]
  congr 1
  simp
theorem st_call (hE : EnvOK P env) (r : Rel F σ γ a w) {k : PV → Option α} {res : α} {f : Operand} {args : Array Operand} {ats : Array TypeId} (ho : o.op = .call ⟨.value f, args, ats⟩)
    (h : ((ev σ tg f).bind fun q => (asFn q).bind fun g => chk g.2.isEmpty ((env.cb g.1).bind fun q => chk (q.2.ρ.flat && bodied P g.1) ((evs σ tg args.toList).bind fun vs =>
      (argsB σ.objs q.1 q.2.ps vs).bind fun x => match q.2.tot with
      | some g => k (resPV q.2 (g x) 0).1
      | none => Option.bind (gopt (tagB σ tg) (dflt q.2.ρ) (q.2.φ x)) fun r => k (resPV q.2 r 0).1))) = some res) : StQ P σ γ a w tg o k res := by
  simp only [Option.bind_eq_some_iff, chk_some, Bool.and_eq_true] at h
  obtain ⟨q, h1, ⟨g, caps⟩, h2, h3, ⟨bb, c⟩, h4, ⟨hfl, hbo⟩, vs, h5, x, h6, h7⟩ := h
  simp only at hfl hbo h6 h7 h4
  have hc := hE.con g bb c h4
  have hy : ∃ y, (tagT σ tg → c.φ x = some y) ∧ k (resPV c y 0).1 = some res := by
    split at h7
    · rename_i gt hgt
      exact ⟨gt x, fun _ => hc.tt gt hgt x, h7⟩
    · obtain ⟨y, h8, h9⟩ := Option.bind_eq_some_iff.1 h7
      refine ⟨y, fun hT => ?_, h9⟩
      rw [tagB_spec.2 hT] at h8
      exact h8
  obtain ⟨y, h7, h8⟩ := hy
  refine ⟨⟨_, h8⟩, fun hT => ?_⟩
  have hcaps : caps = [] := by simpa using h3
  subst hcaps
  have h7' : c.φ x = some y := h7 hT
  obtain ⟨_, l, hfv, hpl⟩ : VR σ.objs γ w (.fn g []) (a.eval f) := by
    have := ev_sound r hT h1; rw [asFn_spec h2] at this; exact this
  simp only [PtrL] at hpl
  subst hpl
  have hx := exec_call (ρ := a.eval) ho hfv
  rw [List.append_nil] at hx
  have hcc := flat_cc (γ := γ) (w := w) (objs := σ.objs) c.ρ y 0 hfl
  refine ⟨_, resV c.one c.res c.ρ (cellsV c.ρ y), fun w' hw => ?_, resPV_spec hc.wf hcc.1, h8⟩
  unfold Oper.quietAt
  rw [hx, callFunc_run hbo]
  refine ⟨rfl, ?_⟩
  have ha := argsB_spec (r.ext hw).o h6 hc.pure (evs_PRL (r.ext hw) hT h5)
  refine (hc.calls w' _ _ x y (fun k hk => hk) ((r.ext hw).o.tab.mono (fun k hk => hk.lt) (fun _ _ => rfl)) (by simpa using ha) h7').mono fun e w'' hh => ?_
  obtain ⟨v, rfl, hch, M, cs, _, _, hrep, hv⟩ := hh
  refine ⟨?_, hch⟩
  rw [hv, flat_rep c.ρ hfl hrep]

theorem stepS_sound (hE : EnvOK P env) (r : Rel F σ γ a w) {k : PV → Option α} {res : α} (h : stepS P env σ tg o k = some res) : StQ P σ γ a w tg o k res := by
  unfold stepS at h
  split at h
  · exact (st_move r (.inl ‹_›) h).quiet
  · exact (st_move r (.inr ‹_›) h).quiet
  · exact (st_nilCheck r ‹_› h).quiet
  · exact (st_pick r ‹_› h).quiet
  · exact (st_extract r ‹_› h).quiet
  · rename_i ho; exact (st_bin r ho (fun neg hop hn => st_nil r ho hop hn) h).quiet
  · rename_i ho; exact (st_scalar r (fun cs b e => by rw [ho] at e; cases e) (fun z hz => by rw [ho] at hz; simpa [Op.operands] using hz) h).quiet
  · rename_i ho; exact (st_conv r ho h).quiet
  · exact (st_field r ‹_› h).quiet
  · exact (st_index r ‹_› h).quiet
  · exact (st_build r ‹_› h).quiet
  · exact (st_fieldAddr r ‹_› h).quiet
  · exact (st_indexAddr r ‹_› h).quiet
  · exact (st_load r ‹_› h).quiet
  · exact (st_slice r ‹_› h).quiet
  · exact (st_makeFunc r ‹_› h).quiet
  · split at h
    · rename_i ho _ _ _ _ ha hat; exact (st_len r ho ha hat h).quiet
    · cases h
  · rename_i ho; exact (st_scalar r (fun cs b e => by rw [ho] at e; cases e) (fun z hz => by rw [ho] at hz; simpa [Op.operands, Call.operands] using hz) h).quiet
  · rename_i ho; exact (st_scalar r (fun cs b e => by rw [ho] at e; cases e) (fun z hz => by rw [ho] at hz; simpa [Op.operands, Call.operands] using hz) h).quiet
  · rename_i ho; exact (st_scalar r (fun cs b e => by rw [ho] at e; cases e) (fun z hz => by rw [ho] at hz; simpa [Op.operands, Call.operands] using hz) h).quiet
  · exact st_call hE r ‹_› h
  · cases h
/-- the same without calls: the world does not change at all -/
theorem stepS_val (hcall : callOp o = false) (r : Rel F σ γ a w) {k : PV → Option α} {res : α} (h : stepS P env σ tg o k = some res) : StR P σ γ a w tg o k res := by
  unfold stepS at h
  split at h
  · exact (st_move r (.inl ‹_›) h)
  · exact (st_move r (.inr ‹_›) h)
  · exact (st_nilCheck r ‹_› h)
  · exact (st_pick r ‹_› h)
  · exact (st_extract r ‹_› h)
  · rename_i ho; exact (st_bin r ho (fun neg hop hn => st_nil r ho hop hn) h)
  · rename_i ho; exact (st_scalar r (fun cs b e => by rw [ho] at e; cases e) (fun z hz => by rw [ho] at hz; simpa [Op.operands] using hz) h)
  · rename_i ho; exact (st_conv r ho h)
  · exact (st_field r ‹_› h)
  · exact (st_index r ‹_› h)
  · exact (st_build r ‹_› h)
  · exact (st_fieldAddr r ‹_› h)
  · exact (st_indexAddr r ‹_› h)
  · exact (st_load r ‹_› h)
  · exact (st_slice r ‹_› h)
  · exact (st_makeFunc r ‹_› h)
  · split at h
    · rename_i ho _ _ _ _ ha hat; exact (st_len r ho ha hat h)
    · cases h
  · rename_i ho; exact (st_scalar r (fun cs b e => by rw [ho] at e; cases e) (fun z hz => by rw [ho] at hz; simpa [Op.operands, Call.operands] using hz) h)
  · rename_i ho; exact (st_scalar r (fun cs b e => by rw [ho] at e; cases e) (fun z hz => by rw [ho] at hz; simpa [Op.operands, Call.operands] using hz) h)
  · rename_i ho; exact (st_scalar r (fun cs b e => by rw [ho] at e; cases e) (fun z hz => by rw [ho] at hz; simpa [Op.operands, Call.operands] using hz) h)
  · rename_i ho; simp [callOp, ho] at hcall
  · cases h
end

/-! ### objects that change -/
section
variable {F : Fr} {σ : AState} {γ γ' : Gh} {a : Act} {w w' : World} {objs' : List OB}
theorem Rel.setObjs (r : Rel F σ γ a w) (K : Keep σ.objs γ w objs' γ' w' σ.objs.length) (hs : SameLen σ.objs objs') (ho : ORel F objs' γ' w') : Rel F { σ with objs := objs' } γ' a w' :=
  ⟨r.size, r.defers, fun t tg pv ht hT => by
    obtain ⟨v, h1, h2⟩ := r.slots t tg pv ht hT
    exact ⟨v, h1, PR.keep K h2.below (.inr hs) h2⟩, r.off, r.gs, r.known, ho⟩
end
section
variable {F : Fr} {objs objs' : List OB} {γ : Gh} {w w' : World}
theorem get_lt {A : Type} {l : List A} {i : Nat} {x : A} (h : l[i]? = some x) : i < l.length := (List.getElem?_eq_some_iff.1 h).1
theorem Mut.lt {o : Nat} (h : Mut objs o) : o < objs.length := let ⟨_, h1, _⟩ := h; get_lt h1
theorem SameLen.trans {a b c : List OB} (h : SameLen a b) (g : SameLen b c) (hl : a.length ≤ b.length) : SameLen a c := fun o ti e xs fz hx hlt => by
  obtain ⟨t1, e1, x1, f1, h1, h2⟩ := g o ti e xs fz hx (by omega)
  obtain ⟨t2, e2, x2, f2, h3, h4⟩ := h o t1 e1 x1 f1 h1 hlt
  exact ⟨t2, e2, x2, f2, h3, h4.trans h2⟩

/-! freezing -/
structure Frz (F : Fr) (prO : Nat) (objs : List OB) (γ : Gh) (w : World) (objs' : List OB) : Prop where
  o : ORel F objs' γ w
  keep : Keep objs γ w objs' γ w objs.length
  len : objs'.length = objs.length
  same : SameLen objs objs'
  prot : ∀ o, bitB prO o = true → objs'[o]? = objs[o]?
  mt : ∀ o, Mut objs' o → objs'[o]? = objs[o]?
theorem Frz.refl (r : ORel F objs γ w) (prO : Nat) : Frz F prO objs γ w objs := ⟨r, ⟨fun _ h => h, fun _ _ => rfl, Nat.le_refl _, fun _ _ => rfl, Nat.le_refl _, rfl⟩, rfl, SameLen.refl _, fun _ _ => rfl, fun _ _ => rfl⟩
theorem Frz.trans {prO : Nat} {a b c : List OB} (h : Frz F prO a γ w b) (g : Frz F prO b γ w c) : Frz F prO a γ w c :=
  ⟨g.o, h.keep.trans ⟨g.keep.imm, g.keep.heap, by rw [g.len, h.len]; exact Nat.le_refl _, fun _ _ => rfl, Nat.le_refl _, rfl⟩, g.len.trans h.len, h.same.trans g.same (by rw [h.len]; exact Nat.le_refl _), fun o ho => (g.prot o ho).trans (h.prot o ho),
   fun o ho => (g.mt o ho).trans (h.mt o (by obtain ⟨ob, h1, h2⟩ := ho; exact ⟨ob, (g.mt o ⟨ob, h1, h2⟩) ▸ h1, h2⟩))⟩
theorem freeze1_spec (r : ORel F objs γ w) {prO o : Nat} (h : freeze1 prO objs o = some objs') : Frz F prO objs γ w objs' ∧ ∀ b, (γ o).2 = some b → Imm objs' γ w b := by
  simp only [freeze1, Option.bind_eq_some_iff] at h
  obtain ⟨ob, ho, h⟩ := h
  cases ob with
  | arr i e xs fz =>
    cases fz with
    | true =>
      simp only [Option.some.injEq] at h
      subst h
      exact ⟨Frz.refl r prO, fun b hb => r.frz o i e xs b ho hb⟩
    | false =>
      simp only [chk_some, Bool.not_eq_true', Option.some.injEq] at h
      obtain ⟨hp, rfl⟩ := h
      have hlt := get_lt ho
      have hget : ∀ o', (objs.set o (.arr i e xs true))[o']? = if o = o' then some (.arr i e xs true) else objs[o']? := fun o' => by
        rw [List.getElem?_set]
        by_cases e1 : o = o'
        · subst e1; simp [hlt]
        · simp [e1]
      have hmut : ∀ o', Mut (objs.set o (.arr i e xs true)) o' → Mut objs o' ∧ o' ≠ o := by
        rintro o' ⟨ob, h1, h2⟩
        rw [hget] at h1
        split at h1
        · cases h1; cases h2
        · rename_i hne; exact ⟨⟨ob, h1, h2⟩, fun e => hne e.symm⟩
      have K : Keep objs γ w (objs.set o (.arr i e xs true)) γ w objs.length := ⟨fun k hk => ⟨hk.1, hk.2, fun o' hm => hk.3 o' (hmut o' hm).1⟩, fun _ _ => rfl, by simp, fun _ _ => rfl, Nat.le_refl _, rfl⟩
      have himm : ∀ b, (γ o).2 = some b → Imm (objs.set o (.arr i e xs true)) γ w b := fun b hb =>
        ⟨r.lt o b hlt hb, r.up b (r.own o b ⟨_, ho, rfl⟩ hb), fun o' hm hb' => (hmut o' hm).2 (r.inj o' o b (hmut o' hm).1 ⟨_, ho, rfl⟩ hb' hb)⟩
      refine ⟨⟨⟨fun o' ob' h1 => ?_, fun o1 o2 b h1 h2 => r.inj o1 o2 b (hmut o1 h1).1 (hmut o2 h2).1, fun o1 b h1 => r.own o1 b (hmut o1 h1).1, fun o1 b h1 => r.lt o1 b (by simpa using h1), r.chg, fun o1 i1 e1 x1 b h1 h2 => ?_, r.up, r.tab.mono K.imm K.heap⟩, K, by simp, ?_, ?_, ?_⟩, himm⟩
      · rw [hget] at h1
        split at h1
        · rename_i e1
          cases h1
          subst e1
          exact ObR.keep K (fun _ _ => rfl) (ob := .arr i e xs true) (r.rep o (.arr i e xs false) ho)
        · exact ObR.keep K (fun _ _ => rfl) (r.rep o' _ h1)
      · rw [hget] at h1
        split at h1
        · rename_i e2; subst e2; exact himm b h2
        · exact K.imm _ (r.frz o1 i1 e1 x1 b h1 h2)
      · intro o1 ti e1 x1 f1 h1 _
        rw [hget] at h1
        split at h1
        · rename_i e2
          cases h1
          subst e2
          exact ⟨_, _, _, _, ho, rfl⟩
        · exact ⟨_, _, _, _, h1, rfl⟩
      · intro o' hp'
        rw [hget, if_neg]
        intro e1; subst e1; rw [hp] at hp'; cases hp'
      · intro o' hm
        rw [hget, if_neg]
        exact fun e1 => (hmut o' hm).2 e1.symm
  | _ => simp at h
theorem freezeL_spec {prO : Nat} : ∀ {l : List Nat} {objs objs' : List OB}, ORel F objs γ w → freezeL prO objs l = some objs' → Frz F prO objs γ w objs' ∧ ∀ o ∈ l, ∀ b, (γ o).2 = some b → Imm objs' γ w b
  | [], objs, objs', r, h => by simp only [freezeL, Option.some.injEq] at h; subst h; exact ⟨Frz.refl r prO, fun o ho => by cases ho⟩
  | o :: l, objs, objs', r, h => by
    simp only [freezeL, Option.bind_eq_some_iff] at h
    obtain ⟨mid, h1, h2⟩ := h
    obtain ⟨f1, i1⟩ := freeze1_spec r h1
    obtain ⟨f2, i2⟩ := freezeL_spec f1.o h2
    refine ⟨f1.trans f2, fun o' ho b hb => ?_⟩
    rcases List.mem_cons.1 ho with rfl | ho
    · exact f2.keep.imm _ (i1 b hb)
    · exact i2 o' ho b hb

/-! new objects -/
def upd (γ : Gh) (n : Nat) (gs : List (Value × Option Nat)) : Gh := ⟨fun o => if o < n then γ o else (gs[o - n]?).getD (undef, none), γ.S⟩
theorem upd_lt {γ : Gh} {n o : Nat} {gs : List (Value × Option Nat)} (h : o < n) : upd γ n gs o = γ o := by simp [upd, h]
theorem upd_ge {γ : Gh} {n j : Nat} {gs : List (Value × Option Nat)} {g : Value × Option Nat} (h : gs[j]? = some g) : upd γ n gs (n + j) = g := by
  show (if n + j < n then γ (n + j) else (gs[n + j - n]?).getD (undef, none)) = g
  rw [if_neg (by omega), Nat.add_sub_cancel_left, h]; rfl
theorem mut_append {news : List OB} {o : Nat} (h : Mut (objs ++ news) o) : (o < objs.length ∧ Mut objs o) ∨ ∃ j ob, o = objs.length + j ∧ news[j]? = some ob := by
  obtain ⟨ob, h1, h2⟩ := h
  by_cases hlt : o < objs.length
  · rw [List.getElem?_append_left hlt] at h1
    exact .inl ⟨hlt, ob, h1, h2⟩
  · rw [List.getElem?_append_right (by omega)] at h1
    exact .inr ⟨o - objs.length, ob, by omega, h1⟩
/-- WHAT MAY STAND BESIDE THE NEW OBJECTS: the blocks that are taken are new, or were given up -/
theorem push_specB {objs objs0 : List OB} {news : List OB} {gs : List (Value × Option Nat)} {M : List Nat} (r : ORel F objs γ w) (K0 : Keep objs γ w objs0 γ w' objs.length) (hlen0 : objs0.length = objs.length) (hchg : Chg F.M F.w0 w')
    (hgs : gs.length = news.length) (hM : M = gs.flatMap fun g => g.2.toList) (hnd : M.Nodup)
    (hold : ∀ o ob, objs0[o]? = some ob → ObR objs γ w ob (γ o) ∧ (∀ b, (γ o).2 = some b → w'.heap[b]? = w.heap[b]?) ∨ ob = .dead ∨ (Keep objs γ w (objs0 ++ news) (upd γ objs.length gs) w' objs.length → ObR (objs0 ++ news) (upd γ objs.length gs) w' ob (γ o)))
    (hmut : ∀ o, Mut objs0 o → Mut objs o)
    (hfrz : ∀ (o : Nat) (i : TypeId) (e : Ty) (xs : List (D e)), objs0[o]? = some (.arr i e xs true) → objs[o]? = some (.arr i e xs true))
    (hfresh : ∀ b ∈ M, b < w'.heap.size ∧ (F.w0.heap.size ≤ b ∨ b ∈ F.M) ∧ (∀ o, Mut objs0 o → (γ o).2 ≠ some b) ∧ ¬ Imm objs γ w b)
    (hnew : Keep objs γ w (objs0 ++ news) (upd γ objs.length gs) w' objs.length → ∀ (j : Nat) ob g, news[j]? = some ob → gs[j]? = some g → ObR (objs0 ++ news) (upd γ objs.length gs) w' ob g ∧ mutOb ob = true) :
    ORel F (objs0 ++ news) (upd γ objs.length gs) w' ∧ Keep objs γ w (objs0 ++ news) (upd γ objs.length gs) w' objs.length := by
  have hmem : ∀ (j : Nat) g b, gs[j]? = some g → g.2 = some b → b ∈ M := fun j g b hj hb => by
    rw [hM]
    exact List.mem_flatMap.2 ⟨g, List.mem_of_getElem? hj, by simp [hb]⟩
  have hgj : ∀ (j : Nat) ob, news[j]? = some ob → ∃ g, gs[j]? = some g := fun j ob hj => ⟨_, List.getElem?_eq_getElem (by rw [hgs]; exact get_lt hj)⟩
  have hmut' : ∀ o, Mut (objs0 ++ news) o → (o < objs.length ∧ Mut objs0 o ∧ upd γ objs.length gs o = γ o) ∨ ∃ j g, o = objs.length + j ∧ gs[j]? = some g ∧ upd γ objs.length gs o = g := fun o hm => by
    rcases mut_append hm with ⟨h1, h2⟩ | ⟨j, ob, rfl, h1⟩
    · rw [hlen0] at h1; exact .inl ⟨h1, h2, upd_lt h1⟩
    · obtain ⟨g, hg⟩ := hgj j ob h1
      rw [hlen0]
      exact .inr ⟨j, g, rfl, hg, upd_ge hg⟩
  have K : Keep objs γ w (objs0 ++ news) (upd γ objs.length gs) w' objs.length := by
    refine ⟨fun k hk => ⟨(K0.imm k hk).1, hk.2, fun o hm hb => ?_⟩, K0.heap, by simp [hlen0], fun o ho => upd_lt ho, K0.size, rfl⟩
    rcases hmut' o hm with ⟨h1, h2, h3⟩ | ⟨j, g, rfl, hg, h3⟩
    · rw [h3] at hb; exact (K0.imm k hk).3 o h2 hb
    · rw [h3] at hb
      exact (hfresh k (hmem j g k hg hb)).2.2.2 hk
  refine ⟨⟨fun o ob ho => ?_, fun o o' b h1 h2 hb hb' => ?_, fun o b hm hb => ?_, fun o b ho hb => ?_, hchg, fun o i e xs b ho hb => ?_, r.up, r.tab.mono K.imm K.heap⟩, K⟩
  · by_cases hlt : o < objs.length
    · rw [List.getElem?_append_left (by omega)] at ho
      rw [upd_lt hlt]
      rcases hold o ob ho with ⟨h1, h2⟩ | h1 | h1
      · exact ObR.keep K h2 h1
      · subst h1; trivial
      · exact h1 K
    · rw [List.getElem?_append_right (by omega)] at ho
      obtain ⟨g, hg⟩ := hgj _ ob ho
      have := (hnew K _ ob g ho hg).1
      have e1 : upd γ objs.length gs o = g := by
        have := upd_ge (γ := γ) (n := objs.length) hg
        rwa [show objs.length + (o - objs0.length) = o by omega] at this
      rw [e1]
      exact this
  · rcases hmut' o h1 with ⟨l1, m1, e1⟩ | ⟨j1, g1, rfl, hg1, e1⟩ <;> rcases hmut' o' h2 with ⟨l2, m2, e2⟩ | ⟨j2, g2, rfl, hg2, e2⟩
    · rw [e1] at hb; rw [e2] at hb'
      exact r.inj o o' b (hmut o m1) (hmut o' m2) hb hb'
    · rw [e1] at hb; rw [e2] at hb'
      exact absurd hb ((hfresh b (hmem j2 g2 b hg2 hb')).2.2.1 o m1)
    · rw [e1] at hb; rw [e2] at hb'
      exact absurd hb' ((hfresh b (hmem j1 g1 b hg1 hb)).2.2.1 o' m2)
    · rw [e1] at hb; rw [e2] at hb'
      have : ∀ (l : List (Value × Option Nat)) (j1 j2 : Nat), (l.flatMap fun g => g.2.toList).Nodup → l[j1]? = some g1 → l[j2]? = some g2 → j1 = j2 := by
        intro l
        induction l with
        | nil => intro j1 j2 _ h; simp at h
        | cons g l ih =>
          intro j1 j2 hn h1 h2
          simp only [List.flatMap_cons, List.nodup_append] at hn
          cases j1 with
          | zero =>
            cases j2 with
            | zero => rfl
            | succ j2 =>
              simp at h1 h2
              exact absurd rfl (hn.2.2 b (by rw [h1, hb]; simp) b (List.mem_flatMap.2 ⟨g2, List.mem_of_getElem? h2, by simp [hb']⟩))
          | succ j1 =>
            cases j2 with
            | zero =>
              simp at h1 h2
              exact absurd rfl (hn.2.2 b (by rw [h2, hb']; simp) b (List.mem_flatMap.2 ⟨g1, List.mem_of_getElem? h1, by simp [hb]⟩))
            | succ j2 => exact congrArg _ (ih j1 j2 hn.2.1 (by simpa using h1) (by simpa using h2))
      rw [this gs j1 j2 (hM ▸ hnd) hg1 hg2]
  · rcases hmut' o hm with ⟨l1, m1, e1⟩ | ⟨j1, g1, rfl, hg1, e1⟩
    · rw [e1] at hb; exact r.own o b (hmut o m1) hb
    · rw [e1] at hb; exact (hfresh b (hmem j1 g1 b hg1 hb)).2.1
  · by_cases hlt : o < objs.length
    · rw [upd_lt hlt] at hb; exact Nat.lt_of_lt_of_le (r.lt o b hlt hb) K0.size
    · have hj : o - objs.length < gs.length := by rw [List.length_append] at ho; omega
      have e1 := upd_ge (γ := γ) (n := objs.length) (List.getElem?_eq_getElem hj)
      rw [show objs.length + (o - objs.length) = o by omega] at e1
      rw [e1] at hb
      exact (hfresh b (hmem _ _ b (List.getElem?_eq_getElem hj) hb)).1
  · by_cases hlt : o < objs.length
    · rw [List.getElem?_append_left (by omega)] at ho
      rw [upd_lt hlt] at hb
      exact K.imm _ (r.frz o i e xs b (hfrz o i e xs ho) hb)
    · rw [List.getElem?_append_right (by omega)] at ho
      obtain ⟨g, hg⟩ := hgj _ _ ho
      cases (hnew K _ _ g ho hg).2
theorem push_spec {objs objs0 : List OB} {news : List OB} {gs : List (Value × Option Nat)} {M : List Nat} (r : ORel F objs γ w) (K0 : Keep objs γ w objs0 γ w' objs.length) (hlen0 : objs0.length = objs.length) (hchg : Chg F.M F.w0 w')
    (hgs : gs.length = news.length) (hM : M = gs.flatMap fun g => g.2.toList) (hnd : M.Nodup)
    (hold : ∀ o ob, objs0[o]? = some ob → ObR objs γ w ob (γ o) ∧ (∀ b, (γ o).2 = some b → w'.heap[b]? = w.heap[b]?) ∨ ob = .dead)
    (hmut : ∀ o, Mut objs0 o → Mut objs o)
    (hfrz : ∀ (o : Nat) (i : TypeId) (e : Ty) (xs : List (D e)), objs0[o]? = some (.arr i e xs true) → objs[o]? = some (.arr i e xs true))
    (hfresh : ∀ b ∈ M, b < w'.heap.size ∧ (F.w0.heap.size ≤ b ∨ b ∈ F.M) ∧ (∀ o, Mut objs0 o → (γ o).2 ≠ some b) ∧ ¬ Imm objs γ w b)
    (hnew : Keep objs γ w (objs0 ++ news) (upd γ objs.length gs) w' objs.length → ∀ (j : Nat) ob g, news[j]? = some ob → gs[j]? = some g → ObR (objs0 ++ news) (upd γ objs.length gs) w' ob g ∧ mutOb ob = true) :
    ORel F (objs0 ++ news) (upd γ objs.length gs) w' ∧ Keep objs γ w (objs0 ++ news) (upd γ objs.length gs) w' objs.length :=
  push_specB r K0 hlen0 hchg hgs hM hnd (fun o ob ho => (hold o ob ho).imp_right .inl) hmut hfrz hfresh hnew
end
end Go.Den
