/- The operations that make or write memory: what the interpreter says of them holds. No condition of its own. -/
import Derived.Test.YtocnfflklfeocaaDen6
namespace Go.Den
open Go.Eng
set_option linter.unusedVariables false
set_option linter.unusedSectionVars false
set_option linter.unusedSimpArgs false
variable [CT : Ctx]

theorem take_patch {A : Type} (cu vs : List A) (m j z off : Nat) (hn : j + z ≤ m) (hcl : m ≤ cu.length) (hfit : off + vs.length ≤ z) :
   (cu.take (j + off) ++ vs ++ cu.drop (j + off + vs.length)).take m = (cu.take m).take j ++ ((((cu.take m).drop j).take z).take off ++ vs ++ (((cu.take m).drop j).take z).drop (off + vs.length)) ++ (cu.take m).drop (j + z) := by
  apply List.ext_getElem?
  intro q
  simp only [List.getElem?_take, List.getElem?_append, List.getElem?_drop, List.length_append, List.length_take, List.length_drop]
  grind

section
variable {P : Program} {env : Env} {F : Fr} {σ : AState} {γ : Gh} {a : Act} {w : World} {o : Oper} {α : Type} {k : AState → Option α} {res : α} {Q : Exit → Act → World → Prop}

def EfR (P : Program) (F : Fr) (σ : AState) (γ : Gh) (a : Act) (w : World) (o : Oper) (k : AState → Option α) (res : α) (Q : Exit → Act → World → Prop) : Prop :=
  o.wp P a w (fun a' w' => ∃ σ' γ', k σ' = some res ∧ Rel F σ' γ' a' w' ∧ Step σ γ w σ' γ' w') Q
theorem EfR.val {v : Value} {w' : World} {σ' : AState} {γ' : Gh} (h : (execOp a.eval o).run P w = .ok (.value v) w') (hk : k σ' = some res) (hr : Rel F σ' γ' (a.put o.dst v) w') (hs : Step σ γ w σ' γ' w') : EfR P F σ γ a w o k res Q := by
  unfold EfR Oper.wp
  rw [h]
  exact ⟨σ', γ', hk, hr, hs⟩
theorem tagT_nil (σ : AState) : tagT σ [] := fun x hx => by cases hx
/-- the same of an operation that only makes memory -/
def EfA (P : Program) (F : Fr) (σ : AState) (γ : Gh) (a : Act) (w : World) (o : Oper) (k : AState → Option α) (res : α) (Q : Exit → Act → World → Prop) : Prop :=
  o.wp P a w (fun a' w' => Chg [] w w' ∧ ∃ σ' γ', k σ' = some res ∧ Rel F σ' γ' a' w' ∧ Step σ γ w σ' γ' w') Q
theorem EfA.val {v : Value} {w' : World} {σ' : AState} {γ' : Gh} (h : (execOp a.eval o).run P w = .ok (.value v) w') (hc : Chg [] w w') (hk : k σ' = some res) (hr : Rel F σ' γ' (a.put o.dst v) w') (hs : Step σ γ w σ' γ' w') : EfA P F σ γ a w o k res Q := by
  unfold EfA Oper.wp
  rw [h]
  exact ⟨hc, σ', γ', hk, hr, hs⟩
theorem EfA.toR (h : EfA P F σ γ a w o k res Q) : EfR P F σ γ a w o k res Q := Oper.wp_mono (fun _ _ h => h.2) h

/-- new objects, and their value in a slot -/
theorem ef_put (r : Rel F σ γ a w) {objs' : List OB} {γ' : Gh} {w' : World} {pv : PV} {v : Value} {σ' : AState} (K : Keep σ.objs γ w objs' γ' w' σ.objs.length) (ho : ORel F objs' γ' w') (hs : SameLen σ.objs objs')
    (hp : ∀ o, o < σ.objs.length → bitB σ.prO o = true → objs'[o]? = σ.objs[o]?) (hput : AState.putO { σ with objs := objs' } o.dst [] pv = some σ') (hv : PR objs' γ' w' pv v) :
    Rel F σ' γ' (a.put o.dst v) w' ∧ Step σ γ w σ' γ' w' := by
  have r1 : Rel F { σ with objs := objs' } γ' a w' := r.setObjs K hs ho
  refine ⟨r1.putO hput (fun x hx => by cases hx) (fun _ => hv) (fun hn => absurd (tagT_nil _) hn), ?_⟩
  have s1 : Step σ γ w { σ with objs := objs' } γ' w' := ⟨rfl, rfl, rfl, fun _ _ _ h => h, hp, K⟩
  exact s1.trans (Step.putO hput)
theorem push_fresh {objs : List OB} {w' : World} {news : List OB} {gs : List (Value × Option Nat)} {M : List Nat} (r : ORel F objs γ w) (hc : Chg [] w w') (hgs : gs.length = news.length) (hM : M = gs.flatMap fun g => g.2.toList) (hnd : M.Nodup)
    (hfresh : ∀ b ∈ M, w.heap.size ≤ b ∧ b < w'.heap.size)
    (hnew : Keep objs γ w (objs ++ news) (upd γ objs.length gs) w' objs.length → ∀ (j : Nat) ob g, news[j]? = some ob → gs[j]? = some g → ObR (objs ++ news) (upd γ objs.length gs) w' ob g ∧ mutOb ob = true) :
    ORel F (objs ++ news) (upd γ objs.length gs) w' ∧ Keep objs γ w (objs ++ news) (upd γ objs.length gs) w' objs.length :=
  push_spec r (Keep.ext hc) rfl (Chg.trans' r.chg hc) hgs hM hnd (fun o ob ho => .inl ⟨r.rep o ob ho, fun b hb => hc.block b (r.lt o b (get_lt ho) hb) (by simp)⟩) (fun _ h => h) (fun _ _ _ _ h => h)
    (fun b hb => ⟨(hfresh b hb).2, .inl (Nat.le_trans r.chg.size (hfresh b hb).1), fun o hm hb' => Nat.not_le_of_lt (r.lt o b hm.lt hb') (hfresh b hb).1, fun hi => Nat.not_le_of_lt hi.lt (hfresh b hb).1⟩) hnew
theorem sameLen_append {objs news : List OB} : SameLen objs (objs ++ news) := fun o ti e xs fz hx hlt => by
  rw [List.getElem?_append_left hlt] at hx; exact ⟨_, _, _, _, hx, rfl⟩
theorem one_lt {A : Type} {x y : A} {j : Nat} (h : [x][j]? = some y) : j = 0 ∧ y = x := by
  cases j with
  | zero => simp at h; exact ⟨rfl, h.symm⟩
  | succ j => simp at h
/-- a new block of two cells: a builder -/
theorem ef_bld (r : Rel F σ γ a w) {t : TypeId} {σ' : AState} (hrun : (execOp a.eval o).run P w = .ok (.value (.pointer (some ⟨w.heap.size, 0, none⟩))) (w.alloc (.cells #[.pointer none, .slice none 0 0] t)))
    (hput : σ.new o.dst (.bld t (.v (.slice none 0 0))) (.c (.ptr σ.objs.length 0)) = some σ') (hk : k σ' = some res) : EfA P F σ γ a w o k res Q := by
  have hc := alloc_chg w (.cells #[.pointer none, .slice none 0 0] t)
  obtain ⟨ho, K⟩ := push_fresh (news := [.bld t (.v (.slice none 0 0))]) (gs := [(.pointer (some ⟨w.heap.size, 0, none⟩), some w.heap.size)]) (M := [w.heap.size]) r.o hc rfl (by simp) (by simp) (fun b hb => by
      simp at hb; subst hb; exact ⟨Nat.le_refl _, by rw [alloc_size]; omega⟩) (fun K j ob g hj hg => by
      obtain ⟨rfl, rfl⟩ := one_lt hj
      obtain ⟨_, rfl⟩ := one_lt hg
      exact ⟨⟨_, .pointer none, .slice none 0 0, rfl, by have := alloc_blk w #[.pointer none, .slice none 0 0] t; unfold Blk at this; simpa using this, .inl rfl, rfl⟩, rfl⟩)
  obtain ⟨h1, h2⟩ := ef_put r K ho sameLen_append (fun o ho _ => by rw [List.getElem?_append_left ho]) hput (v := .pointer (some ⟨w.heap.size, 0, none⟩))
    ⟨by simp, w.heap.size, by have := upd_ge (γ := γ) (n := σ.objs.length) (j := 0) (gs := [(.pointer (some ⟨w.heap.size, 0, none⟩), some w.heap.size)]) rfl; rw [Nat.add_zero] at this; rw [this], rfl⟩
  exact EfA.val hrun hc hk h1 h2
/-- a new block of cells -/
theorem ef_box (r : Rel F σ γ a w) {l : List Cv} {v : Value} {t : TypeId} {σ' : AState} (hl : VRL σ.objs γ w l v.cells.toList) (hrun : (execOp a.eval o).run P w = .ok (.value (.pointer (some ⟨w.heap.size, 0, none⟩))) (w.alloc (.cells v.cells t)))
    (hput : σ.new o.dst (.box l) (.c (.ptr σ.objs.length 0)) = some σ') (hk : k σ' = some res) : EfA P F σ γ a w o k res Q := by
  have hc := alloc_chg w (.cells v.cells t)
  obtain ⟨ho, K⟩ := push_fresh (news := [.box l]) (gs := [(.pointer (some ⟨w.heap.size, 0, none⟩), some w.heap.size)]) (M := [w.heap.size]) r.o hc rfl (by simp) (by simp) (fun b hb => by
      simp at hb; subst hb; exact ⟨Nat.le_refl _, by rw [alloc_size]; omega⟩) (fun K j ob g hj hg => by
      obtain ⟨rfl, rfl⟩ := one_lt hj
      obtain ⟨_, rfl⟩ := one_lt hg
      exact ⟨⟨_, t, v.cells, rfl, by have := alloc_blk w v.cells t; unfold Blk at this; simpa using this, VRL.keep K hl.below hl⟩, rfl⟩)
  obtain ⟨h1, h2⟩ := ef_put r K ho sameLen_append (fun o ho _ => by rw [List.getElem?_append_left ho]) hput (v := .pointer (some ⟨w.heap.size, 0, none⟩))
    ⟨by simp, w.heap.size, by have := upd_ge (γ := γ) (n := σ.objs.length) (j := 0) (gs := [(.pointer (some ⟨w.heap.size, 0, none⟩), some w.heap.size)]) rfl; rw [Nat.add_zero] at this; rw [this], rfl⟩
  exact EfA.val hrun hc hk h1 h2
theorem ef_boxop (r : Rel F σ γ a w) {t : TypeId} {x : Operand} (ho : o.op = .box t x) (h : ((ev σ [] x).bind fun v => (cellsPV v).bind fun l => (σ.new o.dst (.box l) (.c (.ptr σ.objs.length 0))).bind k) = some res) : EfA P F σ γ a w o k res Q := by
  simp only [Option.bind_eq_some_iff] at h
  obtain ⟨pv, h1, l, h2, σ', h3, h4⟩ := h
  refine ef_box r (v := a.eval x) (t := t) (cellsPV_spec h2 (ev_sound r (tagT_nil σ) h1)) ?_ h3 h4
  obtain ⟨dst, op, type, pos, after, guard⟩ := o
  simp only at ho
  subst ho
  simp only [execOp, Instr.box, newVar, newRow, newObj]
  rfl
theorem ef_alloc (r : Rel F σ γ a w) {t : TypeId} (ho : o.op = .alloc t) (h : allocE P env σ o t k = some res) : EfA P F σ γ a w o k res Q := by
  obtain ⟨l, h2, h⟩ := Option.bind_eq_some_iff.1 h
  obtain ⟨i, z, hi, hz, hzv⟩ := zeroCs_spec (P := P) (σ := σ) (γ := γ) (w := w) h2
  have hzr : (zeroValue t).run P w = .ok z w := by simp [zeroValue, typeInfo, hi, hz, go_sem]
  have hrun : (execOp a.eval o).run P w = .ok (.value (.pointer (some ⟨w.heap.size, 0, none⟩))) (w.alloc (.cells z.cells t)) := by
    obtain ⟨dst, op, type, pos, after, guard⟩ := o
    simp only at ho
    subst ho
    simp only [execOp, Instr.alloc, Sem.run_bind, hzr, Result.andThen_ok, newVar, newRow, newObj]
    rfl
  cases hb : env.bldT t with
  | false =>
    rw [hb, cond_false] at h
    obtain ⟨σ', h3, h4⟩ := Option.bind_eq_some_iff.1 h
    exact ef_box r (v := z) (t := t) hzv hrun h3 h4
  | true =>
    rw [hb, cond_true] at h
    split at h
    · obtain ⟨σ', h3, h4⟩ := Option.bind_eq_some_iff.1 h
      have hc : z.cells = #[.pointer none, .slice none 0 0] := by
        obtain ⟨v1, q1, e1, e2, v2, q2, e3, e4, e5⟩ := hzv
        simp only [VR] at e2 e4
        simp only [VRL] at e5
        subst e2 e4 e5 e3
        rw [← Array.toList_inj, e1]
      rw [hc] at hrun
      exact ef_bld r hrun h3 h4
    · cases h

/-! ### stores -/
theorem store_run {t : TypeId} {inf : TypeInfo} {b off : Nat} {cur : Array Value} {T : TypeId} {v : Value} (hi : P.info? t = some inf) (hb : Row w b cur T) (hs : v.cells.size = inf.size) (hfit : off + v.cells.toList.length ≤ cur.size) (h1 : ∀ u ∈ v.cells.toList, u.oneCell' = true)
    {ad x : Operand} (ho : o.op = .store t ad x) (e1 : a.eval ad = .pointer (some ⟨b, off, none⟩)) (e2 : a.eval x = v) :
    (execOp a.eval o).run P w = .ok .skip (w.setRow b (cur.toList.take off ++ v.cells.toList ++ cur.toList.drop (off + v.cells.toList.length)).toArray) := by
  have hst := run_store_row (P := P) hb off v.cells.toList hfit h1
  have hsr : (sizeOf t).run P w = .ok inf.size w := by simp [sizeOf, typeInfo, hi, go_sem]
  have hv1 : (storeVar t ⟨b, off, none⟩ v).run P w = .ok () (w.setRow b (cur.toList.take off ++ v.cells.toList ++ cur.toList.drop (off + v.cells.toList.length)).toArray) := by
    unfold storeVar
    rw [Sem.run_bind, hsr, Result.andThen_ok]
    rw [if_neg (fun hn => hn hs)]
    exact hst
  obtain ⟨dst, op, type, pos, after, guard⟩ := o
  simp only at ho
  subst ho
  simp only [execOp, Sem.run_bind, e1, e2, Instr.storeAt, Instr.sureAddr, Sem.run_pure, Result.andThen_ok, hv1]
theorem setRow_chg {b : Nat} {cs : Array Value} : Chg [b] w (w.setRow b cs) :=
  ⟨rfl, rfl, rfl, by simp [World.setRow], fun j hj hn => setRow_other w b j cs (fun e => hn (by simp [e])), fun _ => Nat.le_refl _⟩
/-- an object is written, or given up: its block alone has changed -/
theorem put_objG {objs : List OB} {p b : Nat} {ob : OB} {w' : World} (hch : Chg [b] w w') (r : ORel F objs γ w) (hm : Mut objs p) (hg : (γ p).2 = some b)
    (hmut : ∀ (i : TypeId) (e : Ty) (xs : List (D e)), ob ≠ .arr i e xs true) (hob : Keep objs γ w (objs.set p ob) γ w' objs.length → ObR (objs.set p ob) γ w' ob (γ p)) :
    ORel F (objs.set p ob) γ w' ∧ Keep objs γ w (objs.set p ob) γ w' objs.length := by
  have hlt := hm.lt
  have hget : ∀ o', (objs.set p ob)[o']? = if p = o' then some ob else objs[o']? := fun o' => by
    rw [List.getElem?_set]
    by_cases e1 : p = o'
    · subst e1; simp [hlt]
    · simp [e1]
  have hmu : ∀ o', Mut (objs.set p ob) o' → Mut objs o' := by
    rintro o' ⟨ob', h1, h2⟩
    rw [hget] at h1
    split at h1
    · rename_i e; subst e; exact hm
    · exact ⟨ob', h1, h2⟩
  have K : Keep objs γ w (objs.set p ob) γ w' objs.length :=
    ⟨fun k hk => ⟨Nat.lt_of_lt_of_le hk.lt hch.size, hk.s, fun o' hm' => hk.own o' (hmu o' hm')⟩, fun k hk => hch.block k hk.lt (by simp; intro e; subst e; exact hk.own p hm hg), by simp, fun _ _ => rfl, hch.size, rfl⟩
  have hne : ∀ o' b', p ≠ o' → o' < objs.length → (γ o').2 = some b' → (∃ ob', objs[o']? = some ob' ∧ (mutOb ob' = true ∨ (∃ i, ∃ e : Ty, ∃ xs : List (D e), ob' = .arr i e xs true))) → b' ≠ b := by
    rintro o' b' h1 h2 h3 ⟨ob', h4, h5⟩ rfl
    rcases h5 with h5 | ⟨i, e, xs, rfl⟩
    · exact h1 (r.inj p o' b' hm ⟨ob', h4, h5⟩ hg h3)
    · exact (r.frz o' i e xs b' h4 h3).own p hm hg
  refine ⟨⟨fun o' ob' h1 => ?_, fun o1 o2 b' h1 h2 => r.inj o1 o2 b' (hmu o1 h1) (hmu o2 h2), fun o1 b' h1 => r.own o1 b' (hmu o1 h1), fun o1 b' h1 h2 => Nat.lt_of_lt_of_le (r.lt o1 b' (by simpa using h1) h2) hch.size, ?_, fun o1 i e xs b' h1 h2 => ?_, r.up, r.tab.mono K.imm K.heap⟩, K⟩
  · rw [hget] at h1
    split at h1
    · rename_i e; subst e; cases h1; exact hob K
    · rename_i e
      cases hd : ob' with
      | dead => trivial
      | bld t c =>
        rw [hd] at h1
        exact ObR.keep K (fun b' hb' => hch.block b' (r.lt o' b' (get_lt h1) hb') (by simpa using hne o' b' e (get_lt h1) hb' ⟨_, h1, .inl rfl⟩)) (r.rep o' _ h1)
      | box l =>
        rw [hd] at h1
        exact ObR.keep K (fun b' hb' => hch.block b' (r.lt o' b' (get_lt h1) hb') (by simpa using hne o' b' e (get_lt h1) hb' ⟨_, h1, .inl rfl⟩)) (r.rep o' _ h1)
      | arr i e' xs fz =>
        rw [hd] at h1
        have hcase : mutOb (.arr i e' xs fz) = true ∨ (∃ i2, ∃ e2 : Ty, ∃ xs2 : List (D e2), OB.arr i e' xs fz = .arr i2 e2 xs2 true) := by
          cases fz
          · exact .inl rfl
          · exact .inr ⟨i, e', xs, rfl⟩
        exact ObR.keep K (fun b' hb' => hch.block b' (r.lt o' b' (get_lt h1) hb') (by simpa using hne o' b' e (get_lt h1) hb' ⟨_, h1, hcase⟩)) (r.rep o' _ h1)
  · have := r.chg
    refine ⟨hch.os.trans this.os, hch.tape.trans this.tape, hch.output.trans this.output, Nat.le_trans this.size hch.size, fun k hk hn => (hch.block k (Nat.lt_of_lt_of_le hk this.size) ?_).trans (this.block k hk hn), fun e => Nat.le_trans (this.drawn e) (hch.drawn e)⟩
    simp
    intro e
    subst e
    rcases r.own p k hm hg with h1 | h1
    · omega
    · exact hn h1
  · rw [hget] at h1
    split at h1
    · cases h1; exact absurd rfl (hmut _ _ _)
    · exact K.imm _ (r.frz o1 i e xs b' h1 h2)
theorem put_objW {objs : List OB} {p b : Nat} {ob : OB} {w' : World} (hch : Chg [b] w w') (r : ORel F objs γ w) (hm : Mut objs p) (hg : (γ p).2 = some b)
    (hmut : mutOb ob = true) (hob : Keep objs γ w (objs.set p ob) γ w' objs.length → ObR (objs.set p ob) γ w' ob (γ p)) :
    ORel F (objs.set p ob) γ w' ∧ Keep objs γ w (objs.set p ob) γ w' objs.length := put_objG hch r hm hg (fun i e xs h => by rw [h] at hmut; cases hmut) hob
theorem put_obj {objs : List OB} {p b : Nat} {ob : OB} {cs : Array Value} (r : ORel F objs γ w) (hm : Mut objs p) (hg : (γ p).2 = some b)
    (hmut : mutOb ob = true) (hob : Keep objs γ w (objs.set p ob) γ (w.setRow b cs) objs.length → ObR (objs.set p ob) γ (w.setRow b cs) ob (γ p)) :
    ORel F (objs.set p ob) γ (w.setRow b cs) ∧ Keep objs γ w (objs.set p ob) γ (w.setRow b cs) objs.length := put_objW setRow_chg r hm hg hmut hob
theorem VRL.setv {objs : List OB} : ∀ {l : List Cv} {vs : List Value} {c : Cv} {v : Value} (j : Nat), VRL objs γ w l vs → VR objs γ w c v → VRL objs γ w (l.set j c) (vs.set j v)
  | [], _, _, _, _, h, _ => by simp [VRL] at h; simp [h, VRL]
  | _ :: _, _, _, _, 0, ⟨u, q, e, h1, h2⟩, h => by subst e; exact ⟨_, q, rfl, h, h2⟩
  | _ :: _, _, _, _, j + 1, ⟨u, q, e, h1, h2⟩, h => by subst e; exact ⟨u, _, rfl, h1, VRL.setv j h2 h⟩
theorem setCol_spec {objs : List OB} {i : Int} {x : Cv} {off sz inner : Nat} {v : Value} (hx : VR objs γ w x v) : ∀ {n j : Nat} {cs cs' : List Cv} {vs : List Value}, setCol i x off sz inner n j cs = some cs' → VRL objs γ w cs vs →
    (((j : Int) ≤ i ∧ i < ((j + n : Nat) : Int)) → VRL objs γ w cs' (vs.set (off + i.toNat * sz + inner) v) ∧ off + i.toNat * sz + inner < vs.length) ∧ ((i < (j : Int) ∨ ((j + n : Nat) : Int) ≤ i) → VRL objs γ w cs' vs)
  | 0, j, cs, cs', vs, h, hv => by
    simp only [setCol, Option.some.injEq] at h
    subst h
    exact ⟨fun hh => by omega, fun _ => hv⟩
  | n + 1, j, cs, cs', vs, h, hv => by
    simp only [setCol] at h
    split at h
    · rename_i c q hc
      obtain ⟨c', h1, h2⟩ := Option.bind_eq_some_iff.1 h
      have h0 : cs[off + j * sz + inner]? = some c := by
        have := congrArg (fun l : List Cv => l[0]?) hc
        simpa using this
      obtain ⟨u, hu, hcu⟩ := hv.get h0
      by_cases hij : i = (j : Int)
      · subst hij
        have hc' : VR objs γ w c' v := (mergeC_spec h1).1 (by simp) hx
        have hv' := VRL.setv (off + j * sz + inner) hv hc'
        have ih := (setCol_spec hx (n := n) (j := j + 1) h2 hv').2 (.inl (by omega))
        refine ⟨fun _ => ⟨?_, ?_⟩, fun hh => by omega⟩
        · simpa using ih
        · simpa using get_lt hu
      · have hc' : VR objs γ w c' u := (mergeC_spec h1).2 (by simpa using hij) hcu
        have hv' := VRL.setv (off + j * sz + inner) hv hc'
        have hset : vs.set (off + j * sz + inner) u = vs := by
          apply List.ext_getElem?
          intro m
          rw [List.getElem?_set]
          split
          · rename_i e; subst e; rw [if_pos (get_lt hu)]; exact hu.symm
          · rfl
        rw [hset] at hv'
        have ih := setCol_spec hx (n := n) (j := j + 1) h2 hv'
        refine ⟨fun hh => ih.1 (by omega), fun hh => ih.2 (by omega)⟩
    · cases h
theorem all_one {l : List Cv} {vs : List Value} (h : l.all cellOk = true) (hv : VRL σ.objs γ w l vs) : ∀ u ∈ vs, u.oneCell' = true := by
  induction l generalizing vs with
  | nil => simp only [VRL] at hv; subst hv; intro u hu; cases hu
  | cons c l ih =>
    obtain ⟨v, q, rfl, h1, h2⟩ := hv
    simp only [List.all_cons, Bool.and_eq_true] at h
    intro u hu
    rcases List.mem_cons.1 hu with rfl | hu
    · exact cellOk_spec h.1 h1
    · exact ih h.2 h2 u hu
theorem EfR.skip {w' : World} {σ' : AState} {γ' : Gh} (hd : o.dst = none) (h : (execOp a.eval o).run P w = .ok .skip w') (hk : k σ' = some res) (hr : Rel F σ' γ' a w') (hs : Step σ γ w σ' γ' w') : EfR P F σ γ a w o k res Q := by
  unfold EfR Oper.wp
  rw [h]
  refine ⟨σ', γ', hk, ?_, hs⟩
  rw [hd]
  exact hr
theorem step_objs {objs' : List OB} {γ' : Gh} {w' : World} (K : Keep σ.objs γ w objs' γ' w' σ.objs.length) (hp : ∀ o, o < σ.objs.length → bitB σ.prO o = true → objs'[o]? = σ.objs[o]?) : Step σ γ w { σ with objs := objs' } γ' w' := ⟨rfl, rfl, rfl, fun _ _ _ h => h, hp, K⟩
theorem get_set_ne {A : Type} {l : List A} {i j : Nat} {x : A} (h : i ≠ j) : (l.set i x)[j]? = l[j]? := by rw [List.getElem?_set, if_neg h]
theorem sameLen_box {objs : List OB} {p : Nat} {l : List Cv} : SameLen objs (objs.set p (.box l)) := fun o ti e xs fz hx hlt => by
  rw [List.getElem?_set] at hx
  split at hx
  · split at hx
    · cases hx
    · cases hx
  · exact ⟨_, _, _, _, hx, rfl⟩
theorem sameLen_bld {objs : List OB} {p : Nat} {t : TypeId} {c : Cv} : SameLen objs (objs.set p (.bld t c)) := fun o ti e xs fz hx hlt => by
  rw [List.getElem?_set] at hx
  split at hx
  · split at hx
    · cases hx
    · cases hx
  · exact ⟨_, _, _, _, hx, rfl⟩
theorem ef_store (r : Rel F σ γ a w) {t : TypeId} {ad x : Operand} (ho : o.op = .store t ad x) (h : storeE P σ o t ad x k = some res) : EfR P F σ γ a w o k res Q := by
  simp only [storeE, Option.bind_eq_some_iff, chk_some, Bool.and_eq_true] at h
  obtain ⟨p, h1, pv, h2, l, h3, ⟨hc, hd, hok⟩, objs', h4, h5⟩ := h
  have hd : o.dst = none := by simpa using hd
  obtain ⟨inf, hi, hsz⟩ := cellsIs_spec hc
  have hp := ev_sound r (tagT_nil σ) h1
  have hvl := cellsPV_spec h3 (ev_sound r (tagT_nil σ) h2)
  have hone := all_one hok hvl
  have hlen := hvl.length
  have hcs : (a.eval x).cells.size = inf.size := by rw [hsz]; simpa using hlen
  cases p with
  | c c =>
    cases c <;> simp only [storeAt] at h4 <;> try (cases h4; done)
    rename_i q off
    obtain ⟨ob, hob, h6⟩ := Option.bind_eq_some_iff.1 h4
    cases ob with
    | box cs =>
      simp only [chk_some, Bool.and_eq_true, Bool.not_eq_true', Option.some.injEq] at h6
      obtain ⟨⟨hpr, hfit⟩, rfl⟩ := h6
      have hfit := Nat.le_of_ble_eq_true hfit
      obtain ⟨hq, b, hg, e1⟩ := hp
      obtain ⟨b', T, cells, hgg, hheap, hbv⟩ := r.o.rep q _ hob
      have hbb : b' = b := by rw [hgg] at hg; simpa using hg
      subst hbb
      have hcl := hbv.length
      have hrun := store_run (a := a) hi (Row.of hheap) hcs (by rw [hlen]; simp only [Array.length_toList] at hcl; omega) hone ho e1 rfl
      have hd3 : VRL σ.objs γ w (cs.drop (off + l.length)) (cells.toList.drop (off + (a.eval x).cells.toList.length)) := by rw [hlen]; exact hbv.drop _
      obtain ⟨hor, K⟩ := put_obj (ob := .box (cs.take off ++ l ++ cs.drop (off + l.length))) (cs := (cells.toList.take off ++ (a.eval x).cells.toList ++ cells.toList.drop (off + (a.eval x).cells.toList.length)).toArray) r.o ⟨_, hob, rfl⟩ hg rfl (fun K =>
        ⟨b', T, _, hgg, setRow_heap w b' cells _ T (0, 0) hheap, VRL.keep K (((hbv.take off).append hvl).append hd3).below (((hbv.take off).append hvl).append hd3)⟩)
      refine EfR.skip hd hrun h5 (r.setObjs K sameLen_box hor) (step_objs K fun o' _ hp' => get_set_ne (fun e => by subst e; rw [hpr] at hp'; cases hp'))
    | bld tb c =>
      simp only at h6
      split at h6
      · rename_i y
        simp only [chk_some, Bool.and_eq_true, Bool.not_eq_true', Option.some.injEq] at h6
        obtain ⟨⟨hpr, ho1⟩, rfl⟩ := h6
        obtain rfl := Nat.eq_of_beq_eq_true ho1
        obtain ⟨hq, b, hg, e1⟩ := hp
        obtain ⟨b', pp, vv, hgg, hheap, hpp, hvc⟩ := r.o.rep q _ hob
        have hbb : b' = b := by rw [hgg] at hg; simpa using hg
        subst hbb
        obtain ⟨v, hv1, hv2⟩ := hvl.one'
        have hrun := store_run (a := a) hi (Row.of hheap) hcs (by rw [hv1]; simp) hone ho e1 rfl
        rw [hv1] at hrun
        have hset : ((#[pp, vv] : Array Value).toList.take 1 ++ [v] ++ (#[pp, vv] : Array Value).toList.drop (1 + [v].length)).toArray = #[pp, v] := rfl
        rw [hset] at hrun
        obtain ⟨hor, K⟩ := put_obj (ob := .bld tb y) (cs := #[pp, v]) r.o ⟨_, hob, rfl⟩ hg rfl (fun K =>
          ⟨b', pp, v, hgg, setRow_heap w b' _ _ tb (0, 0) hheap, hpp, VR.keep K hv2.below hv2⟩)
        refine EfR.skip hd hrun h5 (r.setObjs K sameLen_bld hor) (step_objs K fun o' _ hp' => get_set_ne (fun e => by subst e; rw [hpr] at hp'; cases hp'))
      · cases h6
    | _ => simp at h6
  | pa q off sz cnt inner i =>
    simp only [storeAt] at h4
    obtain ⟨ob, hob, h6⟩ := Option.bind_eq_some_iff.1 h4
    cases ob with
    | box cs =>
      simp only at h6
      split at h6
      · rename_i y
        simp only [chk_some, Bool.not_eq_true', Option.bind_eq_some_iff, Option.some.injEq] at h6
        obtain ⟨hpr, cs', hset, rfl⟩ := h6
        obtain ⟨hq, b, hg, hi0, hi1, e1⟩ := hp
        obtain ⟨b', T, cells, hgg, hheap, hbv⟩ := r.o.rep q _ hob
        have hbb : b' = b := by rw [hgg] at hg; simpa using hg
        subst hbb
        obtain ⟨v, hv1, hv2⟩ := hvl.one'
        obtain ⟨hs1, hs2⟩ := (setCol_spec hv2 hset hbv).1 ⟨by simpa using hi0, by simpa using hi1⟩
        have hrun := store_run (a := a) hi (Row.of hheap) hcs (by rw [hv1]; simp at hs2 ⊢; omega) hone ho e1 rfl
        rw [hv1] at hrun
        have hset' : cells.toList.take (off + i.toNat * sz + inner) ++ [v] ++ cells.toList.drop (off + i.toNat * sz + inner + [v].length) = cells.toList.set (off + i.toNat * sz + inner) v := by
          rw [List.set_eq_take_append_cons_drop, if_pos hs2]
          simp
        rw [hset'] at hrun
        obtain ⟨hor, K⟩ := put_obj (ob := .box cs') (cs := (cells.toList.set (off + i.toNat * sz + inner) v).toArray) r.o ⟨_, hob, rfl⟩ hg rfl (fun K =>
          ⟨b', T, _, hgg, setRow_heap w b' cells _ T (0, 0) hheap, VRL.keep K hs1.below hs1⟩)
        refine EfR.skip hd hrun h5 (r.setObjs K sameLen_box hor) (step_objs K fun o' _ hp' => get_set_ne (fun e => by subst e; rw [hpr] at hp'; cases hp'))
      · cases h6
    | _ => simp at h6
  | ep q sz i off =>
    simp only [storeAt] at h4
    obtain ⟨ob, hob, h6⟩ := Option.bind_eq_some_iff.1 h4
    cases ob with
    | arr ti e xs fz =>
      cases fz with
      | true => simp at h6
      | false =>
      simp only [chk_some, Bool.and_eq_true, Bool.not_eq_true', Option.bind_eq_some_iff] at h6
      obtain ⟨⟨hpr, hsz2, hfit, hpure⟩, d, hd2, objs1, hfr, ob1, hob1, h7⟩ := h6
      have hsz2 := Nat.eq_of_beq_eq_true hsz2
      subst hsz2
      have hfit := Nat.le_of_ble_eq_true hfit
      cases ob1 with
      | arr ti1 e1 xs1 fz1 =>
        cases fz1 with
        | true => simp at h7
        | false =>
        simp only [Option.some.injEq] at h7
        subst h7
        obtain ⟨hq, b, hg, ep1, ao0, n0, c0, hg0, hil⟩ := hp
        have hil : i < xs.length := by rw [← ObR.len (r.o.rep q _ hob) hg0]; exact hil
        obtain ⟨f1, f2⟩ := freezeL_spec r.o hfr
        have hob1' : objs1[q]? = some (.arr ti e xs false) := by rw [f1.mt q ⟨_, hob1, rfl⟩, hob]
        have r1 : Rel F { σ with objs := objs1 } γ a w := r.setObjs f1.keep f1.same f1.o
        obtain ⟨us, hown, hrep⟩ := f1.o.rep q _ hob1'
        have hrep0 : RepL (fun x c => Rep w (Imm σ.objs γ w) e x [] c) xs us := by
          obtain ⟨us0, hown0, hrep0⟩ := r.o.rep q _ hob
          rcases hown with ⟨_, _, h8, _⟩ | ⟨b1, cap1, cur1, h8, h9, h10, h11, h12, h13, h14⟩
          · exact absurd hil (by omega)
          · rcases hown0 with ⟨_, _, h8', _⟩ | ⟨b2, cap2, cur2, h8', h9', h10', h11', h12', h13', h14'⟩
            · exact absurd hil (by omega)
            · have : b1 = b2 := by rw [h8] at h8'; simpa using h8'
              subst this
              rw [← h14, h10.eq h10', h14']
              exact hrep0
        have hx0 := hrep0.get (Rep.slen e) (j := i) (x := getD' xs i (dflt e)) (by simp [getD', hil])
        have hcell0 := cellsOf_spec e hx0
        have hdl : ((us.drop (i * e.size)).take e.size).length = e.size := Rep.length e hx0
        have hnew : VRL σ.objs γ w ((cellsOf e (getD' xs i (dflt e))).take off ++ l ++ (cellsOf e (getD' xs i (dflt e))).drop (off + l.length)) (((us.drop (i * e.size)).take e.size).take off ++ (a.eval x).cells.toList ++ ((us.drop (i * e.size)).take e.size).drop (off + l.length)) :=
          ((hcell0.take off).append hvl).append (hcell0.drop _)
        obtain ⟨hdr, _⟩ := toD_spec (S := Imm objs1 γ w) r.o f1.keep.imm e hd2 hnew (fun o' ho' b' hb' => f2 o' (by rw [idsD_pure (objs' := []) e hpure] at ho'; exact ho') b' hb')
        rw [Ty.pure_ids e hpure] at hdr
        have hdr : Rep w (Imm objs1 γ w) e d [] _ := hdr
        rcases hown with ⟨_, _, h8, _⟩ | ⟨b1, cap1, cur1, h8, h9, h10, h11, h12, h13, h14⟩
        · exact absurd hil (by omega)
        · have hb1 : b1 = b := by
            have := toList_some h8
            rw [this] at hg
            simpa using hg
          subst hb1
          have hcurlen : i * e.size + e.size ≤ cur1.size := by
            rw [h13, ← Nat.succ_mul]
            exact Nat.mul_le_mul_right _ (by omega)
          have hrun := store_run (a := a) hi h10 hcs (off := i * e.size + off) (by rw [hlen]; omega) hone ho ep1 rfl
          have hset := hrep.set (Rep.slen e) hdr i hil
          obtain ⟨hor, K⟩ := put_obj (ob := .arr ti e (xs.set i d) false) (cs := (cur1.toList.take (i * e.size + off) ++ (a.eval x).cells.toList ++ cur1.toList.drop (i * e.size + off + (a.eval x).cells.toList.length)).toArray) f1.o ⟨_, hob1', rfl⟩ hg rfl (fun K => by
            refine ⟨_, .inr ⟨b1, cap1, _, h8, ?_, h10.set _ (by simp only [List.size_toArray, List.length_append, List.length_take, List.length_drop, Array.length_toList, hlen]; omega), ?_, h12, ?_, ?_⟩, RepL.keep K hset⟩
            · rw [h9]; simp
            · simpa using h11
            · simp only [List.size_toArray, List.length_append, List.length_take, List.length_drop, Array.length_toList, hlen]
              omega
            · rw [hlen]
              simp only [List.length_set]
              rw [← h14]
              have hn : i * e.size + e.size ≤ xs.length * e.size := by rw [← Nat.succ_mul]; exact Nat.mul_le_mul_right _ hil
              have hcl : xs.length * e.size ≤ cur1.toList.length := by simp only [Array.length_toList]; rw [h13]; exact Nat.mul_le_mul_right _ h11
              have hlv : (a.eval x).cells.toList.length = l.length := hlen
              generalize (a.eval x).cells.toList = vs at hlv ⊢
              rw [← hlv] at hfit ⊢
              exact take_patch cur1.toList vs (xs.length * e.size) (i * e.size) e.size off hn hcl hfit)
          have hK : Keep σ.objs γ w (objs1.set q (.arr ti e (xs.set i d) false)) γ (w.setRow b1 _) σ.objs.length := f1.keep.trans (by rw [← f1.len]; exact K)
          refine EfR.skip hd hrun h5 (r.setObjs hK (f1.same.trans (fun o' ti' e' xs' fz' hx' hlt' => ?_) (by rw [f1.len]; exact Nat.le_refl _)) hor) (step_objs hK fun o' ho' hp' => ?_)
          · rw [List.getElem?_set] at hx'
            by_cases e2 : q = o'
            · subst e2
              rw [if_pos rfl, if_pos (get_lt hob1')] at hx'
              cases hx'
              exact ⟨_, _, _, _, hob1', by simp⟩
            · rw [if_neg e2] at hx'
              exact ⟨_, _, _, _, hx', rfl⟩
          · rw [get_set_ne (fun e2 => by subst e2; rw [hpr] at hp'; cases hp')]
            exact f1.prot o' hp'
      | _ => simp at h7
    | _ => simp at h6
  | _ => simp [storeAt] at h4
end
end Go.Den
