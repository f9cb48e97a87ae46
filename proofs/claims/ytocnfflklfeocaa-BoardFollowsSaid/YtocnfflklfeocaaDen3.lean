/- The operations that leave the world alone: what the interpreter says of them holds. No condition of its own. -/
import Derived.Test.YtocnfflklfeocaaDen2
namespace Go.Den
open Go.Eng
set_option linter.unusedVariables false
set_option linter.unusedSectionVars false
set_option linter.unusedSimpArgs false
variable [CT : Ctx]

section
variable {P : Program} {env : Env} {F : Fr} {σ : AState} {γ : Gh} {a : Act} {w : World} {tg : Tag} {o : Oper} {α : Type} {k : PV → Option α} {res : α}

/-- the operation yields such a value, in every world that has only grown -/
def Val (P : Program) (σ : AState) (γ : Gh) (a : Act) (w : World) (o : Oper) (pv : PV) : Prop := ∃ v, (∀ w', (isLoad o = true → Chg [] w w') → (execOp a.eval o).run P w' = .ok (.value v) w') ∧ PR σ.objs γ w pv v
def StR (P : Program) (σ : AState) (γ : Gh) (a : Act) (w : World) (tg : Tag) (o : Oper) (k : PV → Option α) (res : α) : Prop :=
  (∃ pv, k pv = some res) ∧ (tagT σ tg → ∃ pv, Val P σ γ a w o pv ∧ k pv = some res)
theorem StR.of {pv : PV} (h : k pv = some res) (hv : tagT σ tg → Val P σ γ a w o pv) : StR P σ γ a w tg o k res := ⟨⟨pv, h⟩, fun hT => ⟨pv, hv hT, h⟩⟩
theorem imp_true {b : Bool} (h : imp (tagB σ tg) b = true) (hT : tagT σ tg) : b = true := by
  rw [tagB_spec.2 hT] at h; exact h
theorem asInt_spec {pv : PV} {q : IntKind × Int} (h : asInt pv = some q) : pv = .c (.v (.int q.1 q.2)) := by
  unfold asInt at h
  split at h
  · cases h; rfl
  · cases h
theorem asBool_spec {pv : PV} {b : Bool} (h : asBool pv = some b) : pv = .c (.v (.bool b)) := by
  unfold asBool at h
  split at h
  · cases h; rfl
  · cases h
theorem asStr_spec {pv : PV} {b : ByteArray} (h : asStr pv = some b) : pv = .c (.v (.string b)) := by
  unfold asStr at h
  split at h
  · cases h; rfl
  · cases h
theorem asC_spec {pv : PV} {c : Cv} (h : asC pv = some c) : pv = .c c := by
  unfold asC at h
  split at h
  · cases h; rfl
  · cases h
theorem asAgg_spec {pv : PV} {c : List Cv} (h : asAgg pv = some c) : pv = .agg c := by
  unfold asAgg at h
  split at h
  · cases h; rfl
  · cases h
theorem asTup_spec {pv : PV} {c : List PW} (h : asTup pv = some c) : pv = .tup c := by
  unfold asTup at h
  split at h
  · cases h; rfl
  · cases h
theorem asFn_spec {pv : PV} {q : FuncId × List (Nat × Nat)} (h : asFn pv = some q) : pv = .c (.fn q.1 q.2) := by
  unfold asFn at h
  split at h
  · cases h; rfl
  · cases h
/-- a number, a Bool, a text: the value itself -/
theorem ev_int (r : Rel F σ γ a w) (hT : tagT σ tg) {x : Operand} {pv : PV} {q : IntKind × Int} (h : ev σ tg x = some pv) (hi : asInt pv = some q) : a.eval x = .int q.1 q.2 := by
  have := ev_sound r hT h; rw [asInt_spec hi] at this; exact this
theorem ev_bool (r : Rel F σ γ a w) (hT : tagT σ tg) {x : Operand} {pv : PV} {q : Bool} (h : ev σ tg x = some pv) (hi : asBool pv = some q) : a.eval x = .bool q := by
  have := ev_sound r hT h; rw [asBool_spec hi] at this; exact this
theorem ev_str (r : Rel F σ γ a w) (hT : tagT σ tg) {x : Operand} {pv : PV} {q : ByteArray} (h : ev σ tg x = some pv) (hi : asStr pv = some q) : a.eval x = .string q := by
  have := ev_sound r hT h; rw [asStr_spec hi] at this; exact this

theorem st_move (r : Rel F σ γ a w) {x : Operand} (ho : o.op = .move x ∨ o.op = .assign x) (h : (ev σ tg x).bind k = some res) : StR P σ γ a w tg o k res := by
  obtain ⟨pv, h1, h2⟩ := Option.bind_eq_some_iff.1 h
  refine StR.of h2 fun hT => ⟨a.eval x, fun w' _ => ?_, ev_sound r hT h1⟩
  obtain ⟨dst, op, type, pos, after, guard⟩ := o
  rcases ho with ho | ho <;> (simp only at ho; subst ho; rfl)
theorem st_nilCheck (r : Rel F σ γ a w) {x : Operand} (ho : o.op = .nilCheck x) (h : ((ev σ tg x).bind fun v => chk (nonNil v) (k v)) = some res) : StR P σ γ a w tg o k res := by
  obtain ⟨pv, h1, h2⟩ := Option.bind_eq_some_iff.1 h
  obtain ⟨hn, h2⟩ := chk_some.1 h2
  refine StR.of h2 fun hT => ⟨a.eval x, fun w' _ => ?_, ev_sound r hT h1⟩
  have hp := ev_sound r hT h1
  obtain ⟨dst, op, type, pos, after, guard⟩ := o
  simp only at ho
  subst ho
  cases pv with
  | c c =>
    cases c <;> simp only [nonNil] at hn <;> try (cases hn; done)
    · obtain ⟨_, b, _, e⟩ := hp
      (generalize a.eval = ρ at e ⊢; simp [execOp, e])
    · obtain ⟨_, l, e, _⟩ := hp
      (generalize a.eval = ρ at e ⊢; simp [execOp, e])
  | rp l => obtain ⟨ad, us, e, _⟩ := hp; (generalize a.eval = ρ at e ⊢; simp [execOp, e])
  | ep _ _ _ _ => obtain ⟨_, b, _, e, _⟩ := hp; (generalize a.eval = ρ at e ⊢; simp [execOp, e])
  | pa _ _ _ _ _ _ => obtain ⟨_, b, _, _, _, e⟩ := hp; (generalize a.eval = ρ at e ⊢; simp [execOp, e])
  | _ => simp [nonNil] at hn
theorem st_extract (r : Rel F σ γ a w) {x : Operand} {i : Nat} (ho : o.op = .extract x i) (h : ((ev σ tg x).bind fun v => (asTup v).bind fun l => (l[i]?).bind fun p => k (pvPW p)) = some res) : StR P σ γ a w tg o k res := by
  simp only [Option.bind_eq_some_iff] at h
  obtain ⟨pv, h1, l, h2, p, h3, h4⟩ := h
  refine StR.of h4 fun hT => ?_
  have hp := ev_sound r hT h1
  rw [asTup_spec h2] at hp
  obtain ⟨vs, e, hl⟩ := hp
  have : ∀ (l : List PW) (us : List Value) (i : Nat) (p : PW), PWL σ.objs γ w l us → l[i]? = some p → ∃ v, us[i]? = some v ∧ PWR σ.objs γ w p v := by
    intro l
    induction l with
    | nil => intro us i p _ hi; simp at hi
    | cons q l ih =>
      intro us i p ⟨v, q', e, h5, h6⟩ hi
      cases i with
      | zero => simp at hi; subst hi; exact ⟨v, by simp [e], h5⟩
      | succ i =>
        obtain ⟨u, h7, h8⟩ := ih q' i p h6 (by simpa using hi)
        exact ⟨u, by simpa [e] using h7, h8⟩
  obtain ⟨v, h5, h6⟩ := this l vs.toList i p hl h3
  refine ⟨v, fun w' _ => ?_, by cases p <;> exact h6⟩
  obtain ⟨dst, op, type, pos, after, guard⟩ := o
  simp only at ho
  subst ho
  have h7 : vs[i]? = some v := by simpa using h5
  generalize a.eval = ρ at e ⊢
  simp [execOp, e, Instr.extract, h7]

theorem get_of_ev {t : Nat} {pv : PV} (h : ev σ tg (.tmp t) = some pv) : ∃ tg', get σ.slots t = some (tg', pv) := by
  simp only [ev, Option.bind_eq_some_iff, chk_some, Option.some.injEq] at h
  obtain ⟨⟨tg', pv'⟩, h1, _, rfl⟩ := h
  exact ⟨tg', h1⟩
theorem tagT_cons {x : Nat × Bool} (h1 : litB σ x = true) (h2 : tagT σ tg) : tagT σ (x :: tg) := fun y hy => by
  rcases List.mem_cons.1 hy with rfl | hy
  · exact h1
  · exact h2 y hy
theorem st_pick (r : Rel F σ γ a w) {c x y : Operand} (ho : o.op = .pick c x y) (h : pickS σ tg c x y k = some res) : StR P σ γ a w tg o k res := by
  cases c with
  | tmp t =>
    simp only [pickS, Option.bind_eq_some_iff] at h
    obtain ⟨q, h1, b, h2, h⟩ := h
    have hq := asBool_spec h2
    subst hq
    obtain ⟨tg', hg⟩ := get_of_ev h1
    have lt : litB σ (t, true) = b := by simp [litB, hg]
    have lf : litB σ (t, false) = !b := by simp [litB, hg]
    have run : tagT σ tg → ∀ w', (execOp a.eval o).run P w' = .ok (.value (if b then a.eval x else a.eval y)) w' := by
      intro hT w'
      have hc := ev_bool r hT h1 h2
      obtain ⟨dst, op, type, pos, after, guard⟩ := o
      simp only at ho
      subst ho
      generalize a.eval = ρ at hc ⊢
      simp [execOp, hc, Go.asBool, go_sem]
    by_cases k1 : memT (t, true) σ.known = true
    · simp only [k1, cond_true, Option.bind_eq_some_iff] at h
      obtain ⟨v, h3, h7⟩ := h
      have hb : b = true := by rw [← lt]; exact (r.known _ (memT_spec k1)).1
      subst hb
      exact StR.of h7 fun hT => ⟨_, fun w' _ => run hT w', ev_sound r (tagT_cons lt hT) h3⟩
    simp only [Bool.eq_false_iff.2 k1, cond_false] at h
    by_cases k2 : memT (t, false) σ.known = true
    · simp only [k2, cond_true, Option.bind_eq_some_iff] at h
      obtain ⟨v, h3, h7⟩ := h
      have hb : b = false := by
        have := (r.known _ (memT_spec k2)).1
        rw [lf] at this
        simpa using this
      subst hb
      exact StR.of h7 fun hT => ⟨_, fun w' _ => run hT w', ev_sound r (tagT_cons lf hT) h3⟩
    simp only [Bool.eq_false_iff.2 k2, cond_false, Option.bind_eq_some_iff] at h
    obtain ⟨v, h3, u, h4, h5⟩ := h
    have vx : tagT σ tg → b = true → PR σ.objs γ w v (a.eval x) := fun hT hb => ev_sound r (tagT_cons (by rw [lt, hb]) hT) h3
    have vy : tagT σ tg → b = false → PR σ.objs γ w u (a.eval y) := fun hT hb => ev_sound r (tagT_cons (by rw [lf, hb]; rfl) hT) h4
    by_cases c1 : isConstB false y = true
    · simp only [c1, cond_true, Option.bind_eq_some_iff] at h5
      obtain ⟨p, h6, h7⟩ := h5
      refine StR.of h7 fun hT => ⟨_, fun w' _ => run hT w', ?_⟩
      cases b
      · cases y <;> simp only [isConstB] at c1 <;> try (cases c1; done)
        rename_i z
        cases z <;> simp only [isConstB] at c1 <;> try (cases c1; done)
        rename_i c'
        cases c'
        · rfl
        · cases c1
      · have := vx hT rfl
        rw [asBool_spec h6] at this
        exact this
    · simp only [Bool.eq_false_iff.2 c1, cond_false] at h5
      by_cases c2 : isConstB true x = true
      · simp only [c2, cond_true, Option.bind_eq_some_iff] at h5
        obtain ⟨p, h6, h7⟩ := h5
        refine StR.of h7 fun hT => ⟨_, fun w' _ => run hT w', ?_⟩
        cases b
        · have := vy hT rfl
          rw [asBool_spec h6] at this
          exact this
        · cases x <;> simp only [isConstB] at c2 <;> try (cases c2; done)
          rename_i z
          cases z <;> simp only [isConstB] at c2 <;> try (cases c2; done)
          rename_i c'
          cases c'
          · cases c2
          · rfl
      · simp only [Bool.eq_false_iff.2 c2, cond_false, Option.bind_eq_some_iff] at h5
        obtain ⟨z, h6, h7⟩ := h5
        refine StR.of h7 fun hT => ⟨_, fun w' _ => run hT w', ?_⟩
        cases b
        · exact (mergeV_spec h6).2 rfl (vy hT rfl)
        · exact (mergeV_spec h6).1 rfl (vx hT rfl)
  | _ => simp [pickS] at h

/-! ### numbers, texts, plain structs -/
theorem eqAgg_run {t : TypeId} {xs ys : Array Value} {b : Bool} (h : eqAgg P t xs ys = some b) (w : World) : P.eqGuardType P.depth t = false ∧ (Op.equal t (.agg xs) (.agg ys)).run P w = .ok b w := by
  simp only [eqAgg, chk_some, Bool.and_eq_true, Bool.not_eq_true'] at h
  obtain ⟨⟨h1, h2⟩, h⟩ := h
  have hag : aggOf P t = some true := by
    unfold aggIs at h2
    split at h2
    · rename_i b hb; rw [hb, h2]
    · cases h2
  have he := (eqT_run (P := P) 40).1 Op.maxDepth t xs.toList ys.toList b w (by decide) h
  simp only [valC, hag] at he
  exact ⟨h1, he⟩
theorem scalar_run {ρ : Operand → Value} {v : Value} (h : scalar P ρ o = some v) (w : World) : (execOp ρ o).run P w = .ok (.value v) w := by
  obtain ⟨dst, op, type, pos, after, guard⟩ := o
  unfold scalar at h
  split at h
  · rename_i t x y t' heq
    subst heq
    split at h
    · rename_i xs ys hx hy
      simp only [Option.bind_eq_some_iff, Option.some.injEq] at h
      obtain ⟨b, h1, rfl⟩ := h
      obtain ⟨hg, he⟩ := eqAgg_run h1 w
      simp [execOp, eqGuard, binOp, hx, hy, he, hg, go_sem]
    · exact pureOf_run h w
  · rename_i t x y t' heq
    subst heq
    split at h
    · rename_i xs ys hx hy
      simp only [Option.bind_eq_some_iff, Option.some.injEq] at h
      obtain ⟨b, h1, rfl⟩ := h
      obtain ⟨hg, he⟩ := eqAgg_run h1 w
      simp [execOp, eqGuard, binOp, hx, hy, he, hg, go_sem]
    · exact pureOf_run h w
  · exact pureOf_run h w
theorem allPlain_spec (r : Rel F σ γ a w) (hT : tagT σ tg) : ∀ {l : List Operand}, allPlain σ tg l = true → ∀ x ∈ l, a.eval x = rho σ tg x
  | [], _, x, hx => by cases hx
  | y :: l, h, x, hx => by
    simp only [allPlain, Bool.and_eq_true, Option.isSome_iff_exists] at h
    rcases List.mem_cons.1 hx with rfl | hx
    · obtain ⟨⟨v, hv⟩, _⟩ := h
      obtain ⟨pv, h1, h2⟩ := Option.bind_eq_some_iff.1 hv
      rw [plain_spec h2 (ev_sound r hT h1)]
      simp [rho, hv]
    · exact allPlain_spec r hT h.2 x hx
theorem constPV_rep (v : Value) : PR σ.objs γ w (constPV v) v := by cases v <;> first | rfl | exact ⟨_, rfl, VRL.cvs _⟩
theorem st_scalar (r : Rel F σ γ a w) {l : List Operand} (hs : ∀ cs b, o.op ≠ .select cs b) (hl : ∀ x ∈ o.op.operands, x ∈ l) (h : scalarS P σ tg o l k = some res) : StR P σ γ a w tg o k res := by
  simp only [scalarS, chk_some, Option.bind_eq_some_iff] at h
  obtain ⟨h1, v, h2, h3⟩ := h
  refine StR.of h3 fun hT => ⟨v, fun w' _ => ?_, constPV_rep v⟩
  rw [execOp_congr o hs fun x hx => allPlain_spec r hT h1 x (hl x hx)]
  exact scalar_run h2 w'
theorem st_bin (r : Rel F σ γ a w) {op : BinOp} {t t' : TypeId} {x y : Operand} (ho : o.op = .binOp op t x y t') (hn : ∀ neg, (op = .eql ∧ neg = false ∨ op = .neq ∧ neg = true) → nilS P σ tg o t neg x y k = some res → StR P σ γ a w tg o k res) (h : binS P σ tg o op t x y k = some res) : StR P σ γ a w tg o k res := by
  have sc : scalarS P σ tg o [x, y] k = some res → StR P σ γ a w tg o k res := fun h => st_scalar r (fun cs b e => by rw [ho] at e; cases e) (fun z hz => by
    rw [ho] at hz; simpa [Op.operands] using hz) h
  cases op with
  | eql => exact hn false (.inl ⟨rfl, rfl⟩) h
  | neq => exact hn true (.inr ⟨rfl, rfl⟩) h
  | quo =>
    simp only [binS, Option.bind_eq_some_iff, chk_some, req_some] at h
    obtain ⟨u, h1, v, h2, ⟨ka, na⟩, h3, ⟨kb, nb⟩, h4, h5, h6, h7⟩ := h
    obtain rfl := sameKind_eq h5
    refine StR.of h7 fun hT => ⟨_, fun w' _ => ?_, rfl⟩
    have e1 := ev_int r hT h1 h3
    have e2 := ev_int r hT h2 h4
    have hne : ¬ nb = 0 := by simpa using imp_true h6 hT
    obtain ⟨dst, op, type, pos, after, guard⟩ := o
    simp only at ho
    subst ho
    generalize a.eval = ρ at e1 e2 ⊢
    simp [execOp, eqGuard, binOp, e1, e2, Op.intDiv, hne, go_sem]
  | rem =>
    simp only [binS, Option.bind_eq_some_iff, chk_some, req_some] at h
    obtain ⟨u, h1, v, h2, ⟨ka, na⟩, h3, ⟨kb, nb⟩, h4, h5, h6, h7⟩ := h
    obtain rfl := sameKind_eq h5
    refine StR.of h7 fun hT => ⟨_, fun w' _ => ?_, rfl⟩
    have e1 := ev_int r hT h1 h3
    have e2 := ev_int r hT h2 h4
    have hne : ¬ nb = 0 := by simpa using imp_true h6 hT
    obtain ⟨dst, op, type, pos, after, guard⟩ := o
    simp only at ho
    subst ho
    generalize a.eval = ρ at e1 e2 ⊢
    simp [execOp, eqGuard, binOp, e1, e2, Op.intDiv, hne, go_sem]
  | shl =>
    simp only [binS, Option.bind_eq_some_iff, chk_some, req_some] at h
    obtain ⟨u, h1, v, h2, ⟨ka, na⟩, h3, ⟨kb, nb⟩, h4, h6, h7⟩ := h
    refine StR.of h7 fun hT => ⟨_, fun w' _ => ?_, rfl⟩
    have e1 := ev_int r hT h1 h3
    have e2 := ev_int r hT h2 h4
    have hne : ¬ nb < 0 := by have := imp_true h6 hT; simp at this; omega
    obtain ⟨dst, op, type, pos, after, guard⟩ := o
    simp only at ho
    subst ho
    generalize a.eval = ρ at e1 e2 ⊢
    simp [execOp, eqGuard, binOp, e1, e2, Op.shift, hne, go_sem, shK]
  | shr =>
    simp only [binS, Option.bind_eq_some_iff, chk_some, req_some] at h
    obtain ⟨u, h1, v, h2, ⟨ka, na⟩, h3, ⟨kb, nb⟩, h4, h6, h7⟩ := h
    refine StR.of h7 fun hT => ⟨_, fun w' _ => ?_, rfl⟩
    have e1 := ev_int r hT h1 h3
    have e2 := ev_int r hT h2 h4
    have hne : ¬ nb < 0 := by have := imp_true h6 hT; simp at this; omega
    obtain ⟨dst, op, type, pos, after, guard⟩ := o
    simp only at ho
    subst ho
    generalize a.eval = ρ at e1 e2 ⊢
    simp [execOp, eqGuard, binOp, e1, e2, Op.shift, hne, go_sem, shK]
  | add =>
    simp only [binS] at h
    split at h
    · rename_i s1 s2 hs1 hs2
      obtain ⟨u, h1, h3⟩ := Option.bind_eq_some_iff.1 hs1
      obtain ⟨v, h2, h4⟩ := Option.bind_eq_some_iff.1 hs2
      obtain ⟨h6, h7⟩ := req_some.1 h
      refine StR.of h7 fun hT => ⟨_, fun w' _ => ?_, rfl⟩
      have e1 := ev_str r hT h1 h3
      have e2 := ev_str r hT h2 h4
      have hne : ¬ (((s1.size + s2.size : Nat) : Int) > IntKind.i64.max) := by have := Nat.le_of_ble_eq_true (imp_true h6 hT); have hmx : IntKind.i64.max = 9223372036854775807 := (by decide); (rw [hmx]; omega)
      obtain ⟨dst, op, type, pos, after, guard⟩ := o
      simp only at ho
      subst ho
      have hr : (Op.stringOp .add s1 s2) = pure (.string (s1 ++ s2)) := by unfold Op.stringOp; simp only; rw [if_neg hne]
      generalize a.eval = ρ at e1 e2 ⊢
      simp [execOp, eqGuard, binOp, e1, e2, hr, go_sem]
    · exact sc h
  | _ => exact sc h

/-! ### parts of structs and arrays -/
theorem partPV_spec {t : TypeId} {l : List Cv} {off : Nat} {pv : PV} {cs : List Value} (h : partPV P t l off = some pv) (hv : VRL σ.objs γ w l cs) : ∃ v, (∀ w', (part t cs.toArray off).run P w' = .ok v w') ∧ PR σ.objs γ w pv v ∧
    (∀ w' ad, CellsAt w' ad (cs.drop off) → (loadVar t ad).run P w' = .ok v w') := by
  simp only [partPV, Option.bind_eq_some_iff] at h
  obtain ⟨ag, h1, i, h2, h3⟩ := h
  cases ag
  · simp only [cond_false, Option.bind_eq_some_iff, Option.some.injEq] at h3
    obtain ⟨c, h4, rfl⟩ := h3
    have hl : l[off]? = some c := by rw [List.head?_drop] at h4; exact h4
    obtain ⟨v, h5, h6⟩ := hv.get hl
    refine ⟨v, fun w' => (part_run h2 w').2 h1 v ?_, h6, fun w' ad hc => ?_⟩
    · have hlt := (List.getElem?_eq_some_iff.1 h5).1
      rw [List.drop_eq_getElem_cons hlt]
      simp [(List.getElem?_eq_some_iff.1 h5).2]
    · have := hc 0 v (by simpa using h5)
      simp only [Addr.add, if_true] at this
      simp [loadVar, aggOf_run h1, this, go_sem]
  · simp only [cond_true, chk_some, Option.some.injEq] at h3
    obtain ⟨h4, rfl⟩ := h3
    refine ⟨.agg ((cs.drop off).take i.size).toArray, fun w' => (part_run h2 w').1 h1, ⟨_, rfl, by simpa using (hv.drop off).take i.size⟩, fun w' ad hc => ?_⟩
    have hlen : ((cs.drop off).take i.size).length = i.size := by
      have := hv.length
      have h5 := Nat.le_of_ble_eq_true h4
      simp; omega
    have hc' := CellsAt.take hc i.size
    have hr := loadCellsFrom_run (P := P) (w := w') (a := ad) ((cs.drop off).take i.size) 0 #[] (fun j v hv => by rw [Nat.zero_add]; exact hc' j v hv)
    rw [hlen] at hr
    simp [loadVar, aggOf_run h1, sizeOf, typeInfo, h2, loadCells, hr, go_sem]
theorem fieldOf_spec {t : TypeId} {f : Nat} {fd : Field} (h : fieldOf P t f = some fd) : ∃ fs, P.underlying t = some (.struct fs) ∧ fs[f]? = some fd := by
  simp only [fieldOf, Option.bind_eq_some_iff] at h
  obtain ⟨d, h1, h2⟩ := h
  cases d <;> simp at h2
  exact ⟨_, h1, by simpa using h2⟩
theorem st_field (r : Rel F σ γ a w) {t : TypeId} {x : Operand} {f : Nat} (ho : o.op = .field t x f) (h : ((ev σ tg x).bind fun v => (asAgg v).bind fun l => (fieldOf P t f).bind fun fd => (partPV P fd.type l fd.offset).bind k) = some res) : StR P σ γ a w tg o k res := by
  simp only [Option.bind_eq_some_iff] at h
  obtain ⟨pv, h1, l, h2, fd, h3, u, h4, h5⟩ := h
  refine StR.of h5 fun hT => ?_
  have hp := ev_sound r hT h1
  rw [asAgg_spec h2] at hp
  obtain ⟨cs, e, hl⟩ := hp
  obtain ⟨v, h6, h7, _⟩ := partPV_spec (P := P) h4 hl
  obtain ⟨fs, h8, h9⟩ := fieldOf_spec h3
  refine ⟨v, fun w' _ => ?_, h7⟩
  have h6' := h6 w'
  rw [Array.toArray_toList] at h6'
  obtain ⟨dst, op, type, pos, after, guard⟩ := o
  simp only at ho
  subst ho
  generalize a.eval = ρ at e ⊢
  simp only [execOp, Instr.field, Sem.run_bind, run_underlying h8, Result.andThen_ok, h9, e, Go.asAgg, Sem.run_pure, h6']
theorem sized_spec {t : TypeId} (h : sized P t = true) : ∃ i, P.info? t = some i ∧ i.size ≠ 0 := by
  unfold sized at h
  split at h
  · rename_i i hi
    refine ⟨i, hi, fun e => ?_⟩
    rw [e] at h; cases h
  · cases h
theorem fieldA_spec {off : Nat} {pv u : PV} {v : Value} (h : fieldA off pv = some u) (hv : PR σ.objs γ w pv v) : ∃ ad, v = .pointer (some ad) ∧ PR σ.objs γ w u (.pointer (some (ad.add off))) := by
  cases pv with
  | c c =>
    cases c <;> simp only [fieldA, Option.some.injEq] at h <;> try (cases h; done)
    subst h
    obtain ⟨h1, b, h2, rfl⟩ := hv
    exact ⟨_, rfl, h1, b, h2, by rw [adr_add]⟩
  | rp l =>
    simp only [fieldA, Option.some.injEq] at h
    subst h
    obtain ⟨ad, us, rfl, h0, h1, h2, h3⟩ := hv
    refine ⟨ad, rfl, ad.add off, us.drop off, rfl, by rw [add_block]; exact h0, fun hn => by rw [add_block]; exact h1 (fun e => hn (by simp [e])), CellsAt.drop h2 off, h3.drop off⟩
  | ep o sz i q =>
    simp only [fieldA, Option.some.injEq] at h
    subst h
    obtain ⟨h1, b, h2, rfl, h3⟩ := hv
    exact ⟨_, rfl, h1, b, h2, by rw [adr_add, Nat.add_assoc], h3⟩
  | pa o q sz cnt inner i =>
    simp only [fieldA, Option.some.injEq] at h
    subst h
    obtain ⟨h1, b, h2, h3, h4, rfl⟩ := hv
    exact ⟨_, rfl, h1, b, h2, h3, h4, by rw [adr_add, Nat.add_assoc]⟩
  | _ => simp [fieldA] at h
theorem st_fieldAddr (r : Rel F σ γ a w) {t : TypeId} {x : Operand} {f : Nat} (ho : o.op = .fieldAddr t x f) (h : ((ev σ tg x).bind fun v => (fieldOf P t f).bind fun fd => chk (sized P fd.type) ((fieldA fd.offset v).bind k)) = some res) : StR P σ γ a w tg o k res := by
  simp only [Option.bind_eq_some_iff, chk_some] at h
  obtain ⟨pv, h1, fd, h3, h4, u, h5, h6⟩ := h
  refine StR.of h6 fun hT => ?_
  obtain ⟨ad, e, hu⟩ := fieldA_spec h5 (ev_sound r hT h1)
  obtain ⟨fs, h8, h9⟩ := fieldOf_spec h3
  obtain ⟨i, hi, hz⟩ := sized_spec h4
  refine ⟨_, fun w' _ => ?_, hu⟩
  obtain ⟨dst, op, type, pos, after, guard⟩ := o
  simp only at ho
  subst ho
  generalize a.eval = ρ at e ⊢
  simp [execOp, Instr.fieldAt, Instr.sureAddr, fieldPlace, sizeOf, typeInfo, underlying, h8, h9, e, hi, hz, go_sem]
end
end Go.Den
