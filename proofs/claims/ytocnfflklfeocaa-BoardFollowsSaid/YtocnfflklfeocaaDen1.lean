/- What the abstract state of the interpreter says of memory. No condition of its own. -/
import Derived.Test.YtocnfflklfeocaaDen0
import Derived.Deep.AppendSrc
import Derived.Laws.IdiomCopy
import Derived.ArgAppend
namespace Go.Den
open Go.Eng
set_option linter.unusedVariables false
set_option linter.unusedSectionVars false
set_option linter.unusedSimpArgs false
variable [CT : Ctx]

theorem chk_some {α : Type} {b : Bool} {x : Option α} {r : α} : chk b x = some r ↔ b = true ∧ x = some r := by cases b <;> simp [chk]
theorem req_some {α : Type} {b : Bool} {x : Option α} {r : α} : req b x = some r ↔ b = true ∧ x = some r := by cases b <;> simp [req]

theorem arr_lt {A : Type} {a : Array A} {i : Nat} {x : A} (h : a[i]? = some x) : i < a.size := (Array.getElem?_eq_some_iff.1 h).1
/-! ### data in cells -/
def RepL {A : Type} (R : A → List Value → Prop) : List A → List Value → Prop
  | [], us => us = []
  | x :: xs, us => ∃ c r, us = c ++ r ∧ R x c ∧ RepL R xs r
/-- a block of cells of which none is frozen (a row that was made from a string bears its mark behind its end) -/
def Row (w : World) (b : Nat) (cur : Array Value) (i : TypeId) : Prop := ∃ fz : Nat × Nat, w.heap[b]? = some (.cells cur i fz) ∧ (fz = (0, 0) ∨ cur.size ≤ fz.1)
theorem Row.of {w : World} {b : Nat} {cur : Array Value} {i : TypeId} (h : w.heap[b]? = some (.cells cur i (0, 0))) : Row w b cur i := ⟨_, h, .inl rfl⟩
theorem Row.lt {w : World} {b : Nat} {cur : Array Value} {i : TypeId} (h : Row w b cur i) : b < w.heap.size := by
  obtain ⟨fz, h, _⟩ := h
  exact (Array.getElem?_eq_some_iff.1 h).1
theorem Row.eq {w : World} {b : Nat} {cur cur' : Array Value} {i i' : TypeId} (h : Row w b cur i) (h' : Row w b cur' i') : cur = cur' := by
  obtain ⟨fz, h, _⟩ := h
  obtain ⟨fz', h', _⟩ := h'
  rw [h] at h'
  simp only [Option.some.injEq, Obj.cells.injEq] at h'
  exact h'.1
theorem Row.keep {w w' : World} {b : Nat} {cur : Array Value} {i : TypeId} (h : Row w b cur i) (e : w'.heap[b]? = w.heap[b]?) : Row w' b cur i := by
  obtain ⟨fz, h, hf⟩ := h
  exact ⟨fz, e.trans h, hf⟩
theorem Row.fro {w : World} {b : Nat} {cur : Array Value} {i : TypeId} (h : Row w b cur i) {j : Nat} (hj : j < cur.size) : w.frozen? ⟨b, j, none⟩ = false := by
  obtain ⟨fz, h, hf⟩ := h
  rcases hf with rfl | hf
  · simp [World.frozen?, h]
  · simp only [World.frozen?, h]
    rw [decide_eq_false (by omega), Bool.false_and]
theorem Row.cell {w : World} {b : Nat} {cur : Array Value} {i : TypeId} (h : Row w b cur i) (j : Nat) : w.cell? ⟨b, j, none⟩ = cur[j]? := by
  obtain ⟨fz, h, _⟩ := h
  simp [World.cell?, h]
theorem Row.set {w : World} {b : Nat} {cur : Array Value} {i : TypeId} (h : Row w b cur i) (cs : Array Value) (hs : cs.size = cur.size) : Row (w.setRow b cs) b cs i := by
  obtain ⟨fz, h, hf⟩ := h
  exact ⟨fz, setRow_heap w b cur cs i fz h, by rw [hs]; exact hf⟩
theorem setCells_row {b : Nat} {i : TypeId} {fz : Nat × Nat} : ∀ (vs : List Value) (o : Nat) (cur : Array Value) (w : World), w.heap[b]? = some (.cells cur i fz) → o + vs.length ≤ cur.size →
    w.setCells b o vs = w.setRow b (cur.toList.take o ++ vs ++ cur.toList.drop (o + vs.length)).toArray
  | [], o, cur, w, h, _ => by
    simp only [World.setCells, List.append_nil, List.length_nil, Nat.add_zero, List.take_append_drop, Array.toArray_toList]
    exact (setRow_self w b cur i fz h).symm
  | v :: r, o, cur, w, h, hl => by
    simp only [List.length_cons] at hl
    have ih := setCells_row r (o + 1) (cur.setIfInBounds o v) (w.setRow b (cur.setIfInBounds o v)) (setRow_heap w b cur _ i _ h) (by simp; omega)
    simp only [World.setCells]
    rw [setCell_eq_setRow w b o cur i fz v h, ih, setRow_setRow]
    congr 2
    have e := list_seg_step cur.toList o v r (by simp; omega)
    simpa [Array.toList_setIfInBounds, Nat.add_assoc, Nat.add_comm 1] using e
/-- cells are stored into a row -/
theorem run_store_row {P : Program} {w : World} {b : Nat} {cur : Array Value} {i : TypeId} (h : Row w b cur i) (o : Nat) (vs : List Value) (hl : o + vs.length ≤ cur.size) (h1 : ∀ v ∈ vs, v.oneCell' = true) :
    (storeCells ⟨b, o, none⟩ vs 0).run P w = .ok () (w.setRow b (cur.toList.take o ++ vs ++ cur.toList.drop (o + vs.length)).toArray) := by
  have := run_storeCells_cells (P := P) b o vs 0 w (fun j hj => by rw [h.cell]; simp; omega) (fun j hj => h.fro (by omega)) h1
  rw [Nat.add_zero] at this
  rw [this]
  obtain ⟨fz, h, _⟩ := h
  rw [setCells_row vs o cur w h hl]
/-- a row that is owned -/
def OwnR (w : World) (i : TypeId) (size : Nat) (v : Value) (M : List Nat) (n : Nat) (us : List Value) : Prop :=
  (M = [] ∧ (∃ ao, v = .slice ao 0 0) ∧ n = 0 ∧ us = []) ∨
  ∃ b cap cur, M = [b] ∧ v = .slice (some ⟨b, 0, none⟩) n cap ∧ Row w b cur i ∧ n ≤ cap ∧ cap ≤ maxLen ∧ cur.size = cap * size ∧ cur.toList.take (n * size) = us
def Rep (w : World) (S : Nat → Prop) : (τ : Ty) → D τ → List Nat → List Value → Prop
  | .int k, n, M, cs => M = [] ∧ cs = [.int k n]
  | .bool, b, M, cs => M = [] ∧ cs = [.bool b]
  | .str, s, M, cs => M = [] ∧ cs = [.string s]
  | .sl e, xs, M, cs => M = [] ∧ ∃ ao cap us, cs = [.slice ao xs.length cap] ∧ xs.length ≤ cap ∧ RepL (fun x c => Rep w S e x [] c) xs us ∧ (xs ≠ [] → ∃ a, ao = some a ∧ S a.block ∧ CellsAt w a us)
  | .osl i e, xs, M, cs => ∃ v us, cs = [v] ∧ OwnR w i e.size v M xs.length us ∧ RepL (fun x c => Rep w S e x [] c) xs us
  | .obx e, x, M, cs => ∃ b M' T cells, M = b :: M' ∧ cs = [.pointer (some ⟨b, 0, none⟩)] ∧ w.heap[b]? = some (.cells cells T (0, 0)) ∧ Rep w S e x M' cells.toList
  | .err, b, M, cs => M = [] ∧ ∃ v, cs = [v] ∧ ((b = false ∧ v = .nilIface) ∨ (b = true ∧ ∃ t p, v = .iface t p))
  | .bld t i, xs, M, cs => ∃ b M' p v us, M = b :: M' ∧ cs = [.pointer (some ⟨b, 0, none⟩)] ∧ w.heap[b]? = some (.cells #[p, v] t (0, 0)) ∧ (p = .pointer none ∨ p = .pointer (some ⟨b, 0, none⟩)) ∧
      OwnR w i 1 v M' (List.length (α := Int) xs) us ∧ us = List.map (α := Int) (Value.int .u8) xs
  | .nil, _, M, cs => M = [] ∧ cs = []
  | .st f r, x, M, cs => ∃ c1 c2 M1 M2, cs = c1 ++ c2 ∧ M = M1 ++ M2 ∧ Rep w S f x.1 M1 c1 ∧ Rep w S r x.2 M2 c2

section
variable {A : Type} {R R' : A → List Value → Prop} {sz : Nat}
theorem RepL.mono (h : ∀ x c, R x c → R' x c) : ∀ {xs : List A} {us : List Value}, RepL R xs us → RepL R' xs us
  | [], _, h0 => h0
  | _ :: _, _, ⟨c, r, e, h1, h2⟩ => ⟨c, r, e, h _ _ h1, RepL.mono h h2⟩
theorem RepL.length (hs : ∀ x c, R x c → c.length = sz) : ∀ {xs : List A} {us : List Value}, RepL R xs us → us.length = xs.length * sz
  | [], _, h0 => by simp [RepL] at h0; simp [h0]
  | x :: xs, _, ⟨c, r, e, h1, h2⟩ => by
    rw [e, List.length_append, hs _ _ h1, RepL.length hs h2, List.length_cons, Nat.add_mul]; omega
theorem RepL.get (hs : ∀ x c, R x c → c.length = sz) : ∀ {xs : List A} {us : List Value} {j : Nat} {x : A}, RepL R xs us → xs[j]? = some x → R x ((us.drop (j * sz)).take sz)
  | [], _, j, x, _, hj => by simp at hj
  | y :: xs, _, 0, x, ⟨c, r, e, h1, h2⟩, hj => by
    simp at hj; subst hj; subst e
    rw [← hs _ _ h1]; simpa using h1
  | y :: xs, _, j + 1, x, ⟨c, r, e, h1, h2⟩, hj => by
    have := RepL.get hs (j := j) h2 (by simpa using hj)
    subst e
    rw [show (j + 1) * sz = c.length + j * sz by rw [hs _ _ h1, Nat.add_mul]; omega, ← List.drop_drop, List.drop_left]
    exact this
theorem RepL.append : ∀ {xs ys : List A} {us vs : List Value}, RepL R xs us → RepL R ys vs → RepL R (xs ++ ys) (us ++ vs)
  | [], _, _, _, h0, h => by simp [RepL] at h0; simpa [h0] using h
  | _ :: _, _, _, vs, ⟨c, r, e, h1, h2⟩, h => ⟨c, r ++ vs, by simp [e], h1, RepL.append h2 h⟩
theorem RepL.take (hs : ∀ x c, R x c → c.length = sz) : ∀ {xs : List A} {us : List Value} (k : Nat), RepL R xs us → RepL R (xs.take k) (us.take (k * sz))
  | [], _, k, h0 => by simp [RepL] at h0; simp [h0, RepL]
  | x :: xs, _, 0, _ => by simp [RepL]
  | x :: xs, _, k + 1, ⟨c, r, e, h1, h2⟩ => by
    subst e
    refine ⟨c, r.take (k * sz), ?_, h1, RepL.take hs k h2⟩
    rw [List.take_append, hs _ _ h1, show (k + 1) * sz - sz = k * sz by rw [Nat.add_mul]; omega, List.take_of_length_le (by rw [hs _ _ h1, Nat.add_mul]; omega)]
theorem RepL.drop (hs : ∀ x c, R x c → c.length = sz) : ∀ {xs : List A} {us : List Value} (k : Nat), RepL R xs us → RepL R (xs.drop k) (us.drop (k * sz))
  | [], _, k, h0 => by simp [RepL] at h0; simp [h0, RepL]
  | x :: xs, _, 0, h => by simpa using h
  | x :: xs, _, k + 1, ⟨c, r, e, h1, h2⟩ => by
    subst e
    rw [List.drop_succ_cons, show (k + 1) * sz = c.length + k * sz by rw [hs _ _ h1, Nat.add_mul]; omega, ← List.drop_drop, List.drop_left]
    exact RepL.drop hs k h2
theorem RepL.set (hs : ∀ x c, R x c → c.length = sz) {d : A} {cd : List Value} (hd : R d cd) : ∀ {xs : List A} {us : List Value} (k : Nat), k < xs.length → RepL R xs us → RepL R (xs.set k d) (us.take (k * sz) ++ cd ++ us.drop (k * sz + sz))
  | [], _, k, hk, _ => by simp at hk
  | x :: xs, _, 0, _, ⟨c, r, e, h1, h2⟩ => by
    subst e
    refine ⟨cd, r, ?_, hd, h2⟩
    rw [← hs _ _ h1]; simp
  | x :: xs, _, k + 1, hk, ⟨c, r, e, h1, h2⟩ => by
    subst e
    refine ⟨c, r.take (k * sz) ++ cd ++ r.drop (k * sz + sz), ?_, h1, RepL.set hs hd k (by simpa using hk) h2⟩
    have e1 : (k + 1) * sz = c.length + k * sz := by rw [hs _ _ h1, Nat.add_mul]; omega
    rw [e1, List.take_length_add_append, Nat.add_assoc, ← List.drop_drop, List.drop_left]
    simp
theorem RepL.replicate {d : A} {cd : List Value} (hd : R d cd) : ∀ n : Nat, RepL R (List.replicate n d) (List.replicate n cd).flatten
  | 0 => rfl
  | n + 1 => ⟨cd, _, by simp [List.replicate_succ], hd, RepL.replicate hd n⟩
theorem RepL.all {p : Value → Bool} (hs : ∀ x c, R x c → ∀ u ∈ c, p u = true) : ∀ {xs : List A} {us : List Value}, RepL R xs us → ∀ u ∈ us, p u = true
  | [], _, h0, u, hu => by simp [RepL] at h0; subst h0; cases hu
  | _ :: _, _, ⟨c, r, e, h1, h2⟩, u, hu => by
    subst e
    rcases List.mem_append.1 hu with h | h
    · exact hs _ _ h1 u h
    · exact RepL.all hs h2 u h
end

theorem OwnR.mono {w w' : World} {i : TypeId} {size : Nat} {v : Value} {M : List Nat} {n : Nat} {us : List Value} (h : OwnR w i size v M n us) (hM : ∀ b ∈ M, w'.heap[b]? = w.heap[b]?) : OwnR w' i size v M n us := by
  rcases h with h | ⟨b, cap, cur, h1, h2, h3, h4⟩
  · exact .inl h
  · exact .inr ⟨b, cap, cur, h1, h2, h3.keep (hM b (by simp [h1])), h4⟩
theorem CellsAt.mono {w w' : World} {a : Addr} {us : List Value} (h : CellsAt w a us) (he : w'.heap[a.block]? = w.heap[a.block]?) : CellsAt w' a us := by
  intro j v hv
  have e : w'.heap[(a.add j).block]? = w.heap[(a.add j).block]? := by rw [add_block]; exact he
  exact (World.cell?_of_block e).trans (h j v hv)
theorem Rep.mono {w w' : World} {S S' : Nat → Prop} (hS : ∀ k, S k → S' k) (hw : ∀ k, S k → w'.heap[k]? = w.heap[k]?) : ∀ (τ : Ty) {x : D τ} {M : List Nat} {cs : List Value},
    Rep w S τ x M cs → (∀ b ∈ M, w'.heap[b]? = w.heap[b]?) → Rep w' S' τ x M cs
  | .int _, _, _, _, h, _ => h
  | .bool, _, _, _, h, _ => h
  | .str, _, _, _, h, _ => h
  | .nil, _, _, _, h, _ => h
  | .sl e, xs, M, cs, h, _ => by
    obtain ⟨hM, ao, cap, us, h1, h2, h3, h4⟩ := h
    refine ⟨hM, ao, cap, us, h1, h2, h3.mono fun x c hx => Rep.mono hS hw e hx (by simp), fun hne => ?_⟩
    obtain ⟨a, e1, e2, e3⟩ := h4 hne
    exact ⟨a, e1, hS _ e2, CellsAt.mono e3 (hw _ e2)⟩
  | .osl i e, xs, M, cs, h, hM => by
    obtain ⟨v, us, h1, h2, h3⟩ := h
    exact ⟨v, us, h1, h2.mono hM, h3.mono fun x c hx => Rep.mono hS hw e hx (by simp)⟩
  | .obx e, x, M, cs, h, hM => by
    obtain ⟨b, M', T, cells, h1, h2, h3, h4⟩ := h
    subst h1
    exact ⟨b, M', T, cells, rfl, h2, (hM b (by simp)).trans h3, Rep.mono hS hw e h4 (fun b hb => hM b (by simp [hb]))⟩
  | .err, _, _, _, h, _ => h
  | .bld t i, xs, M, cs, h, hM => by
    obtain ⟨b, M', p, v, us, h1, h2, h3, h4, h5, h6⟩ := h
    subst h1
    exact ⟨b, M', p, v, us, rfl, h2, (hM b (by simp)).trans h3, h4, h5.mono fun b hb => hM b (by simp [hb]), h6⟩
  | .st f r, x, M, cs, h, hM => by
    obtain ⟨c1, c2, M1, M2, h1, h2, h3, h4⟩ := h
    subst h2
    exact ⟨c1, c2, M1, M2, h1, rfl, Rep.mono hS hw f h3 (fun b hb => hM b (by simp [hb])), Rep.mono hS hw r h4 (fun b hb => hM b (by simp [hb]))⟩
theorem Rep.length {w : World} {S : Nat → Prop} : ∀ (τ : Ty) {x : D τ} {M : List Nat} {cs : List Value}, Rep w S τ x M cs → cs.length = τ.size
  | .int _, _, _, _, h => by rw [h.2]; rfl
  | .bool, _, _, _, h => by rw [h.2]; rfl
  | .str, _, _, _, h => by rw [h.2]; rfl
  | .nil, _, _, _, h => by rw [h.2]; rfl
  | .sl e, _, _, _, ⟨_, _, _, _, h, _⟩ => by rw [h]; rfl
  | .osl _ _, _, _, _, ⟨_, _, h, _⟩ => by rw [h]; rfl
  | .obx _, _, _, _, ⟨_, _, _, _, _, h, _⟩ => by rw [h]; rfl
  | .err, _, _, _, ⟨_, _, h, _⟩ => by rw [h]; rfl
  | .bld _ _, _, _, _, ⟨_, _, _, _, _, _, h, _⟩ => by rw [h]; rfl
  | .st f r, _, _, _, ⟨_, _, _, _, h, _, h1, h2⟩ => by rw [h, List.length_append, Rep.length f h1, Rep.length r h2]; rfl
theorem Rep.one {w : World} {S : Nat → Prop} : ∀ (τ : Ty) {x : D τ} {M : List Nat} {cs : List Value}, Rep w S τ x M cs → ∀ u ∈ cs, u.oneCell' = true
  | .int _, _, _, _, h, u, hu => by rw [h.2] at hu; simp at hu; subst hu; rfl
  | .bool, _, _, _, h, u, hu => by rw [h.2] at hu; simp at hu; subst hu; rfl
  | .str, _, _, _, h, u, hu => by rw [h.2] at hu; simp at hu; subst hu; rfl
  | .nil, _, _, _, h, u, hu => by rw [h.2] at hu; cases hu
  | .sl e, _, _, _, ⟨_, _, _, _, h, _⟩, u, hu => by rw [h] at hu; simp at hu; subst hu; rfl
  | .osl _ _, _, _, _, ⟨v, _, h, h2, _⟩, u, hu => by
    rw [h] at hu; simp at hu; subst hu
    rcases h2 with ⟨_, ⟨_, rfl⟩, _⟩ | ⟨_, _, _, _, rfl, _⟩ <;> rfl
  | .obx _, _, _, _, ⟨_, _, _, _, _, h, _⟩, u, hu => by rw [h] at hu; simp at hu; subst hu; rfl
  | .err, _, _, _, ⟨_, v, h, h2⟩, u, hu => by
    rw [h] at hu; simp at hu; subst hu
    rcases h2 with ⟨_, rfl⟩ | ⟨_, _, _, rfl⟩ <;> rfl
  | .bld _ _, _, _, _, ⟨_, _, _, _, _, _, h, _⟩, u, hu => by rw [h] at hu; simp at hu; subst hu; rfl
  | .st f r, _, _, _, ⟨_, _, _, _, h, _, h1, h2⟩, u, hu => by
    rw [h] at hu
    rcases List.mem_append.1 hu with h3 | h3
    · exact Rep.one f h1 u h3
    · exact Rep.one r h2 u h3

/-! ### objects and cells -/
/-- what is known of the objects (their value, their block), and where data may lie -/
structure Gh where
  g : Nat → Value × Option Nat
  S : Nat → Prop
instance : CoeFun Gh fun _ => Nat → Value × Option Nat := ⟨Gh.g⟩
def mutOb : OB → Bool
  | .box _ => true
  | .arr _ _ _ fz => !fz
  | .dead => false
  | .bld _ _ => true
def Mut (objs : List OB) (o : Nat) : Prop := ∃ ob, objs[o]? = some ob ∧ mutOb ob = true
/-- a block that nobody writes -/
structure Imm (objs : List OB) (γ : Gh) (w : World) (k : Nat) : Prop where
  lt : k < w.heap.size
  s : γ.S k
  own : ∀ o, Mut objs o → (γ o).2 ≠ some k
def PtrL (γ : Gh) : List (Nat × Nat) → List Value → Prop
  | [], l => l = []
  | (o, off) :: r, l => ∃ b q, l = .pointer (some ⟨b, off, none⟩) :: q ∧ (γ o).2 = some b ∧ PtrL γ r q
def capsLt (n : Nat) : List (Nat × Nat) → Prop
  | [] => True
  | q :: r => q.1 < n ∧ capsLt n r
def VR (objs : List OB) (γ : Gh) (w : World) : Cv → Value → Prop
  | .v x, v => v = x
  | .sl e xs, v => Rep w (Imm objs γ w) (.sl e) xs [] [v]
  | .os o, v => o < objs.length ∧ v = (γ o).1 ∧ ∃ ao n c, v = .slice ao n c
  | .ptr o off, v => o < objs.length ∧ ∃ b, (γ o).2 = some b ∧ v = .pointer (some ⟨b, off, none⟩)
  | .fn f caps, v => capsLt objs.length caps ∧ ∃ l, v = .func (.func f) #[] l.toArray ∧ PtrL γ caps l
  | .e0, v => ∃ ao, v = .slice ao 0 0
  | .er b, v => (b = false ∧ v = .nilIface) ∨ (b = true ∧ ∃ t p, v = .iface t p)
def VRL (objs : List OB) (γ : Gh) (w : World) : List Cv → List Value → Prop
  | [], vs => vs = []
  | c :: l, vs => ∃ v r, vs = v :: r ∧ VR objs γ w c v ∧ VRL objs γ w l r
def PWR (objs : List OB) (γ : Gh) (w : World) : PW → Value → Prop
  | .c x, v => VR objs γ w x v
  | .agg l, v => ∃ cs, v = .agg cs ∧ VRL objs γ w l cs.toList
def PWL (objs : List OB) (γ : Gh) (w : World) : List PW → List Value → Prop
  | [], vs => vs = []
  | c :: l, vs => ∃ v r, vs = v :: r ∧ PWR objs γ w c v ∧ PWL objs γ w l r
def PR (objs : List OB) (γ : Gh) (w : World) : PV → Value → Prop
  | .c x, v => VR objs γ w x v
  | .agg l, v => ∃ cs, v = .agg cs ∧ VRL objs γ w l cs.toList
  | .tup l, v => ∃ vs, v = .tuple vs ∧ PWL objs γ w l vs.toList
  | .rp l, v => ∃ a us, v = .pointer (some a) ∧ a.block < w.heap.size ∧ (us ≠ [] → Imm objs γ w a.block) ∧ CellsAt w a us ∧ VRL objs γ w l us
  | .ep o sz i off, v => o < objs.length ∧ ∃ b, (γ o).2 = some b ∧ v = .pointer (some ⟨b, i * sz + off, none⟩) ∧ ∃ ao0 n0 c0, (γ o).1 = .slice ao0 n0 c0 ∧ i < n0
  | .pa o off sz cnt inner i, v => o < objs.length ∧ ∃ b, (γ o).2 = some b ∧ 0 ≤ i ∧ i < (cnt : Int) ∧ v = .pointer (some ⟨b, off + i.toNat * sz + inner, none⟩)
  | .vw o sz lo n, v => o < objs.length ∧ ∃ ao0 n0 c0 ao cap, (γ o).1 = .slice ao0 n0 c0 ∧ lo + n ≤ n0 ∧ v = .slice ao n cap ∧ n ≤ cap ∧ (0 < n → ∃ b, (γ o).2 = some b ∧ ao = some ⟨b, lo * sz, none⟩) ∧ cap + lo = c0 ∧ (lo = 0 → ao = ao0)
def ObR (objs : List OB) (γ : Gh) (w : World) : OB → Value × Option Nat → Prop
  | .box l, g => ∃ b T cs, g = (.pointer (some ⟨b, 0, none⟩), some b) ∧ w.heap[b]? = some (.cells cs T (0, 0)) ∧ VRL objs γ w l cs.toList
  | .arr i e xs _, g => ∃ us, OwnR w i e.size g.1 g.2.toList xs.length us ∧ RepL (fun x c => Rep w (Imm objs γ w) e x [] c) xs us
  | .dead, _ => True
  | .bld t c, g => ∃ b p v, g = (.pointer (some ⟨b, 0, none⟩), some b) ∧ w.heap[b]? = some (.cells #[p, v] t (0, 0)) ∧ (p = .pointer none ∨ p = .pointer (some ⟨b, 0, none⟩)) ∧ VR objs γ w c v

theorem ObR.len {objs : List OB} {γ : Gh} {w : World} {i : TypeId} {e : Ty} {xs : List (D e)} {fz : Bool} {g : Value × Option Nat} (h : ObR objs γ w (.arr i e xs fz) g) {ao : Option Addr} {n c : Nat} (hg : g.1 = .slice ao n c) : n = xs.length := by
  obtain ⟨us, h9, _⟩ := h
  rcases h9 with ⟨_, ⟨ao1, h10⟩, h11, _⟩ | ⟨b1, cap1, cur, _, h10, _⟩
  · rw [hg] at h10
    simp only [Value.slice.injEq] at h10
    omega
  · rw [hg] at h10
    simp only [Value.slice.injEq] at h10
    exact h10.2.1
theorem VRL.length {objs : List OB} {γ : Gh} {w : World} : ∀ {l : List Cv} {vs : List Value}, VRL objs γ w l vs → vs.length = l.length
  | [], _, h => by simp [VRL] at h; simp [h]
  | _ :: _, _, ⟨_, _, e, _, h⟩ => by simp [e, VRL.length h]
theorem VRL.append {objs : List OB} {γ : Gh} {w : World} : ∀ {l r : List Cv} {us vs : List Value}, VRL objs γ w l us → VRL objs γ w r vs → VRL objs γ w (l ++ r) (us ++ vs)
  | [], _, _, _, h, g => by simp [VRL] at h; simpa [h] using g
  | _ :: _, _, _, vs, ⟨v, q, e, h1, h2⟩, g => ⟨v, q ++ vs, by simp [e], h1, VRL.append h2 g⟩
theorem VRL.take {objs : List OB} {γ : Gh} {w : World} : ∀ {l : List Cv} {vs : List Value} (k : Nat), VRL objs γ w l vs → VRL objs γ w (l.take k) (vs.take k)
  | [], _, _, h => by simp [VRL] at h; simp [h, VRL]
  | _ :: _, _, 0, _ => by simp [VRL]
  | _ :: _, _, k + 1, ⟨v, q, e, h1, h2⟩ => ⟨v, q.take k, by simp [e], h1, VRL.take k h2⟩
theorem VRL.drop {objs : List OB} {γ : Gh} {w : World} : ∀ {l : List Cv} {vs : List Value} (k : Nat), VRL objs γ w l vs → VRL objs γ w (l.drop k) (vs.drop k)
  | [], _, _, h => by simp [VRL] at h; simp [h, VRL]
  | _ :: _, _, 0, h => by simpa using h
  | _ :: _, _, k + 1, ⟨v, q, e, h1, h2⟩ => by subst e; simpa using VRL.drop k h2
theorem VRL.get {objs : List OB} {γ : Gh} {w : World} : ∀ {l : List Cv} {vs : List Value} {k : Nat} {c : Cv}, VRL objs γ w l vs → l[k]? = some c → ∃ v, vs[k]? = some v ∧ VR objs γ w c v
  | [], _, _, _, _, hk => by simp at hk
  | _ :: _, _, 0, _, ⟨v, q, e, h1, h2⟩, hk => by simp at hk; subst hk; exact ⟨v, by simp [e], h1⟩
  | _ :: _, _, k + 1, _, ⟨v, q, e, h1, h2⟩, hk => by
    obtain ⟨u, hu, hr⟩ := VRL.get h2 (by simpa using hk)
    exact ⟨u, by simpa [e] using hu, hr⟩
theorem VRL.split {objs : List OB} {γ : Gh} {w : World} : ∀ {l r : List Cv} {vs : List Value}, VRL objs γ w (l ++ r) vs → ∃ us qs, vs = us ++ qs ∧ VRL objs γ w l us ∧ VRL objs γ w r qs
  | [], _, vs, h => ⟨[], vs, rfl, rfl, h⟩
  | _ :: _, _, _, ⟨v, q, e, h1, h2⟩ => by
    obtain ⟨us, qs, e2, h3, h4⟩ := VRL.split h2
    exact ⟨v :: us, qs, by simp [e, e2], ⟨v, us, rfl, h1, h3⟩, h4⟩
theorem VRL.cvs {objs : List OB} {γ : Gh} {w : World} : ∀ (l : List Value), VRL objs γ w (cvs l) l
  | [] => rfl
  | v :: r => ⟨v, r, rfl, rfl, VRL.cvs r⟩

/-! ### what stays when things change -/
/-- the numbers of objects in it are below n -/
def Cv.below (n : Nat) : Cv → Prop
  | .os o => o < n
  | .ptr o _ => o < n
  | .fn _ caps => capsLt n caps
  | _ => True
def CvL.below (n : Nat) : List Cv → Prop
  | [] => True
  | c :: r => c.below n ∧ CvL.below n r
def PW.below (n : Nat) : PW → Prop
  | .c x => x.below n
  | .agg l => CvL.below n l
def PWL.below (n : Nat) : List PW → Prop
  | [] => True
  | c :: r => c.below n ∧ PWL.below n r
def PV.below (n : Nat) : PV → Prop
  | .c x => x.below n
  | .agg l => CvL.below n l
  | .tup l => PWL.below n l
  | .rp l => CvL.below n l
  | .ep o _ _ _ => o < n
  | .pa o _ _ _ _ _ => o < n
  | .vw o _ _ _ => o < n

section
variable {objs objs' : List OB} {γ γ' : Gh} {w w' : World} {n : Nat}
/-- a change that keeps what is known of cells that name objects below n -/
structure Keep (objs : List OB) (γ : Gh) (w : World) (objs' : List OB) (γ' : Gh) (w' : World) (n : Nat) : Prop where
  imm : ∀ k, Imm objs γ w k → Imm objs' γ' w' k
  heap : ∀ k, Imm objs γ w k → w'.heap[k]? = w.heap[k]?
  len : n ≤ objs'.length
  gh : ∀ o, o < n → γ' o = γ o
  size : w.heap.size ≤ w'.heap.size
  s : γ'.S = γ.S

theorem Rep.keep (h : Keep objs γ w objs' γ' w' n) {τ : Ty} {x : D τ} {cs : List Value} (hr : Rep w (Imm objs γ w) τ x [] cs) : Rep w' (Imm objs' γ' w') τ x [] cs :=
  Rep.mono h.imm h.heap τ hr (by simp)
theorem RepL.keep (h : Keep objs γ w objs' γ' w' n) {τ : Ty} {xs : List (D τ)} {us : List Value} (hr : RepL (fun x c => Rep w (Imm objs γ w) τ x [] c) xs us) : RepL (fun x c => Rep w' (Imm objs' γ' w') τ x [] c) xs us :=
  hr.mono fun _ _ => Rep.keep h
theorem PtrL.keep (hg : ∀ o, o < n → γ' o = γ o) : ∀ {caps : List (Nat × Nat)} {l : List Value}, capsLt n caps → PtrL γ caps l → PtrL γ' caps l
  | [], _, _, h => h
  | (o, off) :: r, _, hb, ⟨b, q, e, h1, h2⟩ => ⟨b, q, e, by rw [hg o hb.1]; exact h1, PtrL.keep hg hb.2 h2⟩
theorem capsLt.mono {m : Nat} (h : n ≤ m) : ∀ {caps : List (Nat × Nat)}, capsLt n caps → capsLt m caps
  | [], _ => trivial
  | _ :: _, hb => ⟨Nat.lt_of_lt_of_le hb.1 h, capsLt.mono h hb.2⟩
theorem VR.keep (h : Keep objs γ w objs' γ' w' n) {c : Cv} {v : Value} (hb : c.below n) (hr : VR objs γ w c v) : VR objs' γ' w' c v := by
  cases c with
  | v x => exact hr
  | sl e xs => exact Rep.keep h (τ := .sl e) hr
  | os o => exact ⟨Nat.lt_of_lt_of_le hb h.len, by rw [h.gh o hb]; exact hr.2.1, hr.2.2⟩
  | ptr o off => exact ⟨Nat.lt_of_lt_of_le hb h.len, by rw [h.gh o hb]; exact hr.2⟩
  | fn f caps =>
    obtain ⟨_, l, e, h1⟩ := hr
    exact ⟨capsLt.mono h.len hb, l, e, PtrL.keep h.gh hb h1⟩
  | e0 => exact hr
  | er b => exact hr
theorem VRL.keep (h : Keep objs γ w objs' γ' w' n) : ∀ {l : List Cv} {vs : List Value}, CvL.below n l → VRL objs γ w l vs → VRL objs' γ' w' l vs
  | [], _, _, hr => hr
  | _ :: _, _, hb, ⟨v, r, e, h1, h2⟩ => ⟨v, r, e, VR.keep h hb.1 h1, VRL.keep h hb.2 h2⟩
theorem PWR.keep (h : Keep objs γ w objs' γ' w' n) {p : PW} {v : Value} (hb : p.below n) (hr : PWR objs γ w p v) : PWR objs' γ' w' p v := by
  cases p with
  | c x => exact VR.keep h hb hr
  | agg l => obtain ⟨cs, e, h1⟩ := hr; exact ⟨cs, e, VRL.keep h hb h1⟩
theorem PWL.keep (h : Keep objs γ w objs' γ' w' n) : ∀ {l : List PW} {vs : List Value}, PWL.below n l → PWL objs γ w l vs → PWL objs' γ' w' l vs
  | [], _, _, hr => hr
  | _ :: _, _, hb, ⟨v, r, e, h1, h2⟩ => ⟨v, r, e, PWR.keep h hb.1 h1, PWL.keep h hb.2 h2⟩
/-- rows keep their lengths -/
def SameLen (objs objs' : List OB) : Prop := ∀ o ti e xs fz, objs'[o]? = some (.arr ti e xs fz) → o < objs.length → ∃ ti' e' xs' fz', objs[o]? = some (.arr ti' e' xs' fz') ∧ xs'.length = xs.length
theorem PR.keep (h : Keep objs γ w objs' γ' w' n) {p : PV} {v : Value} (hb : p.below n) (hs : stable p = true ∨ SameLen objs objs') (hr : PR objs γ w p v) : PR objs' γ' w' p v := by
  cases p with
  | c x => exact VR.keep h hb hr
  | agg l => obtain ⟨cs, e, h1⟩ := hr; exact ⟨cs, e, VRL.keep h hb h1⟩
  | tup l => obtain ⟨cs, e, h1⟩ := hr; exact ⟨cs, e, PWL.keep h hb h1⟩
  | rp l =>
    obtain ⟨a, us, e, hl, h1, h2, h3⟩ := hr
    refine ⟨a, us, e, Nat.lt_of_lt_of_le hl h.size, fun hne => h.imm _ (h1 hne), ?_, VRL.keep h hb h3⟩
    by_cases hne : us = []
    · subst hne; intro j v hv; simp at hv
    · exact CellsAt.mono h2 (h.heap _ (h1 hne))
  | ep o sz i off => exact ⟨Nat.lt_of_lt_of_le hb h.len, by rw [h.gh o hb]; exact hr.2⟩
  | pa o off sz cnt inner i =>
    obtain ⟨_, b, h1, h2⟩ := hr
    exact ⟨Nat.lt_of_lt_of_le hb h.len, b, by rw [h.gh o hb]; exact h1, h2⟩
  | vw o sz lo n => exact ⟨Nat.lt_of_lt_of_le hb h.len, by rw [h.gh o hb]; exact hr.2⟩
theorem VR.below {c : Cv} {v : Value} (h : VR objs γ w c v) : c.below objs.length := by
  cases c with
  | v x => trivial
  | sl e xs => trivial
  | e0 => trivial
  | er b => trivial
  | os o => exact h.1
  | ptr o off => exact h.1
  | fn f caps => exact h.1
theorem VRL.below : ∀ {l : List Cv} {vs : List Value}, VRL objs γ w l vs → CvL.below objs.length l
  | [], _, _ => trivial
  | _ :: _, _, ⟨_, _, _, h1, h2⟩ => ⟨h1.below, VRL.below h2⟩
theorem PWR.below {p : PW} {v : Value} (h : PWR objs γ w p v) : p.below objs.length := by
  cases p with
  | c x => exact VR.below h
  | agg l => obtain ⟨cs, _, h1⟩ := h; exact VRL.below h1
theorem PWL.below' : ∀ {l : List PW} {vs : List Value}, PWL objs γ w l vs → PWL.below objs.length l
  | [], _, _ => trivial
  | _ :: _, _, ⟨_, _, _, h1, h2⟩ => ⟨PWR.below h1, PWL.below' h2⟩
theorem PR.below {p : PV} {v : Value} (h : PR objs γ w p v) : p.below objs.length := by
  cases p with
  | c x => exact VR.below h
  | agg l => obtain ⟨cs, _, h1⟩ := h; exact VRL.below h1
  | tup l => obtain ⟨cs, _, h1⟩ := h; exact PWL.below' h1
  | rp l => obtain ⟨a, us, _, _, _, _, h1⟩ := h; exact VRL.below h1
  | ep o sz i off => exact h.1
  | pa o off sz cnt inner i => exact h.1
  | vw o sz lo n => exact h.1
/-- an object, if nothing happens to its block -/
theorem ObR.keep (h : Keep objs γ w objs' γ' w' objs.length) {ob : OB} {g : Value × Option Nat} (hb : ∀ b, g.2 = some b → w'.heap[b]? = w.heap[b]?) (hr : ObR objs γ w ob g) : ObR objs' γ' w' ob g := by
  cases ob with
  | box l =>
    obtain ⟨b, T, cs, e, h1, h2⟩ := hr
    exact ⟨b, T, cs, e, (hb b (by simp [e])).trans h1, VRL.keep h h2.below h2⟩
  | arr i e xs fz =>
    obtain ⟨us, h1, h2⟩ := hr
    exact ⟨us, h1.mono fun b hm => hb b (by simpa using hm), RepL.keep h h2⟩
  | dead => trivial
  | bld t c =>
    obtain ⟨b, p, v, e, h1, h2, h3⟩ := hr
    exact ⟨b, p, v, e, (hb b (by simp [e])).trans h1, h2, VR.keep h h3.below h3⟩
end

/-- the package-level tables lie where nobody writes -/
structure TabR (S : Nat → Prop) (w : World) : Prop where
  tab : ∀ g cs, tabOf g = some cs → S g ∧ ∃ T fz, w.heap[g]? = some (.cells cs.toArray T fz)
  opn : ∀ g e, (g, e) ∈ Ctx.opens → S g ∧ ∃ v T fz, w.heap[g]? = some (.cells #[v] T fz) ∧ (if e = true then v = .nilIface ∨ ∃ te pe, v = .iface te pe else ∃ m, v = .int .i64 m)
theorem TabR.mono {S S' : Nat → Prop} {w w' : World} (h : TabR S w) (hS : ∀ k, S k → S' k) (hw : ∀ k, S k → w'.heap[k]? = w.heap[k]?) : TabR S' w' where
  tab g cs hg := by
    obtain ⟨h1, h2⟩ := h.tab g cs hg
    exact ⟨hS g h1, by rw [hw g h1]; exact h2⟩
  opn g e hg := by
    obtain ⟨h1, h2⟩ := h.opn g e hg
    exact ⟨hS g h1, by rw [hw g h1]; exact h2⟩
theorem TabR.cells {S : Nat → Prop} {w : World} (h : TabR S w) {g : Nat} {cs : List Value} (hg : tabOf g = some cs) : S g ∧ CellsAt w ⟨g, 0, none⟩ cs := by
  obtain ⟨h1, T, fz, h2⟩ := h.tab g cs hg
  refine ⟨h1, fun j v hj => ?_⟩
  have hj' := (List.getElem?_eq_some_iff.1 hj)
  by_cases h0 : j = 0
  · subst h0; simp [World.cell?, Addr.add, h2, hj]
  · simp [World.cell?, Addr.add, h0, h2, hj]
theorem tabR_nil {S : Nat → Prop} {w : World} (h : Ctx.tabs = []) (h' : Ctx.opens = []) : TabR S w where
  tab g cs hg := by
    rw [tabOf, h] at hg
    cases hg
  opn g e hg := by
    rw [h'] at hg
    cases hg
/-! ### the whole state -/
structure Fr where
  w0 : World
  M : List Nat
def tagT (σ : AState) (tg : Tag) : Prop := ∀ x ∈ tg, litB σ x = true
/-- objects and the world -/
structure ORel (F : Fr) (objs : List OB) (γ : Gh) (w : World) : Prop where
  rep : ∀ o ob, objs[o]? = some ob → ObR objs γ w ob (γ o)
  inj : ∀ o o' b, Mut objs o → Mut objs o' → (γ o).2 = some b → (γ o').2 = some b → o = o'
  own : ∀ o b, Mut objs o → (γ o).2 = some b → F.w0.heap.size ≤ b ∨ b ∈ F.M
  lt : ∀ o b, o < objs.length → (γ o).2 = some b → b < w.heap.size
  chg : Chg F.M F.w0 w
  frz : ∀ o i e xs b, objs[o]? = some (.arr i e xs true) → (γ o).2 = some b → Imm objs γ w b
  up : ∀ k, F.w0.heap.size ≤ k ∨ k ∈ F.M → γ.S k
  tab : TabR (Imm objs γ w) w
structure Rel (F : Fr) (σ : AState) (γ : Gh) (a : Act) (w : World) : Prop where
  size : a.tmps.size = σ.n
  defers : a.defers = []
  slots : ∀ t tg pv, get σ.slots t = some (tg, pv) → tagT σ tg → ∃ v, a.tmps[t]? = some v ∧ PR σ.objs γ w pv v
  off : ∀ t tg pv, get σ.slots t = some (tg, pv) → ¬ tagT σ tg → a.tmps[t]? = some undef
  gs : ∀ t tg pv, get σ.slots t = some (tg, pv) → ∀ x ∈ tg, bitB σ.gs x.1 = true
  known : ∀ x ∈ σ.known, litB σ x = true ∧ bitB σ.gs x.1 = true
  o : ORel F σ.objs γ w
theorem Keep.trans {a b c : List OB} {x y z : Gh} {u v w : World} {n : Nat} (h : Keep a x u b y v n) (g : Keep b y v c z w n) : Keep a x u c z w n :=
  ⟨fun k hk => g.imm k (h.imm k hk), fun k hk => (g.heap k (h.imm k hk)).trans (h.heap k hk), g.len, fun o ho => (g.gh o ho).trans (h.gh o ho), Nat.le_trans h.size g.size, g.s.trans h.s⟩
theorem Keep.less {a b : List OB} {x y : Gh} {u v : World} {n m : Nat} (h : Keep a x u b y v n) (hm : m ≤ n) : Keep a x u b y v m :=
  ⟨h.imm, h.heap, Nat.le_trans hm h.len, fun o ho => h.gh o (Nat.lt_of_lt_of_le ho hm), h.size, h.s⟩
theorem Keep.refl (a : List OB) (x : Gh) (u : World) : Keep a x u a x u a.length := ⟨fun _ h => h, fun _ _ => rfl, Nat.le_refl _, fun _ _ => rfl, Nat.le_refl _, rfl⟩
/-- what is protected stays -/
structure Step (σ : AState) (γ : Gh) (w : World) (σ' : AState) (γ' : Gh) (w' : World) : Prop where
  n : σ'.n = σ.n
  prS : σ'.prS = σ.prS
  prO : σ'.prO = σ.prO
  slots : ∀ t e, bitB σ.prS t = true → kf σ.slots t = some e → kf σ'.slots t = some e
  objs : ∀ o, o < σ.objs.length → bitB σ.prO o = true → σ'.objs[o]? = σ.objs[o]?
  keep : Keep σ.objs γ w σ'.objs γ' w' σ.objs.length
theorem Step.len {σ σ' : AState} {γ γ' : Gh} {w w' : World} (h : Step σ γ w σ' γ' w') : σ.objs.length ≤ σ'.objs.length := h.keep.len
theorem Step.gh {σ σ' : AState} {γ γ' : Gh} {w w' : World} (h : Step σ γ w σ' γ' w') : ∀ o, o < σ.objs.length → γ' o = γ o := h.keep.gh
theorem Step.refl (σ : AState) (γ : Gh) (w : World) : Step σ γ w σ γ w := ⟨rfl, rfl, rfl, fun _ _ _ h => h, fun _ _ _ => rfl, Keep.refl _ _ _⟩
theorem Step.trans {a b c : AState} {x y z : Gh} {u v w : World} (h : Step a x u b y v) (g : Step b y v c z w) : Step a x u c z w :=
  ⟨g.n.trans h.n, g.prS.trans h.prS, g.prO.trans h.prO, fun t e ht he => g.slots t e (h.prS ▸ ht) (h.slots t e ht he),
   fun o ho hp => (g.objs o (Nat.lt_of_lt_of_le ho h.len) (h.prO ▸ hp)).trans (h.objs o ho hp), h.keep.trans (g.keep.less h.len)⟩

theorem Imm.ext {objs : List OB} {γ : Gh} {w w' : World} (h : w.heap.size ≤ w'.heap.size) {k : Nat} (hi : Imm objs γ w k) : Imm objs γ w' k := ⟨Nat.lt_of_lt_of_le hi.1 h, hi.2, hi.3⟩
theorem Keep.ext {objs : List OB} {γ : Gh} {w w' : World} (h : Chg [] w w') : Keep objs γ w objs γ w' objs.length :=
  ⟨fun k hk => Imm.ext h.size hk, fun k hk => h.block k hk.1 (by simp), Nat.le_refl _, fun _ _ => rfl, h.size, rfl⟩
theorem SameLen.refl (objs : List OB) : SameLen objs objs := fun o ti e xs fz h _ => ⟨ti, e, xs, fz, h, rfl⟩
theorem PR.ext {objs : List OB} {γ : Gh} {w w' : World} (h : Chg [] w w') {p : PV} {v : Value} (hr : PR objs γ w p v) : PR objs γ w' p v :=
  PR.keep (Keep.ext h) hr.below (.inr (SameLen.refl _)) hr
theorem VR.ext {objs : List OB} {γ : Gh} {w w' : World} (h : Chg [] w w') {c : Cv} {v : Value} (hr : VR objs γ w c v) : VR objs γ w' c v := VR.keep (Keep.ext h) hr.below hr
theorem VRL.ext {objs : List OB} {γ : Gh} {w w' : World} (h : Chg [] w w') {c : List Cv} {v : List Value} (hr : VRL objs γ w c v) : VRL objs γ w' c v := VRL.keep (Keep.ext h) hr.below hr
theorem Chg.trans' {ex : List Nat} {a b c : World} (h : Chg ex a b) (g : Chg [] b c) : Chg ex a c := by simpa using h.trans g
theorem ORel.ext {F : Fr} {objs : List OB} {γ : Gh} {w w' : World} (r : ORel F objs γ w) (h : Chg [] w w') : ORel F objs γ w' :=
  ⟨fun o ob ho => ObR.keep (Keep.ext h) (fun b hb => h.block b (r.lt o b (by
      rcases Nat.lt_or_ge o objs.length with h1 | h1
      · exact h1
      · rw [List.getElem?_eq_none h1] at ho; cases ho) hb) (by simp)) (r.rep o ob ho),
   r.inj, r.own, fun o b ho hb => Nat.lt_of_lt_of_le (r.lt o b ho hb) h.size, Chg.trans' r.chg h, fun o i e xs b ho hb => (r.frz o i e xs b ho hb).ext h.size, r.up, r.tab.mono (Keep.ext h).imm (Keep.ext h).heap⟩
theorem Rel.ext {F : Fr} {σ : AState} {γ : Gh} {a : Act} {w w' : World} (r : Rel F σ γ a w) (h : Chg [] w w') : Rel F σ γ a w' :=
  ⟨r.size, r.defers, fun t tg pv ht hg => let ⟨v, h1, h2⟩ := r.slots t tg pv ht hg; ⟨v, h1, h2.ext h⟩, r.off, r.gs, r.known, r.o.ext h⟩

/-! ### slots -/
theorem get_cons {s : Slots} {d t : Nat} {e : Option (Tag × PV)} : get ((d, e) :: s) t = if d = t then e else get s t := by
  simp only [get]
  by_cases h : d = t
  · subst h; simp
  · have : Nat.beq d t = false := Bool.eq_false_iff.2 fun hb => h (Nat.eq_of_beq_eq_true hb)
    simp [this, h]
theorem names_false {d : Nat} : ∀ {tg : Tag}, names d tg = false → ∀ x ∈ tg, x.1 ≠ d
  | [], _, x, hx => by cases hx
  | y :: r, h, x, hx => by
    simp only [names, Bool.or_eq_false_iff] at h
    rcases List.mem_cons.1 hx with rfl | hx
    · intro e; rw [e] at h; simp at h
    · exact names_false h.2 x hx
theorem litB_cons {σ : AState} {d : Nat} {e : Option (Tag × PV)} {x : Nat × Bool} (h : x.1 ≠ d) : litB { σ with slots := (d, e) :: σ.slots } x = litB σ x := by
  simp only [litB, get_cons, if_neg (Ne.symm h)]
/-- a slot is written -/
theorem Rel.putA {F : Fr} {σ : AState} {γ : Gh} {a : Act} {w : World} (r : Rel F σ γ a w) {d : Nat} {tg : Tag} {pv : PV} {v : Value}
    (hd : d < σ.n) (hg : bitB σ.gs d = false) (hn : names d tg = false) (hgs : ∀ x ∈ tg, bitB σ.gs x.1 = true) (hv : tagT σ tg → PR σ.objs γ w pv v) (hu : ¬ tagT σ tg → v = undef) :
    Rel F { σ with slots := (d, some (tg, pv)) :: σ.slots } γ (a.put (some d) v) w := by
  have hlit : ∀ x : Nat × Bool, bitB σ.gs x.1 = true → litB { σ with slots := (d, some (tg, pv)) :: σ.slots } x = litB σ x := fun x hx => litB_cons (fun e => by rw [e, hg] at hx; cases hx)
  refine ⟨by simp [Act.put, r.size], r.defers, fun t tg' pv' ht hT => ?_, fun t tg' pv' ht hT => ?_, fun t tg' pv' ht x hx => ?_, fun x hx => ?_, r.o⟩
  · rw [get_cons] at ht
    split at ht
    · rename_i e
      subst e
      cases ht
      refine ⟨v, by simp [Act.put, r.size, hd], hv fun x hx => ?_⟩
      have := hT x hx
      rwa [hlit x (hgs x hx)] at this
    · rename_i e
      obtain ⟨u, h1, h2⟩ := r.slots t tg' pv' ht (fun x hx => by
        have := hT x hx
        rwa [hlit x (r.gs t tg' pv' ht x hx)] at this)
      exact ⟨u, by simp only [Act.put]; rw [Array.getElem?_setIfInBounds_ne e]; exact h1, h2⟩
  · rw [get_cons] at ht
    split at ht
    · rename_i e
      subst e
      cases ht
      have : v = undef := hu fun hT' => hT fun x hx => by rw [hlit x (hgs x hx)]; exact hT' x hx
      simp [Act.put, r.size, hd, this]
    · rename_i e
      have := r.off t tg' pv' ht (fun hT' => hT fun x hx => by rw [hlit x (r.gs t tg' pv' ht x hx)]; exact hT' x hx)
      simp only [Act.put]; rw [Array.getElem?_setIfInBounds_ne e]; exact this
  · rw [get_cons] at ht
    split at ht
    · cases ht; exact hgs x hx
    · exact r.gs t tg' pv' ht x hx
  · obtain ⟨h1, h2⟩ := r.known x hx
    exact ⟨(hlit x h2).trans h1, h2⟩
theorem bitB_eq (m d : Nat) : bitB m d = m.testBit d := by
  have h1 : Nat.land (Nat.shiftRight m d) 1 = (m >>> d) % 2 := Nat.and_one_is_mod _
  have h2 : m.testBit d = decide ((m >>> d) % 2 = 1) := by
    have := Nat.testBit_shiftRight (i := d) (j := 0) m
    rw [Nat.add_zero] at this
    rw [← this, Nat.testBit_zero]
  unfold bitB
  rw [h1, h2]
  by_cases h : (m >>> d) % 2 = 1
  · rw [h]; rfl
  · rw [decide_eq_false h]
    exact Bool.eq_false_iff.2 fun hb => h (Nat.eq_of_beq_eq_true hb)
theorem bitB_lor {m k d : Nat} (h : bitB m d = true) : bitB (Nat.lor m k) d = true := by
  rw [bitB_eq] at *
  show (m ||| k).testBit d = true
  rw [Nat.testBit_or, h]; rfl
theorem bitB_lor' {m k d : Nat} : bitB (Nat.lor m k) d = (bitB m d || bitB k d) := by
  rw [bitB_eq, bitB_eq, bitB_eq]
  exact Nat.testBit_or m k d
theorem bitB_shift (t d : Nat) : bitB (Nat.shiftLeft 1 t) d = decide (t = d) := by
  rw [bitB_eq]
  show (1 <<< t).testBit d = _
  rw [Nat.testBit_shiftLeft]
  by_cases h : t = d
  · subst h; simp
  · simp only [h, decide_false]
    by_cases h2 : t ≤ d
    · obtain ⟨j, hj⟩ : ∃ j, d - t = j + 1 := ⟨d - t - 1, by omega⟩
      rw [hj, Nat.testBit_succ]; simp
    · simp [h2]
theorem bitB_self (k d : Nat) : bitB (Nat.lor k (Nat.shiftLeft 1 d)) d = true := by rw [bitB_lor', bitB_shift]; simp
theorem Rel.gsUp {F : Fr} {σ : AState} {γ : Gh} {a : Act} {w : World} (r : Rel F σ γ a w) (k : Nat) : Rel F { σ with gs := Nat.lor σ.gs k } γ a w :=
  ⟨r.size, r.defers, r.slots, r.off, fun t tg pv ht x hx => bitB_lor (r.gs t tg pv ht x hx), fun x hx => ⟨(r.known x hx).1, bitB_lor (r.known x hx).2⟩, r.o⟩
theorem putO_spec {σ σ' : AState} {d : Option Nat} {tg : Tag} {pv : PV} (h : σ.putO d tg pv = some σ') :
    (d = none ∧ σ' = σ) ∨ ∃ t, d = some t ∧ t < σ.n ∧ bitB σ.prS t = false ∧ bitB σ.gs t = false ∧ names t tg = false ∧ σ' = { σ with slots := (t, some (tg, pv)) :: σ.slots } := by
  cases d with
  | none => simp only [AState.putO] at h; cases h; exact .inl ⟨rfl, rfl⟩
  | some t =>
    simp only [AState.putO, AState.put, chk_some, Bool.and_eq_true, Bool.not_eq_true', Option.some.injEq] at h
    obtain ⟨⟨h1, h2, h3, h4⟩, rfl⟩ := h
    exact .inr ⟨t, rfl, by simpa [Nat.blt_eq] using h1, h2, h3, h4, rfl⟩
theorem Rel.putO {F : Fr} {σ σ' : AState} {γ : Gh} {a : Act} {w : World} (r : Rel F σ γ a w) {d : Option Nat} {tg : Tag} {pv : PV} {v : Value} (h : σ.putO d tg pv = some σ')
    (hgs : ∀ x ∈ tg, bitB σ.gs x.1 = true) (hv : tagT σ tg → PR σ.objs γ w pv v) (hu : ¬ tagT σ tg → v = undef) : Rel F σ' γ (a.put d v) w := by
  rcases putO_spec h with ⟨rfl, rfl⟩ | ⟨t, rfl, h1, h2, h3, h4, rfl⟩
  · exact r
  · exact r.putA h1 h3 h4 hgs hv hu
theorem Step.ext {σ : AState} {γ : Gh} {w w' : World} (h : Chg [] w w') : Step σ γ w σ γ w' := ⟨rfl, rfl, rfl, fun _ _ _ h => h, fun _ _ _ => rfl, Keep.ext h⟩
theorem Step.putO {σ σ' : AState} {γ : Gh} {w : World} {d : Option Nat} {tg : Tag} {pv : PV} (h : σ.putO d tg pv = some σ') : Step σ γ w σ' γ w := by
  rcases putO_spec h with ⟨rfl, rfl⟩ | ⟨t, rfl, h1, h2, h3, h4, rfl⟩
  · exact Step.refl _ _ _
  · refine ⟨rfl, rfl, rfl, fun t' e ht he => ?_, fun _ _ _ => rfl, Keep.refl _ _ _⟩
    unfold kf at he ⊢
    rw [get_cons, if_neg]
    · exact he
    · intro e; subst e; rw [h2] at ht; cases ht

theorem memT_spec {x : Nat × Bool} : ∀ {tg : Tag}, memT x tg = true → x ∈ tg
  | [], h => by cases h
  | y :: r, h => by
    simp only [memT, Bool.or_eq_true, Bool.and_eq_true] at h
    rcases h with ⟨h1, h2⟩ | h
    · have e1 := Nat.eq_of_beq_eq_true h1
      have e2 : x.2 = y.2 := by revert h2; cases x.2 <;> cases y.2 <;> simp [beqB]
      exact List.mem_cons.2 (.inl (Prod.ext e1 e2))
    · exact List.mem_cons_of_mem _ (memT_spec h)
theorem subT_spec {kn : Tag} : ∀ {a b : Tag}, subT kn a b = true → ∀ x ∈ a, x ∈ kn ∨ x ∈ b
  | [], _, _, x, hx => by cases hx
  | y :: r, b, h, x, hx => by
    simp only [subT, Bool.and_eq_true, Bool.or_eq_true] at h
    rcases List.mem_cons.1 hx with rfl | hx
    · exact h.1.imp memT_spec memT_spec
    · exact subT_spec h.2 x hx
/-- an operand that is known -/
theorem ev_sound {F : Fr} {σ : AState} {γ : Gh} {a : Act} {w : World} (r : Rel F σ γ a w) {tg : Tag} (hT : tagT σ tg) {x : Operand} {pv : PV} (h : ev σ tg x = some pv) : PR σ.objs γ w pv (a.eval x) := by
  cases x with
  | tmp t =>
    simp only [ev, Option.bind_eq_some_iff, chk_some, Option.some.injEq] at h
    obtain ⟨⟨tg', pv'⟩, h1, h2, rfl⟩ := h
    obtain ⟨v, hv, hp⟩ := r.slots t tg' pv' h1 (fun x hx => (subT_spec h2 x hx).elim (fun hk => (r.known x hk).1) (hT x))
    have : a.eval (.tmp t) = v := by simp [Act.eval, Array.getD_eq_getD_getElem?, hv]
    rw [this]
    exact hp
  | const v =>
    simp only [ev, Option.some.injEq] at h
    subst h
    show PR _ _ _ _ v
    cases v <;> first | rfl | exact ⟨_, rfl, VRL.cvs _⟩
  | global g =>
    simp only [ev, Option.bind_eq_some_iff, Option.some.injEq] at h
    obtain ⟨cs, h1, rfl⟩ := h
    obtain ⟨h2, h3⟩ := r.o.tab.cells h1
    exact ⟨⟨g, 0, none⟩, cs, rfl, h2.lt, fun _ => h2, h3, VRL.cvs _⟩
  | func f =>
    simp only [ev, Option.some.injEq] at h
    subst h
    exact ⟨trivial, [], rfl, rfl⟩
theorem plainL_spec {objs : List OB} {γ : Gh} {w : World} : ∀ {l : List Cv} {vs us : List Value}, plainL l = some vs → VRL objs γ w l us → us = vs
  | [], vs, us, h, hr => by simp only [plainL, Option.some.injEq] at h; simp only [VRL] at hr; rw [hr, h]
  | c :: l, vs, us, h, ⟨v, q, e, h1, h2⟩ => by
    cases c <;> simp only [plainL, Option.bind_eq_some_iff, Option.some.injEq] at h <;> try (cases h; done)
    obtain ⟨ws, h3, rfl⟩ := h
    simp only [VR] at h1
    rw [e, h1, plainL_spec h3 h2]
theorem plain_spec {objs : List OB} {γ : Gh} {w : World} {pv : PV} {x v : Value} (h : plain pv = some x) (hr : PR objs γ w pv v) : v = x := by
  cases pv with
  | c c => cases c <;> simp only [plain, Option.some.injEq] at h <;> first | (cases h; done) | (subst h; exact hr)
  | agg l =>
    simp only [plain, Option.bind_eq_some_iff, Option.some.injEq] at h
    obtain ⟨vs, h1, rfl⟩ := h
    obtain ⟨cs, rfl, h2⟩ := hr
    rw [← plainL_spec h1 h2]
  | _ => simp [plain] at h
theorem tagB_spec {σ : AState} : ∀ {tg : Tag}, tagB σ tg = true ↔ tagT σ tg
  | [] => by simp [tagB, tagT]
  | [x] => by simp [tagB, tagT]
  | x :: y :: r => by
    have ih := tagB_spec (σ := σ) (tg := y :: r)
    simp only [tagB, Bool.and_eq_true, ih]
    simp [tagT]
end Go.Den
