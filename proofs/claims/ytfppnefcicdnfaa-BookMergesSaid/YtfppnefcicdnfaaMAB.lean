/- Several texts in one: What the abstract state of the interpreter says of memory. No condition of its own.; Data out of cells and cells out of data. No condition of its own.; The operations that leave the world alone: what the interpreter says of them holds. No condition of its own.; The operations that leave the world alone, continued: memory that is read, calls. No condition of its own.; The operations that leave the world alone, continued: addresses, loads, slices, calls. No condition of its own. -/
import Derived.Test.YtfppnefcicdnfaaMAA
import Derived.Deep.AppendSrc
import Derived.Laws.IdiomCopy
import Derived.ArgAppend
import Derived.Laws.Cover3
import Derived.Laws.Pointers
import Derived.WideLaws
namespace Go.Den
open Go.Eng
set_option linter.unusedVariables false
set_option linter.unusedSectionVars false
set_option linter.unusedSimpArgs false
variable [CT : Ctx]

theorem chk_some {α : Type} {b : Bool} {x : Option α} {r : α} : chk b x = some r ↔ b = true ∧ x = some r := by cases b <;> simp [chk]
theorem req_some {α : Type} {b : Bool} {x : Option α} {r : α} : req b x = some r ↔ b = true ∧ x = some r := by cases b <;> simp [req]

theorem arr_lt {A : Type} {a : Array A} {i : Nat} {x : A} (h : a[i]? = some x) : i < a.size := (Array.getElem?_eq_some_iff.1 h).1
/-! ### data in cells -/
def RepL {A : Type} (R : A → List Value → Prop) : List A → List Value → Prop
  | [], us => us = []
  | x :: xs, us => ∃ c r, us = c ++ r ∧ R x c ∧ RepL R xs r
/-- a block of cells of which none is frozen (a row that was made from a string bears its mark behind its end) -/
def Row (w : World) (b : Nat) (cur : Array Value) (i : TypeId) : Prop := ∃ fz : Nat × Nat, w.heap[b]? = some (.cells cur i fz) ∧ (fz = (0, 0) ∨ (cur.size ≤ fz.1 ∧ memN i Ctx.bytes = true))
theorem Row.of {w : World} {b : Nat} {cur : Array Value} {i : TypeId} (h : w.heap[b]? = some (.cells cur i (0, 0))) : Row w b cur i := ⟨_, h, .inl rfl⟩
theorem Row.lt {w : World} {b : Nat} {cur : Array Value} {i : TypeId} (h : Row w b cur i) : b < w.heap.size := by
  obtain ⟨fz, h, _⟩ := h
  exact (Array.getElem?_eq_some_iff.1 h).1
theorem Row.eq {w : World} {b : Nat} {cur cur' : Array Value} {i i' : TypeId} (h : Row w b cur i) (h' : Row w b cur' i') : cur = cur' := by
  obtain ⟨fz, h, _⟩ := h
  obtain ⟨fz', h', _⟩ := h'
  rw [h] at h'
  simp only [Option.some.injEq, Obj.cells.injEq] at h'
  exact h'.1
theorem Row.keep {w w' : World} {b : Nat} {cur : Array Value} {i : TypeId} (h : Row w b cur i) (e : w'.heap[b]? = w.heap[b]?) : Row w' b cur i := by
  obtain ⟨fz, h, hf⟩ := h
  exact ⟨fz, e.trans h, hf⟩
theorem Row.fro {w : World} {b : Nat} {cur : Array Value} {i : TypeId} (h : Row w b cur i) {j : Nat} (hj : j < cur.size) : w.frozen? ⟨b, j, none⟩ = false := by
  obtain ⟨fz, h, hf⟩ := h
  rcases hf with rfl | ⟨hf, _⟩
  · simp [World.frozen?, h]
  · simp only [World.frozen?, h]
    rw [decide_eq_false (by omega), Bool.false_and]
/-- a row that is not of bytes bears no mark -/
theorem Row.plain {w : World} {b : Nat} {cur : Array Value} {i : TypeId} (h : Row w b cur i) (hi : memN i Ctx.bytes = false) : w.heap[b]? = some (.cells cur i (0, 0)) := by
  obtain ⟨fz, h, hf⟩ := h
  rcases hf with rfl | ⟨_, hf⟩
  · exact h
  · rw [hi] at hf; cases hf
theorem Row.cell {w : World} {b : Nat} {cur : Array Value} {i : TypeId} (h : Row w b cur i) (j : Nat) : w.cell? ⟨b, j, none⟩ = cur[j]? := by
  obtain ⟨fz, h, _⟩ := h
  simp [World.cell?, h]
theorem Row.set {w : World} {b : Nat} {cur : Array Value} {i : TypeId} (h : Row w b cur i) (cs : Array Value) (hs : cs.size = cur.size) : Row (w.setRow b cs) b cs i := by
  obtain ⟨fz, h, hf⟩ := h
  exact ⟨fz, setRow_heap w b cur cs i fz h, by rw [hs]; exact hf⟩
theorem setCells_row {b : Nat} {i : TypeId} {fz : Nat × Nat} : ∀ (vs : List Value) (o : Nat) (cur : Array Value) (w : World), w.heap[b]? = some (.cells cur i fz) → o + vs.length ≤ cur.size →
    w.setCells b o vs = w.setRow b (cur.toList.take o ++ vs ++ cur.toList.drop (o + vs.length)).toArray
  | [], o, cur, w, h, _ => by
    simp only [World.setCells, List.append_nil, List.length_nil, Nat.add_zero, List.take_append_drop, Array.toArray_toList]
    exact (setRow_self w b cur i fz h).symm
  | v :: r, o, cur, w, h, hl => by
    simp only [List.length_cons] at hl
    have ih := setCells_row r (o + 1) (cur.setIfInBounds o v) (w.setRow b (cur.setIfInBounds o v)) (setRow_heap w b cur _ i _ h) (by simp; omega)
    simp only [World.setCells]
    rw [setCell_eq_setRow w b o cur i fz v h, ih, setRow_setRow]
    congr 2
    have e := list_seg_step cur.toList o v r (by simp; omega)
    simpa [Array.toList_setIfInBounds, Nat.add_assoc, Nat.add_comm 1] using e
/-- cells are stored into a row -/
theorem run_store_row {P : Program} {w : World} {b : Nat} {cur : Array Value} {i : TypeId} (h : Row w b cur i) (o : Nat) (vs : List Value) (hl : o + vs.length ≤ cur.size) (h1 : ∀ v ∈ vs, v.oneCell' = true) :
    (storeCells ⟨b, o, none⟩ vs 0).run P w = .ok () (w.setRow b (cur.toList.take o ++ vs ++ cur.toList.drop (o + vs.length)).toArray) := by
  have := run_storeCells_cells (P := P) b o vs 0 w (fun j hj => by rw [h.cell]; simp; omega) (fun j hj => h.fro (by omega)) h1
  rw [Nat.add_zero] at this
  rw [this]
  obtain ⟨fz, h, _⟩ := h
  rw [setCells_row vs o cur w h hl]
/-- a row that is owned -/
def OwnR (w : World) (i : TypeId) (size : Nat) (v : Value) (M : List Nat) (n : Nat) (us : List Value) : Prop :=
  (M = [] ∧ (∃ ao, v = .slice ao 0 0) ∧ n = 0 ∧ us = []) ∨
  ∃ b cap cur, M = [b] ∧ v = .slice (some ⟨b, 0, none⟩) n cap ∧ Row w b cur i ∧ n ≤ cap ∧ cap ≤ maxLen ∧ cur.size = cap * size ∧ cur.toList.take (n * size) = us
/-- a slice that is nil, or has room -/
def NE (v : Value) : Prop := v = .slice none 0 0 ∨ ∃ a n c, v = .slice (some a) n c ∧ c ≠ 0
def Rep (w : World) (S : Nat → Prop) : (τ : Ty) → D τ → List Nat → List Value → Prop
  | .int k, n, M, cs => M = [] ∧ cs = [.int k n]
  | .bool, b, M, cs => M = [] ∧ cs = [.bool b]
  | .str, s, M, cs => M = [] ∧ cs = [.string s]
  | .sl e, xs, M, cs => M = [] ∧ ∃ ao cap us, cs = [.slice ao xs.length cap] ∧ xs.length ≤ cap ∧ RepL (fun x c => Rep w S e x [] c) xs us ∧ (xs ≠ [] → ∃ a, ao = some a ∧ S a.block ∧ CellsAt w a us)
  | .osl i e, xs, M, cs => ∃ v us, cs = [v] ∧ OwnR w i e.size v M xs.length us ∧ RepL (fun x c => Rep w S e x [] c) xs us
  | .obx e, x, M, cs => ∃ b M' T cells, M = b :: M' ∧ cs = [.pointer (some ⟨b, 0, none⟩)] ∧ w.heap[b]? = some (.cells cells T (0, 0)) ∧ Rep w S e x M' cells.toList
  | .err, b, M, cs => M = [] ∧ ∃ v, cs = [v] ∧ ((b = false ∧ v = .nilIface) ∨ (b = true ∧ ∃ t p, v = .iface t p))
  | .bld t i, xs, M, cs => ∃ b M' p v us, M = b :: M' ∧ cs = [.pointer (some ⟨b, 0, none⟩)] ∧ w.heap[b]? = some (.cells #[p, v] t (0, 0)) ∧ ((p = .pointer none ∨ p = .pointer (some ⟨b, 0, none⟩)) ∧ NE v) ∧
      OwnR w i 1 v M' (List.length (α := Int) xs) us ∧ us = List.map (α := Int) (Value.int .u8) xs
  | .nil, _, M, cs => M = [] ∧ cs = []
  | .st f r, x, M, cs => ∃ c1 c2 M1 M2, cs = c1 ++ c2 ∧ M = M1 ++ M2 ∧ Rep w S f x.1 M1 c1 ∧ Rep w S r x.2 M2 c2

section
variable {A : Type} {R R' : A → List Value → Prop} {sz : Nat}
theorem RepL.mono (h : ∀ x c, R x c → R' x c) : ∀ {xs : List A} {us : List Value}, RepL R xs us → RepL R' xs us
  | [], _, h0 => h0
  | _ :: _, _, ⟨c, r, e, h1, h2⟩ => ⟨c, r, e, h _ _ h1, RepL.mono h h2⟩
theorem RepL.length (hs : ∀ x c, R x c → c.length = sz) : ∀ {xs : List A} {us : List Value}, RepL R xs us → us.length = xs.length * sz
  | [], _, h0 => by simp [RepL] at h0; simp [h0]
  | x :: xs, _, ⟨c, r, e, h1, h2⟩ => by
    rw [e, List.length_append, hs _ _ h1, RepL.length hs h2, List.length_cons, Nat.add_mul]; omega
theorem RepL.get (hs : ∀ x c, R x c → c.length = sz) : ∀ {xs : List A} {us : List Value} {j : Nat} {x : A}, RepL R xs us → xs[j]? = some x → R x ((us.drop (j * sz)).take sz)
  | [], _, j, x, _, hj => by simp at hj
  | y :: xs, _, 0, x, ⟨c, r, e, h1, h2⟩, hj => by
    simp at hj; subst hj; subst e
    rw [← hs _ _ h1]; simpa using h1
  | y :: xs, _, j + 1, x, ⟨c, r, e, h1, h2⟩, hj => by
    have := RepL.get hs (j := j) h2 (by simpa using hj)
    subst e
    rw [show (j + 1) * sz = c.length + j * sz by rw [hs _ _ h1, Nat.add_mul]; omega, ← List.drop_drop, List.drop_left]
    exact this
theorem RepL.append : ∀ {xs ys : List A} {us vs : List Value}, RepL R xs us → RepL R ys vs → RepL R (xs ++ ys) (us ++ vs)
  | [], _, _, _, h0, h => by simp [RepL] at h0; simpa [h0] using h
  | _ :: _, _, _, vs, ⟨c, r, e, h1, h2⟩, h => ⟨c, r ++ vs, by simp [e], h1, RepL.append h2 h⟩
theorem RepL.take (hs : ∀ x c, R x c → c.length = sz) : ∀ {xs : List A} {us : List Value} (k : Nat), RepL R xs us → RepL R (xs.take k) (us.take (k * sz))
  | [], _, k, h0 => by simp [RepL] at h0; simp [h0, RepL]
  | x :: xs, _, 0, _ => by simp [RepL]
  | x :: xs, _, k + 1, ⟨c, r, e, h1, h2⟩ => by
    subst e
    refine ⟨c, r.take (k * sz), ?_, h1, RepL.take hs k h2⟩
    rw [List.take_append, hs _ _ h1, show (k + 1) * sz - sz = k * sz by rw [Nat.add_mul]; omega, List.take_of_length_le (by rw [hs _ _ h1, Nat.add_mul]; omega)]
theorem RepL.drop (hs : ∀ x c, R x c → c.length = sz) : ∀ {xs : List A} {us : List Value} (k : Nat), RepL R xs us → RepL R (xs.drop k) (us.drop (k * sz))
  | [], _, k, h0 => by simp [RepL] at h0; simp [h0, RepL]
  | x :: xs, _, 0, h => by simpa using h
  | x :: xs, _, k + 1, ⟨c, r, e, h1, h2⟩ => by
    subst e
    rw [List.drop_succ_cons, show (k + 1) * sz = c.length + k * sz by rw [hs _ _ h1, Nat.add_mul]; omega, ← List.drop_drop, List.drop_left]
    exact RepL.drop hs k h2
theorem RepL.set (hs : ∀ x c, R x c → c.length = sz) {d : A} {cd : List Value} (hd : R d cd) : ∀ {xs : List A} {us : List Value} (k : Nat), k < xs.length → RepL R xs us → RepL R (xs.set k d) (us.take (k * sz) ++ cd ++ us.drop (k * sz + sz))
  | [], _, k, hk, _ => by simp at hk
  | x :: xs, _, 0, _, ⟨c, r, e, h1, h2⟩ => by
    subst e
    refine ⟨cd, r, ?_, hd, h2⟩
    rw [← hs _ _ h1]; simp
  | x :: xs, _, k + 1, hk, ⟨c, r, e, h1, h2⟩ => by
    subst e
    refine ⟨c, r.take (k * sz) ++ cd ++ r.drop (k * sz + sz), ?_, h1, RepL.set hs hd k (by simpa using hk) h2⟩
    have e1 : (k + 1) * sz = c.length + k * sz := by rw [hs _ _ h1, Nat.add_mul]; omega
    rw [e1, List.take_length_add_append, Nat.add_assoc, ← List.drop_drop, List.drop_left]
    simp
theorem RepL.replicate {d : A} {cd : List Value} (hd : R d cd) : ∀ n : Nat, RepL R (List.replicate n d) (List.replicate n cd).flatten
  | 0 => rfl
  | n + 1 => ⟨cd, _, by simp [List.replicate_succ], hd, RepL.replicate hd n⟩
theorem RepL.all {p : Value → Bool} (hs : ∀ x c, R x c → ∀ u ∈ c, p u = true) : ∀ {xs : List A} {us : List Value}, RepL R xs us → ∀ u ∈ us, p u = true
  | [], _, h0, u, hu => by simp [RepL] at h0; subst h0; cases hu
  | _ :: _, _, ⟨c, r, e, h1, h2⟩, u, hu => by
    subst e
    rcases List.mem_append.1 hu with h | h
    · exact hs _ _ h1 u h
    · exact RepL.all hs h2 u h
end

theorem OwnR.mono {w w' : World} {i : TypeId} {size : Nat} {v : Value} {M : List Nat} {n : Nat} {us : List Value} (h : OwnR w i size v M n us) (hM : ∀ b ∈ M, w'.heap[b]? = w.heap[b]?) : OwnR w' i size v M n us := by
  rcases h with h | ⟨b, cap, cur, h1, h2, h3, h4⟩
  · exact .inl h
  · exact .inr ⟨b, cap, cur, h1, h2, h3.keep (hM b (by simp [h1])), h4⟩
theorem CellsAt.mono {w w' : World} {a : Addr} {us : List Value} (h : CellsAt w a us) (he : w'.heap[a.block]? = w.heap[a.block]?) : CellsAt w' a us := by
  intro j v hv
  have e : w'.heap[(a.add j).block]? = w.heap[(a.add j).block]? := by rw [add_block]; exact he
  exact (World.cell?_of_block e).trans (h j v hv)
theorem Rep.mono {w w' : World} {S S' : Nat → Prop} (hS : ∀ k, S k → S' k) (hw : ∀ k, S k → w'.heap[k]? = w.heap[k]?) : ∀ (τ : Ty) {x : D τ} {M : List Nat} {cs : List Value},
    Rep w S τ x M cs → (∀ b ∈ M, w'.heap[b]? = w.heap[b]?) → Rep w' S' τ x M cs
  | .int _, _, _, _, h, _ => h
  | .bool, _, _, _, h, _ => h
  | .str, _, _, _, h, _ => h
  | .nil, _, _, _, h, _ => h
  | .sl e, xs, M, cs, h, _ => by
    obtain ⟨hM, ao, cap, us, h1, h2, h3, h4⟩ := h
    refine ⟨hM, ao, cap, us, h1, h2, h3.mono fun x c hx => Rep.mono hS hw e hx (by simp), fun hne => ?_⟩
    obtain ⟨a, e1, e2, e3⟩ := h4 hne
    exact ⟨a, e1, hS _ e2, CellsAt.mono e3 (hw _ e2)⟩
  | .osl i e, xs, M, cs, h, hM => by
    obtain ⟨v, us, h1, h2, h3⟩ := h
    exact ⟨v, us, h1, h2.mono hM, h3.mono fun x c hx => Rep.mono hS hw e hx (by simp)⟩
  | .obx e, x, M, cs, h, hM => by
    obtain ⟨b, M', T, cells, h1, h2, h3, h4⟩ := h
    subst h1
    exact ⟨b, M', T, cells, rfl, h2, (hM b (by simp)).trans h3, Rep.mono hS hw e h4 (fun b hb => hM b (by simp [hb]))⟩
  | .err, _, _, _, h, _ => h
  | .bld t i, xs, M, cs, h, hM => by
    obtain ⟨b, M', p, v, us, h1, h2, h3, h4, h5, h6⟩ := h
    subst h1
    exact ⟨b, M', p, v, us, rfl, h2, (hM b (by simp)).trans h3, h4, h5.mono fun b hb => hM b (by simp [hb]), h6⟩
  | .st f r, x, M, cs, h, hM => by
    obtain ⟨c1, c2, M1, M2, h1, h2, h3, h4⟩ := h
    subst h2
    exact ⟨c1, c2, M1, M2, h1, rfl, Rep.mono hS hw f h3 (fun b hb => hM b (by simp [hb])), Rep.mono hS hw r h4 (fun b hb => hM b (by simp [hb]))⟩
theorem Rep.length {w : World} {S : Nat → Prop} : ∀ (τ : Ty) {x : D τ} {M : List Nat} {cs : List Value}, Rep w S τ x M cs → cs.length = τ.size
  | .int _, _, _, _, h => by rw [h.2]; rfl
  | .bool, _, _, _, h => by rw [h.2]; rfl
  | .str, _, _, _, h => by rw [h.2]; rfl
  | .nil, _, _, _, h => by rw [h.2]; rfl
  | .sl e, _, _, _, ⟨_, _, _, _, h, _⟩ => by rw [h]; rfl
  | .osl _ _, _, _, _, ⟨_, _, h, _⟩ => by rw [h]; rfl
  | .obx _, _, _, _, ⟨_, _, _, _, _, h, _⟩ => by rw [h]; rfl
  | .err, _, _, _, ⟨_, _, h, _⟩ => by rw [h]; rfl
  | .bld _ _, _, _, _, ⟨_, _, _, _, _, _, h, _⟩ => by rw [h]; rfl
  | .st f r, _, _, _, ⟨_, _, _, _, h, _, h1, h2⟩ => by rw [h, List.length_append, Rep.length f h1, Rep.length r h2]; rfl
theorem Rep.one {w : World} {S : Nat → Prop} : ∀ (τ : Ty) {x : D τ} {M : List Nat} {cs : List Value}, Rep w S τ x M cs → ∀ u ∈ cs, u.oneCell' = true
  | .int _, _, _, _, h, u, hu => by rw [h.2] at hu; simp at hu; subst hu; rfl
  | .bool, _, _, _, h, u, hu => by rw [h.2] at hu; simp at hu; subst hu; rfl
  | .str, _, _, _, h, u, hu => by rw [h.2] at hu; simp at hu; subst hu; rfl
  | .nil, _, _, _, h, u, hu => by rw [h.2] at hu; cases hu
  | .sl e, _, _, _, ⟨_, _, _, _, h, _⟩, u, hu => by rw [h] at hu; simp at hu; subst hu; rfl
  | .osl _ _, _, _, _, ⟨v, _, h, h2, _⟩, u, hu => by
    rw [h] at hu; simp at hu; subst hu
    rcases h2 with ⟨_, ⟨_, rfl⟩, _⟩ | ⟨_, _, _, _, rfl, _⟩ <;> rfl
  | .obx _, _, _, _, ⟨_, _, _, _, _, h, _⟩, u, hu => by rw [h] at hu; simp at hu; subst hu; rfl
  | .err, _, _, _, ⟨_, v, h, h2⟩, u, hu => by
    rw [h] at hu; simp at hu; subst hu
    rcases h2 with ⟨_, rfl⟩ | ⟨_, _, _, rfl⟩ <;> rfl
  | .bld _ _, _, _, _, ⟨_, _, _, _, _, _, h, _⟩, u, hu => by rw [h] at hu; simp at hu; subst hu; rfl
  | .st f r, _, _, _, ⟨_, _, _, _, h, _, h1, h2⟩, u, hu => by
    rw [h] at hu
    rcases List.mem_append.1 hu with h3 | h3
    · exact Rep.one f h1 u h3
    · exact Rep.one r h2 u h3

/-! ### objects and cells -/
/-- what is known of the objects (their value, their block), and where data may lie -/
structure Gh where
  g : Nat → Value × Option Nat
  S : Nat → Prop
instance : CoeFun Gh fun _ => Nat → Value × Option Nat := ⟨Gh.g⟩
def mutOb : OB → Bool
  | .box _ => true
  | .arr _ _ _ fz => !fz
  | .dead => false
  | .bld _ _ => true
def Mut (objs : List OB) (o : Nat) : Prop := ∃ ob, objs[o]? = some ob ∧ mutOb ob = true
/-- a block that nobody writes -/
structure Imm (objs : List OB) (γ : Gh) (w : World) (k : Nat) : Prop where
  lt : k < w.heap.size
  s : γ.S k
  own : ∀ o, Mut objs o → (γ o).2 ≠ some k
def PtrL (γ : Gh) : List (Nat × Nat) → List Value → Prop
  | [], l => l = []
  | (o, off) :: r, l => ∃ b q, l = .pointer (some ⟨b, off, none⟩) :: q ∧ (γ o).2 = some b ∧ PtrL γ r q
def capsLt (n : Nat) : List (Nat × Nat) → Prop
  | [] => True
  | q :: r => q.1 < n ∧ capsLt n r
def VR (objs : List OB) (γ : Gh) (w : World) : Cv → Value → Prop
  | .v x, v => v = x
  | .sl e xs, v => Rep w (Imm objs γ w) (.sl e) xs [] [v]
  | .os o, v => o < objs.length ∧ v = (γ o).1 ∧ ∃ ao n c, v = .slice ao n c
  | .ptr o off, v => o < objs.length ∧ ∃ b, (γ o).2 = some b ∧ v = .pointer (some ⟨b, off, none⟩)
  | .fn f caps, v => capsLt objs.length caps ∧ ∃ l, v = .func (.func f) #[] l.toArray ∧ PtrL γ caps l
  | .e0, v => ∃ ao, v = .slice ao 0 0
  | .er b, v => (b = false ∧ v = .nilIface) ∨ (b = true ∧ ∃ t p, v = .iface t p)
def VRL (objs : List OB) (γ : Gh) (w : World) : List Cv → List Value → Prop
  | [], vs => vs = []
  | c :: l, vs => ∃ v r, vs = v :: r ∧ VR objs γ w c v ∧ VRL objs γ w l r
def PWR (objs : List OB) (γ : Gh) (w : World) : PW → Value → Prop
  | .c x, v => VR objs γ w x v
  | .agg l, v => ∃ cs, v = .agg cs ∧ VRL objs γ w l cs.toList
def PWL (objs : List OB) (γ : Gh) (w : World) : List PW → List Value → Prop
  | [], vs => vs = []
  | c :: l, vs => ∃ v r, vs = v :: r ∧ PWR objs γ w c v ∧ PWL objs γ w l r
def PR (objs : List OB) (γ : Gh) (w : World) : PV → Value → Prop
  | .c x, v => VR objs γ w x v
  | .agg l, v => ∃ cs, v = .agg cs ∧ VRL objs γ w l cs.toList
  | .tup l, v => ∃ vs, v = .tuple vs ∧ PWL objs γ w l vs.toList
  | .rp l, v => ∃ a us, v = .pointer (some a) ∧ a.block < w.heap.size ∧ (us ≠ [] → Imm objs γ w a.block) ∧ CellsAt w a us ∧ VRL objs γ w l us
  | .ep o sz i off, v => o < objs.length ∧ ∃ b, (γ o).2 = some b ∧ v = .pointer (some ⟨b, i * sz + off, none⟩) ∧ ∃ ao0 n0 c0, (γ o).1 = .slice ao0 n0 c0 ∧ i < n0
  | .pa o off sz cnt inner i, v => o < objs.length ∧ ∃ b, (γ o).2 = some b ∧ 0 ≤ i ∧ i < (cnt : Int) ∧ v = .pointer (some ⟨b, off + i.toNat * sz + inner, none⟩)
  | .vw o sz lo n, v => o < objs.length ∧ ∃ ao0 n0 c0 ao cap, (γ o).1 = .slice ao0 n0 c0 ∧ lo + n ≤ n0 ∧ v = .slice ao n cap ∧ n ≤ cap ∧ (0 < n → ∃ b, (γ o).2 = some b ∧ ao = some ⟨b, lo * sz, none⟩) ∧ cap + lo = c0 ∧ (lo = 0 → ao = ao0)
def ObR (objs : List OB) (γ : Gh) (w : World) : OB → Value × Option Nat → Prop
  | .box l, g => ∃ b T cs, g = (.pointer (some ⟨b, 0, none⟩), some b) ∧ w.heap[b]? = some (.cells cs T (0, 0)) ∧ VRL objs γ w l cs.toList
  | .arr i e xs _, g => ∃ us, OwnR w i e.size g.1 g.2.toList xs.length us ∧ RepL (fun x c => Rep w (Imm objs γ w) e x [] c) xs us
  | .dead, _ => True
  | .bld t c, g => ∃ b p v, g = (.pointer (some ⟨b, 0, none⟩), some b) ∧ w.heap[b]? = some (.cells #[p, v] t (0, 0)) ∧ ((p = .pointer none ∨ p = .pointer (some ⟨b, 0, none⟩)) ∧ NE v) ∧ VR objs γ w c v

theorem ObR.len {objs : List OB} {γ : Gh} {w : World} {i : TypeId} {e : Ty} {xs : List (D e)} {fz : Bool} {g : Value × Option Nat} (h : ObR objs γ w (.arr i e xs fz) g) {ao : Option Addr} {n c : Nat} (hg : g.1 = .slice ao n c) : n = xs.length := by
  obtain ⟨us, h9, _⟩ := h
  rcases h9 with ⟨_, ⟨ao1, h10⟩, h11, _⟩ | ⟨b1, cap1, cur, _, h10, _⟩
  · rw [hg] at h10
    simp only [Value.slice.injEq] at h10
    omega
  · rw [hg] at h10
    simp only [Value.slice.injEq] at h10
    exact h10.2.1
theorem VRL.length {objs : List OB} {γ : Gh} {w : World} : ∀ {l : List Cv} {vs : List Value}, VRL objs γ w l vs → vs.length = l.length
  | [], _, h => by simp [VRL] at h; simp [h]
  | _ :: _, _, ⟨_, _, e, _, h⟩ => by simp [e, VRL.length h]
theorem VRL.append {objs : List OB} {γ : Gh} {w : World} : ∀ {l r : List Cv} {us vs : List Value}, VRL objs γ w l us → VRL objs γ w r vs → VRL objs γ w (l ++ r) (us ++ vs)
  | [], _, _, _, h, g => by simp [VRL] at h; simpa [h] using g
  | _ :: _, _, _, vs, ⟨v, q, e, h1, h2⟩, g => ⟨v, q ++ vs, by simp [e], h1, VRL.append h2 g⟩
theorem VRL.take {objs : List OB} {γ : Gh} {w : World} : ∀ {l : List Cv} {vs : List Value} (k : Nat), VRL objs γ w l vs → VRL objs γ w (l.take k) (vs.take k)
  | [], _, _, h => by simp [VRL] at h; simp [h, VRL]
  | _ :: _, _, 0, _ => by simp [VRL]
  | _ :: _, _, k + 1, ⟨v, q, e, h1, h2⟩ => ⟨v, q.take k, by simp [e], h1, VRL.take k h2⟩
theorem VRL.drop {objs : List OB} {γ : Gh} {w : World} : ∀ {l : List Cv} {vs : List Value} (k : Nat), VRL objs γ w l vs → VRL objs γ w (l.drop k) (vs.drop k)
  | [], _, _, h => by simp [VRL] at h; simp [h, VRL]
  | _ :: _, _, 0, h => by simpa using h
  | _ :: _, _, k + 1, ⟨v, q, e, h1, h2⟩ => by subst e; simpa using VRL.drop k h2
theorem VRL.get {objs : List OB} {γ : Gh} {w : World} : ∀ {l : List Cv} {vs : List Value} {k : Nat} {c : Cv}, VRL objs γ w l vs → l[k]? = some c → ∃ v, vs[k]? = some v ∧ VR objs γ w c v
  | [], _, _, _, _, hk => by simp at hk
  | _ :: _, _, 0, _, ⟨v, q, e, h1, h2⟩, hk => by simp at hk; subst hk; exact ⟨v, by simp [e], h1⟩
  | _ :: _, _, k + 1, _, ⟨v, q, e, h1, h2⟩, hk => by
    obtain ⟨u, hu, hr⟩ := VRL.get h2 (by simpa using hk)
    exact ⟨u, by simpa [e] using hu, hr⟩
theorem VRL.split {objs : List OB} {γ : Gh} {w : World} : ∀ {l r : List Cv} {vs : List Value}, VRL objs γ w (l ++ r) vs → ∃ us qs, vs = us ++ qs ∧ VRL objs γ w l us ∧ VRL objs γ w r qs
  | [], _, vs, h => ⟨[], vs, rfl, rfl, h⟩
  | _ :: _, _, _, ⟨v, q, e, h1, h2⟩ => by
    obtain ⟨us, qs, e2, h3, h4⟩ := VRL.split h2
    exact ⟨v :: us, qs, by simp [e, e2], ⟨v, us, rfl, h1, h3⟩, h4⟩
theorem VRL.cvs {objs : List OB} {γ : Gh} {w : World} : ∀ (l : List Value), VRL objs γ w (cvs l) l
  | [] => rfl
  | v :: r => ⟨v, r, rfl, rfl, VRL.cvs r⟩

/-! ### what stays when things change -/
/-- the numbers of objects in it are below n -/
def Cv.below (n : Nat) : Cv → Prop
  | .os o => o < n
  | .ptr o _ => o < n
  | .fn _ caps => capsLt n caps
  | _ => True
def CvL.below (n : Nat) : List Cv → Prop
  | [] => True
  | c :: r => c.below n ∧ CvL.below n r
def PW.below (n : Nat) : PW → Prop
  | .c x => x.below n
  | .agg l => CvL.below n l
def PWL.below (n : Nat) : List PW → Prop
  | [] => True
  | c :: r => c.below n ∧ PWL.below n r
def PV.below (n : Nat) : PV → Prop
  | .c x => x.below n
  | .agg l => CvL.below n l
  | .tup l => PWL.below n l
  | .rp l => CvL.below n l
  | .ep o _ _ _ => o < n
  | .pa o _ _ _ _ _ => o < n
  | .vw o _ _ _ => o < n

section
variable {objs objs' : List OB} {γ γ' : Gh} {w w' : World} {n : Nat}
/-- a change that keeps what is known of cells that name objects below n -/
structure Keep (objs : List OB) (γ : Gh) (w : World) (objs' : List OB) (γ' : Gh) (w' : World) (n : Nat) : Prop where
  imm : ∀ k, Imm objs γ w k → Imm objs' γ' w' k
  heap : ∀ k, Imm objs γ w k → w'.heap[k]? = w.heap[k]?
  len : n ≤ objs'.length
  gh : ∀ o, o < n → γ' o = γ o
  size : w.heap.size ≤ w'.heap.size
  s : γ'.S = γ.S

theorem Rep.keep (h : Keep objs γ w objs' γ' w' n) {τ : Ty} {x : D τ} {cs : List Value} (hr : Rep w (Imm objs γ w) τ x [] cs) : Rep w' (Imm objs' γ' w') τ x [] cs :=
  Rep.mono h.imm h.heap τ hr (by simp)
theorem RepL.keep (h : Keep objs γ w objs' γ' w' n) {τ : Ty} {xs : List (D τ)} {us : List Value} (hr : RepL (fun x c => Rep w (Imm objs γ w) τ x [] c) xs us) : RepL (fun x c => Rep w' (Imm objs' γ' w') τ x [] c) xs us :=
  hr.mono fun _ _ => Rep.keep h
theorem PtrL.keep (hg : ∀ o, o < n → γ' o = γ o) : ∀ {caps : List (Nat × Nat)} {l : List Value}, capsLt n caps → PtrL γ caps l → PtrL γ' caps l
  | [], _, _, h => h
  | (o, off) :: r, _, hb, ⟨b, q, e, h1, h2⟩ => ⟨b, q, e, by rw [hg o hb.1]; exact h1, PtrL.keep hg hb.2 h2⟩
theorem capsLt.mono {m : Nat} (h : n ≤ m) : ∀ {caps : List (Nat × Nat)}, capsLt n caps → capsLt m caps
  | [], _ => trivial
  | _ :: _, hb => ⟨Nat.lt_of_lt_of_le hb.1 h, capsLt.mono h hb.2⟩
theorem VR.keep (h : Keep objs γ w objs' γ' w' n) {c : Cv} {v : Value} (hb : c.below n) (hr : VR objs γ w c v) : VR objs' γ' w' c v := by
  cases c with
  | v x => exact hr
  | sl e xs => exact Rep.keep h (τ := .sl e) hr
  | os o => exact ⟨Nat.lt_of_lt_of_le hb h.len, by rw [h.gh o hb]; exact hr.2.1, hr.2.2⟩
  | ptr o off => exact ⟨Nat.lt_of_lt_of_le hb h.len, by rw [h.gh o hb]; exact hr.2⟩
  | fn f caps =>
    obtain ⟨_, l, e, h1⟩ := hr
    exact ⟨capsLt.mono h.len hb, l, e, PtrL.keep h.gh hb h1⟩
  | e0 => exact hr
  | er b => exact hr
theorem VRL.keep (h : Keep objs γ w objs' γ' w' n) : ∀ {l : List Cv} {vs : List Value}, CvL.below n l → VRL objs γ w l vs → VRL objs' γ' w' l vs
  | [], _, _, hr => hr
  | _ :: _, _, hb, ⟨v, r, e, h1, h2⟩ => ⟨v, r, e, VR.keep h hb.1 h1, VRL.keep h hb.2 h2⟩
theorem PWR.keep (h : Keep objs γ w objs' γ' w' n) {p : PW} {v : Value} (hb : p.below n) (hr : PWR objs γ w p v) : PWR objs' γ' w' p v := by
  cases p with
  | c x => exact VR.keep h hb hr
  | agg l => obtain ⟨cs, e, h1⟩ := hr; exact ⟨cs, e, VRL.keep h hb h1⟩
theorem PWL.keep (h : Keep objs γ w objs' γ' w' n) : ∀ {l : List PW} {vs : List Value}, PWL.below n l → PWL objs γ w l vs → PWL objs' γ' w' l vs
  | [], _, _, hr => hr
  | _ :: _, _, hb, ⟨v, r, e, h1, h2⟩ => ⟨v, r, e, PWR.keep h hb.1 h1, PWL.keep h hb.2 h2⟩
/-- rows keep their lengths -/
def SameLen (objs objs' : List OB) : Prop := ∀ o ti e xs fz, objs'[o]? = some (.arr ti e xs fz) → o < objs.length → ∃ ti' e' xs' fz', objs[o]? = some (.arr ti' e' xs' fz') ∧ xs'.length = xs.length
theorem PR.keep (h : Keep objs γ w objs' γ' w' n) {p : PV} {v : Value} (hb : p.below n) (hs : stable p = true ∨ SameLen objs objs') (hr : PR objs γ w p v) : PR objs' γ' w' p v := by
  cases p with
  | c x => exact VR.keep h hb hr
  | agg l => obtain ⟨cs, e, h1⟩ := hr; exact ⟨cs, e, VRL.keep h hb h1⟩
  | tup l => obtain ⟨cs, e, h1⟩ := hr; exact ⟨cs, e, PWL.keep h hb h1⟩
  | rp l =>
    obtain ⟨a, us, e, hl, h1, h2, h3⟩ := hr
    refine ⟨a, us, e, Nat.lt_of_lt_of_le hl h.size, fun hne => h.imm _ (h1 hne), ?_, VRL.keep h hb h3⟩
    by_cases hne : us = []
    · subst hne; intro j v hv; simp at hv
    · exact CellsAt.mono h2 (h.heap _ (h1 hne))
  | ep o sz i off => exact ⟨Nat.lt_of_lt_of_le hb h.len, by rw [h.gh o hb]; exact hr.2⟩
  | pa o off sz cnt inner i =>
    obtain ⟨_, b, h1, h2⟩ := hr
    exact ⟨Nat.lt_of_lt_of_le hb h.len, b, by rw [h.gh o hb]; exact h1, h2⟩
  | vw o sz lo n => exact ⟨Nat.lt_of_lt_of_le hb h.len, by rw [h.gh o hb]; exact hr.2⟩
theorem VR.below {c : Cv} {v : Value} (h : VR objs γ w c v) : c.below objs.length := by
  cases c with
  | v x => trivial
  | sl e xs => trivial
  | e0 => trivial
  | er b => trivial
  | os o => exact h.1
  | ptr o off => exact h.1
  | fn f caps => exact h.1
theorem VRL.below : ∀ {l : List Cv} {vs : List Value}, VRL objs γ w l vs → CvL.below objs.length l
  | [], _, _ => trivial
  | _ :: _, _, ⟨_, _, _, h1, h2⟩ => ⟨h1.below, VRL.below h2⟩
theorem PWR.below {p : PW} {v : Value} (h : PWR objs γ w p v) : p.below objs.length := by
  cases p with
  | c x => exact VR.below h
  | agg l => obtain ⟨cs, _, h1⟩ := h; exact VRL.below h1
theorem PWL.below' : ∀ {l : List PW} {vs : List Value}, PWL objs γ w l vs → PWL.below objs.length l
  | [], _, _ => trivial
  | _ :: _, _, ⟨_, _, _, h1, h2⟩ => ⟨PWR.below h1, PWL.below' h2⟩
theorem PR.below {p : PV} {v : Value} (h : PR objs γ w p v) : p.below objs.length := by
  cases p with
  | c x => exact VR.below h
  | agg l => obtain ⟨cs, _, h1⟩ := h; exact VRL.below h1
  | tup l => obtain ⟨cs, _, h1⟩ := h; exact PWL.below' h1
  | rp l => obtain ⟨a, us, _, _, _, _, h1⟩ := h; exact VRL.below h1
  | ep o sz i off => exact h.1
  | pa o off sz cnt inner i => exact h.1
  | vw o sz lo n => exact h.1
/-- an object, if nothing happens to its block -/
theorem ObR.keep (h : Keep objs γ w objs' γ' w' objs.length) {ob : OB} {g : Value × Option Nat} (hb : ∀ b, g.2 = some b → w'.heap[b]? = w.heap[b]?) (hr : ObR objs γ w ob g) : ObR objs' γ' w' ob g := by
  cases ob with
  | box l =>
    obtain ⟨b, T, cs, e, h1, h2⟩ := hr
    exact ⟨b, T, cs, e, (hb b (by simp [e])).trans h1, VRL.keep h h2.below h2⟩
  | arr i e xs fz =>
    obtain ⟨us, h1, h2⟩ := hr
    exact ⟨us, h1.mono fun b hm => hb b (by simpa using hm), RepL.keep h h2⟩
  | dead => trivial
  | bld t c =>
    obtain ⟨b, p, v, e, h1, h2, h3⟩ := hr
    exact ⟨b, p, v, e, (hb b (by simp [e])).trans h1, h2, VR.keep h h3.below h3⟩
end

/-- the package-level tables lie where nobody writes -/
structure TabR (S : Nat → Prop) (w : World) : Prop where
  tab : ∀ g cs, tabOf g = some cs → S g ∧ ∃ T fz, w.heap[g]? = some (.cells cs.toArray T fz)
  opn : ∀ g e, (g, e) ∈ Ctx.opens → S g ∧ ∃ v T fz, w.heap[g]? = some (.cells #[v] T fz) ∧ (if e = true then v = .nilIface ∨ ∃ te pe, v = .iface te pe else ∃ m, v = .int .i64 m)
theorem TabR.mono {S S' : Nat → Prop} {w w' : World} (h : TabR S w) (hS : ∀ k, S k → S' k) (hw : ∀ k, S k → w'.heap[k]? = w.heap[k]?) : TabR S' w' where
  tab g cs hg := by
    obtain ⟨h1, h2⟩ := h.tab g cs hg
    exact ⟨hS g h1, by rw [hw g h1]; exact h2⟩
  opn g e hg := by
    obtain ⟨h1, h2⟩ := h.opn g e hg
    exact ⟨hS g h1, by rw [hw g h1]; exact h2⟩
theorem TabR.cells {S : Nat → Prop} {w : World} (h : TabR S w) {g : Nat} {cs : List Value} (hg : tabOf g = some cs) : S g ∧ CellsAt w ⟨g, 0, none⟩ cs := by
  obtain ⟨h1, T, fz, h2⟩ := h.tab g cs hg
  refine ⟨h1, fun j v hj => ?_⟩
  have hj' := (List.getElem?_eq_some_iff.1 hj)
  by_cases h0 : j = 0
  · subst h0; simp [World.cell?, Addr.add, h2, hj]
  · simp [World.cell?, Addr.add, h0, h2, hj]
theorem tabR_nil {S : Nat → Prop} {w : World} (h : Ctx.tabs = []) (h' : Ctx.opens = []) : TabR S w where
  tab g cs hg := by
    rw [tabOf, h] at hg
    cases hg
  opn g e hg := by
    rw [h'] at hg
    cases hg
/-! ### the whole state -/
structure Fr where
  w0 : World
  M : List Nat
def tagT (σ : AState) (tg : Tag) : Prop := ∀ x ∈ tg, litB σ x = true
/-- objects and the world -/
structure ORel (F : Fr) (objs : List OB) (γ : Gh) (w : World) : Prop where
  rep : ∀ o ob, objs[o]? = some ob → ObR objs γ w ob (γ o)
  inj : ∀ o o' b, Mut objs o → Mut objs o' → (γ o).2 = some b → (γ o').2 = some b → o = o'
  own : ∀ o b, Mut objs o → (γ o).2 = some b → F.w0.heap.size ≤ b ∨ b ∈ F.M
  lt : ∀ o b, o < objs.length → (γ o).2 = some b → b < w.heap.size
  chg : Chg F.M F.w0 w
  frz : ∀ o i e xs b, objs[o]? = some (.arr i e xs true) → (γ o).2 = some b → Imm objs γ w b
  up : ∀ k, F.w0.heap.size ≤ k ∨ k ∈ F.M → γ.S k
  tab : TabR (Imm objs γ w) w
structure Rel (F : Fr) (σ : AState) (γ : Gh) (a : Act) (w : World) : Prop where
  size : a.tmps.size = σ.n
  defers : a.defers = []
  slots : ∀ t tg pv, get σ.slots t = some (tg, pv) → tagT σ tg → ∃ v, a.tmps[t]? = some v ∧ PR σ.objs γ w pv v
  off : ∀ t tg pv, get σ.slots t = some (tg, pv) → ¬ tagT σ tg → a.tmps[t]? = some undef
  gs : ∀ t tg pv, get σ.slots t = some (tg, pv) → ∀ x ∈ tg, bitB σ.gs x.1 = true
  known : ∀ x ∈ σ.known, litB σ x = true ∧ bitB σ.gs x.1 = true
  o : ORel F σ.objs γ w
theorem Keep.trans {a b c : List OB} {x y z : Gh} {u v w : World} {n : Nat} (h : Keep a x u b y v n) (g : Keep b y v c z w n) : Keep a x u c z w n :=
  ⟨fun k hk => g.imm k (h.imm k hk), fun k hk => (g.heap k (h.imm k hk)).trans (h.heap k hk), g.len, fun o ho => (g.gh o ho).trans (h.gh o ho), Nat.le_trans h.size g.size, g.s.trans h.s⟩
theorem Keep.less {a b : List OB} {x y : Gh} {u v : World} {n m : Nat} (h : Keep a x u b y v n) (hm : m ≤ n) : Keep a x u b y v m :=
  ⟨h.imm, h.heap, Nat.le_trans hm h.len, fun o ho => h.gh o (Nat.lt_of_lt_of_le ho hm), h.size, h.s⟩
theorem Keep.refl (a : List OB) (x : Gh) (u : World) : Keep a x u a x u a.length := ⟨fun _ h => h, fun _ _ => rfl, Nat.le_refl _, fun _ _ => rfl, Nat.le_refl _, rfl⟩
/-- what is protected stays -/
structure Step (σ : AState) (γ : Gh) (w : World) (σ' : AState) (γ' : Gh) (w' : World) : Prop where
  n : σ'.n = σ.n
  prS : σ'.prS = σ.prS
  prO : σ'.prO = σ.prO
  slots : ∀ t e, bitB σ.prS t = true → kf σ.slots t = some e → kf σ'.slots t = some e
  objs : ∀ o, o < σ.objs.length → bitB σ.prO o = true → σ'.objs[o]? = σ.objs[o]?
  keep : Keep σ.objs γ w σ'.objs γ' w' σ.objs.length
theorem Step.len {σ σ' : AState} {γ γ' : Gh} {w w' : World} (h : Step σ γ w σ' γ' w') : σ.objs.length ≤ σ'.objs.length := h.keep.len
theorem Step.gh {σ σ' : AState} {γ γ' : Gh} {w w' : World} (h : Step σ γ w σ' γ' w') : ∀ o, o < σ.objs.length → γ' o = γ o := h.keep.gh
theorem Step.refl (σ : AState) (γ : Gh) (w : World) : Step σ γ w σ γ w := ⟨rfl, rfl, rfl, fun _ _ _ h => h, fun _ _ _ => rfl, Keep.refl _ _ _⟩
theorem Step.trans {a b c : AState} {x y z : Gh} {u v w : World} (h : Step a x u b y v) (g : Step b y v c z w) : Step a x u c z w :=
  ⟨g.n.trans h.n, g.prS.trans h.prS, g.prO.trans h.prO, fun t e ht he => g.slots t e (h.prS ▸ ht) (h.slots t e ht he),
   fun o ho hp => (g.objs o (Nat.lt_of_lt_of_le ho h.len) (h.prO ▸ hp)).trans (h.objs o ho hp), h.keep.trans (g.keep.less h.len)⟩

theorem Imm.ext {objs : List OB} {γ : Gh} {w w' : World} (h : w.heap.size ≤ w'.heap.size) {k : Nat} (hi : Imm objs γ w k) : Imm objs γ w' k := ⟨Nat.lt_of_lt_of_le hi.1 h, hi.2, hi.3⟩
theorem Keep.ext {objs : List OB} {γ : Gh} {w w' : World} (h : Chg [] w w') : Keep objs γ w objs γ w' objs.length :=
  ⟨fun k hk => Imm.ext h.size hk, fun k hk => h.block k hk.1 (by simp), Nat.le_refl _, fun _ _ => rfl, h.size, rfl⟩
theorem SameLen.refl (objs : List OB) : SameLen objs objs := fun o ti e xs fz h _ => ⟨ti, e, xs, fz, h, rfl⟩
theorem PR.ext {objs : List OB} {γ : Gh} {w w' : World} (h : Chg [] w w') {p : PV} {v : Value} (hr : PR objs γ w p v) : PR objs γ w' p v :=
  PR.keep (Keep.ext h) hr.below (.inr (SameLen.refl _)) hr
theorem VR.ext {objs : List OB} {γ : Gh} {w w' : World} (h : Chg [] w w') {c : Cv} {v : Value} (hr : VR objs γ w c v) : VR objs γ w' c v := VR.keep (Keep.ext h) hr.below hr
theorem VRL.ext {objs : List OB} {γ : Gh} {w w' : World} (h : Chg [] w w') {c : List Cv} {v : List Value} (hr : VRL objs γ w c v) : VRL objs γ w' c v := VRL.keep (Keep.ext h) hr.below hr
theorem Chg.trans' {ex : List Nat} {a b c : World} (h : Chg ex a b) (g : Chg [] b c) : Chg ex a c := by simpa using h.trans g
theorem ORel.ext {F : Fr} {objs : List OB} {γ : Gh} {w w' : World} (r : ORel F objs γ w) (h : Chg [] w w') : ORel F objs γ w' :=
  ⟨fun o ob ho => ObR.keep (Keep.ext h) (fun b hb => h.block b (r.lt o b (by
      rcases Nat.lt_or_ge o objs.length with h1 | h1
      · exact h1
      · rw [List.getElem?_eq_none h1] at ho; cases ho) hb) (by simp)) (r.rep o ob ho),
   r.inj, r.own, fun o b ho hb => Nat.lt_of_lt_of_le (r.lt o b ho hb) h.size, Chg.trans' r.chg h, fun o i e xs b ho hb => (r.frz o i e xs b ho hb).ext h.size, r.up, r.tab.mono (Keep.ext h).imm (Keep.ext h).heap⟩
theorem Rel.ext {F : Fr} {σ : AState} {γ : Gh} {a : Act} {w w' : World} (r : Rel F σ γ a w) (h : Chg [] w w') : Rel F σ γ a w' :=
  ⟨r.size, r.defers, fun t tg pv ht hg => let ⟨v, h1, h2⟩ := r.slots t tg pv ht hg; ⟨v, h1, h2.ext h⟩, r.off, r.gs, r.known, r.o.ext h⟩

/-! ### slots -/
theorem get_cons {s : Slots} {d t : Nat} {e : Option (Tag × PV)} : get ((d, e) :: s) t = if d = t then e else get s t := by
  simp only [get]
  by_cases h : d = t
  · subst h; simp
  · have : Nat.beq d t = false := Bool.eq_false_iff.2 fun hb => h (Nat.eq_of_beq_eq_true hb)
    simp [this, h]
theorem names_false {d : Nat} : ∀ {tg : Tag}, names d tg = false → ∀ x ∈ tg, x.1 ≠ d
  | [], _, x, hx => by cases hx
  | y :: r, h, x, hx => by
    simp only [names, Bool.or_eq_false_iff] at h
    rcases List.mem_cons.1 hx with rfl | hx
    · intro e; rw [e] at h; simp at h
    · exact names_false h.2 x hx
theorem litB_cons {σ : AState} {d : Nat} {e : Option (Tag × PV)} {x : Nat × Bool} (h : x.1 ≠ d) : litB { σ with slots := (d, e) :: σ.slots } x = litB σ x := by
  simp only [litB, get_cons, if_neg (Ne.symm h)]
/-- a slot is written -/
theorem Rel.putA {F : Fr} {σ : AState} {γ : Gh} {a : Act} {w : World} (r : Rel F σ γ a w) {d : Nat} {tg : Tag} {pv : PV} {v : Value}
    (hd : d < σ.n) (hg : bitB σ.gs d = false) (hn : names d tg = false) (hgs : ∀ x ∈ tg, bitB σ.gs x.1 = true) (hv : tagT σ tg → PR σ.objs γ w pv v) (hu : ¬ tagT σ tg → v = undef) :
    Rel F { σ with slots := (d, some (tg, pv)) :: σ.slots } γ (a.put (some d) v) w := by
  have hlit : ∀ x : Nat × Bool, bitB σ.gs x.1 = true → litB { σ with slots := (d, some (tg, pv)) :: σ.slots } x = litB σ x := fun x hx => litB_cons (fun e => by rw [e, hg] at hx; cases hx)
  refine ⟨by simp [Act.put, r.size], r.defers, fun t tg' pv' ht hT => ?_, fun t tg' pv' ht hT => ?_, fun t tg' pv' ht x hx => ?_, fun x hx => ?_, r.o⟩
  · rw [get_cons] at ht
    split at ht
    · rename_i e
      subst e
      cases ht
      refine ⟨v, by simp [Act.put, r.size, hd], hv fun x hx => ?_⟩
      have := hT x hx
      rwa [hlit x (hgs x hx)] at this
    · rename_i e
      obtain ⟨u, h1, h2⟩ := r.slots t tg' pv' ht (fun x hx => by
        have := hT x hx
        rwa [hlit x (r.gs t tg' pv' ht x hx)] at this)
      exact ⟨u, by simp only [Act.put]; rw [Array.getElem?_setIfInBounds_ne e]; exact h1, h2⟩
  · rw [get_cons] at ht
    split at ht
    · rename_i e
      subst e
      cases ht
      have : v = undef := hu fun hT' => hT fun x hx => by rw [hlit x (hgs x hx)]; exact hT' x hx
      simp [Act.put, r.size, hd, this]
    · rename_i e
      have := r.off t tg' pv' ht (fun hT' => hT fun x hx => by rw [hlit x (r.gs t tg' pv' ht x hx)]; exact hT' x hx)
      simp only [Act.put]; rw [Array.getElem?_setIfInBounds_ne e]; exact this
  · rw [get_cons] at ht
    split at ht
    · cases ht; exact hgs x hx
    · exact r.gs t tg' pv' ht x hx
  · obtain ⟨h1, h2⟩ := r.known x hx
    exact ⟨(hlit x h2).trans h1, h2⟩
theorem bitB_eq (m d : Nat) : bitB m d = m.testBit d := by
  have h1 : Nat.land (Nat.shiftRight m d) 1 = (m >>> d) % 2 := Nat.and_one_is_mod _
  have h2 : m.testBit d = decide ((m >>> d) % 2 = 1) := by
    have := Nat.testBit_shiftRight (i := d) (j := 0) m
    rw [Nat.add_zero] at this
    rw [← this, Nat.testBit_zero]
  unfold bitB
  rw [h1, h2]
  by_cases h : (m >>> d) % 2 = 1
  · rw [h]; rfl
  · rw [decide_eq_false h]
    exact Bool.eq_false_iff.2 fun hb => h (Nat.eq_of_beq_eq_true hb)
theorem bitB_lor {m k d : Nat} (h : bitB m d = true) : bitB (Nat.lor m k) d = true := by
  rw [bitB_eq] at *
  show (m ||| k).testBit d = true
  rw [Nat.testBit_or, h]; rfl
theorem bitB_lor' {m k d : Nat} : bitB (Nat.lor m k) d = (bitB m d || bitB k d) := by
  rw [bitB_eq, bitB_eq, bitB_eq]
  exact Nat.testBit_or m k d
theorem bitB_shift (t d : Nat) : bitB (Nat.shiftLeft 1 t) d = decide (t = d) := by
  rw [bitB_eq]
  show (1 <<< t).testBit d = _
  rw [Nat.testBit_shiftLeft]
  by_cases h : t = d
  · subst h; simp
  · simp only [h, decide_false]
    by_cases h2 : t ≤ d
    · obtain ⟨j, hj⟩ : ∃ j, d - t = j + 1 := ⟨d - t - 1, by omega⟩
      rw [hj, Nat.testBit_succ]; simp
    · simp [h2]
theorem bitB_self (k d : Nat) : bitB (Nat.lor k (Nat.shiftLeft 1 d)) d = true := by rw [bitB_lor', bitB_shift]; simp
theorem Rel.gsUp {F : Fr} {σ : AState} {γ : Gh} {a : Act} {w : World} (r : Rel F σ γ a w) (k : Nat) : Rel F { σ with gs := Nat.lor σ.gs k } γ a w :=
  ⟨r.size, r.defers, r.slots, r.off, fun t tg pv ht x hx => bitB_lor (r.gs t tg pv ht x hx), fun x hx => ⟨(r.known x hx).1, bitB_lor (r.known x hx).2⟩, r.o⟩
theorem putO_spec {σ σ' : AState} {d : Option Nat} {tg : Tag} {pv : PV} (h : σ.putO d tg pv = some σ') :
    (d = none ∧ σ' = σ) ∨ ∃ t, d = some t ∧ t < σ.n ∧ bitB σ.prS t = false ∧ bitB σ.gs t = false ∧ names t tg = false ∧ σ' = { σ with slots := (t, some (tg, pv)) :: σ.slots } := by
  cases d with
  | none => simp only [AState.putO] at h; cases h; exact .inl ⟨rfl, rfl⟩
  | some t =>
    simp only [AState.putO, AState.put, chk_some, Bool.and_eq_true, Bool.not_eq_true', Option.some.injEq] at h
    obtain ⟨⟨h1, h2, h3, h4⟩, rfl⟩ := h
    exact .inr ⟨t, rfl, by simpa [Nat.blt_eq] using h1, h2, h3, h4, rfl⟩
theorem Rel.putO {F : Fr} {σ σ' : AState} {γ : Gh} {a : Act} {w : World} (r : Rel F σ γ a w) {d : Option Nat} {tg : Tag} {pv : PV} {v : Value} (h : σ.putO d tg pv = some σ')
    (hgs : ∀ x ∈ tg, bitB σ.gs x.1 = true) (hv : tagT σ tg → PR σ.objs γ w pv v) (hu : ¬ tagT σ tg → v = undef) : Rel F σ' γ (a.put d v) w := by
  rcases putO_spec h with ⟨rfl, rfl⟩ | ⟨t, rfl, h1, h2, h3, h4, rfl⟩
  · exact r
  · exact r.putA h1 h3 h4 hgs hv hu
theorem Step.ext {σ : AState} {γ : Gh} {w w' : World} (h : Chg [] w w') : Step σ γ w σ γ w' := ⟨rfl, rfl, rfl, fun _ _ _ h => h, fun _ _ _ => rfl, Keep.ext h⟩
theorem Step.putO {σ σ' : AState} {γ : Gh} {w : World} {d : Option Nat} {tg : Tag} {pv : PV} (h : σ.putO d tg pv = some σ') : Step σ γ w σ' γ w := by
  rcases putO_spec h with ⟨rfl, rfl⟩ | ⟨t, rfl, h1, h2, h3, h4, rfl⟩
  · exact Step.refl _ _ _
  · refine ⟨rfl, rfl, rfl, fun t' e ht he => ?_, fun _ _ _ => rfl, Keep.refl _ _ _⟩
    unfold kf at he ⊢
    rw [get_cons, if_neg]
    · exact he
    · intro e; subst e; rw [h2] at ht; cases ht

theorem memT_spec {x : Nat × Bool} : ∀ {tg : Tag}, memT x tg = true → x ∈ tg
  | [], h => by cases h
  | y :: r, h => by
    simp only [memT, Bool.or_eq_true, Bool.and_eq_true] at h
    rcases h with ⟨h1, h2⟩ | h
    · have e1 := Nat.eq_of_beq_eq_true h1
      have e2 : x.2 = y.2 := by revert h2; cases x.2 <;> cases y.2 <;> simp [beqB]
      exact List.mem_cons.2 (.inl (Prod.ext e1 e2))
    · exact List.mem_cons_of_mem _ (memT_spec h)
theorem subT_spec {kn : Tag} : ∀ {a b : Tag}, subT kn a b = true → ∀ x ∈ a, x ∈ kn ∨ x ∈ b
  | [], _, _, x, hx => by cases hx
  | y :: r, b, h, x, hx => by
    simp only [subT, Bool.and_eq_true, Bool.or_eq_true] at h
    rcases List.mem_cons.1 hx with rfl | hx
    · exact h.1.imp memT_spec memT_spec
    · exact subT_spec h.2 x hx
/-- an operand that is known -/
theorem ev_sound {F : Fr} {σ : AState} {γ : Gh} {a : Act} {w : World} (r : Rel F σ γ a w) {tg : Tag} (hT : tagT σ tg) {x : Operand} {pv : PV} (h : ev σ tg x = some pv) : PR σ.objs γ w pv (a.eval x) := by
  cases x with
  | tmp t =>
    simp only [ev, Option.bind_eq_some_iff, chk_some, Option.some.injEq] at h
    obtain ⟨⟨tg', pv'⟩, h1, h2, rfl⟩ := h
    obtain ⟨v, hv, hp⟩ := r.slots t tg' pv' h1 (fun x hx => (subT_spec h2 x hx).elim (fun hk => (r.known x hk).1) (hT x))
    have : a.eval (.tmp t) = v := by simp [Act.eval, Array.getD_eq_getD_getElem?, hv]
    rw [this]
    exact hp
  | const v =>
    simp only [ev, Option.some.injEq] at h
    subst h
    show PR _ _ _ _ v
    cases v <;> first | rfl | exact ⟨_, rfl, VRL.cvs _⟩
  | global g =>
    simp only [ev, Option.bind_eq_some_iff, Option.some.injEq] at h
    obtain ⟨cs, h1, rfl⟩ := h
    obtain ⟨h2, h3⟩ := r.o.tab.cells h1
    exact ⟨⟨g, 0, none⟩, cs, rfl, h2.lt, fun _ => h2, h3, VRL.cvs _⟩
  | func f =>
    simp only [ev, Option.some.injEq] at h
    subst h
    exact ⟨trivial, [], rfl, rfl⟩
theorem plainL_spec {objs : List OB} {γ : Gh} {w : World} : ∀ {l : List Cv} {vs us : List Value}, plainL l = some vs → VRL objs γ w l us → us = vs
  | [], vs, us, h, hr => by simp only [plainL, Option.some.injEq] at h; simp only [VRL] at hr; rw [hr, h]
  | c :: l, vs, us, h, ⟨v, q, e, h1, h2⟩ => by
    cases c <;> simp only [plainL, Option.bind_eq_some_iff, Option.some.injEq] at h <;> try (cases h; done)
    obtain ⟨ws, h3, rfl⟩ := h
    simp only [VR] at h1
    rw [e, h1, plainL_spec h3 h2]
theorem plain_spec {objs : List OB} {γ : Gh} {w : World} {pv : PV} {x v : Value} (h : plain pv = some x) (hr : PR objs γ w pv v) : v = x := by
  cases pv with
  | c c => cases c <;> simp only [plain, Option.some.injEq] at h <;> first | (cases h; done) | (subst h; exact hr)
  | agg l =>
    simp only [plain, Option.bind_eq_some_iff, Option.some.injEq] at h
    obtain ⟨vs, h1, rfl⟩ := h
    obtain ⟨cs, rfl, h2⟩ := hr
    rw [← plainL_spec h1 h2]
  | _ => simp [plain] at h
theorem tagB_spec {σ : AState} : ∀ {tg : Tag}, tagB σ tg = true ↔ tagT σ tg
  | [] => by simp [tagB, tagT]
  | [x] => by simp [tagB, tagT]
  | x :: y :: r => by
    have ih := tagB_spec (σ := σ) (tg := y :: r)
    simp only [tagB, Bool.and_eq_true, ih]
    simp [tagT]
end Go.Den
namespace Go.Den
open Go.Eng
set_option linter.unusedVariables false
set_option linter.unusedSectionVars false
set_option linter.unusedSimpArgs false
variable [CT : Ctx]

theorem add_add (a : Addr) (j k : Nat) : (a.add j).add k = a.add (j + k) := by
  unfold Addr.add
  by_cases h : j = 0
  · subst h; simp
  · by_cases g : k = 0
    · subst g; simp [h]
    · simp [h, g, Nat.add_assoc]
theorem CellsAt.part {w : World} {a : Addr} {us : List Value} (h : CellsAt w a us) (k m : Nat) : CellsAt w (a.add k) ((us.drop k).take m) := by
  intro j v hv
  rw [add_add]
  refine h (k + j) v ?_
  rw [List.getElem?_take] at hv
  split at hv
  · simpa using hv
  · cases hv
theorem CellsAt.drop {w : World} {a : Addr} {us : List Value} (h : CellsAt w a us) (k : Nat) : CellsAt w (a.add k) (us.drop k) := by
  intro j v hv
  rw [add_add]
  exact h (k + j) v (by simpa using hv)
theorem cellsAt_blk {w : World} {b : Nat} {cur : Array Value} {i : TypeId} {fz : Nat × Nat} (h : w.heap[b]? = some (.cells cur i fz)) (off : Nat) : CellsAt w ⟨b, off, none⟩ (cur.toList.drop off) := by
  intro j v hv
  rw [adr_add]
  have : cur[off + j]? = some v := by simpa using hv
  simp [World.cell?, h, this]
theorem CellsAt.take {w : World} {a : Addr} {us : List Value} (h : CellsAt w a us) (m : Nat) : CellsAt w a (us.take m) := by
  intro j v hv
  rw [List.getElem?_take] at hv
  split at hv
  · exact h j v hv
  · cases hv
theorem CellsAt.appendL {w : World} {a : Addr} {us vs : List Value} (h : CellsAt w a (us ++ vs)) : CellsAt w a us := by
  have := CellsAt.take h us.length
  simpa using this
theorem Row.blk {w : World} {b : Nat} {cur : Array Value} {i : TypeId} (h : Row w b cur i) (off : Nat) : CellsAt w ⟨b, off, none⟩ (cur.toList.drop off) := by
  obtain ⟨fz, h, _⟩ := h
  exact cellsAt_blk h off
theorem OwnR.cells {w : World} {i : TypeId} {size : Nat} {v : Value} {M : List Nat} {n : Nat} {us : List Value} (h : OwnR w i size v M n us) (hn : n ≠ 0) : ∃ b cap, M = [b] ∧ v = .slice (some ⟨b, 0, none⟩) n cap ∧ n ≤ cap ∧ CellsAt w ⟨b, 0, none⟩ us := by
  rcases h with ⟨_, _, h, _⟩ | ⟨b, cap, cur, h1, h2, h3, h4, h5, h6, h7⟩
  · exact absurd h hn
  · refine ⟨b, cap, h1, h2, h4, ?_⟩
    have := CellsAt.take (h3.blk 0) (n * size)
    rw [List.drop_zero, h7] at this
    exact this
theorem OwnR.lt {w : World} {i : TypeId} {size : Nat} {v : Value} {M : List Nat} {n : Nat} {us : List Value} (h : OwnR w i size v M n us) : ∀ b ∈ M, b < w.heap.size := by
  intro b hb
  rcases h with ⟨h, _⟩ | ⟨b', cap, cur, h1, h2, h3, _⟩
  · rw [h] at hb; cases hb
  · rw [h1] at hb
    simp at hb
    subst hb
    exact h3.lt
/-- an owned row as data -/
theorem OwnR.sl {w : World} {S : Nat → Prop} {i : TypeId} {e : Ty} {v : Value} {M : List Nat} {xs : List (D e)} {us : List Value} (h : OwnR w i e.size v M xs.length us) (hr : RepL (fun x c => Rep w S e x [] c) xs us) (hM : ∀ b ∈ M, S b) : Rep w S (.sl e) xs [] [v] := by
  refine ⟨rfl, ?_⟩
  by_cases hx : xs = []
  · subst hx
    simp only [RepL] at hr
    subst hr
    rcases h with ⟨_, ⟨ao, rfl⟩, _⟩ | ⟨b, cap, cur, h1, rfl, h3, h4, _⟩
    · exact ⟨ao, 0, [], rfl, Nat.le_refl _, rfl, fun h => absurd rfl h⟩
    · exact ⟨_, cap, [], rfl, h4, rfl, fun h => absurd rfl h⟩
  · obtain ⟨b, cap, h1, h2, h3, h4⟩ := h.cells (fun hn => hx (List.eq_nil_of_length_eq_zero hn))
    exact ⟨_, cap, us, by rw [h2], h3, hr, fun _ => ⟨_, rfl, hM b (by simp [h1]), h4⟩⟩

theorem castL_spec {e e' : Ty} {xs : List (D e')} {ys : List (D e)} (h : castL e e' xs = some ys) : ∃ he : e' = e, he ▸ xs = ys := by
  unfold castL at h
  split at h
  · rename_i he; exact ⟨he, Option.some.inj h⟩
  · cases h

theorem ofSl_v {e : Ty} {objs : List OB} {x : Value} {xs : List (D e)} (h : ofSl e objs (.v x) = some xs) : x = .slice none 0 0 ∧ xs = [] := by
  cases x with
  | slice a l c =>
    cases a with
    | some a => simp [ofSl] at h
    | none =>
      cases l with
      | succ l => simp [ofSl] at h
      | zero =>
        cases c with
        | succ c => simp [ofSl] at h
        | zero => simp only [ofSl, Option.some.injEq] at h; exact ⟨rfl, h.symm⟩
  | _ => simp [ofSl] at h
theorem ofOsl_v {i : TypeId} {e : Ty} {objs : List OB} {x : Value} {xs : List (D e)} (h : ofOsl i e objs (.v x) = some xs) : x = .slice none 0 0 ∧ xs = [] := by
  cases x with
  | slice a l c =>
    cases a with
    | some a => simp [ofOsl] at h
    | none =>
      cases l with
      | succ l => simp [ofOsl] at h
      | zero =>
        cases c with
        | succ c => simp [ofOsl] at h
        | zero => simp only [ofOsl, Option.some.injEq] at h; exact ⟨rfl, h.symm⟩
  | _ => simp [ofOsl] at h
section
variable {F : Fr} {objs : List OB} {γ : Gh} {w : World} {S : Nat → Prop}

theorem ofSl_spec (r : ORel F objs γ w) (hS : ∀ k, Imm objs γ w k → S k) {e : Ty} {c : Cv} {xs : List (D e)} {v : Value} (h : ofSl e objs c = some xs) (hv : VR objs γ w c v) (hids : ∀ o, c = .os o → ∀ b, (γ o).2 = some b → S b) : Rep w S (.sl e) xs [] [v] := by
  cases c with
  | v x =>
    simp only [VR] at hv
    obtain ⟨rfl, rfl⟩ := ofSl_v h
    subst hv
    exact ⟨rfl, none, 0, [], rfl, Nat.le_refl _, rfl, fun hn => absurd rfl hn⟩
  | sl e' ys =>
    simp only [ofSl] at h
    obtain ⟨rfl, h⟩ := castL_spec h
    subst h
    exact Rep.mono hS (fun _ _ => rfl) _ hv (by simp)
  | os o =>
    simp only [ofSl, Option.bind_eq_some_iff] at h
    obtain ⟨ob, ho, h⟩ := h
    cases ob with
    | arr i e' ys fz =>
      simp only at h
      obtain ⟨rfl, h⟩ := castL_spec h
      subst h
      obtain ⟨us, h1, h2⟩ := r.rep o _ ho
      have hv' := hv.2.1
      subst hv'
      exact OwnR.sl h1 (h2.mono fun x c hx => Rep.mono hS (fun _ _ => rfl) _ hx (by simp)) (fun b hb => hids o rfl b (by simpa using hb))
    | _ => simp at h
  | ptr o off => simp [ofSl] at h
  | fn f caps => simp [ofSl] at h
  | er b => simp [ofSl] at h
  | e0 =>
    simp only [ofSl, Option.some.injEq] at h
    subst h
    obtain ⟨ao, rfl⟩ := hv
    exact ⟨rfl, ao, 0, [], rfl, Nat.le_refl _, rfl, fun hn => absurd rfl hn⟩

theorem ownB_spec {objs : List OB} {cs l : List Cv} (h : ownB objs cs = some l) : ∃ o off, cs = [.ptr o off] ∧ off = 0 ∧ objs[o]? = some (.box l) := by
  unfold ownB at h
  split at h
  · rename_i o off
    split at h
    · rename_i l' ho
      cases hb : Nat.beq off 0 with
      | false => rw [hb] at h; cases h
      | true =>
        rw [hb] at h
        simp only [cond_true, Option.some.injEq] at h
        subst h
        exact ⟨o, off, rfl, Nat.eq_of_beq_eq_true hb, ho⟩
    · cases h
  · cases h
theorem bldC_spec {objs : List OB} {t : TypeId} {cs : List Cv} {c : Cv} (h : bldC objs t cs = some c) : ∃ o off, cs = [.ptr o off] ∧ off = 0 ∧ objs[o]? = some (.bld t c) := by
  unfold bldC at h
  split at h
  · rename_i o off
    split at h
    · rename_i t' c' ho
      cases hb : (Nat.beq off 0 && Nat.beq t' t) with
      | false => rw [hb] at h; cases h
      | true =>
        rw [hb] at h
        simp only [cond_true, Option.some.injEq] at h
        subst h
        simp only [Bool.and_eq_true] at hb
        obtain rfl := Nat.eq_of_beq_eq_true hb.2
        exact ⟨o, off, rfl, Nat.eq_of_beq_eq_true hb.1, ho⟩
    · cases h
  · cases h
theorem cvErr_spec {objs : List OB} {γ : Gh} {w : World} {c : Cv} {x : Bool} {v : Value} (h : cvErr c = some x) (hv : VR objs γ w c v) : (x = false ∧ v = .nilIface) ∨ (x = true ∧ ∃ t p, v = .iface t p) := by
  cases c with
  | v y =>
    cases y with
    | nilIface => simp only [cvErr, Option.some.injEq] at h; subst h; exact .inl ⟨rfl, hv⟩
    | _ => simp [cvErr] at h
  | er b => simp only [cvErr, Option.some.injEq] at h; subst h; exact hv
  | _ => simp [cvErr] at h
theorem u8_rep {w : World} {S : Nat → Prop} : ∀ {xs : List (D (.int .u8))} {us : List Value}, RepL (fun x c => Rep w S (.int .u8) x [] c) xs us → us = List.map (α := Int) (Value.int .u8) xs
  | [], us, h => h
  | x :: xs, us, ⟨c, r, e, h1, h2⟩ => by
    rw [e, h1.2, u8_rep h2]
    rfl
theorem rep_u8 {w : World} {S : Nat → Prop} : ∀ xs : List (D (.int .u8)), RepL (fun x c => Rep w S (.int .u8) x [] c) xs (List.map (α := Int) (Value.int .u8) xs)
  | [] => rfl
  | x :: xs => ⟨[.int .u8 x], _, rfl, ⟨rfl, rfl⟩, rep_u8 xs⟩
def blocks (γ : Gh) (l : List Nat) : List Nat := l.flatMap fun o => (γ o).2.toList
theorem ofOsl_spec (r : ORel F objs γ w) (hS : ∀ k, Imm objs γ w k → S k) {i : TypeId} {e : Ty} {c : Cv} {xs : List (D e)} {v : Value} (h : ofOsl i e objs c = some xs) (hv : VR objs γ w c v) :
    Rep w S (.osl i e) xs (blocks γ (osId c)) [v] ∧ ∀ o, c = .os o → Mut objs o := by
  cases c with
  | v x =>
    simp only [VR] at hv
    obtain ⟨rfl, rfl⟩ := ofOsl_v h
    subst hv
    exact ⟨⟨_, [], rfl, .inl ⟨rfl, ⟨_, rfl⟩, rfl, rfl⟩, rfl⟩, fun o ho => by cases ho⟩
  | sl e' ys => simp [ofOsl] at h
  | os o =>
    simp only [ofOsl, Option.bind_eq_some_iff] at h
    obtain ⟨ob, ho, h⟩ := h
    cases ob with
    | arr i' e' ys fz =>
      cases fz
      · simp only [chk_some] at h
        obtain ⟨hi, h⟩ := h
        have hi' := Nat.eq_of_beq_eq_true hi
        subst hi'
        obtain ⟨rfl, h⟩ := castL_spec h
        subst h
        obtain ⟨us, h1, h2⟩ := r.rep o _ ho
        have hv' := hv.2.1
        subst hv'
        refine ⟨⟨_, us, rfl, ?_, h2.mono fun x c hx => Rep.mono hS (fun _ _ => rfl) _ hx (by simp)⟩, fun o' ho' => by cases ho'; exact ⟨_, ho, rfl⟩⟩
        simpa [blocks, osId] using h1
      · simp at h
    | _ => simp at h
  | ptr o off => simp [ofOsl] at h
  | fn f caps => simp [ofOsl] at h
  | er b => simp [ofOsl] at h
  | e0 =>
    simp only [ofOsl, Option.some.injEq] at h
    subst h
    obtain ⟨ao, rfl⟩ := hv
    exact ⟨⟨_, [], rfl, .inl ⟨rfl, ⟨_, rfl⟩, rfl, rfl⟩, rfl⟩, fun o ho => by cases ho⟩

theorem cv1_spec {l : List Cv} {c : Cv} (h : cv1 l = some c) : l = [c] := by
  cases l with
  | nil => cases h
  | cons a r => cases r with
    | nil => simp only [cv1, Option.some.injEq] at h; rw [h]
    | cons _ _ => cases h
theorem cvInt_spec {k : IntKind} {c : Cv} {x : Int} (h : cvInt k c = some x) : c = .v (.int k x) := by
  cases c with
  | v y =>
    cases y with
    | int k' n =>
      simp only [cvInt, chk_some, Option.some.injEq] at h
      obtain ⟨h1, rfl⟩ := h
      obtain rfl := sameKind_eq h1
      rfl
    | _ => simp [cvInt] at h
  | _ => simp [cvInt] at h
theorem cvBool_spec {c : Cv} {x : Bool} (h : cvBool c = some x) : c = .v (.bool x) := by
  cases c with
  | v y =>
    cases y with
    | bool b => simp only [cvBool, Option.some.injEq] at h; subst h; rfl
    | _ => simp [cvBool] at h
  | _ => simp [cvBool] at h
theorem cvStr_spec {c : Cv} {x : ByteArray} (h : cvStr c = some x) : c = .v (.string x) := by
  cases c with
  | v y =>
    cases y with
    | string b => simp only [cvStr, Option.some.injEq] at h; subst h; rfl
    | _ => simp [cvStr] at h
  | _ => simp [cvStr] at h
theorem VRL.one' {c : Cv} {cs : List Value} (h : VRL objs γ w [c] cs) : ∃ v, cs = [v] ∧ VR objs γ w c v := by
  obtain ⟨v, q, rfl, h2, h3⟩ := h
  simp only [VRL] at h3
  subst h3
  exact ⟨v, rfl, h2⟩
/-- DATA OUT OF CELLS -/
theorem toD_spec (r : ORel F objs γ w) (hS : ∀ k, Imm objs γ w k → S k) (τ : Ty) : ∀ {l : List Cv} {x : D τ} {cs : List Value}, toD objs τ l = some x → VRL objs γ w l cs →
    (∀ o ∈ idsD objs τ l, ∀ b, (γ o).2 = some b → S b) → Rep w S τ x (blocks γ (idsO objs τ l)) cs ∧ ∀ o ∈ idsO objs τ l, Mut objs o := by
  induction τ with
  | int k =>
    intro l x cs h hv _
    obtain ⟨c, h1, h2⟩ := Option.bind_eq_some_iff.1 h
    obtain rfl := cv1_spec h1
    obtain ⟨v, rfl, h3⟩ := hv.one'
    rw [cvInt_spec h2] at h3
    exact ⟨⟨rfl, by rw [h3]⟩, fun o ho => by simp [idsO] at ho⟩
  | bool =>
    intro l x cs h hv _
    obtain ⟨c, h1, h2⟩ := Option.bind_eq_some_iff.1 h
    obtain rfl := cv1_spec h1
    obtain ⟨v, rfl, h3⟩ := hv.one'
    rw [cvBool_spec h2] at h3
    exact ⟨⟨rfl, by rw [h3]⟩, fun o ho => by simp [idsO] at ho⟩
  | str =>
    intro l x cs h hv _
    obtain ⟨c, h1, h2⟩ := Option.bind_eq_some_iff.1 h
    obtain rfl := cv1_spec h1
    obtain ⟨v, rfl, h3⟩ := hv.one'
    rw [cvStr_spec h2] at h3
    exact ⟨⟨rfl, by rw [h3]⟩, fun o ho => by simp [idsO] at ho⟩
  | err =>
    intro l x cs h hv _
    obtain ⟨c, h1, h2⟩ := Option.bind_eq_some_iff.1 h
    obtain rfl := cv1_spec h1
    obtain ⟨v, rfl, h3⟩ := hv.one'
    exact ⟨⟨rfl, v, rfl, cvErr_spec h2 h3⟩, fun o ho => by simp [idsO] at ho⟩
  | bld t i =>
    intro l x cs h hv hids
    obtain ⟨c, h1, h2⟩ := Option.bind_eq_some_iff.1 h
    obtain ⟨o, off, rfl, rfl, hob⟩ := bldC_spec h1
    obtain ⟨v, rfl, h3⟩ := hv.one'
    obtain ⟨b, p, v', hg, hheap, hp, hvc⟩ := r.rep o _ hob
    obtain ⟨_, b', hgb, rfl⟩ := h3
    rw [hg] at hgb
    cases hgb
    obtain ⟨⟨v2, us, e2, h6, h7⟩, h5⟩ := ofOsl_spec (S := S) r hS h2 hvc
    cases e2
    have e1 : idsO objs (.bld t i) [Cv.ptr o 0] = o :: osId c := by simp [idsO, ptrId, h1]
    rw [e1]
    refine ⟨⟨b, blocks γ (osId c), p, v', us, by simp [blocks, hg], rfl, hheap, hp, h6, u8_rep h7⟩, fun o' ho' => ?_⟩
    rcases List.mem_cons.1 ho' with rfl | ho'
    · exact ⟨_, hob, rfl⟩
    · refine h5 o' ?_
      cases c <;> simp [osId] at ho'
      rw [ho']
  | nil =>
    intro l x cs h hv _
    cases l with
    | nil =>
      simp only [VRL] at hv
      subst hv
      exact ⟨⟨rfl, rfl⟩, fun o ho => by simp [idsO] at ho⟩
    | cons _ _ => cases h
  | sl e _ =>
    intro l x cs h hv hids
    obtain ⟨c, h1, h2⟩ := Option.bind_eq_some_iff.1 h
    obtain rfl := cv1_spec h1
    obtain ⟨v, rfl, h3⟩ := hv.one'
    exact ⟨ofSl_spec r hS h2 h3 fun o ho b hb => hids o (by subst ho; simp [idsD, cv1, osId]) b hb, fun o ho => by simp [idsO] at ho⟩
  | osl i e _ =>
    intro l x cs h hv hids
    obtain ⟨c, h1, h2⟩ := Option.bind_eq_some_iff.1 h
    obtain rfl := cv1_spec h1
    obtain ⟨v, rfl, h3⟩ := hv.one'
    obtain ⟨h4, h5⟩ := ofOsl_spec (S := S) r hS h2 h3
    have e1 : idsO objs (.osl i e) [c] = osId c := rfl
    rw [e1]
    refine ⟨h4, fun o ho => h5 o ?_⟩
    cases c <;> simp [osId] at ho
    rw [ho]
  | obx e ih =>
    intro l x cs h hv hids
    obtain ⟨bl, h1, h2⟩ := Option.bind_eq_some_iff.1 h
    obtain ⟨o, off, rfl, rfl, hob⟩ := ownB_spec h1
    obtain ⟨v, rfl, h3⟩ := hv.one'
    obtain ⟨b, T, cells, hg, hheap, hvl⟩ := r.rep o _ hob
    obtain ⟨_, b', hgb, rfl⟩ := h3
    rw [hg] at hgb
    cases hgb
    have e1 : idsO objs (.obx e) [Cv.ptr o 0] = o :: idsO objs e bl := by simp [idsO, ptrId, h1]
    have e2 : idsD objs (.obx e) [Cv.ptr o 0] = idsD objs e bl := by simp [idsD, h1]
    rw [e2] at hids
    obtain ⟨h4, h5⟩ := ih h2 hvl hids
    rw [e1]
    refine ⟨⟨b, _, T, cells, ?_, rfl, hheap, h4⟩, fun o' ho' => ?_⟩
    · simp [blocks, hg]
    · rcases List.mem_cons.1 ho' with rfl | ho'
      · exact ⟨_, hob, rfl⟩
      · exact h5 o' ho'
  | st f q ihf ihq =>
    intro l x cs h hv hids
    simp only [toD, Option.bind_eq_some_iff] at h
    obtain ⟨x1, h1, x2, h2, hx⟩ := h
    have hx : (x1, x2) = x := Option.some.inj hx
    subst hx
    obtain ⟨r1, m1⟩ := ihf h1 (hv.take f.size) (fun o ho => hids o (by simp [idsD, ho]))
    obtain ⟨r2, m2⟩ := ihq h2 (hv.drop f.size) (fun o ho => hids o (by simp [idsD, ho]))
    refine ⟨⟨_, _, _, _, (List.take_append_drop f.size cs).symm, ?_, r1, r2⟩, fun o ho => ?_⟩
    · simp [blocks, idsO]
    · simp only [idsO, List.mem_append] at ho
      exact ho.elim (m1 o) (m2 o)

/-- CELLS OF DATA -/
theorem cellsOf_spec {objs : List OB} {γ : Gh} {w : World} : ∀ (τ : Ty) {x : D τ} {cs : List Value}, Rep w (Imm objs γ w) τ x [] cs → VRL objs γ w (cellsOf τ x) cs
  | .int k, _, _, h => ⟨_, _, h.2, rfl, rfl⟩
  | .bool, _, _, h => ⟨_, _, h.2, rfl, rfl⟩
  | .str, _, _, h => ⟨_, _, h.2, rfl, rfl⟩
  | .nil, _, _, h => h.2
  | .sl e, xs, cs, h => by
    obtain ⟨_, ao, cap, us, h1, h2⟩ := h
    exact ⟨_, _, h1, ⟨rfl, ao, cap, us, rfl, h2⟩, rfl⟩
  | .osl i e, xs, cs, h => by
    obtain ⟨v, us, h1, h2, h3⟩ := h
    exact ⟨_, _, h1, OwnR.sl h2 h3 (by simp), rfl⟩
  | .obx _, _, _, ⟨_, _, _, _, h, _⟩ => by cases h
  | .err, b, _, ⟨_, v, h, h2⟩ => ⟨v, [], h, h2, rfl⟩
  | .bld _ _, _, _, ⟨_, _, _, _, _, h, _⟩ => by cases h
  | .st f r, x, cs, h => by
    obtain ⟨c1, c2, M1, M2, h1, h2, h3, h4⟩ := h
    obtain ⟨rfl, rfl⟩ : M1 = [] ∧ M2 = [] := by simpa using h2.symm
    subst h1
    exact (cellsOf_spec f h3).append (cellsOf_spec r h4)
theorem cellsOf_length : ∀ (τ : Ty) (x : D τ), (cellsOf τ x).length = τ.size
  | .int k, _ => rfl
  | .bool, _ => rfl
  | .str, _ => rfl
  | .nil, _ => rfl
  | .sl e, _ => rfl
  | .osl _ _, _ => rfl
  | .obx _, _ => rfl
  | .err, _ => rfl
  | .bld _ _, _ => rfl
  | .st f r, x => by simp [cellsOf, cellsOf_length f, cellsOf_length r, Ty.size]
theorem cc_length : ∀ (τ : Ty) (x : D τ) (n : Nat), (cc τ x n).1.length = τ.size
  | .int k, _, _ => rfl
  | .bool, _, _ => rfl
  | .str, _, _ => rfl
  | .nil, _, _ => rfl
  | .sl e, _, _ => rfl
  | .osl _ _, _, _ => rfl
  | .obx _, _, _ => rfl
  | .err, _, _ => rfl
  | .bld _ _, _, _ => rfl
  | .st f r, x, n => by simp [cc, cc_length f, cc_length r, Ty.size]

/-- NEW OBJECTS FOR DATA: what their ghosts are -/
theorem cc_spec {w : World} {S : Nat → Prop} : ∀ (τ : Ty) {x : D τ} {M : List Nat} {cs : List Value}, Rep w S τ x M cs → ∀ n : Nat, ∃ gs : List (Value × Option Nat), gs.length = (cc τ x n).2.length ∧ M = gs.flatMap (fun g => g.2.toList) ∧
    ∀ (objs : List OB) (γ : Gh), (∀ k, S k → Imm objs γ w k) → (∀ j g, gs[j]? = some g → γ (n + j) = g) → n + gs.length ≤ objs.length →
      VRL objs γ w (cc τ x n).1 cs ∧ (∀ (j : Nat) ob g, (cc τ x n).2[j]? = some ob → gs[j]? = some g → ObR objs γ w ob g ∧ mutOb ob = true)
  | .int k, x, M, cs, h, n => ⟨[], rfl, by simp [h.1], fun objs γ hS _ _ => ⟨⟨_, _, h.2, rfl, rfl⟩, fun j ob g ho => by simp [cc] at ho⟩⟩
  | .bool, x, M, cs, h, n => ⟨[], rfl, by simp [h.1], fun objs γ hS _ _ => ⟨⟨_, _, h.2, rfl, rfl⟩, fun j ob g ho => by simp [cc] at ho⟩⟩
  | .str, x, M, cs, h, n => ⟨[], rfl, by simp [h.1], fun objs γ hS _ _ => ⟨⟨_, _, h.2, rfl, rfl⟩, fun j ob g ho => by simp [cc] at ho⟩⟩
  | .nil, x, M, cs, h, n => ⟨[], rfl, by simp [h.1], fun objs γ hS _ _ => ⟨h.2, fun j ob g ho => by simp [cc] at ho⟩⟩
  | .sl e, x, M, cs, h, n => ⟨[], rfl, by simp [h.1], fun objs γ hS _ _ => by
      have h' := Rep.mono hS (fun _ _ => rfl) (.sl e) h (by simp [h.1])
      obtain ⟨_, ao, cap, us, h1, h2⟩ := h'
      exact ⟨⟨_, _, h1, ⟨rfl, ao, cap, us, rfl, h2⟩, rfl⟩, fun j ob g ho => by simp [cc] at ho⟩⟩
  | .osl i e, xs, M, cs, h, n => by
    obtain ⟨v, us, h1, h2, h3⟩ := h
    have hM : ∃ o : Option Nat, M = o.toList := by
      rcases h2 with ⟨h, _⟩ | ⟨b, _, _, h, _⟩
      · exact ⟨none, h⟩
      · exact ⟨some b, h⟩
    obtain ⟨o, rfl⟩ := hM
    refine ⟨[(v, o)], rfl, by simp, fun objs γ hS hg hn => ⟨⟨v, [], h1, ⟨by simp at hn; omega, ?_, ?_⟩, rfl⟩, fun j ob g ho hj => ?_⟩⟩
    · have := hg 0 _ rfl
      rw [Nat.add_zero] at this
      rw [this]
    · rcases h2 with ⟨_, ⟨ao, rfl⟩, _⟩ | ⟨b, cap, cur, _, rfl, _⟩
      · exact ⟨_, _, _, rfl⟩
      · exact ⟨_, _, _, rfl⟩
    · have hj0 : j = 0 := by
        cases j with
        | zero => rfl
        | succ j => simp at hj
      subst hj0
      simp only [List.getElem?_cons_zero, Option.some.injEq] at hj
      subst hj
      simp only [cc, List.getElem?_cons_zero, Option.some.injEq] at ho
      subst ho
      exact ⟨⟨us, h2, h3.mono fun x c hx => Rep.mono hS (fun _ _ => rfl) _ hx (by simp)⟩, rfl⟩
  | .obx e, x, M, cs, h, n => by
    obtain ⟨b, M', T, cells, h1, h2, h3, h4⟩ := h
    obtain ⟨gs, l1, m1, p1⟩ := cc_spec e h4 (n + 1)
    refine ⟨(.pointer (some ⟨b, 0, none⟩), some b) :: gs, by simp [cc, l1], by rw [h1, m1]; simp, fun objs γ hS hg hn => ?_⟩
    simp only [List.length_cons] at hn
    obtain ⟨p2, p3⟩ := p1 objs γ hS (fun j g hj => by
      have := hg (j + 1) g (by simpa using hj)
      rwa [show n + (j + 1) = n + 1 + j by omega] at this) (by omega)
    have e0 := hg 0 _ rfl
    rw [Nat.add_zero] at e0
    refine ⟨⟨_, _, h2, ⟨by omega, b, by rw [e0], rfl⟩, rfl⟩, fun j ob g ho hj => ?_⟩
    cases j with
    | zero =>
      simp only [List.getElem?_cons_zero, Option.some.injEq] at hj
      subst hj
      simp only [cc, List.getElem?_cons_zero, Option.some.injEq] at ho
      subst ho
      exact ⟨⟨b, T, cells, rfl, h3, p2⟩, rfl⟩
    | succ j => exact p3 j ob g (by simpa [cc] using ho) (by simpa using hj)
  | .err, b, M, cs, h, n => ⟨[], rfl, by simp [h.1], fun objs γ hS _ _ => by
      obtain ⟨_, v, h1, h2⟩ := h
      exact ⟨⟨v, [], h1, h2, rfl⟩, fun j ob g ho => by simp [cc] at ho⟩⟩
  | .bld t i, xs, M, cs, h, n => by
    obtain ⟨b, M', p, v, us, h1, h2, h3, h4, h5, h6⟩ := h
    have hM : ∃ o : Option Nat, M' = o.toList := by
      rcases h5 with ⟨h, _⟩ | ⟨b, _, _, h, _⟩
      · exact ⟨none, h⟩
      · exact ⟨some b, h⟩
    obtain ⟨o, rfl⟩ := hM
    refine ⟨[(.pointer (some ⟨b, 0, none⟩), some b), (v, o)], rfl, by simp [h1], fun objs γ hS hg hn => ?_⟩
    simp only [List.length_cons, List.length_nil] at hn
    have e0 := hg 0 _ rfl
    have e1 := hg 1 _ rfl
    rw [Nat.add_zero] at e0
    refine ⟨⟨_, _, h2, ⟨by omega, b, by rw [e0], rfl⟩, rfl⟩, fun j ob g ho hj => ?_⟩
    cases j with
    | zero =>
      simp only [List.getElem?_cons_zero, Option.some.injEq] at hj
      subst hj
      simp only [cc, List.getElem?_cons_zero, Option.some.injEq] at ho
      subst ho
      refine ⟨⟨b, p, v, rfl, h3, h4, by omega, by rw [e1], ?_⟩, rfl⟩
      rcases h5 with ⟨_, ⟨ao, rfl⟩, _⟩ | ⟨b, cap, cur, _, rfl, _⟩
      · exact ⟨_, _, _, rfl⟩
      · exact ⟨_, _, _, rfl⟩
    | succ j =>
      cases j with
      | zero =>
        simp only [Nat.zero_add, List.getElem?_cons_succ, List.getElem?_cons_zero, Option.some.injEq] at hj
        subst hj
        simp only [cc, Nat.zero_add, List.getElem?_cons_succ, List.getElem?_cons_zero, Option.some.injEq] at ho
        subst ho
        refine ⟨⟨us, h5, ?_⟩, rfl⟩
        rw [h6]
        exact rep_u8 xs
      | succ j => simp at hj
  | .st f r, x, M, cs, h, n => by
    obtain ⟨c1, c2, M1, M2, h1, h2, h3, h4⟩ := h
    obtain ⟨g1, l1, m1, p1⟩ := cc_spec f h3 n
    obtain ⟨g2, l2, m2, p2⟩ := cc_spec r h4 (n + (cc f x.1 n).2.length)
    refine ⟨g1 ++ g2, by simp [cc, l1, l2], by simp [h2, m1, m2], fun objs γ hS hg hn => ?_⟩
    rw [List.length_append] at hn
    obtain ⟨a1, b1⟩ := p1 objs γ hS (fun j g hj => hg j g (by
      rw [List.getElem?_append_left (List.getElem?_eq_some_iff.1 hj).1]; exact hj)) (by omega)
    obtain ⟨a2, b2⟩ := p2 objs γ hS (fun j g hj => by
      have := hg (g1.length + j) g (by rw [List.getElem?_append_right (by omega)]; simpa using hj)
      rw [← l1, Nat.add_assoc]
      exact this) (by omega)
    subst h1
    refine ⟨a1.append a2, fun j ob g ho hj => ?_⟩
    simp only [cc] at ho
    by_cases hlt : j < g1.length
    · rw [List.getElem?_append_left (by omega)] at ho
      rw [List.getElem?_append_left hlt] at hj
      exact b1 j ob g ho hj
    · rw [List.getElem?_append_right (by omega)] at ho
      rw [List.getElem?_append_right (by omega)] at hj
      exact b2 (j - g1.length) ob g (by rw [l1]; exact ho) hj
end

/-! ### values that are one of two, one of several -/
section
variable {objs : List OB} {γ : Gh} {w : World}
theorem mergeC_spec {b : Bool} {x y z : Cv} {v : Value} (h : mergeC b x y = some z) : (b = true → VR objs γ w x v → VR objs γ w z v) ∧ (b = false → VR objs γ w y v → VR objs γ w z v) := by
  unfold mergeC at h
  split at h
  · rename_i k a k' c
    simp only [chk_some, Option.some.injEq] at h
    obtain ⟨h1, rfl⟩ := h
    obtain rfl := sameKind_eq h1
    exact ⟨fun hb hv => by subst hb; exact hv, fun hb hv => by subst hb; exact hv⟩
  · cases h; exact ⟨fun hb hv => by subst hb; exact hv, fun hb hv => by subst hb; exact hv⟩
  · cases h; exact ⟨fun hb hv => by subst hb; exact hv, fun hb hv => by subst hb; exact hv⟩
  · simp only [Option.bind_eq_some_iff, Option.some.injEq] at h
    obtain ⟨ys', h1, rfl⟩ := h
    obtain ⟨rfl, h1⟩ := castL_spec h1
    subst h1
    exact ⟨fun hb hv => by subst hb; exact hv, fun hb hv => by subst hb; exact hv⟩
  · cases h
theorem mergeL_spec {b : Bool} : ∀ {x y z : List Cv} {v : List Value}, mergeL b x y = some z → (b = true → VRL objs γ w x v → VRL objs γ w z v) ∧ (b = false → VRL objs γ w y v → VRL objs γ w z v)
  | [], [], z, v, h => by simp only [mergeL, Option.some.injEq] at h; subst h; exact ⟨fun _ h => h, fun _ h => h⟩
  | x :: l, y :: r, z, v, h => by
    simp only [mergeL, Option.bind_eq_some_iff, Option.some.injEq] at h
    obtain ⟨c, h1, q, h2, rfl⟩ := h
    refine ⟨fun hb ⟨u, p, e, h3, h4⟩ => ⟨u, p, e, (mergeC_spec h1).1 hb h3, (mergeL_spec h2).1 hb h4⟩, fun hb ⟨u, p, e, h3, h4⟩ => ⟨u, p, e, (mergeC_spec h1).2 hb h3, (mergeL_spec h2).2 hb h4⟩⟩
  | [], _ :: _, z, v, h => by simp [mergeL] at h
  | _ :: _, [], z, v, h => by simp [mergeL] at h
theorem mergeV_spec {b : Bool} {x y z : PV} {v : Value} (h : mergeV b x y = some z) : (b = true → PR objs γ w x v → PR objs γ w z v) ∧ (b = false → PR objs γ w y v → PR objs γ w z v) := by
  unfold mergeV at h
  split at h
  · simp only [Option.bind_eq_some_iff, Option.some.injEq] at h
    obtain ⟨c, h1, rfl⟩ := h
    exact ⟨fun hb hv => (mergeC_spec h1).1 hb hv, fun hb hv => (mergeC_spec h1).2 hb hv⟩
  · simp only [Option.bind_eq_some_iff, Option.some.injEq] at h
    obtain ⟨c, h1, rfl⟩ := h
    exact ⟨fun hb ⟨cs, e, hv⟩ => ⟨cs, e, (mergeL_spec h1).1 hb hv⟩, fun hb ⟨cs, e, hv⟩ => ⟨cs, e, (mergeL_spec h1).2 hb hv⟩⟩
  · cases h
theorem intsOf_get {k : IntKind} : ∀ {l : List Cv} {ns : List Int} {i : Nat} {c : Cv}, intsOf k l = some ns → l[i]? = some c → c = .v (.int k (getD' ns i 0))
  | [], _, _, _, _, hi => by simp at hi
  | c0 :: r, ns, i, c, h, hi => by
    unfold intsOf at h
    split at h
    · cases ‹_ :: _ = []›
    · rename_i k' n r' heq
      simp only [List.cons.injEq] at heq
      obtain ⟨rfl, rfl⟩ := heq
      simp only [chk_some, Option.bind_eq_some_iff, Option.some.injEq] at h
      obtain ⟨h1, ms, h2, rfl⟩ := h
      obtain rfl := sameKind_eq h1
      cases i with
      | zero => simp at hi; subst hi; rfl
      | succ i => simpa [getD'] using intsOf_get h2 (by simpa using hi)
    · cases h
theorem boolsOf_get : ∀ {l : List Cv} {ns : List Bool} {i : Nat} {c : Cv}, boolsOf l = some ns → l[i]? = some c → c = .v (.bool (getD' ns i false))
  | [], _, _, _, _, hi => by simp at hi
  | c0 :: r, ns, i, c, h, hi => by
    unfold boolsOf at h
    split at h
    · cases ‹_ :: _ = []›
    · rename_i n r' heq
      simp only [List.cons.injEq] at heq
      obtain ⟨rfl, rfl⟩ := heq
      simp only [Option.bind_eq_some_iff, Option.some.injEq] at h
      obtain ⟨ms, h2, rfl⟩ := h
      cases i with
      | zero => simp at hi; subst hi; rfl
      | succ i => simpa [getD'] using boolsOf_get h2 (by simpa using hi)
    · cases h
theorem strsOf_get : ∀ {l : List Cv} {ns : List ByteArray} {i : Nat} {c : Cv}, strsOf l = some ns → l[i]? = some c → c = .v (.string (getD' ns i ByteArray.empty))
  | [], _, _, _, _, hi => by simp at hi
  | c0 :: r, ns, i, c, h, hi => by
    unfold strsOf at h
    split at h
    · cases ‹_ :: _ = []›
    · rename_i n r' heq
      simp only [List.cons.injEq] at heq
      obtain ⟨rfl, rfl⟩ := heq
      simp only [Option.bind_eq_some_iff, Option.some.injEq] at h
      obtain ⟨ms, h2, rfl⟩ := h
      cases i with
      | zero => simp at hi; subst hi; rfl
      | succ i => simpa [getD'] using strsOf_get h2 (by simpa using hi)
    · cases h
theorem slsOf_get {e : Ty} : ∀ {l : List Cv} {ns : List (List (D e))} {i : Nat} {c : Cv}, slsOf e l = some ns → l[i]? = some c → c = .sl e (getD' ns i [])
  | [], _, _, _, _, hi => by simp at hi
  | c0 :: r, ns, i, c, h, hi => by
    unfold slsOf at h
    split at h
    · cases ‹_ :: _ = []›
    · rename_i e' n r' heq
      simp only [List.cons.injEq] at heq
      obtain ⟨rfl, rfl⟩ := heq
      simp only [Option.bind_eq_some_iff, Option.some.injEq] at h
      obtain ⟨xs, h1, ms, h2, rfl⟩ := h
      obtain ⟨rfl, h1⟩ := castL_spec h1
      subst h1
      cases i with
      | zero => simp at hi; subst hi; rfl
      | succ i => simpa [getD'] using slsOf_get h2 (by simpa using hi)
    · cases h
theorem selC_spec {l : List Cv} {i : Nat} {c d : Cv} (h : selC l i = some c) (hi : l[i]? = some d) : d = c := by
  unfold selC at h
  split at h
  · simp only [Option.bind_eq_some_iff, Option.some.injEq] at h
    obtain ⟨ns, h1, rfl⟩ := h
    exact intsOf_get h1 hi
  · simp only [Option.bind_eq_some_iff, Option.some.injEq] at h
    obtain ⟨ns, h1, rfl⟩ := h
    exact boolsOf_get h1 hi
  · simp only [Option.bind_eq_some_iff, Option.some.injEq] at h
    obtain ⟨ns, h1, rfl⟩ := h
    exact strsOf_get h1 hi
  · simp only [Option.bind_eq_some_iff, Option.some.injEq] at h
    obtain ⟨ns, h1, rfl⟩ := h
    exact slsOf_get h1 hi
  · cases h
theorem col_get {cs : List Cv} {sz inner : Nat} : ∀ {n off j : Nat}, (col cs off sz inner n).length = n → j < n → (col cs off sz inner n)[j]? = cs[off + j * sz + inner]?
  | 0, _, j, _, hj => by omega
  | n + 1, off, j, h, hj => by
    simp only [col] at h ⊢
    split at h
    · rename_i c q hc
      have h0 : cs[off + inner]? = some c := by
        have := congrArg (fun l : List Cv => l[0]?) hc
        simpa using this
      simp only [List.length_cons, Nat.add_right_cancel_iff] at h
      cases j with
      | zero => simp [h0]
      | succ j =>
        simp only [List.getElem?_cons_succ]
        rw [col_get h (by omega), show off + sz + j * sz + inner = off + (j + 1) * sz + inner by rw [Nat.add_mul]; omega]
    · simp at h
end
end Go.Den
namespace Go.Den
open Go.Eng
set_option linter.unusedVariables false
set_option linter.unusedSectionVars false
set_option linter.unusedSimpArgs false
variable [CT : Ctx]

section
variable {P : Program} {env : Env} {F : Fr} {σ : AState} {γ : Gh} {a : Act} {w : World} {tg : Tag} {o : Oper} {α : Type} {k : PV → Option α} {res : α}

/-- the operation yields such a value, in every world that has only grown -/
def Val (P : Program) (σ : AState) (γ : Gh) (a : Act) (w : World) (o : Oper) (pv : PV) : Prop := ∃ v, (∀ w', (isLoad o = true → Chg [] w w') → (execOp a.eval o).run P w' = .ok (.value v) w') ∧ PR σ.objs γ w pv v
def StR (P : Program) (σ : AState) (γ : Gh) (a : Act) (w : World) (tg : Tag) (o : Oper) (k : PV → Option α) (res : α) : Prop :=
  (∃ pv, k pv = some res) ∧ (tagT σ tg → ∃ pv, Val P σ γ a w o pv ∧ k pv = some res)
theorem StR.of {pv : PV} (h : k pv = some res) (hv : tagT σ tg → Val P σ γ a w o pv) : StR P σ γ a w tg o k res := ⟨⟨pv, h⟩, fun hT => ⟨pv, hv hT, h⟩⟩
theorem imp_true {b : Bool} (h : imp (tagB σ tg) b = true) (hT : tagT σ tg) : b = true := by
  rw [tagB_spec.2 hT] at h; exact h
theorem asInt_spec {pv : PV} {q : IntKind × Int} (h : asInt pv = some q) : pv = .c (.v (.int q.1 q.2)) := by
  unfold asInt at h
  split at h
  · cases h; rfl
  · cases h
theorem asBool_spec {pv : PV} {b : Bool} (h : asBool pv = some b) : pv = .c (.v (.bool b)) := by
  unfold asBool at h
  split at h
  · cases h; rfl
  · cases h
theorem asStr_spec {pv : PV} {b : ByteArray} (h : asStr pv = some b) : pv = .c (.v (.string b)) := by
  unfold asStr at h
  split at h
  · cases h; rfl
  · cases h
theorem asC_spec {pv : PV} {c : Cv} (h : asC pv = some c) : pv = .c c := by
  unfold asC at h
  split at h
  · cases h; rfl
  · cases h
theorem asAgg_spec {pv : PV} {c : List Cv} (h : asAgg pv = some c) : pv = .agg c := by
  unfold asAgg at h
  split at h
  · cases h; rfl
  · cases h
theorem asTup_spec {pv : PV} {c : List PW} (h : asTup pv = some c) : pv = .tup c := by
  unfold asTup at h
  split at h
  · cases h; rfl
  · cases h
theorem asFn_spec {pv : PV} {q : FuncId × List (Nat × Nat)} (h : asFn pv = some q) : pv = .c (.fn q.1 q.2) := by
  unfold asFn at h
  split at h
  · cases h; rfl
  · cases h
/-- a number, a Bool, a text: the value itself -/
theorem ev_int (r : Rel F σ γ a w) (hT : tagT σ tg) {x : Operand} {pv : PV} {q : IntKind × Int} (h : ev σ tg x = some pv) (hi : asInt pv = some q) : a.eval x = .int q.1 q.2 := by
  have := ev_sound r hT h; rw [asInt_spec hi] at this; exact this
theorem ev_bool (r : Rel F σ γ a w) (hT : tagT σ tg) {x : Operand} {pv : PV} {q : Bool} (h : ev σ tg x = some pv) (hi : asBool pv = some q) : a.eval x = .bool q := by
  have := ev_sound r hT h; rw [asBool_spec hi] at this; exact this
theorem ev_str (r : Rel F σ γ a w) (hT : tagT σ tg) {x : Operand} {pv : PV} {q : ByteArray} (h : ev σ tg x = some pv) (hi : asStr pv = some q) : a.eval x = .string q := by
  have := ev_sound r hT h; rw [asStr_spec hi] at this; exact this

theorem st_move (r : Rel F σ γ a w) {x : Operand} (ho : o.op = .move x ∨ o.op = .assign x) (h : (ev σ tg x).bind k = some res) : StR P σ γ a w tg o k res := by
  obtain ⟨pv, h1, h2⟩ := Option.bind_eq_some_iff.1 h
  refine StR.of h2 fun hT => ⟨a.eval x, fun w' _ => ?_, ev_sound r hT h1⟩
  obtain ⟨dst, op, type, pos, after, guard⟩ := o
  rcases ho with ho | ho <;> (simp only at ho; subst ho; rfl)
theorem st_nilCheck (r : Rel F σ γ a w) {x : Operand} (ho : o.op = .nilCheck x) (h : ((ev σ tg x).bind fun v => chk (nonNil v) (k v)) = some res) : StR P σ γ a w tg o k res := by
  obtain ⟨pv, h1, h2⟩ := Option.bind_eq_some_iff.1 h
  obtain ⟨hn, h2⟩ := chk_some.1 h2
  refine StR.of h2 fun hT => ⟨a.eval x, fun w' _ => ?_, ev_sound r hT h1⟩
  have hp := ev_sound r hT h1
  obtain ⟨dst, op, type, pos, after, guard⟩ := o
  simp only at ho
  subst ho
  cases pv with
  | c c =>
    cases c <;> simp only [nonNil] at hn <;> try (cases hn; done)
    · obtain ⟨_, b, _, e⟩ := hp
      (generalize a.eval = ρ at e ⊢; simp [execOp, e])
    · obtain ⟨_, l, e, _⟩ := hp
      (generalize a.eval = ρ at e ⊢; simp [execOp, e])
  | rp l => obtain ⟨ad, us, e, _⟩ := hp; (generalize a.eval = ρ at e ⊢; simp [execOp, e])
  | ep _ _ _ _ => obtain ⟨_, b, _, e, _⟩ := hp; (generalize a.eval = ρ at e ⊢; simp [execOp, e])
  | pa _ _ _ _ _ _ => obtain ⟨_, b, _, _, _, e⟩ := hp; (generalize a.eval = ρ at e ⊢; simp [execOp, e])
  | _ => simp [nonNil] at hn
theorem st_extract (r : Rel F σ γ a w) {x : Operand} {i : Nat} (ho : o.op = .extract x i) (h : ((ev σ tg x).bind fun v => (asTup v).bind fun l => (l[i]?).bind fun p => k (pvPW p)) = some res) : StR P σ γ a w tg o k res := by
  simp only [Option.bind_eq_some_iff] at h
  obtain ⟨pv, h1, l, h2, p, h3, h4⟩ := h
  refine StR.of h4 fun hT => ?_
  have hp := ev_sound r hT h1
  rw [asTup_spec h2] at hp
  obtain ⟨vs, e, hl⟩ := hp
  have : ∀ (l : List PW) (us : List Value) (i : Nat) (p : PW), PWL σ.objs γ w l us → l[i]? = some p → ∃ v, us[i]? = some v ∧ PWR σ.objs γ w p v := by
    intro l
    induction l with
    | nil => intro us i p _ hi; simp at hi
    | cons q l ih =>
      intro us i p ⟨v, q', e, h5, h6⟩ hi
      cases i with
      | zero => simp at hi; subst hi; exact ⟨v, by simp [e], h5⟩
      | succ i =>
        obtain ⟨u, h7, h8⟩ := ih q' i p h6 (by simpa using hi)
        exact ⟨u, by simpa [e] using h7, h8⟩
  obtain ⟨v, h5, h6⟩ := this l vs.toList i p hl h3
  refine ⟨v, fun w' _ => ?_, by cases p <;> exact h6⟩
  obtain ⟨dst, op, type, pos, after, guard⟩ := o
  simp only at ho
  subst ho
  have h7 : vs[i]? = some v := by simpa using h5
  generalize a.eval = ρ at e ⊢
  simp [execOp, e, Instr.extract, h7]

theorem get_of_ev {t : Nat} {pv : PV} (h : ev σ tg (.tmp t) = some pv) : ∃ tg', get σ.slots t = some (tg', pv) := by
  simp only [ev, Option.bind_eq_some_iff, chk_some, Option.some.injEq] at h
  obtain ⟨⟨tg', pv'⟩, h1, _, rfl⟩ := h
  exact ⟨tg', h1⟩
theorem tagT_cons {x : Nat × Bool} (h1 : litB σ x = true) (h2 : tagT σ tg) : tagT σ (x :: tg) := fun y hy => by
  rcases List.mem_cons.1 hy with rfl | hy
  · exact h1
  · exact h2 y hy
theorem st_pick (r : Rel F σ γ a w) {c x y : Operand} (ho : o.op = .pick c x y) (h : pickS σ tg c x y k = some res) : StR P σ γ a w tg o k res := by
  cases c with
  | tmp t =>
    simp only [pickS, Option.bind_eq_some_iff] at h
    obtain ⟨q, h1, b, h2, h⟩ := h
    have hq := asBool_spec h2
    subst hq
    obtain ⟨tg', hg⟩ := get_of_ev h1
    have lt : litB σ (t, true) = b := by simp [litB, hg]
    have lf : litB σ (t, false) = !b := by simp [litB, hg]
    have run : tagT σ tg → ∀ w', (execOp a.eval o).run P w' = .ok (.value (if b then a.eval x else a.eval y)) w' := by
      intro hT w'
      have hc := ev_bool r hT h1 h2
      obtain ⟨dst, op, type, pos, after, guard⟩ := o
      simp only at ho
      subst ho
      generalize a.eval = ρ at hc ⊢
      simp [execOp, hc, Go.asBool, go_sem]
    by_cases k1 : memT (t, true) σ.known = true
    · simp only [k1, cond_true, Option.bind_eq_some_iff] at h
      obtain ⟨v, h3, h7⟩ := h
      have hb : b = true := by rw [← lt]; exact (r.known _ (memT_spec k1)).1
      subst hb
      exact StR.of h7 fun hT => ⟨_, fun w' _ => run hT w', ev_sound r (tagT_cons lt hT) h3⟩
    simp only [Bool.eq_false_iff.2 k1, cond_false] at h
    by_cases k2 : memT (t, false) σ.known = true
    · simp only [k2, cond_true, Option.bind_eq_some_iff] at h
      obtain ⟨v, h3, h7⟩ := h
      have hb : b = false := by
        have := (r.known _ (memT_spec k2)).1
        rw [lf] at this
        simpa using this
      subst hb
      exact StR.of h7 fun hT => ⟨_, fun w' _ => run hT w', ev_sound r (tagT_cons lf hT) h3⟩
    simp only [Bool.eq_false_iff.2 k2, cond_false, Option.bind_eq_some_iff] at h
    obtain ⟨v, h3, u, h4, h5⟩ := h
    have vx : tagT σ tg → b = true → PR σ.objs γ w v (a.eval x) := fun hT hb => ev_sound r (tagT_cons (by rw [lt, hb]) hT) h3
    have vy : tagT σ tg → b = false → PR σ.objs γ w u (a.eval y) := fun hT hb => ev_sound r (tagT_cons (by rw [lf, hb]; rfl) hT) h4
    by_cases c1 : isConstB false y = true
    · simp only [c1, cond_true, Option.bind_eq_some_iff] at h5
      obtain ⟨p, h6, h7⟩ := h5
      refine StR.of h7 fun hT => ⟨_, fun w' _ => run hT w', ?_⟩
      cases b
      · cases y <;> simp only [isConstB] at c1 <;> try (cases c1; done)
        rename_i z
        cases z <;> simp only [isConstB] at c1 <;> try (cases c1; done)
        rename_i c'
        cases c'
        · rfl
        · cases c1
      · have := vx hT rfl
        rw [asBool_spec h6] at this
        exact this
    · simp only [Bool.eq_false_iff.2 c1, cond_false] at h5
      by_cases c2 : isConstB true x = true
      · simp only [c2, cond_true, Option.bind_eq_some_iff] at h5
        obtain ⟨p, h6, h7⟩ := h5
        refine StR.of h7 fun hT => ⟨_, fun w' _ => run hT w', ?_⟩
        cases b
        · have := vy hT rfl
          rw [asBool_spec h6] at this
          exact this
        · cases x <;> simp only [isConstB] at c2 <;> try (cases c2; done)
          rename_i z
          cases z <;> simp only [isConstB] at c2 <;> try (cases c2; done)
          rename_i c'
          cases c'
          · cases c2
          · rfl
      · simp only [Bool.eq_false_iff.2 c2, cond_false, Option.bind_eq_some_iff] at h5
        obtain ⟨z, h6, h7⟩ := h5
        refine StR.of h7 fun hT => ⟨_, fun w' _ => run hT w', ?_⟩
        cases b
        · exact (mergeV_spec h6).2 rfl (vy hT rfl)
        · exact (mergeV_spec h6).1 rfl (vx hT rfl)
  | _ => simp [pickS] at h

/-! ### numbers, texts, plain structs -/
theorem eqAgg_run {t : TypeId} {xs ys : Array Value} {b : Bool} (h : eqAgg P t xs ys = some b) (w : World) : P.eqGuardType P.depth t = false ∧ (Op.equal t (.agg xs) (.agg ys)).run P w = .ok b w := by
  simp only [eqAgg, chk_some, Bool.and_eq_true, Bool.not_eq_true'] at h
  obtain ⟨⟨h1, h2⟩, h⟩ := h
  have hag : aggOf P t = some true := by
    unfold aggIs at h2
    split at h2
    · rename_i b hb; rw [hb, h2]
    · cases h2
  have he := (eqT_run (P := P) 40).1 Op.maxDepth t xs.toList ys.toList b w (by decide) h
  simp only [valC, hag] at he
  exact ⟨h1, he⟩
theorem scalar_run {ρ : Operand → Value} {v : Value} (h : scalar P ρ o = some v) (w : World) : (execOp ρ o).run P w = .ok (.value v) w := by
  obtain ⟨dst, op, type, pos, after, guard⟩ := o
  unfold scalar at h
  split at h
  · rename_i t x y t' heq
    subst heq
    split at h
    · rename_i xs ys hx hy
      simp only [Option.bind_eq_some_iff, Option.some.injEq] at h
      obtain ⟨b, h1, rfl⟩ := h
      obtain ⟨hg, he⟩ := eqAgg_run h1 w
      simp [execOp, eqGuard, binOp, hx, hy, he, hg, go_sem]
    · exact pureOf_run h w
  · rename_i t x y t' heq
    subst heq
    split at h
    · rename_i xs ys hx hy
      simp only [Option.bind_eq_some_iff, Option.some.injEq] at h
      obtain ⟨b, h1, rfl⟩ := h
      obtain ⟨hg, he⟩ := eqAgg_run h1 w
      simp [execOp, eqGuard, binOp, hx, hy, he, hg, go_sem]
    · exact pureOf_run h w
  · exact pureOf_run h w
theorem allPlain_spec (r : Rel F σ γ a w) (hT : tagT σ tg) : ∀ {l : List Operand}, allPlain σ tg l = true → ∀ x ∈ l, a.eval x = rho σ tg x
  | [], _, x, hx => by cases hx
  | y :: l, h, x, hx => by
    simp only [allPlain, Bool.and_eq_true, Option.isSome_iff_exists] at h
    rcases List.mem_cons.1 hx with rfl | hx
    · obtain ⟨⟨v, hv⟩, _⟩ := h
      obtain ⟨pv, h1, h2⟩ := Option.bind_eq_some_iff.1 hv
      rw [plain_spec h2 (ev_sound r hT h1)]
      simp [rho, hv]
    · exact allPlain_spec r hT h.2 x hx
theorem constPV_rep (v : Value) : PR σ.objs γ w (constPV v) v := by cases v <;> first | rfl | exact ⟨_, rfl, VRL.cvs _⟩
theorem st_scalar (r : Rel F σ γ a w) {l : List Operand} (hs : ∀ cs b, o.op ≠ .select cs b) (hl : ∀ x ∈ o.op.operands, x ∈ l) (h : scalarS P σ tg o l k = some res) : StR P σ γ a w tg o k res := by
  simp only [scalarS, chk_some, Option.bind_eq_some_iff] at h
  obtain ⟨h1, v, h2, h3⟩ := h
  refine StR.of h3 fun hT => ⟨v, fun w' _ => ?_, constPV_rep v⟩
  rw [execOp_congr o hs fun x hx => allPlain_spec r hT h1 x (hl x hx)]
  exact scalar_run h2 w'
theorem st_bin (r : Rel F σ γ a w) {op : BinOp} {t t' : TypeId} {x y : Operand} (ho : o.op = .binOp op t x y t') (hn : ∀ neg, (op = .eql ∧ neg = false ∨ op = .neq ∧ neg = true) → nilS P σ tg o t neg x y k = some res → StR P σ γ a w tg o k res) (h : binS P σ tg o op t x y k = some res) : StR P σ γ a w tg o k res := by
  have sc : scalarS P σ tg o [x, y] k = some res → StR P σ γ a w tg o k res := fun h => st_scalar r (fun cs b e => by rw [ho] at e; cases e) (fun z hz => by
    rw [ho] at hz; simpa [Op.operands] using hz) h
  cases op with
  | eql => exact hn false (.inl ⟨rfl, rfl⟩) h
  | neq => exact hn true (.inr ⟨rfl, rfl⟩) h
  | quo =>
    simp only [binS, Option.bind_eq_some_iff, chk_some, req_some] at h
    obtain ⟨u, h1, v, h2, ⟨ka, na⟩, h3, ⟨kb, nb⟩, h4, h5, h6, h7⟩ := h
    obtain rfl := sameKind_eq h5
    refine StR.of h7 fun hT => ⟨_, fun w' _ => ?_, rfl⟩
    have e1 := ev_int r hT h1 h3
    have e2 := ev_int r hT h2 h4
    have hne : ¬ nb = 0 := by simpa using imp_true h6 hT
    obtain ⟨dst, op, type, pos, after, guard⟩ := o
    simp only at ho
    subst ho
    generalize a.eval = ρ at e1 e2 ⊢
    simp [execOp, eqGuard, binOp, e1, e2, Op.intDiv, hne, go_sem]
  | rem =>
    simp only [binS, Option.bind_eq_some_iff, chk_some, req_some] at h
    obtain ⟨u, h1, v, h2, ⟨ka, na⟩, h3, ⟨kb, nb⟩, h4, h5, h6, h7⟩ := h
    obtain rfl := sameKind_eq h5
    refine StR.of h7 fun hT => ⟨_, fun w' _ => ?_, rfl⟩
    have e1 := ev_int r hT h1 h3
    have e2 := ev_int r hT h2 h4
    have hne : ¬ nb = 0 := by simpa using imp_true h6 hT
    obtain ⟨dst, op, type, pos, after, guard⟩ := o
    simp only at ho
    subst ho
    generalize a.eval = ρ at e1 e2 ⊢
    simp [execOp, eqGuard, binOp, e1, e2, Op.intDiv, hne, go_sem]
  | shl =>
    simp only [binS, Option.bind_eq_some_iff, chk_some, req_some] at h
    obtain ⟨u, h1, v, h2, ⟨ka, na⟩, h3, ⟨kb, nb⟩, h4, h6, h7⟩ := h
    refine StR.of h7 fun hT => ⟨_, fun w' _ => ?_, rfl⟩
    have e1 := ev_int r hT h1 h3
    have e2 := ev_int r hT h2 h4
    have hne : ¬ nb < 0 := by have := imp_true h6 hT; simp at this; omega
    obtain ⟨dst, op, type, pos, after, guard⟩ := o
    simp only at ho
    subst ho
    generalize a.eval = ρ at e1 e2 ⊢
    simp [execOp, eqGuard, binOp, e1, e2, Op.shift, hne, go_sem, shK]
  | shr =>
    simp only [binS, Option.bind_eq_some_iff, chk_some, req_some] at h
    obtain ⟨u, h1, v, h2, ⟨ka, na⟩, h3, ⟨kb, nb⟩, h4, h6, h7⟩ := h
    refine StR.of h7 fun hT => ⟨_, fun w' _ => ?_, rfl⟩
    have e1 := ev_int r hT h1 h3
    have e2 := ev_int r hT h2 h4
    have hne : ¬ nb < 0 := by have := imp_true h6 hT; simp at this; omega
    obtain ⟨dst, op, type, pos, after, guard⟩ := o
    simp only at ho
    subst ho
    generalize a.eval = ρ at e1 e2 ⊢
    simp [execOp, eqGuard, binOp, e1, e2, Op.shift, hne, go_sem, shK]
  | add =>
    simp only [binS] at h
    split at h
    · rename_i s1 s2 hs1 hs2
      obtain ⟨u, h1, h3⟩ := Option.bind_eq_some_iff.1 hs1
      obtain ⟨v, h2, h4⟩ := Option.bind_eq_some_iff.1 hs2
      obtain ⟨h6, h7⟩ := req_some.1 h
      refine StR.of h7 fun hT => ⟨_, fun w' _ => ?_, rfl⟩
      have e1 := ev_str r hT h1 h3
      have e2 := ev_str r hT h2 h4
      have hne : ¬ (((s1.size + s2.size : Nat) : Int) > IntKind.i64.max) := by have := Nat.le_of_ble_eq_true (imp_true h6 hT); have hmx : IntKind.i64.max = 9223372036854775807 := (by decide); (rw [hmx]; omega)
      obtain ⟨dst, op, type, pos, after, guard⟩ := o
      simp only at ho
      subst ho
      have hr : (Op.stringOp .add s1 s2) = pure (.string (s1 ++ s2)) := by unfold Op.stringOp; simp only; rw [if_neg hne]
      generalize a.eval = ρ at e1 e2 ⊢
      simp [execOp, eqGuard, binOp, e1, e2, hr, go_sem]
    · exact sc h
  | _ => exact sc h

/-! ### parts of structs and arrays -/
theorem partPV_spec {t : TypeId} {l : List Cv} {off : Nat} {pv : PV} {cs : List Value} (h : partPV P t l off = some pv) (hv : VRL σ.objs γ w l cs) : ∃ v, (∀ w', (part t cs.toArray off).run P w' = .ok v w') ∧ PR σ.objs γ w pv v ∧
    (∀ w' ad, CellsAt w' ad (cs.drop off) → (loadVar t ad).run P w' = .ok v w') := by
  simp only [partPV, Option.bind_eq_some_iff] at h
  obtain ⟨ag, h1, i, h2, h3⟩ := h
  cases ag
  · simp only [cond_false, Option.bind_eq_some_iff, Option.some.injEq] at h3
    obtain ⟨c, h4, rfl⟩ := h3
    have hl : l[off]? = some c := by rw [List.head?_drop] at h4; exact h4
    obtain ⟨v, h5, h6⟩ := hv.get hl
    refine ⟨v, fun w' => (part_run h2 w').2 h1 v ?_, h6, fun w' ad hc => ?_⟩
    · have hlt := (List.getElem?_eq_some_iff.1 h5).1
      rw [List.drop_eq_getElem_cons hlt]
      simp [(List.getElem?_eq_some_iff.1 h5).2]
    · have := hc 0 v (by simpa using h5)
      simp only [Addr.add, if_true] at this
      simp [loadVar, aggOf_run h1, this, go_sem]
  · simp only [cond_true, chk_some, Option.some.injEq] at h3
    obtain ⟨h4, rfl⟩ := h3
    refine ⟨.agg ((cs.drop off).take i.size).toArray, fun w' => (part_run h2 w').1 h1, ⟨_, rfl, by simpa using (hv.drop off).take i.size⟩, fun w' ad hc => ?_⟩
    have hlen : ((cs.drop off).take i.size).length = i.size := by
      have := hv.length
      have h5 := Nat.le_of_ble_eq_true h4
      simp; omega
    have hc' := CellsAt.take hc i.size
    have hr := loadCellsFrom_run (P := P) (w := w') (a := ad) ((cs.drop off).take i.size) 0 #[] (fun j v hv => by rw [Nat.zero_add]; exact hc' j v hv)
    rw [hlen] at hr
    simp [loadVar, aggOf_run h1, sizeOf, typeInfo, h2, loadCells, hr, go_sem]
theorem fieldOf_spec {t : TypeId} {f : Nat} {fd : Field} (h : fieldOf P t f = some fd) : ∃ fs, P.underlying t = some (.struct fs) ∧ fs[f]? = some fd := by
  simp only [fieldOf, Option.bind_eq_some_iff] at h
  obtain ⟨d, h1, h2⟩ := h
  cases d <;> simp at h2
  exact ⟨_, h1, by simpa using h2⟩
theorem st_field (r : Rel F σ γ a w) {t : TypeId} {x : Operand} {f : Nat} (ho : o.op = .field t x f) (h : ((ev σ tg x).bind fun v => (asAgg v).bind fun l => (fieldOf P t f).bind fun fd => (partPV P fd.type l fd.offset).bind k) = some res) : StR P σ γ a w tg o k res := by
  simp only [Option.bind_eq_some_iff] at h
  obtain ⟨pv, h1, l, h2, fd, h3, u, h4, h5⟩ := h
  refine StR.of h5 fun hT => ?_
  have hp := ev_sound r hT h1
  rw [asAgg_spec h2] at hp
  obtain ⟨cs, e, hl⟩ := hp
  obtain ⟨v, h6, h7, _⟩ := partPV_spec (P := P) h4 hl
  obtain ⟨fs, h8, h9⟩ := fieldOf_spec h3
  refine ⟨v, fun w' _ => ?_, h7⟩
  have h6' := h6 w'
  rw [Array.toArray_toList] at h6'
  obtain ⟨dst, op, type, pos, after, guard⟩ := o
  simp only at ho
  subst ho
  generalize a.eval = ρ at e ⊢
  simp only [execOp, Instr.field, Sem.run_bind, run_underlying h8, Result.andThen_ok, h9, e, Go.asAgg, Sem.run_pure, h6']
theorem sized_spec {t : TypeId} (h : sized P t = true) : ∃ i, P.info? t = some i ∧ i.size ≠ 0 := by
  unfold sized at h
  split at h
  · rename_i i hi
    refine ⟨i, hi, fun e => ?_⟩
    rw [e] at h; cases h
  · cases h
theorem fieldA_spec {off : Nat} {pv u : PV} {v : Value} (h : fieldA off pv = some u) (hv : PR σ.objs γ w pv v) : ∃ ad, v = .pointer (some ad) ∧ PR σ.objs γ w u (.pointer (some (ad.add off))) := by
  cases pv with
  | c c =>
    cases c <;> simp only [fieldA, Option.some.injEq] at h <;> try (cases h; done)
    subst h
    obtain ⟨h1, b, h2, rfl⟩ := hv
    exact ⟨_, rfl, h1, b, h2, by rw [adr_add]⟩
  | rp l =>
    simp only [fieldA, Option.some.injEq] at h
    subst h
    obtain ⟨ad, us, rfl, h0, h1, h2, h3⟩ := hv
    refine ⟨ad, rfl, ad.add off, us.drop off, rfl, by rw [add_block]; exact h0, fun hn => by rw [add_block]; exact h1 (fun e => hn (by simp [e])), CellsAt.drop h2 off, h3.drop off⟩
  | ep o sz i q =>
    simp only [fieldA, Option.some.injEq] at h
    subst h
    obtain ⟨h1, b, h2, rfl, h3⟩ := hv
    exact ⟨_, rfl, h1, b, h2, by rw [adr_add, Nat.add_assoc], h3⟩
  | pa o q sz cnt inner i =>
    simp only [fieldA, Option.some.injEq] at h
    subst h
    obtain ⟨h1, b, h2, h3, h4, rfl⟩ := hv
    exact ⟨_, rfl, h1, b, h2, h3, h4, by rw [adr_add, Nat.add_assoc]⟩
  | _ => simp [fieldA] at h
theorem st_fieldAddr (r : Rel F σ γ a w) {t : TypeId} {x : Operand} {f : Nat} (ho : o.op = .fieldAddr t x f) (h : ((ev σ tg x).bind fun v => (fieldOf P t f).bind fun fd => chk (sized P fd.type) ((fieldA fd.offset v).bind k)) = some res) : StR P σ γ a w tg o k res := by
  simp only [Option.bind_eq_some_iff, chk_some] at h
  obtain ⟨pv, h1, fd, h3, h4, u, h5, h6⟩ := h
  refine StR.of h6 fun hT => ?_
  obtain ⟨ad, e, hu⟩ := fieldA_spec h5 (ev_sound r hT h1)
  obtain ⟨fs, h8, h9⟩ := fieldOf_spec h3
  obtain ⟨i, hi, hz⟩ := sized_spec h4
  refine ⟨_, fun w' _ => ?_, hu⟩
  obtain ⟨dst, op, type, pos, after, guard⟩ := o
  simp only at ho
  subst ho
  generalize a.eval = ρ at e ⊢
  simp [execOp, Instr.fieldAt, Instr.sureAddr, fieldPlace, sizeOf, typeInfo, underlying, h8, h9, e, hi, hz, go_sem]
end
end Go.Den
namespace Go.Den
open Go.Eng
set_option linter.unusedVariables false
set_option linter.unusedSectionVars false
set_option linter.unusedSimpArgs false
variable [CT : Ctx]

section
variable {P : Program} {env : Env} {F : Fr} {σ : AState} {γ : Gh} {a : Act} {w : World} {tg : Tag} {o : Oper} {α : Type} {k : PV → Option α} {res : α}

theorem cellsIs_spec {t : TypeId} {n : Nat} (h : cellsIs P t n = true) : ∃ i, P.info? t = some i ∧ i.size = n := by
  unfold cellsIs at h
  split at h
  · rename_i i hi; exact ⟨i, hi, Nat.eq_of_beq_eq_true h⟩
  · cases h
theorem flatIs_spec {t : TypeId} (h : flatIs P t = true) : aggOf P t = some false := by
  unfold flatIs at h
  split at h
  · rename_i b hb; rw [hb]; simp at h; rw [h]
  · cases h
theorem inb_spec {i : Int} {n : Nat} (h : inb i n = true) : 0 ≤ i ∧ i < (n : Int) := by simpa [inb] using h
theorem lt_of_get {A : Type} {l : List A} {i : Nat} {x : A} (h : l[i]? = some x) : i < l.length := (List.getElem?_eq_some_iff.1 h).1

theorem aggIs_spec' {t : TypeId} (h : aggIs P t = true) : aggOf P t = some true := by
  unfold aggIs at h
  split at h
  · rename_i b hb; rw [hb, h]
  · cases h
theorem selW_spec {l : List Cv} {sz len i : Nat} (hi : i < len) (hl : len * sz = l.length) : ∀ {m : Nat} {cs : List Cv}, m ≤ sz → selW l sz len i m = some cs → cs = (l.drop (i * sz + (sz - m))).take m
  | 0, cs, _, h => by simp only [selW, Option.some.injEq] at h; subst h; simp
  | m + 1, cs, hm, h => by
    simp only [selW, chk_some, Option.bind_eq_some_iff, Option.some.injEq] at h
    obtain ⟨hc, c, h1, r, h2, rfl⟩ := h
    have hc := Nat.eq_of_beq_eq_true hc
    have hg := col_get hc hi
    have hle : i * sz + sz ≤ l.length := by
      rw [← hl, ← Nat.succ_mul]
      exact Nat.mul_le_mul_right _ hi
    have hlt : i * sz + (sz - (m + 1)) < l.length := by omega
    rw [Nat.zero_add, List.getElem?_eq_getElem hlt] at hg
    have := selC_spec h1 hg
    rw [List.drop_eq_getElem_cons hlt, List.take_succ_cons, this, selW_spec hi hl (by omega) h2]
    congr 3
    omega
theorem st_index (r : Rel F σ γ a w) {t : TypeId} {x i : Operand} (ho : o.op = .index t x i) (h : idxS P σ tg t x i k = some res) : StR P σ γ a w tg o k res := by
  simp only [idxS, Option.bind_eq_some_iff] at h
  obtain ⟨pv, h1, iv, h2, ⟨ki, n⟩, h3, h4⟩ := h
  split at h4
  · rename_i l
    split at h4
    · rename_i len e hu
      by_cases hag : aggIs P e = true
      · simp only [hag, cond_true, Option.bind_eq_some_iff, chk_some, req_some] at h4
        obtain ⟨inf, hi, hl, hb, ds, hs, h5⟩ := h4
        refine StR.of h5 fun hT => ?_
        have e2 := ev_int r hT h2 h3
        obtain ⟨cs, e1, hv⟩ := ev_sound r hT h1
        have hb' := inb_spec (imp_true hb hT)
        have hl := Nat.eq_of_beq_eq_true hl
        have hds := selW_spec (i := n.toNat) (by omega) hl (Nat.le_refl _) hs
        rw [Nat.sub_self, Nat.add_zero] at hds
        have hle : n.toNat * inf.size + inf.size ≤ l.length := by
          rw [← hl, ← Nat.succ_mul]
          exact Nat.mul_le_mul_right _ (by omega)
        have hp : partPV P e l (n.toNat * inf.size) = some (.agg ((l.drop (n.toNat * inf.size)).take inf.size)) := by
          simp only [partPV, aggIs_spec' hag, hi, Option.bind_some, cond_true, chk, Nat.ble_eq_true_of_le hle]
        obtain ⟨v, h6, h7, _⟩ := partPV_spec (P := P) hp hv
        rw [← hds] at h7
        refine ⟨v, fun w' _ => ?_, h7⟩
        have hsr : (sizeOf e).run P w' = .ok inf.size w' := by simp [sizeOf, typeInfo, hi, go_sem]
        have h6 := h6 w'
        rw [Array.toArray_toList] at h6
        obtain ⟨dst, op, type, pos, after, guard⟩ := o
        simp only at ho
        subst ho
        generalize a.eval = ρ at e1 e2 ⊢
        simp only [execOp, Instr.index, Sem.run_bind, e1, e2, asIntOf, Sem.run_pure, Result.andThen_ok, run_underlying hu, hb', and_self, if_true, hsr, h6]
      rw [Bool.not_eq_true] at hag
      simp only [hag, cond_false] at h4
      simp only [chk_some, Bool.and_eq_true, req_some, Option.bind_eq_some_iff] at h4
      obtain ⟨⟨hc, hl, hf⟩, hb, c, hs, h5⟩ := h4
      obtain ⟨inf, hi, hsz⟩ := cellsIs_spec hc
      refine StR.of h5 fun hT => ?_
      have e2 := ev_int r hT h2 h3
      obtain ⟨cs, e1, hv⟩ := ev_sound r hT h1
      have hb' := inb_spec (imp_true hb hT)
      have hlen : len = l.length := Nat.eq_of_beq_eq_true hl
      have hlt : n.toNat < l.length := by omega
      have hsel := selC_spec hs (List.getElem?_eq_getElem hlt)
      obtain ⟨v, h6, h7⟩ := hv.get (List.getElem?_eq_getElem hlt)
      rw [hsel] at h7
      refine ⟨v, fun w' _ => ?_, h7⟩
      have hag := flatIs_spec hf
      have h6' : cs[n.toNat]? = some v := by simpa using h6
      have hsr : (sizeOf e).run P w' = .ok inf.size w' := by simp [sizeOf, typeInfo, hi, go_sem]
      have hpart : (part e cs n.toNat).run P w' = .ok v w' := by simp [part, aggOf_run hag, h6', go_sem]
      obtain ⟨dst, op, type, pos, after, guard⟩ := o
      simp only at ho
      subst ho
      generalize a.eval = ρ at e1 e2 ⊢
      simp only [execOp, Instr.index, Sem.run_bind, e1, e2, asIntOf, Sem.run_pure, Result.andThen_ok, run_underlying hu, hb', and_self, if_true, hsr, hsz, Nat.mul_one, hpart]
    · cases h4
  · rename_i s
    split at h4
    · rename_i hu
      obtain ⟨b, h5, h6⟩ := Option.bind_eq_some_iff.1 h4
      refine StR.of h6 fun hT => ⟨.int .u8 (b.toNat : Int), fun w' _ => ?_, rfl⟩
      have e2 := ev_int r hT h2 h3
      have e1 : a.eval x = .string s := ev_sound r hT h1
      rw [tagB_spec.2 hT] at h5
      have h5' : strAt s n = some b := h5
      unfold strAt at h5'
      have hnn : 0 ≤ n := by
        by_cases hn : 0 ≤ n
        · exact hn
        · simp [hn] at h5'
      simp only [hnn, decide_true, cond_true] at h5'
      obtain ⟨dst, op, type, pos, after, guard⟩ := o
      simp only at ho
      subst ho
      generalize a.eval = ρ at e1 e2 ⊢
      simp [execOp, Instr.index, e1, e2, asIntOf, run_underlying hu, hnn, h5', go_sem]
    · cases h4
  · cases h4

/-! ### builds -/
theorem evs_spec (r : Rel F σ γ a w) (hT : tagT σ tg) : ∀ {l : List Operand} {vs : List PV}, evs σ tg l = some vs → vs.length = l.length ∧ ∀ (i : Nat) (x : Operand) (v : PV), l[i]? = some x → vs[i]? = some v → PR σ.objs γ w v (a.eval x)
  | [], vs, h => by simp only [evs, Option.some.injEq] at h; subst h; exact ⟨rfl, fun i x v hx => by simp at hx⟩
  | x :: l, vs, h => by
    simp only [evs, Option.bind_eq_some_iff, Option.some.injEq] at h
    obtain ⟨v, h1, us, h2, rfl⟩ := h
    obtain ⟨e, ih⟩ := evs_spec r hT h2
    refine ⟨by simp [e], fun i y u hy hu => ?_⟩
    cases i with
    | zero => simp at hy hu; subst hy; subst hu; exact ev_sound r hT h1
    | succ i => exact ih i y u (by simpa using hy) (by simpa using hu)
theorem cellOk_spec {c : Cv} {v : Value} (h : cellOk c = true) (hv : VR σ.objs γ w c v) : v.oneCell' = true := by
  cases c with
  | v x => simp only [VR] at hv; subst hv; exact h
  | sl e xs => obtain ⟨_, ao, cap, us, e1, _⟩ := hv; simp at e1; rw [e1]; rfl
  | os o => obtain ⟨_, _, ao, n, c, rfl⟩ := hv; rfl
  | ptr o off => obtain ⟨_, b, _, rfl⟩ := hv; rfl
  | fn f caps => obtain ⟨_, l, rfl, _⟩ := hv; rfl
  | e0 => obtain ⟨ao, rfl⟩ := hv; rfl
  | er b => rcases hv with ⟨_, rfl⟩ | ⟨_, _, _, rfl⟩ <;> rfl
theorem cellsPV_spec {pv : PV} {l : List Cv} {v : Value} (h : cellsPV pv = some l) (hv : PR σ.objs γ w pv v) : VRL σ.objs γ w l v.cells.toList := by
  cases pv with
  | c c =>
    simp only [cellsPV, chk_some, Option.some.injEq] at h
    obtain ⟨h0, rfl⟩ := h
    have h1 : v.cells = #[v] := by
      have := cellOk_spec h0 hv
      cases v <;> first | rfl | (simp [Value.oneCell'] at this)
    rw [h1]
    exact ⟨v, [], rfl, hv, rfl⟩
  | agg l' =>
    simp only [cellsPV, Option.some.injEq] at h
    subst h
    obtain ⟨cs, rfl, h1⟩ := hv
    exact h1
  | _ => simp [cellsPV] at h

theorem fill_eq (off : Nat) : ∀ (vs : List Value) (cells : Array Value) (i : Nat), off + i + vs.length ≤ cells.size → (List.foldl (fun cs (p : Value × Nat) => cs.setIfInBounds (off + p.2) p.1) cells (vs.zipIdx i)).toList = cells.toList.take (off + i) ++ vs ++ cells.toList.drop (off + i + vs.length)
  | [], cells, i, _ => by simp
  | v :: vs, cells, i, h => by
    simp only [List.zipIdx_cons, List.foldl_cons]
    rw [fill_eq off vs _ (i + 1) (by simp at h ⊢; omega)]
    simp only [Array.toList_setIfInBounds, List.length_cons]
    have hlt : off + i < cells.toList.length := by simp at h ⊢; omega
    rw [show off + (i + 1) = off + i + 1 by omega]
    have h1 : (cells.toList.set (off + i) v).take (off + i + 1) = cells.toList.take (off + i) ++ [v] := by
      rw [List.take_add_one, List.getElem?_set_self hlt, List.take_set_of_le (Nat.le_refl _)]
      rfl
    have h2 : (cells.toList.set (off + i) v).drop (off + i + 1 + vs.length) = cells.toList.drop (off + i + (vs.length + 1)) := by
      rw [List.drop_set_of_lt (by omega)]
      congr 1; omega
    rw [h1, h2]
    simp
theorem partsOf_spec (r : Rel F σ γ a w) (hT : tagT σ tg) : ∀ {l : List (Nat × Operand)} {ps : List (Nat × List Cv)}, partsOf σ tg l = some ps → ps.length = l.length ∧ ∀ (j : Nat) (p : Nat × Operand) (q : Nat × List Cv), l[j]? = some p → ps[j]? = some q → q.1 = p.1 ∧ VRL σ.objs γ w q.2 (a.eval p.2).cells.toList
  | [], ps, h => by simp only [partsOf, Option.some.injEq] at h; subst h; exact ⟨rfl, fun i x v hx => by simp at hx⟩
  | (i, x) :: l, ps, h => by
    simp only [partsOf, Option.bind_eq_some_iff, Option.some.injEq] at h
    obtain ⟨v, h1, c, h2, q, h3, rfl⟩ := h
    obtain ⟨e, ih⟩ := partsOf_spec r hT h3
    refine ⟨by simp [e], fun j p u hp hu => ?_⟩
    cases j with
    | zero => simp at hp hu; subst hp; subst hu; exact ⟨rfl, cellsPV_spec h2 (ev_sound r hT h1)⟩
    | succ j => exact ih j p u (by simpa using hp) (by simpa using hu)
theorem fillC_spec {place : Nat → Option (Nat × Nat)} : ∀ {ps : List (Nat × List Cv)} {vals : List (Nat × Value)} {cs l : List Cv} {cells : Array Value}, fillC place cs ps = some l → VRL σ.objs γ w cs cells.toList → ps.length = vals.length →
    (∀ (j : Nat) (p : Nat × Value) (q : Nat × List Cv), vals[j]? = some p → ps[j]? = some q → q.1 = p.1 ∧ VRL σ.objs γ w q.2 p.2.cells.toList) → ∃ out, Instr.fill place cells vals = some out ∧ VRL σ.objs γ w l out.toList
  | [], [], cs, l, cells, h, hv, _, _ => by simp only [fillC, Option.some.injEq] at h; subst h; exact ⟨cells, rfl, hv⟩
  | (i, c) :: ps, (i', v) :: vals, cs, l, cells, h, hv, hl, hp => by
    simp only [fillC, Option.bind_eq_some_iff, chk_some, Bool.and_eq_true] at h
    obtain ⟨⟨off, sz⟩, h1, ⟨h2, h3⟩, h4⟩ := h
    obtain ⟨rfl, hc⟩ := hp 0 _ _ rfl rfl
    have e2 : c.length = sz := Nat.eq_of_beq_eq_true h2
    have e3 : off + c.length ≤ cs.length := Nat.le_of_ble_eq_true h3
    have lc := hc.length
    have lcs := hv.length
    simp only [Array.length_toList] at lc lcs
    have hz : v.cells.size = sz := by omega
    have hfit : ¬ (off + v.cells.size > cells.size) := by omega
    have hf : (v.cells.zipIdx.foldl (fun cs (p : Value × Nat) => cs.setIfInBounds (off + p.2) p.1) cells).toList = cells.toList.take off ++ v.cells.toList ++ cells.toList.drop (off + v.cells.toList.length) := by
      have := fill_eq off v.cells.toList cells 0 (by simp; omega)
      simp only [Nat.add_zero] at this
      rw [← this]
      rw [← Array.foldl_toList]
      congr 2
      simp
    have hv' : VRL σ.objs γ w (cs.take off ++ c ++ cs.drop (off + c.length)) (v.cells.zipIdx.foldl (fun cs (p : Value × Nat) => cs.setIfInBounds (off + p.2) p.1) cells).toList := by
      rw [hf]
      refine ((hv.take off).append hc).append ?_
      have : off + c.length = off + v.cells.toList.length := by simp; omega
      rw [this]
      exact hv.drop _
    obtain ⟨out, h5, h6⟩ := fillC_spec h4 hv' (by simpa using hl) (fun j p q hj hq => hp (j + 1) p q (by simpa using hj) (by simpa using hq))
    refine ⟨out, ?_, h6⟩
    simp only [Instr.fill, h1]
    rw [if_neg (by simp [hz, hfit]; omega)]
    exact h5
  | [], _ :: _, _, _, _, _, _, hl, _ => by simp at hl
  | _ :: _, [], _, _, _, _, _, hl, _ => by simp at hl
theorem zeroCs_spec {t : TypeId} {l : List Cv} (h : zeroCs P t = some l) : ∃ i z, P.info? t = some i ∧ i.zero = some z ∧ VRL σ.objs γ w l z.cells.toList := by
  simp only [zeroCs, Option.bind_eq_some_iff, Option.some.injEq] at h
  obtain ⟨i, h1, z, h2, rfl⟩ := h
  exact ⟨i, z, h1, h2, VRL.cvs _⟩
theorem st_build (r : Rel F σ γ a w) {t : TypeId} {parts : Array (Nat × Operand)} (ho : o.op = .build t parts) (h : ((zeroCs P t).bind fun z => (partsOf σ tg parts.toList).bind fun ps => chk (placesOk P t) ((fillC (placeOf P t) z ps).bind fun l => k (.agg l))) = some res) : StR P σ γ a w tg o k res := by
  simp only [Option.bind_eq_some_iff, chk_some] at h
  obtain ⟨zc, h1, ps, h2, h3, l, h4, h5⟩ := h
  refine StR.of h5 fun hT => ?_
  obtain ⟨i, z, hi, hz, hzv⟩ := zeroCs_spec (P := P) (σ := σ) (γ := γ) (w := w) h1
  obtain ⟨e1, h6⟩ := partsOf_spec r hT h2
  obtain ⟨out, h7, h8⟩ := fillC_spec (vals := (parts.map fun (p : Nat × Operand) => (p.1, a.eval p.2)).toList) h4 hzv (by simp [e1]) (fun j p q hp hq => by
    simp only [Array.toList_map, List.getElem?_map, Option.map_eq_some_iff] at hp
    obtain ⟨p', hp', rfl⟩ := hp
    exact h6 j p' q hp' hq)
  refine ⟨.agg out, fun w' _ => ?_, out, rfl, h8⟩
  obtain ⟨dst, op, type, pos, after, guard⟩ := o
  simp only at ho
  subst ho
  have hzr : (zeroValue t).run P w' = .ok z w' := by simp [zeroValue, typeInfo, hi, hz, go_sem]
  have hb : (Instr.build t (parts.map fun (p : Nat × Operand) => (p.1, a.eval p.2))).run P w' = .ok (.agg out) w' := by
    generalize hvals : (parts.map fun (p : Nat × Operand) => (p.1, a.eval p.2)) = vals at h7
    unfold placesOk at h3
    have hpl : placeOf P t = placeOf P t := rfl
    split at h3
    · rename_i fs hu
      have hpe : placeOf P t = fun i => (fs[i]?).bind fun (f : Field) => (P.info? f.type).bind fun inf => some (f.offset, inf.size) := by funext i; simp [placeOf, hu]
      rw [hpe] at h7
      have hm : ∃ places : Array (Nat × Nat), (fs.mapM fun (f : Field) => (do pure (f.offset, ← sizeOf f.type) : Sem (Nat × Nat))).run P w' = .ok places w' ∧ (fun (i : Nat) => places[i]?) = fun (i : Nat) => (fs[i]?).bind fun (f : Field) => (P.info? f.type).bind fun inf => some (f.offset, inf.size) := by
        have hall : ∀ f ∈ fs.toList, ∃ inf, P.info? f.type = some inf := fun f hf => by
          have := List.all_eq_true.1 h3 f hf
          exact Option.isSome_iff_exists.1 this
        refine ⟨(fs.toList.map fun (f : Field) => (f.offset, ((P.info? f.type).map (·.size)).getD 0)).toArray, ?_, ?_⟩
        · rw [Array.mapM_eq_mapM_toList]
          have := mapM_list_run (P := P) (w := w') (fun f : Field => (do pure (f.offset, ← sizeOf f.type) : Sem (Nat × Nat))) fs.toList (fs.toList.map fun (f : Field) => (f.offset, ((P.info? f.type).map (·.size)).getD 0)) (fun j f y hf hy => by
            simp only [List.getElem?_map, hf, Option.map_some, Option.some.injEq] at hy
            subst hy
            obtain ⟨inf, hinf⟩ := hall f (List.mem_of_getElem? hf)
            simp [sizeOf, typeInfo, hinf, go_sem]) (by simp)
          simp only [Sem.run_map] 
          rw [this]
          simp
        · funext i
          simp only [List.getElem?_toArray, List.getElem?_map]
          cases hf : fs[i]? with
          | none => simp [hf]
          | some f =>
            obtain ⟨inf, hinf⟩ := hall f (by simpa using Array.mem_of_getElem? hf)
            simp [hf, hinf]
      obtain ⟨places, hm1, hm2⟩ := hm
      unfold Instr.build
      simp only [Sem.run_bind, hzr, Result.andThen_ok, run_underlying hu, hm1, hm2, h7, Sem.run_pure]
    · rename_i m e hu
      obtain ⟨inf, hinf⟩ := Option.isSome_iff_exists.1 h3
      have hpe : placeOf P t = fun i => some (i * inf.size, inf.size) := by funext i; simp [placeOf, hu, hinf]
      rw [hpe] at h7
      have hsr : (sizeOf e).run P w' = .ok inf.size w' := by simp [sizeOf, typeInfo, hinf, go_sem]
      unfold Instr.build
      simp only [Sem.run_bind, hzr, Result.andThen_ok, run_underlying hu, hsr, h7, Sem.run_pure]
    · cases h3
  simp only [execOp, Sem.run_bind]
  rw [hb]
  rfl
end
end Go.Den
namespace Go.Den
open Go.Eng
set_option linter.unusedVariables false
set_option linter.unusedSectionVars false
set_option linter.unusedSimpArgs false
variable [CT : Ctx]

section
variable {P : Program} {env : Env} {F : Fr} {σ : AState} {γ : Gh} {a : Act} {w : World} {tg : Tag} {o : Oper} {α : Type} {k : PV → Option α} {res : α}

theorem Rep.slen {S : Nat → Prop} (e : Ty) : ∀ (x : D e) (c : List Value), Rep w S e x [] c → c.length = e.size := fun x c h => Rep.length e h
theorem indexAt_slice {t e : TypeId} {inf : TypeInfo} (hu : P.underlying t = some (.slice e)) (hi : P.info? e = some inf) {ρ : Operand → Value} {x i : Operand} {ad : Addr} {len cap : Nat} {ki : IntKind} {n : Int}
    (ho : o.op = .indexAddr t x i) (e1 : ρ x = .slice (some ad) len cap) (e2 : ρ i = .int ki n) (hb : 0 ≤ n ∧ n < (len : Int)) (w' : World) :
    (execOp ρ o).run P w' = .ok (.value (.pointer (some (ad.add (n.toNat * inf.size))))) w' := by
  obtain ⟨dst, op, type, pos, after, guard⟩ := o
  simp only at ho
  subst ho
  simp [execOp, Instr.indexAt, e1, e2, asIntOf, underlying, sizeOf, typeInfo, hu, hi, hb, go_sem]
theorem indexAt_array {t e : TypeId} {inf : TypeInfo} {len : Nat} (hu : P.underlying t = some (.array len e)) (hi : P.info? e = some inf) {ρ : Operand → Value} {x i : Operand} {ad : Addr} {ki : IntKind} {n : Int}
    (ho : o.op = .indexAddr t x i) (e1 : ρ x = .pointer (some ad)) (e2 : ρ i = .int ki n) (hb : 0 ≤ n ∧ n < (len : Int)) (w' : World) :
    (execOp ρ o).run P w' = .ok (.value (.pointer (some (ad.add (n.toNat * inf.size))))) w' := by
  obtain ⟨dst, op, type, pos, after, guard⟩ := o
  simp only at ho
  subst ho
  simp [execOp, Instr.indexAt, Instr.sureAddr, e1, e2, asIntOf, underlying, sizeOf, typeInfo, hu, hi, hb, go_sem]
theorem toList_some {A : Type} {o : Option A} {b : A} (h : o.toList = [b]) : o = some b := by cases o <;> simp_all
/-- an owned row of at least one element -/
theorem arr_spec (r : ORel F σ.objs γ w) {p : Nat} {i : TypeId} {e : Ty} {xs : List (D e)} {fz : Bool} (h : σ.objs[p]? = some (.arr i e xs fz)) (hn : xs ≠ []) : ∃ b cap us, (γ p).2 = some b ∧ (γ p).1 = .slice (some ⟨b, 0, none⟩) xs.length cap ∧ xs.length ≤ cap ∧ CellsAt w ⟨b, 0, none⟩ us ∧ RepL (fun x c => Rep w (Imm σ.objs γ w) e x [] c) xs us := by
  obtain ⟨us, h1, h2⟩ := r.rep p _ h
  obtain ⟨b, cap, h3, h4, h5, h6⟩ := h1.cells (fun hl => hn (List.eq_nil_of_length_eq_zero hl))
  exact ⟨b, cap, us, toList_some h3, h4, h5, h6, h2⟩
theorem splitK_some {k : Nat → Option α} {n : Int} {res : α} : ∀ {m j : Nat}, splitK n k m j = some res → ∃ j', k j' = some res
  | 0, j, h => ⟨j, h⟩
  | m + 1, j, h => by
    unfold splitK at h
    cases hb : (n == (j : Int)) with
    | true => rw [hb] at h; exact ⟨j, h⟩
    | false => rw [hb] at h; exact splitK_some h
theorem splitK_at {k : Nat → Option α} {n : Int} {res : α} : ∀ {m j : Nat}, splitK n k m j = some res → (j : Int) ≤ n → n ≤ (j + m : Nat) → k n.toNat = some res
  | 0, j, h, h1, h2 => by
    have : n.toNat = j := by omega
    rw [this]; exact h
  | m + 1, j, h, h1, h2 => by
    unfold splitK at h
    by_cases hb : n = (j : Int)
    · have : n.toNat = j := by omega
      rw [this]
      simpa [hb] using h
    · have : (n == (j : Int)) = false := by simpa using hb
      rw [this] at h
      exact splitK_at h (by omega) (by omega)
theorem st_indexAddr (r : Rel F σ γ a w) {t : TypeId} {x i : Operand} (ho : o.op = .indexAddr t x i) (h : ((ev σ tg x).bind fun v => (ev σ tg i).bind fun w => (asInt w).bind fun q => idxAddr P σ (tagB σ tg) t v (constIdx i) q.2 k) = some res) : StR P σ γ a w tg o k res := by
  simp only [Option.bind_eq_some_iff] at h
  obtain ⟨pv, h1, iv, h2, ⟨ki, n⟩, h3, h4⟩ := h
  unfold idxAddr at h4
  split at h4
  · rename_i e hu
    cases pv with
    | c c =>
      have h6 : idxSl P (tagB σ tg) e n k σ c = some res := h4
      cases c with
      | sl τ xs =>
        simp only [idxSl, chk_some] at h6
        obtain ⟨hc, h7⟩ := h6
        obtain ⟨inf, hi, hsz⟩ := cellsIs_spec hc
        obtain ⟨d, h8, h9⟩ := Option.bind_eq_some_iff.1 h7
        refine StR.of h9 fun hT => ?_
        rw [tagB_spec.2 hT] at h8
        have h8' : at? xs n = some d := h8
        unfold at? at h8'
        have hnn : 0 ≤ n := by
          by_cases hn : 0 ≤ n
          · exact hn
          · simp [hn] at h8'
        simp only [hnn, decide_true, cond_true] at h8'
        have hlt := lt_of_get h8'
        have e2 := ev_int r hT h2 h3
        obtain ⟨_, ao, cap, us, e1, hcap, hrep, hne⟩ := ev_sound r hT h1
        obtain ⟨ad, rfl, hS, hcell⟩ := hne (fun hx => by subst hx; simp at hlt)
        simp only [List.cons.injEq, and_true] at e1
        refine ⟨_, fun w' _ => indexAt_slice hu hi ho e1 e2 ⟨hnn, by simp only; omega⟩ w', ?_⟩
        have hx := hrep.get (Rep.slen τ) h8'
        rw [hsz]
        refine ⟨_, _, rfl, by rw [add_block]; exact hS.1, fun _ => by rw [add_block]; exact hS, CellsAt.part hcell (n.toNat * τ.size) τ.size, cellsOf_spec τ hx⟩
      | os p =>
        simp only [idxSl, Option.bind_eq_some_iff] at h6
        obtain ⟨ob, hob, h7⟩ := h6
        cases ob with
        | arr ti τ xs fz =>
          simp only [chk_some, req_some] at h7
          obtain ⟨hc, hb, h8⟩ := h7
          obtain ⟨inf, hi, hsz⟩ := cellsIs_spec hc
          refine StR.of h8 fun hT => ?_
          have hb' := inb_spec (imp_true hb hT)
          have e2 := ev_int r hT h2 h3
          obtain ⟨hp1, e1, _⟩ := ev_sound r hT h1
          have hne : xs ≠ [] := fun hx => by subst hx; simp at hb'; omega
          obtain ⟨b, cap, us, hg2, hg1, hcap, hcell, hrep⟩ := arr_spec r.o hob hne
          rw [hg1] at e1
          refine ⟨_, fun w' _ => indexAt_slice hu hi ho e1 e2 hb' w', hp1, b, hg2, ?_, _, _, _, hg1, by omega⟩
          rw [adr_add, hsz]; simp
        | _ => simp at h7
      | _ => simp [idxSl] at h6
    | vw p sz lo m =>
      simp only [idxW, Option.bind_eq_some_iff] at h4
      obtain ⟨ob, hob, h7⟩ := h4
      cases ob with
      | arr ti τ xs fz =>
        simp only [chk_some, req_some, Bool.and_eq_true] at h7
        obtain ⟨⟨hc, hsz'⟩, hb, h8⟩ := h7
        obtain ⟨inf, hi, hsz⟩ := cellsIs_spec hc
        refine StR.of h8 fun hT => ?_
        have hb' := inb_spec (imp_true hb hT)
        have e2 := ev_int r hT h2 h3
        obtain ⟨hp1, ao0, n0, c0, ao, cap, hg, hlo, e1, hcap, hpos, _⟩ := ev_sound r hT h1
        obtain ⟨b, hg2, hao⟩ := hpos (by omega)
        subst hao
        have hn0 : n0 = xs.length := by
          obtain ⟨us, h9, _⟩ := r.o.rep p _ hob
          rcases h9 with ⟨_, ⟨ao1, h10⟩, h11, _⟩ | ⟨b1, cap1, cur, _, h10, _⟩
          · rw [hg] at h10
            simp only [Value.slice.injEq] at h10
            omega
          · rw [hg] at h10
            simp only [Value.slice.injEq] at h10
            exact h10.2.1
        refine ⟨_, fun w' _ => indexAt_slice hu hi ho e1 e2 hb' w', hp1, b, hg2, ?_, _, _, _, hg, by omega⟩
        rw [adr_add, hsz]; simp [Nat.add_mul]
      | _ => simp at h7
    | _ => simp [idxW] at h4
  · rename_i len e hu
    simp only [Option.bind_eq_some_iff, chk_some] at h4
    obtain ⟨inf, hi, hz, h5⟩ := h4
    split at h5
    · rename_i m hm
      simp only [chk_some, Option.bind_eq_some_iff] at h5
      obtain ⟨hb, u, h6, h7⟩ := h5
      have hb' := inb_spec hb
      have hnm : n = m := by
        cases i <;> simp only [constIdx] at hm <;> try (cases hm; done)
        rename_i z
        cases z <;> simp only [constIdx, Option.some.injEq] at hm <;> try (cases hm; done)
        subst hm
        simp only [ev, constPV, Option.some.injEq] at h2
        subst h2
        simp only [asInt, Option.some.injEq, Prod.mk.injEq] at h3
        exact h3.2.symm
      subst hnm
      refine StR.of h7 fun hT => ?_
      obtain ⟨ad, e1, hu2⟩ := fieldA_spec h6 (ev_sound r hT h1)
      exact ⟨_, fun w' _ => indexAt_array hu hi ho e1 (ev_int r hT h2 h3) hb' w', hu2⟩
    · cases pv with
      | c c =>
        cases c <;> simp only [idxV] at h5 <;> try (cases h5; done)
        rename_i p off
        by_cases hap : apartAt σ p off (len * inf.size) = true
        · simp only [hap, cond_true, chk_some, Bool.not_eq_true'] at h5
          obtain ⟨hl0, h5⟩ := h5
          have hl0 : len ≠ 0 := fun e => by subst e; simp at hl0
          obtain ⟨hb, h6⟩ := req_some.1 h5
          obtain ⟨j0, hj0⟩ := splitK_some h6
          refine ⟨⟨_, hj0⟩, fun hT => ?_⟩
          have hb' := inb_spec (imp_true hb hT)
          have h7 := splitK_at h6 (by omega) (by omega)
          obtain ⟨hp1, b, hg, e1⟩ := ev_sound r hT h1
          refine ⟨.c (.ptr p (off + n.toNat * inf.size)), ⟨_, fun w' _ => indexAt_array hu hi ho e1 (ev_int r hT h2 h3) hb' w', ?_⟩, h7⟩
          exact ⟨hp1, b, hg, by rw [adr_add]⟩
        · simp only [Bool.eq_false_iff.2 hap, cond_false] at h5
          obtain ⟨hb, h6⟩ := req_some.1 h5
          refine StR.of h6 fun hT => ?_
          have hb' := inb_spec (imp_true hb hT)
          obtain ⟨hp1, b, hg, e1⟩ := ev_sound r hT h1
          refine ⟨_, fun w' _ => indexAt_array hu hi ho e1 (ev_int r hT h2 h3) hb' w', hp1, b, hg, hb'.1, hb'.2, ?_⟩
          rw [adr_add]; simp
      | rp l =>
        simp only [idxV, chk_some, req_some, Bool.and_eq_true, Option.bind_eq_some_iff] at h5
        obtain ⟨⟨hs1, hl⟩, hb, c, hs, h6⟩ := h5
        have hs1 := Nat.eq_of_beq_eq_true hs1
        have hl := Nat.eq_of_beq_eq_true hl
        refine StR.of h6 fun hT => ?_
        have hb' := inb_spec (imp_true hb hT)
        obtain ⟨ad, us, e1, h0, hS, hcell, hv⟩ := ev_sound r hT h1
        have hlt : n.toNat < l.length := by omega
        obtain ⟨v, h7, h8⟩ := hv.get (List.getElem?_eq_getElem hlt)
        rw [selC_spec hs (List.getElem?_eq_getElem hlt)] at h8
        refine ⟨_, fun w' _ => indexAt_array hu hi ho e1 (ev_int r hT h2 h3) hb' w', ?_⟩
        refine ⟨_, [v], rfl, by rw [add_block]; exact h0, fun _ => by rw [add_block]; exact hS (fun e => by rw [e] at h7; simp at h7), ?_, ⟨v, [], rfl, h8, rfl⟩⟩
        have := CellsAt.part hcell (n.toNat * inf.size) 1
        rw [hs1, Nat.mul_one] at this ⊢
        have hd : (us.drop n.toNat).take 1 = [v] := by
          rw [List.drop_eq_getElem_cons (lt_of_get h7)]
          simp [(List.getElem?_eq_some_iff.1 h7).2]
        rw [hd] at this
        exact this
      | _ => simp [idxV] at h5
  · cases h4

theorem loadAt_of {ρ : Operand → Value} {t : TypeId} {x : Operand} {ad : Addr} {v : Value} {w' : World} (ho : o.op = .load t x) (e1 : ρ x = .pointer (some ad)) (h : (loadVar t ad).run P w' = .ok v w') : (execOp ρ o).run P w' = .ok (.value v) w' := by
  obtain ⟨dst, op, type, pos, after, guard⟩ := o
  simp only at ho
  subst ho
  simp only [execOp, Instr.loadAt, Instr.sureAddr, e1, Sem.run_bind, Sem.run_pure, Result.andThen_ok, h]
theorem Chg.cells {ex : List Nat} {w w' : World} {ad : Addr} {us : List Value} (h : CellsAt w ad us) (hc : Chg [] w w') (hl : us ≠ [] → ad.block < w.heap.size) : CellsAt w' ad us := by
  by_cases hn : us = []
  · subst hn; intro j v hv; simp at hv
  · exact CellsAt.mono h (hc.block _ (hl hn) (by simp))
/-- what a load gives -/
theorem loadPV_spec (r : ORel F σ.objs γ w) {t : TypeId} {pv u : PV} {v : Value} (h : loadPV P σ t pv = some u) (hv : PR σ.objs γ w pv v) : ∃ ad x, v = .pointer (some ad) ∧ (∀ w', Chg [] w w' → (loadVar t ad).run P w' = .ok x w') ∧ PR σ.objs γ w u x := by
  cases pv with
  | c c =>
    cases c <;> simp only [loadPV] at h <;> try (cases h; done)
    rename_i p off
    obtain ⟨ob, hob, h2⟩ := Option.bind_eq_some_iff.1 h
    cases ob with
    | box cs =>
      simp only at h2
      obtain ⟨hp1, b, hg, rfl⟩ := hv
      obtain ⟨b', T, cells, hgg, hheap, hvl⟩ := r.rep p _ hob
      have hbb : b' = b := by rw [hgg] at hg; simpa using hg
      subst hbb
      obtain ⟨x, _, h4, h5⟩ := partPV_spec (P := P) h2 hvl
      refine ⟨_, x, rfl, fun w' hc => h5 w' _ ?_, h4⟩
      have hlt := (Array.getElem?_eq_some_iff.1 hheap).1
      exact Chg.cells (ex := []) (cellsAt_blk hheap off) hc (fun _ => hlt)
    | bld tb c =>
      simp only [chk_some] at h2
      obtain ⟨ho1, h3⟩ := h2
      obtain rfl := Nat.eq_of_beq_eq_true ho1
      obtain ⟨hp1, b, hg, rfl⟩ := hv
      obtain ⟨b', pp, vv, hgg, hheap, hpp, hvc⟩ := r.rep p _ hob
      have hbb : b' = b := by rw [hgg] at hg; simpa using hg
      subst hbb
      obtain ⟨x, _, h4, h5⟩ := partPV_spec (P := P) (cs := [vv]) h3 ⟨vv, [], rfl, hvc, rfl⟩
      refine ⟨_, x, rfl, fun w' hc => h5 w' _ ?_, h4⟩
      have hlt := (Array.getElem?_eq_some_iff.1 hheap).1
      exact Chg.cells (ex := []) (cellsAt_blk hheap 1) hc (fun _ => hlt)
    | _ => simp at h2
  | rp l =>
    simp only [loadPV] at h
    obtain ⟨ad, us, rfl, h0, hS, hcell, hvl⟩ := hv
    obtain ⟨x, _, h4, h5⟩ := partPV_spec (P := P) h hvl
    exact ⟨ad, x, rfl, fun w' hc => h5 w' _ (by rw [List.drop_zero]; exact Chg.cells (ex := []) hcell hc (fun _ => h0)), h4⟩
  | ep p sz i off =>
    simp only [loadPV] at h
    obtain ⟨ob, hob, h2⟩ := Option.bind_eq_some_iff.1 h
    cases ob with
    | arr ti e xs fz =>
      simp only [chk_some] at h2
      obtain ⟨hsz, h3⟩ := h2
      have hsz := Nat.eq_of_beq_eq_true hsz
      subst hsz
      obtain ⟨hp1, b, hg, rfl, ao0, n0, c0, hg0, hlt0⟩ := hv
      have hlt : i < xs.length := by rw [← ObR.len (r.rep p _ hob) hg0]; exact hlt0
      obtain ⟨b', cap, us, hg2, _, _, hcell, hrep⟩ := arr_spec r hob (fun e => by subst e; simp at hlt)
      have hbb : b' = b := by rw [hg2] at hg; simpa using hg
      subst hbb
      have hx := hrep.get (Rep.slen e) (j := i) (x := getD' xs i (dflt e)) (by simp [getD', hlt])
      obtain ⟨x, _, h4, h5⟩ := partPV_spec (P := P) h3 (cellsOf_spec e hx)
      refine ⟨_, x, rfl, fun w' hc => h5 w' _ ?_, h4⟩
      have h6 := CellsAt.drop (CellsAt.part hcell (i * e.size) e.size) off
      rw [adr_add, adr_add, Nat.zero_add] at h6
      exact Chg.cells (ex := []) h6 hc (fun _ => r.lt p b' hp1 hg2)
    | _ => simp at h2
  | pa p off sz cnt inner i =>
    simp only [loadPV] at h
    obtain ⟨ob, hob, h2⟩ := Option.bind_eq_some_iff.1 h
    cases ob with
    | box cs =>
      simp only [Option.bind_eq_some_iff, chk_some, Bool.and_eq_true, Bool.not_eq_true', Option.some.injEq] at h2
      obtain ⟨ag, hag, ⟨rfl, hlen⟩, c, hs, rfl⟩ := h2
      obtain ⟨hp1, b, hg, hi0, hi1, rfl⟩ := hv
      obtain ⟨b', T, cells, hgg, hheap, hvl⟩ := r.rep p _ hob
      have hbb : b' = b := by rw [hgg] at hg; simpa using hg
      subst hbb
      have hlen := Nat.eq_of_beq_eq_true hlen
      have hcg := col_get (cs := cs) (sz := sz) (inner := inner) (off := off) (j := i.toNat) hlen (by omega)
      have hlt : i.toNat < (col cs off sz inner cnt).length := by omega
      rw [List.getElem?_eq_getElem hlt, selC_spec hs (List.getElem?_eq_getElem hlt)] at hcg
      obtain ⟨x, h7, h8⟩ := hvl.get hcg.symm
      refine ⟨_, x, rfl, fun w' hc => ?_, h8⟩
      have hbl := (Array.getElem?_eq_some_iff.1 hheap).1
      have hcw : w'.heap[b']? = some (.cells cells T (0, 0)) := (hc.block b' hbl (by simp)).trans hheap
      have h9 : w'.cell? ⟨b', off + i.toNat * sz + inner, none⟩ = some x := by
        have : cells[off + i.toNat * sz + inner]? = some x := by simpa using h7
        simp [World.cell?, hcw, this]
      simp [loadVar, aggOf_run hag, h9, go_sem]
    | _ => simp at h2
  | _ => simp [loadPV] at h
theorem st_load (r : Rel F σ γ a w) {t : TypeId} {x : Operand} (ho : o.op = .load t x) (h : ((ev σ tg x).bind fun v => (loadPV P σ t v).bind k) = some res) : StR P σ γ a w tg o k res := by
  simp only [Option.bind_eq_some_iff] at h
  obtain ⟨pv, h1, u, h2, h3⟩ := h
  refine StR.of h3 fun hT => ?_
  obtain ⟨ad, v, e1, h4, h5⟩ := loadPV_spec r.o h2 (ev_sound r hT h1)
  exact ⟨v, fun w' hc => loadAt_of ho e1 (h4 w' (hc (by simp [isLoad, ho]))), h5⟩

/-! ### slices -/
theorem optI_spec (r : Rel F σ γ a w) (hT : tagT σ tg) {d n : Int} {x : Option Operand} (h : optI σ tg d x = some n) : (x = none ∧ n = d) ∨ ∃ y ki, x = some y ∧ a.eval y = .int ki n := by
  cases x with
  | none => simp only [optI, Option.some.injEq] at h; exact .inl ⟨rfl, h.symm⟩
  | some y =>
    simp only [optI, Option.bind_eq_some_iff, Option.some.injEq] at h
    obtain ⟨v, h1, q, h2, rfl⟩ := h
    exact .inr ⟨y, q.1, rfl, ev_int r hT h1 h2⟩
theorem elemOf_spec {t e : TypeId} (h : elemOf P t = some e) : P.underlying t = some (.slice e) := by
  simp only [elemOf, Option.bind_eq_some_iff] at h
  obtain ⟨d, h1, h2⟩ := h
  cases d <;> simp at h2
  rw [h1, h2]
theorem sliceBounds_run {isS : Bool} {len cap : Nat} {lo hi : Option Value} {l h : Int} (hl : (lo = none ∧ l = 0) ∨ ∃ ki, lo = some (.int ki l)) (hh : (hi = none ∧ h = (len : Int)) ∨ ∃ ki, hi = some (.int ki h)) (hb : boundsI l h len = true) (hcap : len ≤ cap) (w' : World) :
    (Instr.sliceBounds isS len cap lo hi none).run P w' = .ok (l.toNat, h.toNat, cap) w' := by
  simp only [boundsI, Bool.and_eq_true, decide_eq_true_eq] at hb
  obtain ⟨b1, b2, b3⟩ := hb
  have h1 : 0 ≤ h ∧ h ≤ (cap : Int) := by omega
  have h2 : 0 ≤ l ∧ l ≤ ((h.toNat : Nat) : Int) := by omega
  rcases hh with ⟨rfl, rfl⟩ | ⟨kh, rfl⟩ <;> rcases hl with ⟨rfl, rfl⟩ | ⟨kl, rfl⟩
  · simp [Instr.sliceBounds, go_sem]
  · have h3 : 0 ≤ l ∧ l ≤ (len : Int) := by omega
    simp [Instr.sliceBounds, Instr.sliceBound, asIntOf, h3, go_sem]
  · simp [Instr.sliceBounds, Instr.sliceBound, asIntOf, h1, go_sem]
  · simp [Instr.sliceBounds, Instr.sliceBound, asIntOf, h1, h2, go_sem]
    intro hlt
    omega
theorem isConst0_spec {x : Option Operand} (h : isConst0 x = true) : ∃ ki, x = some (.const (.int ki 0)) := by
  unfold isConst0 at h
  split at h
  · exact ⟨_, rfl⟩
  · cases h
theorem slice_e0 {t e : TypeId} {inf : TypeInfo} (hu : P.underlying t = some (.slice e)) (hi : P.info? e = some inf) {x : Operand} {hi' mx : Option Operand} (ho : o.op = .slice t x none hi' mx) (h1 : isConst0 hi' = true) (h2 : isConst0 mx = true)
    {ao : Option Addr} {len cap : Nat} (e1 : a.eval x = .slice ao len cap) (w' : World) : (execOp a.eval o).run P w' = .ok (.value (.slice ao 0 0)) w' := by
  obtain ⟨k1, rfl⟩ := isConst0_spec h1
  obtain ⟨k2, rfl⟩ := isConst0_spec h2
  obtain ⟨dst, op, type, pos, after, guard⟩ := o
  simp only at ho
  subst ho
  have ec : ∀ ki, a.eval (.const (.int ki 0)) = .int ki 0 := fun _ => rfl
  have ec1 := ec k1
  have ec2 := ec k2
  generalize a.eval = ρ at e1 ec1 ec2 ⊢
  simp [execOp, Instr.sliceAt, Instr.slice, Instr.sliceBounds, Instr.sliceBound, underlying, sizeOf, typeInfo, hu, hi, e1, ec1, ec2, asIntOf, go_sem]
theorem CellsAt.nil {w : World} {ad : Addr} : CellsAt w ad [] := fun j v hv => by simp at hv
/-- a part of a slice, as data -/
theorem slice_rep {S : Nat → Prop} {e : Ty} {xs : List (D e)} {l h : Int} {ao : Option Addr} {cap : Nat} {us : List Value} (hcap : xs.length ≤ cap) (hrep : RepL (fun x c => Rep w S e x [] c) xs us) (hne : xs ≠ [] → ∃ ad, ao = some ad ∧ S ad.block ∧ CellsAt w ad us) (hb : boundsI l h xs.length = true) :
    Rep w S (.sl e) ((xs.take h.toNat).drop l.toNat) [] [.slice (if cap = l.toNat then ao else ao.map (·.add (l.toNat * e.size))) (h.toNat - l.toNat) (cap - l.toNat)] := by
  simp only [boundsI, Bool.and_eq_true, decide_eq_true_eq] at hb
  obtain ⟨b1, b2, b3⟩ := hb
  have hlen : ((xs.take h.toNat).drop l.toNat).length = h.toNat - l.toNat := by simp; omega
  refine ⟨rfl, _, cap - l.toNat, _, by rw [hlen], by rw [hlen]; omega, (hrep.take (Rep.slen e) h.toNat).drop (Rep.slen e) l.toNat, fun hn => ?_⟩
  have hx : xs ≠ [] := fun e => hn (by rw [e, List.take_nil, List.drop_nil])
  obtain ⟨ad, rfl, hS, hc⟩ := hne hx
  have hlt : l.toNat < h.toNat := by
    rcases Nat.lt_or_ge l.toNat h.toNat with h1 | h1
    · exact h1
    · exact absurd (List.eq_nil_of_length_eq_zero (by rw [hlen]; omega)) hn
  have hcl : cap ≠ l.toNat := by omega
  rw [if_neg hcl]
  exact ⟨_, rfl, by rw [add_block]; exact hS, CellsAt.drop (CellsAt.take hc _) _⟩
theorem slice_run {t e : TypeId} {inf : TypeInfo} (hu : P.underlying t = some (.slice e)) (hi : P.info? e = some inf) {x : Operand} {lo hi' : Option Operand} (ho : o.op = .slice t x lo hi' none)
    {ao : Option Addr} {len cap : Nat} {l h : Int} (e1 : a.eval x = .slice ao len cap) (hl : (lo = none ∧ l = 0) ∨ ∃ y ki, lo = some y ∧ a.eval y = .int ki l) (hh : (hi' = none ∧ h = (len : Int)) ∨ ∃ y ki, hi' = some y ∧ a.eval y = .int ki h)
    (hb : boundsI l h len = true) (hcap : len ≤ cap) (w' : World) :
    (execOp a.eval o).run P w' = .ok (.value (.slice (if cap = l.toNat then ao else ao.map (·.add (l.toNat * inf.size))) (h.toNat - l.toNat) (cap - l.toNat))) w' := by
  have hl' : (lo.map a.eval = none ∧ l = 0) ∨ ∃ ki, lo.map a.eval = some (.int ki l) := by
    rcases hl with ⟨rfl, rfl⟩ | ⟨y, ki, rfl, hy⟩
    · exact .inl ⟨rfl, rfl⟩
    · exact .inr ⟨ki, by simp [hy]⟩
  have hh' : (hi'.map a.eval = none ∧ h = (len : Int)) ∨ ∃ ki, hi'.map a.eval = some (.int ki h) := by
    rcases hh with ⟨rfl, rfl⟩ | ⟨y, ki, rfl, hy⟩
    · exact .inl ⟨rfl, rfl⟩
    · exact .inr ⟨ki, by simp [hy]⟩
  have hsb := sliceBounds_run (P := P) (isS := true) hl' hh' hb hcap w'
  have hsr : (sizeOf e).run P w' = .ok inf.size w' := by simp [sizeOf, typeInfo, hi, go_sem]
  obtain ⟨dst, op, type, pos, after, guard⟩ := o
  simp only at ho
  subst ho
  simp only [execOp, Instr.sliceAt, Sem.run_bind, run_underlying hu, Result.andThen_ok, Instr.slice, e1, Option.map_none, hsb, hsr, Sem.run_pure]
theorem st_slice (r : Rel F σ γ a w) {t : TypeId} {x : Operand} {lo hi mx : Option Operand} (ho : o.op = .slice t x lo hi mx) (h : sliceS P σ tg t x lo hi mx k = some res) : StR P σ γ a w tg o k res := by
  simp only [sliceS, Option.bind_eq_some_iff] at h
  obtain ⟨pv, h1, h2⟩ := h
  split at h2
  · rename_i s
    simp only [chk_some, Bool.and_eq_true, Option.bind_eq_some_iff, req_some] at h2
    obtain ⟨⟨hm, hu⟩, l, hl, hh, hhh, hb, h3⟩ := h2
    refine StR.of h3 fun hT => ⟨_, fun w' _ => ?_, rfl⟩
    have e1 : a.eval x = .string s := ev_sound r hT h1
    have hb' := imp_true hb hT
    have hu' : P.underlying t = some .string := by
      split at hu
      · assumption
      · cases hu
    cases mx with
    | some _ => cases hm
    | none =>
    have hl' : (lo.map a.eval = none ∧ l = 0) ∨ ∃ ki, lo.map a.eval = some (.int ki l) := by
      rcases optI_spec r hT hl with ⟨rfl, rfl⟩ | ⟨y, ki, rfl, hy⟩
      · exact .inl ⟨rfl, rfl⟩
      · exact .inr ⟨ki, by simp [hy]⟩
    have hh' : (hi.map a.eval = none ∧ hh = (s.size : Int)) ∨ ∃ ki, hi.map a.eval = some (.int ki hh) := by
      rcases optI_spec r hT hhh with ⟨rfl, rfl⟩ | ⟨y, ki, rfl, hy⟩
      · exact .inl ⟨rfl, rfl⟩
      · exact .inr ⟨ki, by simp [hy]⟩
    have hsb := sliceBounds_run (P := P) (isS := false) hl' hh' hb' (Nat.le_refl s.size) w'
    obtain ⟨dst, op, type, pos, after, guard⟩ := o
    simp only at ho
    subst ho
    simp only [execOp, Instr.sliceAt, Sem.run_bind, run_underlying hu', Result.andThen_ok, Instr.slice, e1, Option.map_none, hsb, Sem.run_pure, Option.isSome_none, Bool.false_eq_true, if_false]
  · rename_i e xs
    simp only [Option.bind_eq_some_iff, chk_some] at h2
    obtain ⟨i, hu, hc, h3⟩ := h2
    have hu := elemOf_spec hu
    obtain ⟨inf, hinf, hsz⟩ := cellsIs_spec hc
    by_cases hm : mx.isNone = true
    · simp only [hm, cond_true, Option.bind_eq_some_iff, req_some] at h3
      obtain ⟨l, hl, hh, hhh, hb, h4⟩ := h3
      have hmx : mx = none := by simpa using hm
      subst hmx
      refine StR.of h4 fun hT => ?_
      obtain ⟨_, ao, cap, us, e1, hcap, hrep, hne⟩ := ev_sound r hT h1
      simp only [List.cons.injEq, and_true] at e1
      have hb' := imp_true hb hT
      refine ⟨_, fun w' _ => slice_run hu hinf ho e1 (optI_spec r hT hl) (optI_spec r hT hhh) hb' hcap w', ?_⟩
      rw [hsz]
      exact slice_rep hcap hrep hne hb'
    · simp only [Bool.eq_false_iff.2 hm, cond_false, chk_some, Bool.and_eq_true] at h3
      obtain ⟨⟨hlo, hh0, hm0⟩, h4⟩ := h3
      have hlo' : lo = none := by simpa using hlo
      subst hlo'
      refine StR.of h4 fun hT => ?_
      obtain ⟨_, ao, cap, us, e1, _⟩ := ev_sound r hT h1
      simp only [List.cons.injEq, and_true] at e1
      exact ⟨_, fun w' _ => slice_e0 hu hinf ho hh0 hm0 e1 w', ao, rfl⟩
  · rename_i p
    simp only [Option.bind_eq_some_iff] at h2
    obtain ⟨i, hu, ob, hob, h3⟩ := h2
    cases ob with
    | arr ti e xs fz =>
      simp only [chk_some, Bool.and_eq_true] at h3
      obtain ⟨⟨hc, hlo, hh0, hm0⟩, h4⟩ := h3
      have hlo' : lo = none := by simpa using hlo
      subst hlo'
      obtain ⟨inf, hinf, hsz⟩ := cellsIs_spec hc
      refine StR.of h4 fun hT => ?_
      obtain ⟨_, _, ao, n, c, e1⟩ := ev_sound r hT h1
      exact ⟨_, fun w' _ => slice_e0 (elemOf_spec hu) hinf ho hh0 hm0 e1 w', ao, rfl⟩
    | _ => simp at h3
  · obtain ⟨i, hu, h2⟩ := Option.bind_eq_some_iff.1 h2
    by_cases hmn : mx.isNone = true
    · have hmx : mx = none := by simpa using hmn
      subst hmx
      simp only [Option.isNone_none, cond_true, Option.bind_eq_some_iff, chk_some, req_some, Bool.and_eq_true] at h2
      obtain ⟨⟨hc, hlo⟩, hh, hhh, hb, h4⟩ := h2
      have hlo' : lo = none := by simpa using hlo
      subst hlo'
      obtain ⟨inf, hinf, hsz⟩ := sized_spec hc
      refine StR.of h4 fun hT => ?_
      have e1 : a.eval x = .slice none 0 0 := ev_sound r hT h1
      have hb' : hh = 0 := by simpa using imp_true hb hT
      subst hb'
      have := fun w' => slice_run (elemOf_spec hu) hinf ho e1 (l := 0) (h := 0) (.inl ⟨rfl, rfl⟩) (optI_spec r hT hhh) (by decide) (Nat.le_refl _) w'
      exact ⟨.slice none 0 0, fun w' _ => this w', rfl⟩
    · simp only [Bool.eq_false_iff.2 hmn, cond_false, chk_some, Bool.and_eq_true] at h2
      obtain ⟨⟨hc, hlo, hh0, hm0⟩, h4⟩ := h2
      have hlo' : lo = none := by simpa using hlo
      subst hlo'
      obtain ⟨inf, hinf, hsz⟩ := sized_spec hc
      refine StR.of h4 fun hT => ?_
      have e1 : a.eval x = .slice none 0 0 := ev_sound r hT h1
      exact ⟨_, fun w' _ => slice_e0 (elemOf_spec hu) hinf ho hh0 hm0 e1 w', none, rfl⟩
  · cases h2

/-! ### functions, lengths -/
theorem st_len (r : Rel F σ γ a w) {x : Operand} {t : TypeId} {args : Array Operand} {ats : Array TypeId} (ho : o.op = .call ⟨.builtin .len, args, ats⟩) (ha : args.toList = [x]) (hat : ats.toList = [t]) (h : lenS P σ tg o x t k = some res) : StR P σ γ a w tg o k res := by
  have ha' : args = #[x] := by rw [← Array.toList_inj, ha]
  have hat' : ats = #[t] := by rw [← Array.toList_inj, hat]
  subst ha'; subst hat'
  have key : ∀ (i : TypeId) (ao : Option Addr) (n c : Nat), elemOf P t = some i → a.eval x = .slice ao n c → ∀ w', (execOp a.eval o).run P w' = .ok (.value (.int .i64 (n : Int))) w' := by
    intro i ao n c hu e1 w'
    have hu := elemOf_spec hu
    obtain ⟨dst, op, type, pos, after, guard⟩ := o
    simp only at ho
    subst ho
    rw [BigFrame.execOp_builtin, BigFrame.builtin_len]
    have : (#[x].map a.eval) = #[.slice ao n c] := by simp only [List.map_toArray, List.map_cons, List.map_nil, e1]
    rw [this]
    simp [Builtin.len_, run_underlying hu, goInt, go_sem]
  simp only [lenS, Option.bind_eq_some_iff] at h
  obtain ⟨pv, h1, h2⟩ := h
  split at h2
  · rename_i e xs
    obtain ⟨i, hu, h3⟩ := Option.bind_eq_some_iff.1 h2
    refine StR.of h3 fun hT => ?_
    obtain ⟨_, ao, cap, us, e1, _⟩ := ev_sound r hT h1
    simp only [List.cons.injEq, and_true] at e1
    exact ⟨_, fun w' _ => key i _ _ _ hu e1 w', rfl⟩
  · rename_i p
    simp only [Option.bind_eq_some_iff] at h2
    obtain ⟨i, hu, ob, hob, h3⟩ := h2
    cases ob with
    | arr ti e xs fz =>
      refine StR.of h3 fun hT => ?_
      obtain ⟨_, e1, _⟩ := ev_sound r hT h1
      obtain ⟨us, h5, _⟩ := r.o.rep p _ hob
      rcases h5 with ⟨_, ⟨ao, h6⟩, h7, _⟩ | ⟨b, cap, cur, _, h6, _⟩
      · rw [h6] at e1
        rw [h7]
        exact ⟨_, fun w' _ => key i _ _ _ hu e1 w', rfl⟩
      · rw [h6] at e1
        exact ⟨_, fun w' _ => key i _ _ _ hu e1 w', rfl⟩
    | _ => simp at h3
  · obtain ⟨i, hu, h3⟩ := Option.bind_eq_some_iff.1 h2
    refine StR.of h3 fun hT => ?_
    obtain ⟨ao, e1⟩ := ev_sound r hT h1
    exact ⟨_, fun w' _ => key i _ _ _ hu e1 w', rfl⟩
  · obtain ⟨i, hu, h3⟩ := Option.bind_eq_some_iff.1 h2
    refine StR.of h3 fun hT => ?_
    obtain ⟨_, ao0, n0, c0, ao, cap, _, _, e1, _⟩ := ev_sound r hT h1
    exact ⟨_, fun w' _ => key i _ _ _ hu e1 w', rfl⟩
  · exact st_scalar r (fun cs b e => by rw [ho] at e; cases e) (fun z hz => by rw [ho] at hz; simpa [Op.operands, Call.operands] using hz) h2
theorem u8s_spec {e : Ty} {xs : List (D e)} {ns : List Int} (h : u8s e xs = some ns) : e = .int .u8 ∧ HEq xs ns := by
  unfold u8s at h
  split at h
  · exact ⟨rfl, heq_of_eq (Option.some.inj h)⟩
  · cases h
theorem u8s_cells {w : World} {S : Nat → Prop} : ∀ {ns : List Int} {us : List Value}, RepL (fun (x : D (.int .u8)) c => Rep w S (.int .u8) x [] c) ns us → us = ns.map (Value.int .u8)
  | [], us, h => h
  | n :: ns, us, ⟨c, r, h1, h2, h3⟩ => by
    subst h1
    rw [h2.2, u8s_cells h3]
    rfl
theorem bytesTy_spec {src dst : TypeId} (h : (bytesTy P src && strTy P dst) = true) : ∃ e, P.underlying src = some (.slice e) ∧ P.underlying e = some (.int .u8) ∧ P.underlying dst = some .string := by
  simp only [Bool.and_eq_true, bytesTy, strTy] at h
  obtain ⟨h1, h2⟩ := h
  split at h1
  · rename_i e he
    split at h1
    · rename_i he2
      split at h2
      · rename_i hd
        exact ⟨e, he, he2, hd⟩
      · cases h2
    · cases h1
  · cases h1
theorem conv_run {src dst e : TypeId} (hs : P.underlying src = some (.slice e)) (he : P.underlying e = some (.int .u8)) (hd : P.underlying dst = some .string) {w : World} {ao : Option Addr} {ns : List Int} {cap : Nat}
    (hc : ns ≠ [] → ∃ a, ao = some a ∧ CellsAt w a (ns.map (Value.int .u8))) : (convert src dst (.slice ao ns.length cap)).run P w = .ok (.string (strOf ns)) w := by
  rw [run_convert_bytes_string w src dst e ao ns.length cap hs he hd]
  have key : ∀ a : Addr, CellsAt w a (ns.map (Value.int .u8)) → (Conv.bytesToString (.slice (some a) ns.length cap)).run P w = .ok (.string (strOf ns)) w := fun a ha => by
    have hl := run_loadCells_list (P := P) w a (ns.map (Value.int .u8)) ha
    rw [List.length_map] at hl
    exact run_bytesToString w a ns.length cap ns hl
  by_cases h0 : ns = []
  · subst h0
    cases ao with
    | none => rfl
    | some a => exact key a (fun j v hj => by simp at hj)
  · obtain ⟨a, rfl, ha⟩ := hc h0
    exact key a ha
theorem st_conv (r : Rel F σ γ a w) {src dst : TypeId} {x : Operand} (ho : o.op = .convert src dst x) (h : convS P σ tg o src dst x k = some res) : StR P σ γ a w tg o k res := by
  have key : ∀ {w' : World} {e : TypeId} {ao : Option Addr} {ns : List Int} {cap : Nat}, P.underlying src = some (.slice e) → P.underlying e = some (.int .u8) → P.underlying dst = some .string → a.eval x = .slice ao ns.length cap →
      (ns ≠ [] → ∃ a, ao = some a ∧ CellsAt w' a (ns.map (Value.int .u8))) → (execOp a.eval o).run P w' = .ok (.value (.string (strOf ns))) w' := by
    intro w' e ao ns cap hs he hd e1 hc
    have := conv_run hs he hd (cap := cap) hc
    obtain ⟨dst', op, type, pos, after, guard⟩ := o
    simp only at ho
    subst ho
    simp only [execOp, Sem.run_bind, e1]
    rw [this]
    rfl
  simp only [convS, Option.bind_eq_some_iff] at h
  obtain ⟨pv, h1, h2⟩ := h
  split at h2
  · rename_i e xs
    simp only [chk_some, Option.bind_eq_some_iff] at h2
    obtain ⟨hty, ns, hns, h3⟩ := h2
    obtain ⟨el, hs, he, hd⟩ := bytesTy_spec hty
    obtain ⟨rfl, hxs⟩ := u8s_spec hns
    obtain rfl := eq_of_heq hxs
    refine StR.of h3 fun hT => ?_
    obtain ⟨_, ao, cap, us, e1, hcap, hrep, hne⟩ := ev_sound r hT h1
    simp only [List.cons.injEq, and_true] at e1
    have hus := u8s_cells hrep
    refine ⟨_, fun w' hc => key hs he hd e1 fun h0 => ?_, rfl⟩
    obtain ⟨b, h4, h5, h6⟩ := hne h0
    refine ⟨b, h4, ?_⟩
    rw [← hus]
    exact CellsAt.mono h6 ((hc (by simp [isLoad, ho])).block _ h5.lt (by simp))
  · rename_i p
    simp only [chk_some, Option.bind_eq_some_iff] at h2
    obtain ⟨hty, ob, hob, h3⟩ := h2
    cases ob with
    | arr ti e xs fz =>
      obtain ⟨ns, hns, h3⟩ := Option.bind_eq_some_iff.1 h3
      obtain ⟨el, hs, he, hd⟩ := bytesTy_spec hty
      obtain ⟨rfl, hxs⟩ := u8s_spec hns
      obtain rfl := eq_of_heq hxs
      refine StR.of h3 fun hT => ?_
      obtain ⟨_, e1, _⟩ := ev_sound r hT h1
      obtain ⟨us, h5, hrep⟩ := r.o.rep p _ hob
      have hus := u8s_cells hrep
      subst hus
      by_cases h0 : xs = []
      · subst h0
        rcases h5 with ⟨_, ⟨ao, h6⟩, h7, _⟩ | ⟨b, cap, cur, _, h6, _⟩
        · rw [h6] at e1
          exact ⟨_, fun w' hc => key (ns := []) hs he hd e1 (fun h => absurd rfl h), rfl⟩
        · rw [h6] at e1
          exact ⟨_, fun w' hc => key (ns := []) hs he hd e1 (fun h => absurd rfl h), rfl⟩
      · obtain ⟨b, cap, h6, h7, h8, h9⟩ := h5.cells (fun h => h0 (List.length_eq_zero_iff.1 h))
        rw [h7] at e1
        have hlt := OwnR.lt h5 b (by rw [h6]; simp)
        refine ⟨_, fun w' hc => key hs he hd e1 fun _ => ⟨_, rfl, ?_⟩, rfl⟩
        exact CellsAt.mono h9 ((hc (by simp [isLoad, ho])).block _ hlt (by simp))
    | _ => simp at h3
  · exact st_scalar r (fun cs b e => by rw [ho] at e; cases e) (fun z hz => by rw [ho] at hz; simpa [Op.operands] using hz) h2
theorem capsOf_spec : ∀ {vs : List PV} {caps : List (Nat × Nat)} {us : List Value}, capsOf vs = some caps → vs.length = us.length → (∀ (i : Nat) (v : PV) (u : Value), vs[i]? = some v → us[i]? = some u → PR σ.objs γ w v u) → capsLt σ.objs.length caps ∧ PtrL γ caps us
  | [], caps, us, h, hl, _ => by
    simp only [capsOf, Option.some.injEq] at h
    subst h
    have : us = [] := List.eq_nil_of_length_eq_zero (by simpa using hl.symm)
    subst this
    exact ⟨trivial, rfl⟩
  | v :: vs, caps, [], h, hl, _ => by simp at hl
  | v :: vs, caps, u :: us, h, hl, hp => by
    unfold capsOf at h
    split at h
    · cases ‹_ :: _ = []›
    · rename_i p off q heq
      simp only [List.cons.injEq] at heq
      obtain ⟨rfl, rfl⟩ := heq
      simp only [Option.bind_eq_some_iff, Option.some.injEq] at h
      obtain ⟨l, h1, rfl⟩ := h
      obtain ⟨hlt, b, hg, e1⟩ := hp 0 _ _ rfl rfl
      obtain ⟨h2, h3⟩ := capsOf_spec h1 (by simpa using hl) (fun i v u hv hu => hp (i + 1) v u (by simpa using hv) (by simpa using hu))
      exact ⟨⟨hlt, h2⟩, b, us, by rw [e1], hg, h3⟩
    · cases h
theorem st_makeFunc (r : Rel F σ γ a w) {f : FuncId} {first captured : Array Operand} (ho : o.op = .makeFunc (.func f) first captured) (h : chk first.isEmpty ((evs σ tg captured.toList).bind fun vs => (capsOf vs).bind fun caps => k (.c (.fn f caps))) = some res) : StR P σ γ a w tg o k res := by
  simp only [chk_some, Option.bind_eq_some_iff] at h
  obtain ⟨hf, vs, h1, caps, h2, h3⟩ := h
  have hf' : first = #[] := by simpa using hf
  subst hf'
  refine StR.of h3 fun hT => ?_
  obtain ⟨hl, hp⟩ := evs_spec r hT h1
  obtain ⟨h4, h5⟩ := capsOf_spec (us := captured.toList.map a.eval) h2 (by simp [hl]) (fun i v u hv hu => by
    simp only [List.getElem?_map, Option.map_eq_some_iff] at hu
    obtain ⟨x, hx, rfl⟩ := hu
    exact hp i x v hx hv)
  refine ⟨.func (.func f) #[] (captured.toList.map a.eval).toArray, fun w' _ => ?_, h4, _, rfl, h5⟩
  obtain ⟨dst, op, type, pos, after, guard⟩ := o
  simp only at ho
  subst ho
  simp only [execOp, Instr.makeFunc, Sem.run_bind, Sem.run_pure, Result.andThen_ok]
  rw [toArray_map]
  simp

/-! ### slices against nil -/
theorem agree_spec {a b : Option α} {r : α} (h : agree a b = some r) : a = some r ∧ b = some r := by
  unfold agree at h
  split at h
  · rename_i e; exact ⟨h, e ▸ h⟩
  · cases h
theorem emptyOf_spec (r : ORel F σ.objs γ w) {pv : PV} {em : Bool} {v : Value} (h : emptyOf σ pv = some em) (hv : PR σ.objs γ w pv v) : ∃ ao n c, v = .slice ao n c ∧ (ao = none → em = true) := by
  cases pv with
  | c c =>
    cases c with
    | sl e xs =>
      simp only [emptyOf, Option.some.injEq] at h
      obtain ⟨_, ao, cap, us, e1, _, _, hne⟩ := hv
      simp only [List.cons.injEq, and_true] at e1
      refine ⟨ao, _, _, e1, fun hao => ?_⟩
      by_cases hx : xs = []
      · rw [← h, hx]; rfl
      · obtain ⟨ad, h1, _⟩ := hne hx
        rw [hao] at h1; cases h1
    | os p =>
      simp only [emptyOf, Option.bind_eq_some_iff] at h
      obtain ⟨ob, hob, h⟩ := h
      cases ob with
      | arr i e xs fz =>
        simp only [Option.some.injEq] at h
        obtain ⟨_, e1, ao, n, c, e2⟩ := hv
        refine ⟨ao, n, c, e2, fun hao => ?_⟩
        by_cases hx : xs = []
        · rw [← h, hx]; rfl
        · obtain ⟨b, cap, us, _, h3, _⟩ := arr_spec r hob hx
          rw [e2, h3, Value.slice.injEq] at e1
          rw [hao] at e1; cases e1.1
      | _ => simp at h
    | e0 =>
      simp only [emptyOf, Option.some.injEq] at h
      obtain ⟨ao, e1⟩ := hv
      exact ⟨ao, 0, 0, e1, fun _ => h.symm⟩
    | _ => simp [emptyOf] at h
  | _ => simp [emptyOf] at h
theorem st_nil (r : Rel F σ γ a w) {op : BinOp} {t t' : TypeId} {x y : Operand} (ho : o.op = .binOp op t x y t') {neg : Bool} (hop : op = .eql ∧ neg = false ∨ op = .neq ∧ neg = true) (h : nilS P σ tg o t neg x y k = some res) : StR P σ γ a w tg o k res := by
  unfold nilS at h
  by_cases hq : (isNilP y && (isPtr (ev σ tg x) && ptrTy P t)) = true
  · simp only [hq, cond_true] at h
    simp only [Bool.and_eq_true] at hq
    obtain ⟨hy, hx, ht⟩ := hq
    have hy : y = .const (.pointer none) := by
      unfold isNilP at hy
      split at hy
      · rfl
      · cases hy
    subst hy
    refine StR.of h fun hT => ?_
    cases hev : ev σ tg x with
    | none => rw [hev] at hx; cases hx
    | some pv =>
      rw [hev] at hx
      unfold isPtr at hx
      split at hx
      · rename_i p q heq
        simp only [Option.some.injEq] at heq
        subst heq
        obtain ⟨_, b, _, e1⟩ := ev_sound r hT hev
        have hu : P.underlying t = some (.pointer (P.pointee t)) := by
          unfold ptrTy at ht
          split at ht
          · rename_i e he; simp [Program.pointee, he]
          · cases ht
        refine ⟨.bool neg, fun w' _ => ?_, rfl⟩
        have he := run_equal_pointer_nil (P := P) w' t (some ⟨b, q, none⟩) hu
        obtain ⟨dst, op', type, pos, after, guard⟩ := o
        simp only at ho
        subst ho
        have ec : a.eval (.const (.pointer none)) = .pointer none := rfl
        generalize a.eval = ρ at e1 ec ⊢
        rcases hop with ⟨rfl, rfl⟩ | ⟨rfl, rfl⟩
        · simp [execOp, eqGuard, binOp, e1, ec, he, go_sem]
        · simp [execOp, eqGuard, binOp, e1, ec, he, go_sem]
      · cases hx
  rw [Bool.not_eq_true] at hq
  simp only [hq, cond_false] at h
  split at h
  · rename_i em hem
    obtain ⟨i, hu, h1⟩ := Option.bind_eq_some_iff.1 h
    have hu := elemOf_spec hu
    have hy : y = .const (.slice none 0 0) := by
      by_cases hn : isNilC y = true
      · unfold isNilC at hn
        split at hn
        · rfl
        · cases hn
      · simp only [Bool.eq_false_iff.2 hn, cond_false] at hem; cases hem
    subst hy
    simp only [isNilC, cond_true] at hem
    obtain ⟨pv, h2, h3⟩ := Option.bind_eq_some_iff.1 hem
    refine ⟨?_, fun hT => ?_⟩
    · cases em
      · exact ⟨_, h1⟩
      · exact ⟨_, (agree_spec h1).1⟩
    · obtain ⟨ao, n, c, e1, hao⟩ := emptyOf_spec r.o h3 (ev_sound r hT h2)
      have hrun : ∀ w', (execOp a.eval o).run P w' = .ok (.value (.bool (ao.isNone != neg))) w' := fun w' => by
        have he := run_equal_slice_nil (P := P) w' t i ao n c hu
        obtain ⟨dst, op', type, pos, after, guard⟩ := o
        simp only at ho
        subst ho
        have ec : a.eval (.const (.slice none 0 0)) = .slice none 0 0 := rfl
        generalize a.eval = ρ at e1 ec ⊢
        rcases hop with ⟨rfl, rfl⟩ | ⟨rfl, rfl⟩
        · simp [execOp, eqGuard, binOp, e1, ec, he, go_sem]
        · simp [execOp, eqGuard, binOp, e1, ec, he, go_sem]
      refine ⟨.c (.v (.bool (ao.isNone != neg))), ⟨_, fun w' _ => hrun w', rfl⟩, ?_⟩
      cases ao with
      | none =>
        rw [hao rfl] at h1
        have := (agree_spec h1).1
        cases neg <;> exact this
      | some ad =>
        have : k (.c (.v (.bool neg))) = some res := by
          cases em
          · exact h1
          · exact (agree_spec h1).2
        cases neg <;> exact this
  · split at h
    · rename_i b hb
      simp only [chk_some] at h
      obtain ⟨hi, h1⟩ := h
      have hu : P.underlying t = some (.interface (P.methodsAt t)) := by
        unfold ifaceTy at hi
        split at hi
        · rename_i ms hm; simp [Program.methodsAt, hm]
        · cases hi
      have hy : y = .const .nilIface := by
        by_cases hn : isNilI y = true
        · unfold isNilI at hn
          split at hn
          · rfl
          · cases hn
        · simp only [Bool.eq_false_iff.2 hn, cond_false] at hb; cases hb
      subst hy
      simp only [isNilI, cond_true] at hb
      obtain ⟨pv, h2, h3⟩ := Option.bind_eq_some_iff.1 hb
      refine StR.of h1 fun hT => ?_
      have e1 := ev_sound r hT h2
      obtain ⟨v, e2, hv⟩ : ∃ v, a.eval x = v ∧ ((b = false ∧ v = .nilIface) ∨ (b = true ∧ ∃ t p, v = .iface t p)) := by
        unfold asErr at h3
        split at h3
        · simp only [Option.some.injEq] at h3
          subst h3
          exact ⟨_, rfl, e1⟩
        · cases h3
      have ec : a.eval (.const .nilIface) = .nilIface := rfl
      refine ⟨_, fun w' _ => ?_, rfl⟩
      obtain ⟨dst, op', type, pos, after, guard⟩ := o
      simp only at ho
      subst ho
      generalize a.eval = ρ at e2 ec ⊢
      rcases hv with ⟨rfl, rfl⟩ | ⟨rfl, te, pe, rfl⟩
      · have he := run_equal_nil_nil (P := P) w' t hu
        rcases hop with ⟨rfl, rfl⟩ | ⟨rfl, rfl⟩
        · simp [execOp, eqGuard, binOp, e2, ec, he, go_sem]
        · simp [execOp, eqGuard, binOp, e2, ec, he, go_sem]
      · have he := run_equal_held_nil (P := P) w' t te pe hu
        rcases hop with ⟨rfl, rfl⟩ | ⟨rfl, rfl⟩
        · simp [execOp, eqGuard, binOp, e2, ec, he, go_sem]
        · simp [execOp, eqGuard, binOp, e2, ec, he, go_sem]
    · exact st_scalar r (fun cs b e => by rw [ho] at e; cases e) (fun z hz => by rw [ho] at hz; simpa [Op.operands] using hz) h
end
end Go.Den
