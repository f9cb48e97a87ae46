/- Several texts in one: Plain facts: loops and recursions of the shallow functions; numbers. No condition of its own.; The copy of elements of k cells into a row. No condition of its own.; Plain facts: data in range, decided. No condition of its own.; Rules in plain Lean: what is wrong with rules, as the program and the reference compute it. No condition of its own.; Loops over an index with what is gathered on the way, in plain Lean. No condition of its own.; What is wrong with a position, as the program and the reference compute it; what a valid one is. No condition of its own.; Ways of pieces: where a piece can go, as the program and the reference compute it. No condition of its own.; Moves in order, each once: what sorting and compacting a list of moves gives. No condition of its own.; Moves: what the program lists and what the reference permits. No condition of its own.; The reference's moves; they are the program's. No condition of its own.; Results: what the program and the reference say of how a game stands. No condition of its own.; Results: the conditions, and what comes of them. No condition of its own. -/
import Derived.Test.YtfppnefcicdnfaaMAA
import Derived.Laws.CopyRow
import Derived.Test.YtfppnefcicdnfaaMAE
import Derived.Test.YtfppnefcicdnfaaMAF
import Derived.Laws.Strings
namespace Go.Den
set_option linter.unusedVariables false
set_option linter.unusedSimpArgs false

theorem iterN_mono {T α : Type} {f : T → Option (T ⊕ α)} : ∀ {n m : Nat} {x : T} {r : α}, iterN f n x = some r → n ≤ m → iterN f m x = some r
  | 0, _, _, _, h, _ => by simp [iterN] at h
  | n + 1, 0, _, _, _, h => by omega
  | n + 1, m + 1, x, r, h, hm => by
    simp only [iterN] at h ⊢
    match hf : f x with
    | none => simp [hf] at h
    | some (.inr q) => simp only [hf] at h ⊢; exact h
    | some (.inl y) => simp only [hf] at h ⊢; exact iterN_mono h (by omega)
theorem iterW_of {T α : Type} {f : T → Option (T ⊕ α)} {n : Nat} {x : T} {r : α} (h : iterN f n x = some r) : iterW f x = some r := by
  have hx : ∃ n, (iterN f n x).isSome = true := ⟨n, by rw [h]; rfl⟩
  unfold iterW
  rw [dif_pos hx]
  obtain ⟨q, hq⟩ := Option.isSome_iff_exists.1 (Classical.choose_spec hx)
  rw [hq]
  rcases Nat.le_total n (Classical.choose hx) with hl | hl
  · rw [← hq, iterN_mono h hl]
  · rw [← h, iterN_mono hq hl]
theorem iterW_inv {T α : Type} {f : T → Option (T ⊕ α)} {x : T} {r : α} (h : iterW f x = some r) : ∃ n, iterN f n x = some r := by
  unfold iterW at h
  split at h
  · exact ⟨_, h⟩
  · cases h
theorem iterW_inl {T α : Type} {f : T → Option (T ⊕ α)} {x y : T} (h : f x = some (.inl y)) : iterW f x = iterW f y := by
  cases hy : iterW f y with
  | some r =>
    obtain ⟨n, hn⟩ := iterW_inv hy
    exact iterW_of (n := n + 1) (by simp [iterN, h, hn])
  | none =>
    cases hx : iterW f x with
    | none => rfl
    | some r =>
      obtain ⟨n, hn⟩ := iterW_inv hx
      cases n with
      | zero => simp [iterN] at hn
      | succ n =>
        simp only [iterN, h] at hn
        rw [iterW_of hn] at hy
        cases hy
theorem iterW_inr {T α : Type} {f : T → Option (T ⊕ α)} {x : T} {r : α} (h : f x = some (.inr r)) : iterW f x = some r := iterW_of (n := 1) (by simp [iterN, h])
theorem iterW_eq {T α : Type} (f : T → Option (T ⊕ α)) (x : T) : iterW f x = match f x with
    | none => none
    | some (.inl y) => iterW f y
    | some (.inr r) => some r := by
  match h : f x with
  | some (.inl y) => exact iterW_inl h
  | some (.inr r) => exact iterW_inr h
  | none =>
    cases hx : iterW f x with
    | none => rfl
    | some r =>
      obtain ⟨n, hn⟩ := iterW_inv hx
      cases n <;> simp [iterN, h] at hn
/-- a loop with a measure and an invariant -/
theorem iterW_meas {T α : Type} {f : T → Option (T ⊕ α)} (I : T → Prop) (μ : T → Nat) (Q : α → Prop)
    (h : ∀ x, I x → (∃ y, f x = some (.inl y) ∧ I y ∧ μ y < μ x) ∨ (∃ r, f x = some (.inr r) ∧ Q r)) : ∀ x, I x → ∃ r, iterW f x = some r ∧ Q r := by
  have key : ∀ (n : Nat) x, μ x < n → I x → ∃ r, iterW f x = some r ∧ Q r := by
    intro n
    induction n with
    | zero => intro x hx; omega
    | succ n ih =>
      intro x hx hi
      rcases h x hi with ⟨y, h1, h2, h3⟩ | ⟨r, h1, h2⟩
      · rw [iterW_inl h1]; exact ih y (by omega) h2
      · exact ⟨r, iterW_inr h1, h2⟩
  exact fun x hi => key _ x (Nat.lt_succ_self _) hi
/-- a loop that computes g -/
theorem iterW_fun {T α : Type} {f : T → Option (T ⊕ α)} (I : T → Prop) (μ : T → Nat) (g : T → α)
    (h : ∀ x, I x → (∃ y, f x = some (.inl y) ∧ I y ∧ μ y < μ x ∧ g y = g x) ∨ f x = some (.inr (g x))) : ∀ x, I x → iterW f x = some (g x) := by
  have key : ∀ (n : Nat) x, μ x < n → I x → iterW f x = some (g x) := by
    intro n
    induction n with
    | zero => intro x hx; omega
    | succ n ih =>
      intro x hx hi
      rcases h x hi with ⟨y, h1, h2, h3, h4⟩ | h1
      · rw [iterW_inl h1, ih y (by omega) h2, h4]
      · exact iterW_inr h1
  exact fun x hi => key _ x (Nat.lt_succ_self _) hi
/-- a recursion that computes s -/
theorem fixW_fun {T α : Type} {G : (T → Option α) → T → Option α} (I : T → Prop) (μ : T → Nat) (s : T → α)
    (h1 : ∀ φ x, I x → (∀ y, I y → φ y = none ∨ φ y = some (s y)) → G φ x = none ∨ G φ x = some (s x))
    (h2 : ∀ φ x, I x → (∀ y, I y → μ y < μ x → φ y = some (s y)) → G φ x = some (s x)) : ∀ x, I x → fixW G x = some (s x) := by
  have a1 : ∀ n x, I x → fixN G n x = none ∨ fixN G n x = some (s x) := by
    intro n
    induction n with
    | zero => intro x _; exact .inl rfl
    | succ n ih => intro x hx; exact h1 _ x hx ih
  have a2 : ∀ n x, I x → μ x < n → fixN G n x = some (s x) := by
    intro n
    induction n with
    | zero => intro x _ hl; omega
    | succ n ih => intro x hx hl; exact h2 _ x hx fun y hy hm => ih y hy (by omega)
  intro x hx
  have hx' : ∃ n, (fixN G n x).isSome = true := ⟨μ x + 1, by rw [a2 _ x hx (Nat.lt_succ_self _)]; rfl⟩
  unfold fixW
  rw [dif_pos hx']
  have := Classical.choose_spec hx'
  rcases a1 (Classical.choose hx') x hx with h | h
  · rw [h] at this; cases this
  · exact h

/-- a loop whose states are known -/
theorem iterW_states {T α : Type} {f : T → Option (T ⊕ α)} (n : Nat) (st : Nat → T) (r : α) (hs : ∀ i, i < n → f (st i) = some (.inl (st (i + 1)))) (he : f (st n) = some (.inr r)) : iterW f (st 0) = some r := by
  have key : ∀ k, k ≤ n → iterW f (st (n - k)) = some r := by
    intro k
    induction k with
    | zero => intro _; exact iterW_inr he
    | succ k ih =>
      intro hk
      have := hs (n - (k + 1)) (by omega)
      rw [show n - (k + 1) + 1 = n - k by omega] at this
      rw [iterW_inl this]
      exact ih (by omega)
  have := key n (Nat.le_refl _)
  rwa [Nat.sub_self] at this
/-- two loops that agree where an invariant holds -/
theorem iterW_congr {T α : Type} {f g : T → Option (T ⊕ α)} (I : T → Prop) (h : ∀ x, I x → f x = g x) (hi : ∀ x y, I x → f x = some (.inl y) → I y) : ∀ x, I x → iterW f x = iterW g x := by
  have key : ∀ n x, I x → iterN f n x = iterN g n x := by
    intro n
    induction n with
    | zero => intro x _; rfl
    | succ n ih =>
      intro x hx
      simp only [iterN, ← h x hx]
      match hf : f x with
      | none => rfl
      | some (.inr q) => rfl
      | some (.inl y) => exact ih y (hi x y hx hf)
  intro x hx
  cases hf : iterW f x with
  | some r =>
    obtain ⟨n, hn⟩ := iterW_inv hf
    rw [key n x hx] at hn
    exact (iterW_of hn).symm
  | none =>
    cases hg : iterW g x with
    | none => rfl
    | some r =>
      obtain ⟨n, hn⟩ := iterW_inv hg
      rw [← key n x hx] at hn
      rw [iterW_of hn] at hf
      cases hf
/-- a search in a row -/
theorem iterW_any {α β : Type} (xs : List α) (p : α → Bool) (f : ((Int × Unit) × Unit) → Option (((Int × Unit) × Unit) ⊕ β)) (A B : β)
    (h1 : ∀ i (hi : i < xs.length), f (((i : Int), ()), ()) = bif p xs[i] then some (.inr A) else some (.inl ((((i + 1 : Nat) : Int), ()), ()))) (h2 : f (((xs.length : Int), ()), ()) = some (.inr B)) :
    iterW f ((0, ()), ()) = some (bif xs.any p then A else B) := by
  have key : ∀ k i, i + k = xs.length → iterW f (((i : Int), ()), ()) = some (bif (xs.drop i).any p then A else B) := by
    intro k
    induction k with
    | zero =>
      intro i hi
      have : i = xs.length := by omega
      subst this
      rw [iterW_inr h2]
      simp
    | succ k ih =>
      intro i hi
      have hl : i < xs.length := by omega
      have hs := h1 i hl
      rw [List.drop_eq_getElem_cons hl]
      cases hp : p xs[i] with
      | true =>
        rw [hp] at hs
        rw [iterW_inr hs]
        simp only [List.any_cons, hp, Bool.true_or, cond_true]
      | false =>
        rw [hp] at hs
        rw [iterW_inl hs, ih (i + 1) (by omega)]
        simp only [List.any_cons, hp, Bool.false_or]
  have := key xs.length 0 (by omega)
  simpa using this
/-- the first answer of a row of questions -/
def scan {β : Type} (e : Nat → Option β) (B : β) : Nat → Nat → β
  | _, 0 => B
  | i, k + 1 => match e i with
    | some b => b
    | none => scan e B (i + 1) k
theorem iterW_scan {β : Type} (n : Nat) (f : ((Int × Unit) × Unit) → Option (((Int × Unit) × Unit) ⊕ β)) (e : Nat → Option β) (B : β)
    (h1 : ∀ i, i < n → f (((i : Int), ()), ()) = match e i with
      | some b => some (.inr b)
      | none => some (.inl ((((i + 1 : Nat) : Int), ()), ()))) (h2 : f (((n : Int), ()), ()) = some (.inr B)) :
    iterW f ((0, ()), ()) = some (scan e B 0 n) := by
  have key : ∀ k i, i + k = n → iterW f (((i : Int), ()), ()) = some (scan e B i k) := by
    intro k
    induction k with
    | zero =>
      intro i hi
      have : i = n := by omega
      subst this
      exact iterW_inr h2
    | succ k ih =>
      intro i hi
      have hs := h1 i (by omega)
      unfold scan
      match he : e i with
      | some b => rw [he] at hs; exact iterW_inr hs
      | none => rw [he] at hs; rw [iterW_inl hs]; exact ih (i + 1) (by omega)
  exact key n 0 (by omega)
theorem scan_map {β γ : Type} (g : β → γ) (e : Nat → Option β) (B : β) : ∀ (k i : Nat), scan (fun i => (e i).map g) (g B) i k = g (scan e B i k)
  | 0, _ => rfl
  | k + 1, i => by
    unfold scan
    match he : e i with
    | some b => rfl
    | none => simp only [Option.map_none]; exact scan_map g e B k (i + 1)
theorem scan_congr {β : Type} {e e' : Nat → Option β} (B : β) : ∀ (k i : Nat), (∀ j, i ≤ j → j < i + k → e j = e' j) → scan e B i k = scan e' B i k
  | 0, _, _ => rfl
  | k + 1, i, h => by
    unfold scan
    rw [h i (Nat.le_refl _) (by omega), scan_congr B k (i + 1) fun j h1 h2 => h j (by omega) (by omega)]
/-! ### numbers -/
theorem w64_id {n : Int} (h1 : -9223372036854775808 ≤ n) (h2 : n ≤ 9223372036854775807) : w64 n = n := by
  simp [w64, IntKind.wrap, IntKind.signed, IntKind.bits]
  omega
theorem w64_rng (n : Int) : -9223372036854775808 ≤ w64 n ∧ w64 n ≤ 9223372036854775807 := by
  simp [w64, IntKind.wrap, IntKind.signed, IntKind.bits]
  omega
theorem room_ok {n b : Nat} (h : n * b ≤ 140737488355328) : room n b = true := Nat.ble_eq_true_of_le h
theorem beq_f {α : Type} [BEq α] [LawfulBEq α] {a b : α} (h : ¬ a = b) : (a == b) = false := by simpa using h
theorem bne_t {α : Type} [BEq α] [LawfulBEq α] {a b : α} (h : ¬ a = b) : (a != b) = true := by simpa using h
theorem beq_t {α : Type} [BEq α] [LawfulBEq α] {a b : α} (h : a = b) : (a == b) = true := by simpa using h
theorem bne_f {α : Type} [BEq α] [LawfulBEq α] {a b : α} (h : a = b) : (a != b) = false := by simpa using h
theorem req_true {α : Type} (x : Option α) : req true x = x := rfl
theorem req_false {α : Type} (x : Option α) : req false x = none := rfl
theorem at?_eq {α : Type} (xs : List α) (i : Int) (h0 : 0 ≤ i) (h1 : i < (xs.length : Int)) : at? xs i = some (xs[i.toNat]'(by omega)) := by
  simp [at?, h0, List.getElem?_eq_getElem (show i.toNat < xs.length by omega)]
theorem inb_iff {i : Int} {n : Nat} : inb i n = true ↔ 0 ≤ i ∧ i < (n : Int) := by simp [inb]
/-! ### functions that the kernel can evaluate: every loop gets a bound -/
/-- what the left side gives, the right side gives -/
def Le {α : Type} (a b : Option α) : Prop := ∀ r, a = some r → b = some r
theorem Le.refl {α : Type} (a : Option α) : Le a a := fun _ h => h
theorem Le.bind {α β : Type} {a b : Option α} {f g : α → Option β} (h : Le a b) (hf : ∀ x, Le (f x) (g x)) : Le (Option.bind a f) (Option.bind b g) := fun r hr => by
  obtain ⟨x, h1, h2⟩ := Option.bind_eq_some_iff.1 hr
  rw [h x h1]
  exact hf x r h2
theorem Le.elim {α β γ : Type} {f g : α → Option γ} {f' g' : β → Option γ} (h : ∀ x, Le (f x) (g x)) (h' : ∀ x, Le (f' x) (g' x)) : ∀ x, Le (Sum.elim f f' x) (Sum.elim g g' x)
  | .inl x => h x
  | .inr x => h' x
theorem Le.cond {α : Type} {c : Bool} {a b a' b' : Option α} (h : Le a a') (h' : Le b b') : Le (bif c then a else b) (bif c then a' else b') := by
  cases c
  · exact h'
  · exact h
theorem Le.req {α : Type} {c : Bool} {a b : Option α} (h : Le a b) : Le (req c a) (req c b) := by
  cases c
  · exact Le.refl _
  · exact h
theorem Le.gopt {α : Type} {c : Bool} {d : α} {a b : Option α} (h : Le a b) : Le (gopt c d a) (gopt c d b) := by
  cases c
  · exact Le.refl _
  · exact h
theorem Le.map {α β : Type} {f : α → β} {a b : Option α} (h : Le a b) : Le (Option.map f a) (Option.map f b) := fun r hr => by
  obtain ⟨x, h1, h2⟩ := Option.map_eq_some_iff.1 hr
  rw [h x h1, ← h2]
  rfl
def agreeC {α : Type} [DecidableEq α] (a b : Option α) : Option α := if a = b then a else none
theorem Le.agree {α : Type} [DecidableEq α] {a b a' b' : Option α} (h : Le a a') (h' : Le b b') : Le (agreeC a b) (agree a' b') := fun r hr => by
  unfold agreeC at hr
  split at hr
  · rename_i e
    have h1 := h r hr
    have h2 := h' r (e ▸ hr)
    unfold Go.Den.agree
    rw [h1, h2, if_pos rfl]
  · cases hr
theorem Le.iter {T α : Type} {f g : T → Option (T ⊕ α)} (h : ∀ x, Le (f x) (g x)) (n : Nat) (x : T) : Le (iterN f n x) (iterW g x) := by
  have key : ∀ n x, Le (iterN f n x) (iterN g n x) := by
    intro n
    induction n with
    | zero => intro x; exact Le.refl _
    | succ n ih =>
      intro x r hr
      simp only [iterN] at hr ⊢
      match hf : f x with
      | none => rw [hf] at hr; cases hr
      | some (.inl y) => rw [hf] at hr; rw [h x _ hf]; exact ih y r hr
      | some (.inr q) => rw [hf] at hr; rw [h x _ hf]; exact hr
  exact fun r hr => iterW_of (key n x r hr)
/-- a loop of bounded length in which a bound on the number of rounds does not matter -/
def Mono {T α : Type} (G : (T → Option α) → T → Option α) : Prop := ∀ φ ψ, (∀ x, Le (φ x) (ψ x)) → ∀ x, Le (G φ x) (G ψ x)
theorem Le.fix {T α : Type} {F G : (T → Option α) → T → Option α} (h : ∀ φ ψ, (∀ x, Le (φ x) (ψ x)) → ∀ x, Le (F φ x) (G ψ x)) (hG : Mono G) (n : Nat) (x : T) : Le (fixN F n x) (fixW G x) := by
  have key : ∀ n x, Le (fixN F n x) (fixN G n x) := by
    intro n
    induction n with
    | zero => intro x; exact Le.refl _
    | succ n ih => intro x; exact h _ _ ih x
  have up : ∀ n x, Le (fixN G n x) (fixN G (n + 1) x) := by
    intro n
    induction n with
    | zero => intro x r hr; cases hr
    | succ n ih => intro x; exact hG _ _ ih x
  have mono : ∀ k n x, Le (fixN G n x) (fixN G (n + k) x) := by
    intro k
    induction k with
    | zero => intro n x; exact Le.refl _
    | succ k ih => intro n x r hr; exact up _ x r (ih n x r hr)
  intro r hr
  have h1 := key n x r hr
  have hx : ∃ n, (fixN G n x).isSome = true := ⟨n, by rw [h1]; rfl⟩
  unfold fixW
  rw [dif_pos hx]
  obtain ⟨q, hq⟩ := Option.isSome_iff_exists.1 (Classical.choose_spec hx)
  rw [hq]
  rcases Nat.le_total n (Classical.choose hx) with hl | hl
  · have := mono (Classical.choose hx - n) n x r h1
    rw [show n + (Classical.choose hx - n) = Classical.choose hx by omega, hq] at this
    exact this
  · have := mono (n - Classical.choose hx) (Classical.choose hx) x q hq
    rw [show Classical.choose hx + (n - Classical.choose hx) = n by omega, h1] at this
    exact this.symm
end Go.Den
namespace Go
variable (P : Program)
theorem run_copy_rowK (w : World) (dT sT ty elem : TypeId) (g o dLen dCap : Nat) (a : Addr) (sLen sCap k : Nat) (cur : Array Value) (t : TypeId) (cs : List Value)
    (hu : P.underlying dT = some (.slice elem)) (hs : (P.info? elem).map (·.size) = some k)
    (hg : w.heap[g]? = some (.cells cur t (0, 0))) (hn : cs.length = Nat.min sLen dLen * k)
    (hsrc : ∀ j v, cs[j]? = some v → w.cell? (a.add j) = some v) (hfit : o + cs.length ≤ cur.size) (h1 : ∀ v ∈ cs, v.oneCell' = true) :
    (Builtin.copy_ #[dT, sT] ty #[.slice (some ⟨g, o, none⟩) dLen dCap, .slice (some a) sLen sCap]).run P w =
      .ok (goInt (Nat.min sLen dLen)) (w.setRow g (cur.toList.take o ++ cs ++ cur.toList.drop (o + cs.length)).toArray) := by
  have hl := run_loadCells_list (P := P) w a cs hsrc
  have hst := run_storeCells_at P g o t cs 0 cur w hg (by simpa using hfit) h1
  cases hq : P.info? elem with
  | none => simp [hq] at hs
  | some i =>
    have hi : i.size = k := by simpa [hq] using hs
    simp [Builtin.copy_, run_underlying hu, Builtin.lenOf, Builtin.firstCells, sizeOf, typeInfo, hq, hi, ← hn, hl, hst]
end Go
namespace Go.Den
set_option linter.unusedVariables false
def rngB : (τ : Ty) → D τ → Bool
  | .int k, (n : Int) => decide (k.min ≤ n) && decide (n ≤ k.max)
  | .bool, _ => true
  | .str, (s : ByteArray) => Nat.ble s.size maxLen
  | .sl e, (xs : List (D e)) => Nat.ble xs.length maxLen && xs.all (rngB e)
  | .osl _ e, (xs : List (D e)) => Nat.ble xs.length maxLen && xs.all (rngB e)
  | .obx e, x => rngB e x
  | .err, _ => true
  | .bld _ _, _ => true
  | .nil, _ => true
  | .st f r, x => rngB f x.1 && rngB r x.2
theorem rngB_ok : ∀ (τ : Ty) (x : D τ), rngB τ x = true → Rng τ x
  | .int k, n, h => by
    simp only [rngB, Bool.and_eq_true, decide_eq_true_eq] at h
    cases k <;> exact h
  | .bool, _, _ => trivial
  | .str, s, h => Nat.le_of_ble_eq_true h
  | .sl e, xs, h => by
    simp only [rngB, Bool.and_eq_true] at h
    exact ⟨Nat.le_of_ble_eq_true h.1, fun x hx => rngB_ok e x (List.all_eq_true.1 h.2 x hx)⟩
  | .osl _ e, xs, h => by
    simp only [rngB, Bool.and_eq_true] at h
    exact ⟨Nat.le_of_ble_eq_true h.1, fun x hx => rngB_ok e x (List.all_eq_true.1 h.2 x hx)⟩
  | .obx e, x, h => rngB_ok e x h
  | .err, _, _ => trivial
  | .bld _ _, _, _ => trivial
  | .nil, _, _ => trivial
  | .st f r, x, h => by
    simp only [rngB, Bool.and_eq_true] at h
    exact ⟨rngB_ok f x.1 h.1, rngB_ok r x.2 h.2⟩
end Go.Den
namespace Go.Proofs.Ytfppnefcicdnfaa
open Go.Den
set_option linter.unusedVariables false
set_option linter.unusedSimpArgs false
set_option maxRecDepth 100000

abbrev Way := Int × Int × Int × Int × Unit
abbrev Piece := Int × Int × Int × (List Way) × Unit
abbrev End := Int × Int × Int × Bool × Unit
abbrev Rules := ByteArray × Int × Int × (List Piece) × (List Int) × Bool × Bool × (List End) × Int × Int × Int × Unit
abbrev Rules.name (r : Rules) : ByteArray := r.1
abbrev Rules.width (r : Rules) : Int := r.2.1
abbrev Rules.height (r : Rules) : Int := r.2.2.1
abbrev Rules.pieces (r : Rules) : List Piece := r.2.2.2.1
abbrev Rules.start (r : Rules) : List Int := r.2.2.2.2.1
abbrev Rules.falls (r : Rules) : Bool := r.2.2.2.2.2.1
abbrev Rules.keeps (r : Rules) : Bool := r.2.2.2.2.2.2.1
abbrev Rules.ends (r : Rules) : List End := r.2.2.2.2.2.2.2.1
abbrev Rules.blocked (r : Rules) : Int := r.2.2.2.2.2.2.2.2.1
abbrev Rules.quiet (r : Rules) : Int := r.2.2.2.2.2.2.2.2.2.1
abbrev Rules.repeats (r : Rules) : Int := r.2.2.2.2.2.2.2.2.2.2.1
abbrev tyWay : Ty := .st (.int .i64) (.st (.int .i64) (.st (.int .i64) (.st (.int .i64) .nil)))
abbrev tyPiece : Ty := .st (.int .u8) (.st (.int .i64) (.st (.int .i64) (.st (.sl tyWay) .nil)))
abbrev tyEnd : Ty := .st (.int .i64) (.st (.int .i64) (.st (.int .i64) (.st .bool .nil)))
abbrev tyRules : Ty := .st .str (.st (.int .i64) (.st (.int .i64) (.st (.sl tyPiece) (.st (.sl (.int .i64)) (.st .bool (.st .bool (.st (.sl tyEnd) (.st (.int .i64) (.st (.int .i64) (.st (.int .i64) .nil))))))))))

/-! ### a loop that looks for the first error -/
def nz (x : Int) : Option Int := if x = 0 then none else some x
def firstNZ (f : Nat → Int) (n : Nat) : Int := scan (fun i => nz (f i)) 0 0 n
theorem firstNZ_zero {f : Nat → Int} {n : Nat} (h : firstNZ f n = 0) : ∀ i, i < n → f i = 0 := by
  have key : ∀ (k i : Nat), scan (fun i => nz (f i)) 0 i k = 0 → ∀ j, i ≤ j → j < i + k → f j = 0 := by
    intro k
    induction k with
    | zero => intro i _ j h1 h2; omega
    | succ k ih =>
      intro i hs j h1 h2
      unfold scan at hs
      by_cases c : f i = 0
      · simp only [nz, if_pos c] at hs
        rcases Nat.eq_or_lt_of_le h1 with e | e
        · rw [← e]; exact c
        · exact ih (i + 1) hs j e (by omega)
      · simp only [nz, if_neg c] at hs
        exact absurd hs c
  exact fun i hi => key n 0 h i (Nat.zero_le _) (by omega)
theorem firstNZ_congr {f g : Nat → Int} {n : Nat} (h : ∀ i, i < n → f i = g i) : firstNZ f n = firstNZ g n :=
  scan_congr 0 n 0 fun j _ hj => by rw [h j (by omega)]
theorem loopNZ {γ : Type} (n : Nat) (f : ((Int × Unit) × Unit) → Option (((Int × Unit) × Unit) ⊕ (γ ⊕ Int))) (err : Nat → Int) (u : γ) (z : Option Int)
    (h1 : ∀ i, i < n → f (((i : Int), ()), ()) = if err i = 0 then some (.inl ((((i + 1 : Nat) : Int), ()), ())) else some (.inr (.inr (err i)))) (h2 : f (((n : Int), ()), ()) = some (.inr (.inl u))) :
    Option.bind (iterW f ((0, ()), ())) (Sum.elim (fun _ => z) some) = if firstNZ err n = 0 then z else some (firstNZ err n) := by
  have key : ∀ k i, i + k = n → Option.bind (iterW f (((i : Int), ()), ())) (Sum.elim (fun _ => z) some) = if scan (fun i => nz (err i)) 0 i k = 0 then z else some (scan (fun i => nz (err i)) 0 i k) := by
    intro k
    induction k with
    | zero =>
      intro i hi
      have : i = n := by omega
      subst this
      rw [iterW_inr h2]
      rfl
    | succ k ih =>
      intro i hi
      have hs := h1 i (by omega)
      unfold scan
      by_cases c : err i = 0
      · rw [if_pos c] at hs
        rw [iterW_inl hs, ih (i + 1) (by omega)]
        have : nz (err i) = none := by simp only [nz, if_pos c]
        rw [this]
      · rw [if_neg c] at hs
        rw [iterW_inr hs]
        have : nz (err i) = some (err i) := by simp only [nz, if_neg c]
        simp only [this, if_neg c]
        rfl
  exact key n 0 (by omega)
/-! ### names -/
def ch (s : ByteArray) (i : Nat) : Nat := ((s[i]?).getD 0).toNat
theorem strAt_eq (s : ByteArray) (i : Nat) (h : i < s.size) : ∃ c : UInt8, strAt s (i : Int) = some c ∧ c.toNat = ch s i := by
  refine ⟨(s[i]?).getD 0, ?_, rfl⟩
  have h0 : decide ((0 : Int) ≤ (i : Int)) = true := by simp
  have : s[i]? = some s[i] := getElem?_pos s i h
  unfold strAt
  rw [h0, cond_true, Int.toNat_natCast, this]
  rfl
theorem ch_lt (s : ByteArray) (i : Nat) : ch s i < 256 := UInt8.toNat_lt _
def nameBad (s : ByteArray) (i : Nat) : Bool := !(decide (65 ≤ ch s i ∧ ch s i ≤ 90) || decide (i ≠ 0 ∧ 48 ≤ ch s i ∧ ch s i ≤ 57))
def nameOk (s : ByteArray) : Bool := !((List.range s.size).any (nameBad s)) && decide (1 ≤ s.size ∧ s.size ≤ 8)
theorem empty_iff (s : ByteArray) : (s.toList == (ByteArray.mk #[]).toList) = decide (s.size = 0) := by
  rw [ByteArray.toList_eq, ByteArray.toList_eq]
  obtain ⟨⟨l⟩⟩ := s
  rw [Bool.eq_iff_iff, beq_iff_eq, decide_eq_true_eq]
  exact List.length_eq_zero_iff.symm
theorem name_spec (s : ByteArray) (hs : s.size ≤ 9223372036854775807) : rulesName s = some (nameOk s) := by
  unfold rulesName nameOk
  have hL := iterW_any (List.range s.size) (nameBad s) (rulesName_L1 s) (.inr false) (.inl ((), ())) (fun i hi => by
    have hi' : i < s.size := by simpa using hi
    obtain ⟨c, h1, h2⟩ := strAt_eq s i hi'
    have hlt := ch_lt s i
    unfold rulesName_L1
    have h3 : (i : Int) < (s.size : Int) := by omega
    have hg : ∀ b, gopt b 0 (some c) = some (bif b then c else 0) := fun b => by cases b <;> rfl
    simp only [h3, decide_true, cond_true, h1, Option.bind_some, hg, List.getElem_range, w64_id (n := (i : Int) + 1) (by omega) (by omega)]
    have hb : nameBad s i = !(decide (65 ≤ c.toNat ∧ c.toNat ≤ 90) || decide (i ≠ 0 ∧ 48 ≤ c.toNat ∧ c.toNat ≤ 57)) := by unfold nameBad; rw [h2]
    rw [hb]
    generalize hn : c.toNat = n at *
    have e0 : ((i : Int) == 0) = decide (i = 0) := by rw [Bool.eq_iff_iff]; simp
    rw [e0]
    by_cases c1 : 65 ≤ n
    · have a1 : decide ((n : Int) ≥ 65) = true := by simp only [decide_eq_true_eq]; omega
      simp only [a1, cond_true, Bool.true_and, hn]
      by_cases c2 : n ≤ 90
      · have a2 : decide ((n : Int) ≤ 90) = true := by simp only [decide_eq_true_eq]; omega
        simp [a2, c1, c2]
      · have a2 : decide ((n : Int) ≤ 90) = false := by simp only [decide_eq_false_iff_not]; omega
        have a3 : decide ((n : Int) < 48) = false := by simp only [decide_eq_false_iff_not]; omega
        have a4 : decide ((n : Int) > 57) = true := by simp only [decide_eq_true_eq]; omega
        have a5 : ¬ n ≤ 57 := by omega
        by_cases c3 : i = 0
        · simp [a2, c1, c2, c3]
        · simp [a2, a3, a4, a5, c1, c2, c3, hn]
    · have a1 : decide ((n : Int) ≥ 65) = false := by simp only [decide_eq_false_iff_not]; omega
      by_cases c3 : i = 0
      · simp [a1, c1, c3]
      · by_cases c4 : 48 ≤ n
        · have a3 : decide ((n : Int) < 48) = false := by simp only [decide_eq_false_iff_not]; omega
          by_cases c5 : n ≤ 57
          · have a4 : decide ((n : Int) > 57) = false := by simp only [decide_eq_false_iff_not]; omega
            simp [a1, a3, a4, c1, c3, c4, c5, hn]
          · have a4 : decide ((n : Int) > 57) = true := by simp only [decide_eq_true_eq]; omega
            simp [a1, a3, a4, c1, c3, c4, c5, hn]
        · have a3 : decide ((n : Int) < 48) = true := by simp only [decide_eq_true_eq]; omega
          simp [a1, a3, c1, c3, c4, hn]) (by unfold rulesName_L1; simp)
  rw [hL, empty_iff]
  cases (List.range s.size).any (nameBad s) with
  | true => rfl
  | false =>
    simp only [cond_false, Option.bind_some, Sum.elim_inl, Bool.not_false, Bool.true_and, Option.some.injEq]
    rw [Bool.eq_iff_iff]
    simp only [Bool.and_eq_true, Bool.not_eq_true', decide_eq_false_iff_not, decide_eq_true_eq]
    omega
theorem named_spec (s : ByteArray) (hs : s.size ≤ 9223372036854775807) : ref1Named s = some (nameOk s) := by
  unfold ref1Named nameOk
  have hL := iterW_any (List.range s.size) (nameBad s) (ref1Named_L1 s) (.inr false) (.inl ((), ())) (fun i hi => by
    have hi' : i < s.size := by simpa using hi
    obtain ⟨c, h1, h2⟩ := strAt_eq s i hi'
    have hlt := ch_lt s i
    unfold ref1Named_L1
    have h3 : (i : Int) < (s.size : Int) := by omega
    have hg : ∀ b, gopt b 0 (some c) = some (bif b then c else 0) := fun b => by cases b <;> rfl
    simp only [h3, decide_true, cond_true, h1, Option.bind_some, hg, List.getElem_range, w64_id (n := (i : Int) + 1) (by omega) (by omega), w64_id (n := ((c.toNat : Nat) : Int)) (by omega) (by omega)]
    have hb : nameBad s i = !(decide (65 ≤ c.toNat ∧ c.toNat ≤ 90) || decide (i ≠ 0 ∧ 48 ≤ c.toNat ∧ c.toNat ≤ 57)) := by unfold nameBad; rw [h2]
    rw [hb]
    have hc : (c.toNat : Int) < 256 := by omega
    generalize hn : c.toNat = n at *
    have e0 : ((i : Int) == 0) = decide (i = 0) := by rw [Bool.eq_iff_iff]; simp
    rw [e0]
    unfold ref1In
    by_cases c1 : 48 ≤ n ∧ n ≤ 57
    · have a1 : (decide ((n : Int) ≥ 48) && decide ((n : Int) ≤ 57)) = true := by simp only [Bool.and_eq_true, decide_eq_true_eq]; omega
      have a2 : ¬ 65 ≤ n := by omega
      by_cases c3 : i = 0
      · simp [a1, a2, c1, c3]
      · simp [a1, a2, c1, c3]
    · have a1 : (decide ((n : Int) ≥ 48) && decide ((n : Int) ≤ 57)) = false := by simp only [Bool.and_eq_false_iff, decide_eq_false_iff_not]; omega
      have a3 : decide (i ≠ 0 ∧ 48 ≤ n ∧ n ≤ 57) = false := by simp only [decide_eq_false_iff_not]; omega
      simp only [a1, Bool.not_false, Bool.true_and, cond_true, hn, Bool.false_and, Bool.or_false, a3]
      have a4 : (decide (w64 (n : Int) ≥ 65) && decide (w64 (n : Int) ≤ 90)) = decide (65 ≤ n ∧ n ≤ 90) := by
        rw [w64_id (by omega) (by omega), Bool.eq_iff_iff]
        simp only [Bool.and_eq_true, decide_eq_true_eq]
        omega
      rw [a4]
      rfl) (by unfold ref1Named_L1; simp)
  rw [hL]
  cases (List.range s.size).any (nameBad s) with
  | true => rfl
  | false =>
    simp only [cond_false, Option.bind_some, Sum.elim_inl, Bool.not_false, Bool.true_and, Option.some.injEq]
    unfold ref1In
    rw [Bool.eq_iff_iff]
    simp only [Bool.and_eq_true, decide_eq_true_eq]
    omega
/-! ### pieces -/
def badWay (w : Way) : Bool := ((((!(rulesWithin w.1 (-7 : Int) (7 : Int))) || (!(rulesWithin w.2.1 (-7 : Int) (7 : Int)))) || ((w.1 == (0 : Int)) && (w.2.1 == (0 : Int)))) || (!(rulesWithin w.2.2.1 (1 : Int) (7 : Int)))) || (!(rulesWithin w.2.2.2.1 (0 : Int) (2 : Int)))
def pErr (l : List Piece) (i : Nat) : Int := match l[i]? with
  | none => 0
  | some p => bif decide (p.1 < 65) || decide (p.1 > 90) then 6 else bif (l.take i).any (fun q => q.1 == p.1) then 7
    else bif (!(rulesWithin p.2.1 0 64)) || (!(rulesWithin p.2.2.1 0 ((l.length : Nat) : Int))) then 4 else bif decide (((p.2.2.2.1.length : Nat) : Int) > 16) then 2 else bif p.2.2.2.1.any badWay then 4 else 0
theorem in_eq : ref1In = rulesWithin := rfl
theorem take_len {α : Type} (l : List α) {i : Nat} (h : i ≤ l.length) : ((l.take i).drop 0).length = i := by simp; omega
theorem pieces_spec (r : Rules) : rulesPieces r = some (if r.pieces.length = 0 then 8 else if 6 < r.pieces.length then 2 else firstNZ (pErr r.pieces) r.pieces.length) := by
  unfold rulesPieces
  by_cases c0 : r.pieces.length = 0
  · have : (((r.pieces.length : Nat) : Int) == 0) = true := beq_t (by omega)
    rw [this, if_pos c0]
    rfl
  · have : (((r.pieces.length : Nat) : Int) == 0) = false := beq_f (by omega)
    rw [this, if_neg c0, cond_false]
    by_cases c1 : 6 < r.pieces.length
    · have : decide (((r.pieces.length : Nat) : Int) > 6) = true := by simp only [decide_eq_true_eq]; omega
      rw [this, if_pos c1]
      rfl
    · have : decide (((r.pieces.length : Nat) : Int) > 6) = false := by simp only [decide_eq_false_iff_not]; omega
      rw [this, if_neg c1, cond_false]
      rw [loopNZ r.pieces.length (rulesPieces_L1 r) (pErr r.pieces) ((), ()) (some 0) (fun i hi => ?_) (by unfold rulesPieces_L1; simp)]
      · split
        · rename_i h; rw [h]
        · rfl
      · unfold rulesPieces_L1
        have h1 : (i : Int) < (r.pieces.length : Int) := by omega
        have hg : r.pieces[i]? = some r.pieces[i] := List.getElem?_eq_getElem hi
        have hb : boundsI 0 (i : Int) r.pieces.length = true := by unfold boundsI; simp only [Bool.and_eq_true, decide_eq_true_eq]; omega
        simp only [h1, decide_true, cond_true, at?_eq r.pieces (i : Int) (by omega) h1, Option.bind_some, Int.toNat_natCast, hb, req_true, w64_id (n := (i : Int) + 1) (by omega) (by omega)]
        unfold pErr
        rw [hg]
        generalize hp : r.pieces[i] = p
        simp only
        cases hA : (decide (p.1 < 65) || decide (p.1 > 90)) with
        | true => simp
        | false =>
          have hL2 := iterW_any ((r.pieces.take i).drop 0) (fun q => q.1 == p.1) (rulesPieces_L2 r (((i : Int), ()), ()) p) (.inr (.inr (.inr (.inr (7 : Int))))) (.inl ((), ())) (fun j hj => by
            have hj' : j < i := by rw [take_len _ (by omega)] at hj; exact hj
            unfold rulesPieces_L2
            have h2 : (j : Int) < ((((r.pieces.take i).drop 0).length : Nat) : Int) := by omega
            have h3 : (j : Int) ≥ 0 := by omega
            simp only [Int.toNat_natCast, h2, decide_true, cond_true, at?_eq ((r.pieces.take i).drop 0) (j : Int) (by omega) h2, Option.bind_some, h3, w64_id (n := (j : Int) + 1) (by omega) (by omega)]
            rfl) (by unfold rulesPieces_L2; simp)
          rw [hL2]
          simp only [List.drop_zero, cond_false, Option.bind_some]
          cases hB : (r.pieces.take i).any (fun q => q.1 == p.1) with
          | true => simp
          | false =>
            simp only [cond_false, Sum.elim_inl]
            cases hC : ((!(rulesWithin p.2.1 0 64)) || (!(rulesWithin p.2.2.1 0 ((r.pieces.length : Nat) : Int)))) with
            | true => simp
            | false =>
              simp only [cond_false]
              by_cases cD : ((p.2.2.2.1.length : Nat) : Int) > 16
              · simp [cD]
              · have hL4 := iterW_any p.2.2.2.1 badWay (rulesPieces_L4 p) (.inr (.inr (.inr (.inr (4 : Int))))) (.inl ((), ())) (fun j hj => by
                  unfold rulesPieces_L4
                  have h2 : (j : Int) < ((p.2.2.2.1.length : Nat) : Int) := by omega
                  simp only [h2, decide_true, cond_true, at?_eq p.2.2.2.1 (j : Int) (by omega) h2, Option.bind_some, Int.toNat_natCast, w64_id (n := (j : Int) + 1) (by omega) (by omega)]
                  rfl) (by unfold rulesPieces_L4; simp)
                simp only [cD, decide_false, cond_false, hL4, Option.bind_some]
                cases p.2.2.2.1.any badWay <;> simp
theorem piece_ref (l : List Piece) (i : Nat) (hi : i < l.length) (hl : l.length ≤ 1000) (hr : ∀ p ∈ l, Rng tyPiece p) : ref1PieceError l (i : Int) = some (pErr l i) := by
  unfold ref1PieceError pErr
  have h1 : (i : Int) < (l.length : Int) := by omega
  have hg : l[i]? = some l[i] := List.getElem?_eq_getElem hi
  have hrp := hr _ (List.getElem_mem hi)
  have hb : 0 ≤ l[i].1 ∧ l[i].1 ≤ 255 := hrp.1
  rw [hg]
  simp only [at?_eq l (i : Int) (by omega) h1, Option.bind_some, Int.toNat_natCast, w64_id (n := l[i].1) (by omega) (by omega), in_eq]
  generalize l[i] = p at *
  have hA' : (!(rulesWithin p.1 65 90)) = (decide (p.1 < 65) || decide (p.1 > 90)) := by
    unfold rulesWithin
    rw [Bool.eq_iff_iff]
    simp only [Bool.not_eq_true', Bool.and_eq_false_iff, decide_eq_false_iff_not, Bool.or_eq_true, decide_eq_true_eq]
    omega
  rw [hA']
  cases hA : (decide (p.1 < 65) || decide (p.1 > 90)) with
  | true => simp
  | false =>
    have hL1 := iterW_any ((l.take i).drop 0) (fun q => q.1 == p.1) (ref1PieceError_L1 (i : Int) l p) (.inr (7 : Int)) (.inl ((), ())) (fun j hj => by
      have hj' : j < i := by rw [take_len _ (by omega)] at hj; exact hj
      unfold ref1PieceError_L1
      have h2 : (j : Int) < (i : Int) := by omega
      have h3 : (j : Int) < (l.length : Int) := by omega
      simp only [h2, decide_true, cond_true, at?_eq l (j : Int) (by omega) h3, Option.bind_some, Int.toNat_natCast, List.drop_zero, List.getElem_take, w64_id (n := (j : Int) + 1) (by omega) (by omega)]
      rfl) (by
        unfold ref1PieceError_L1
        rw [take_len _ (by omega)]
        simp)
    rw [hL1]
    simp only [List.drop_zero, cond_false, Option.bind_some]
    cases hB : (l.take i).any (fun q => q.1 == p.1) with
    | true => simp
    | false =>
      simp only [cond_false, Sum.elim_inl]
      cases hC : ((!(rulesWithin p.2.1 0 64)) || (!(rulesWithin p.2.2.1 0 ((l.length : Nat) : Int)))) with
      | true => simp
      | false =>
        simp only [cond_false]
        by_cases cD : ((p.2.2.2.1.length : Nat) : Int) > 16
        · simp [cD]
        · have hL4 := iterW_any p.2.2.2.1 badWay (ref1PieceError_L2 p) (.inr (4 : Int)) (.inl ((), ())) (fun j hj => by
            unfold ref1PieceError_L2
            have h2 : (j : Int) < ((p.2.2.2.1.length : Nat) : Int) := by omega
            simp only [h2, decide_true, cond_true, at?_eq p.2.2.2.1 (j : Int) (by omega) h2, Option.bind_some, Int.toNat_natCast, w64_id (n := (j : Int) + 1) (by omega) (by omega), in_eq]
            rfl) (by unfold ref1PieceError_L2; simp)
          simp only [cD, decide_false, cond_false, hL4, Option.bind_some]
          cases p.2.2.2.1.any badWay <;> simp
/-! ### the start, the ends, the rest -/
def sErr (r : Rules) (i : Nat) : Int := bif rulesWithin (r.start.getD i 0) 0 (2 * ((r.pieces.length : Nat) : Int)) then 0 else 4
def eErr (r : Rules) (i : Nat) : Int := match r.ends[i]? with
  | none => 0
  | some x => bif !(rulesWithin x.1 0 2) then 1 else
    bif (!(bif x.1 == 1 then x.2.2.1 == 0 else rulesWithin x.2.2.1 1 64)) || (!(bif x.1 == 0 then x.2.1 == 0 else rulesWithin x.2.1 0 (((r.pieces.length : Nat) : Int) - 1))) then 4 else 0
def lastErr (r : Rules) : Int := bif (((!(rulesWithin r.blocked (0 : Int) (2 : Int))) || (!(rulesWithin r.quiet (0 : Int) (200 : Int)))) || ((r.repeats != (0 : Int)) && (!(rulesWithin r.repeats (2 : Int) (5 : Int))))) then 4 else 0
def endsErr (r : Rules) : Int := if 6 < r.ends.length then 2 else firstNZ (eErr r) r.ends.length
def ruleErr (r : Rules) : Int :=
  if nameOk r.name = false then 6 else
  if ¬ ((1 ≤ r.width ∧ r.width ≤ 8) ∧ 1 ≤ r.height ∧ r.height ≤ 8) then 4 else
  if r.pieces.length = 0 then 8 else if 6 < r.pieces.length then 2 else
  if firstNZ (pErr r.pieces) r.pieces.length ≠ 0 then firstNZ (pErr r.pieces) r.pieces.length else
  if ((r.start.length : Nat) : Int) ≠ r.width * r.height then 3 else
  if firstNZ (sErr r) r.start.length ≠ 0 then firstNZ (sErr r) r.start.length else
  if endsErr r ≠ 0 then endsErr r else lastErr r
theorem within_iff {n a b : Int} : rulesWithin n a b = true ↔ a ≤ n ∧ n ≤ b := by unfold rulesWithin; simp
theorem conditions_spec (r : Rules) (hl : r.pieces.length ≤ 1000) : rulesConditions r = some (endsErr r) := by
  unfold rulesConditions endsErr
  by_cases c : 6 < r.ends.length
  · have : decide (((r.ends.length : Nat) : Int) > 6) = true := by simp only [decide_eq_true_eq]; omega
    rw [this, if_pos c]
    rfl
  · have : decide (((r.ends.length : Nat) : Int) > 6) = false := by simp only [decide_eq_false_iff_not]; omega
    rw [this, if_neg c, cond_false]
    rw [loopNZ r.ends.length (rulesConditions_L1 r) (eErr r) ((), ()) (some 0) (fun i hi => ?_) (by unfold rulesConditions_L1; simp)]
    · split
      · rename_i h; rw [h]
      · rfl
    · unfold rulesConditions_L1 eErr
      have h1 : (i : Int) < (r.ends.length : Int) := by omega
      have hg : r.ends[i]? = some r.ends[i] := List.getElem?_eq_getElem hi
      rw [hg]
      simp only [h1, decide_true, cond_true, at?_eq r.ends (i : Int) (by omega) h1, Option.bind_some, Int.toNat_natCast, w64_id (n := (i : Int) + 1) (by omega) (by omega), w64_id (n := ((r.pieces.length : Nat) : Int) - 1) (by omega) (by omega)]
      generalize r.ends[i] = x
      by_cases k0 : x.1 = 0
      · have : rulesWithin x.1 0 2 = true := within_iff.2 (by omega)
        have k1 : (x.1 == 1) = false := beq_f (by omega)
        simp only [this, beq_t k0, k1, cond_true, cond_false, Option.bind_some, Sum.elim_inl, Bool.not_true]
        cases rulesWithin x.2.2.1 1 64 <;> cases (x.2.1 == 0) <;> simp
      · by_cases k1 : x.1 = 1
        · have : rulesWithin x.1 0 2 = true := within_iff.2 (by omega)
          simp only [this, beq_f k0, beq_t k1, cond_true, cond_false, Option.bind_some, Sum.elim_inl, Bool.not_true]
          cases (x.2.2.1 == 0) <;> cases rulesWithin x.2.1 0 (((r.pieces.length : Nat) : Int) - 1) <;> simp
        · by_cases k2 : x.1 = 2
          · have : rulesWithin x.1 0 2 = true := within_iff.2 (by omega)
            simp only [this, beq_f k0, beq_f k1, beq_t k2, cond_true, cond_false, Option.bind_some, Sum.elim_inl, Bool.not_true]
            cases rulesWithin x.2.2.1 1 64 <;> cases rulesWithin x.2.1 0 (((r.pieces.length : Nat) : Int) - 1) <;> simp
          · have : rulesWithin x.1 0 2 = false := by
              rw [Bool.eq_false_iff]
              intro h
              have := within_iff.1 h
              omega
            simp only [this, beq_f k0, beq_f k1, beq_f k2, cond_true, cond_false, Option.bind_some, Sum.elim_inr, Bool.not_false]
            rfl
theorem check_spec (r : Rules) (hr : Rng tyRules r) : rulesCheck r = some (ruleErr r) := by
  have hname : r.name.size ≤ 9223372036854775807 := Nat.le_trans hr.1 (by decide)
  have hstart : r.start.length ≤ 9223372036854775807 := Nat.le_trans hr.2.2.2.2.1.1 (by decide)
  have hP : r.2.2.2.1.length = r.pieces.length := rfl
  have hW : r.2.1 * r.2.2.1 = r.width * r.height := rfl
  have hE : r.2.2.2.2.2.2.2.1.length = r.ends.length := rfl
  unfold rulesCheck ruleErr
  rw [name_spec r.name hname, pieces_spec r]
  simp only [Option.bind_some]
  cases nameOk r.name with
  | false => rfl
  | true =>
    simp only [Bool.not_true, cond_false, Bool.true_eq_false, if_false]
    by_cases cw : (1 ≤ r.width ∧ r.width ≤ 8) ∧ 1 ≤ r.height ∧ r.height ≤ 8
    · have e1 : ((!(rulesWithin r.2.1 1 8)) || (!(rulesWithin r.2.2.1 1 8))) = false := by
        rw [within_iff.2 cw.1, within_iff.2 cw.2]
        rfl
      have e2 : ¬ ¬ ((1 ≤ r.width ∧ r.width ≤ 8) ∧ 1 ≤ r.height ∧ r.height ≤ 8) := fun h => h cw
      simp only [e1, if_neg e2, cond_false]
      by_cases c0 : r.pieces.length = 0
      · simp only [if_pos c0]
        rfl
      · by_cases c6 : 6 < r.pieces.length
        · simp only [if_neg c0, if_pos c6]
          rfl
        · simp only [if_neg c0, if_neg c6]
          by_cases cp : firstNZ (pErr r.pieces) r.pieces.length = 0
          · have hwh : w64 (r.2.1 * r.2.2.1) = r.width * r.height := by
              have h1 : r.width * r.height ≤ 8 * 8 := Int.mul_le_mul cw.1.2 cw.2.2 (by omega) (by omega)
              have h2 : 0 ≤ r.width * r.height := Int.mul_nonneg (by omega) (by omega)
              exact w64_id (by omega) (by omega)
            rw [cp, if_neg (fun h => h rfl), hwh]
            simp only [bne_self_eq_false, cond_false]
            by_cases cs : ((r.start.length : Nat) : Int) = r.width * r.height
            · rw [bne_f cs, if_neg (fun h => h cs), cond_false]
              rw [loopNZ r.start.length (rulesCheck_L1 r) (sErr r) ((), ()) _ (fun i hi => ?_) (by unfold rulesCheck_L1; simp)]
              · rw [conditions_spec r (by omega)]
                by_cases cse : firstNZ (sErr r) r.start.length = 0
                · rw [if_pos cse, if_neg (fun h => h cse)]
                  simp only [Option.bind_some]
                  by_cases ce : endsErr r = 0
                  · rw [ce, if_neg (fun h => h rfl)]
                    simp only [bne_self_eq_false, cond_false]
                    unfold lastErr
                    exact cond_some _ _ _
                  · rw [if_pos ce, bne_t ce]
                    rfl
                · rw [if_neg cse, if_pos cse]
              · unfold rulesCheck_L1 sErr
                have h1 : (i : Int) < (r.start.length : Int) := by omega
                have h3 : (i : Int) ≥ 0 := by omega
                have hgd : r.start.getD i 0 = r.start[i] := by simp [List.getD_eq_getElem?_getD, List.getElem?_eq_getElem hi]
                simp only [h1, decide_true, cond_true, at?_eq r.start (i : Int) (by omega) h1, Option.bind_some, Int.toNat_natCast, h3, w64_id (n := (i : Int) + 1) (by omega) (by omega), w64_id (n := 2 * ((r.pieces.length : Nat) : Int)) (by omega) (by omega), hgd]
                cases rulesWithin r.start[i] 0 (2 * ((r.pieces.length : Nat) : Int)) <;> simp
            · rw [bne_t cs, if_pos cs]
              rfl
          · rw [bne_t cp, if_pos cp]
            rfl
    · have e1 : ((!(rulesWithin r.2.1 1 8)) || (!(rulesWithin r.2.2.1 1 8))) = true := by
        rw [Bool.or_eq_true, Bool.not_eq_true', Bool.not_eq_true']
        by_cases k : rulesWithin r.2.1 1 8 = true
        · right
          rw [Bool.eq_false_iff]
          intro k2
          exact cw ⟨within_iff.1 k, within_iff.1 k2⟩
        · left
          exact Bool.eq_false_iff.2 k
      rw [e1, if_pos cw]
      rfl
theorem error_spec (r : Rules) (hr : Rng tyRules r) : ref1RulesError r = some (ruleErr r) := by
  have hname : r.name.size ≤ 9223372036854775807 := Nat.le_trans hr.1 (by decide)
  have hstart : r.start.length ≤ 9223372036854775807 := Nat.le_trans hr.2.2.2.2.1.1 (by decide)
  have hpcs : ∀ p ∈ r.pieces, Rng tyPiece p := hr.2.2.2.1.2
  have hP : r.2.2.2.1.length = r.pieces.length := rfl
  have hW : r.2.1 * r.2.2.1 = r.width * r.height := rfl
  have hE : r.2.2.2.2.2.2.2.1.length = r.ends.length := rfl
  unfold ref1RulesError ruleErr
  rw [named_spec r.name hname]
  simp only [Option.bind_some, in_eq]
  cases nameOk r.name with
  | false => rfl
  | true =>
    simp only [Bool.not_true, cond_false, Bool.true_eq_false, if_false]
    by_cases cw : (1 ≤ r.width ∧ r.width ≤ 8) ∧ 1 ≤ r.height ∧ r.height ≤ 8
    · have e1 : ((!(rulesWithin r.2.1 1 8)) || (!(rulesWithin r.2.2.1 1 8))) = false := by
        rw [within_iff.2 cw.1, within_iff.2 cw.2]
        rfl
      have e2 : ¬ ¬ ((1 ≤ r.width ∧ r.width ≤ 8) ∧ 1 ≤ r.height ∧ r.height ≤ 8) := fun h => h cw
      simp only [e1, if_neg e2, cond_false]
      by_cases c0 : r.pieces.length = 0
      · have k1 : (((r.2.2.2.1.length : Nat) : Int) == 0) = true := beq_t (by omega)
        rw [k1, if_pos c0]
        rfl
      · by_cases c6 : 6 < r.pieces.length
        · have k1 : (((r.2.2.2.1.length : Nat) : Int) == 0) = false := beq_f (by omega)
          have k2 : decide (((r.2.2.2.1.length : Nat) : Int) > 6) = true := by simp only [decide_eq_true_eq]; omega
          rw [k1, k2, if_neg c0, if_pos c6]
          rfl
        · have k1 : (((r.2.2.2.1.length : Nat) : Int) == 0) = false := beq_f (by omega)
          have k2 : decide (((r.2.2.2.1.length : Nat) : Int) > 6) = false := by simp only [decide_eq_false_iff_not]; omega
          rw [k1, k2, if_neg c0, if_neg c6, cond_false, cond_false]
          rw [loopNZ r.pieces.length (ref1RulesError_L1 r) (pErr r.pieces) ((), ()) _ (fun i hi => ?_) (by unfold ref1RulesError_L1; simp)]
          · by_cases cp : firstNZ (pErr r.pieces) r.pieces.length = 0
            · have hwh : w64 (r.2.1 * r.2.2.1) = r.width * r.height := by
                have h1 : r.width * r.height ≤ 8 * 8 := Int.mul_le_mul cw.1.2 cw.2.2 (by omega) (by omega)
                have h2 : 0 ≤ r.width * r.height := Int.mul_nonneg (by omega) (by omega)
                exact w64_id (by omega) (by omega)
              rw [if_pos cp, if_neg (fun h => h cp), hwh]
              by_cases cs : ((r.start.length : Nat) : Int) = r.width * r.height
              · rw [bne_f cs, if_neg (fun h => h cs), cond_false]
                rw [loopNZ r.start.length (ref1RulesError_L2 r) (sErr r) ((), ()) _ (fun i hi => ?_) (by unfold ref1RulesError_L2; simp)]
                · by_cases cse : firstNZ (sErr r) r.start.length = 0
                  · rw [if_pos cse, if_neg (fun h => h cse)]
                    unfold endsErr
                    by_cases ce : 6 < r.ends.length
                    · have k3 : decide (((r.2.2.2.2.2.2.2.1.length : Nat) : Int) > 6) = true := by simp only [decide_eq_true_eq]; omega
                      rw [k3, if_pos ce]
                      rfl
                    · have k3 : decide (((r.2.2.2.2.2.2.2.1.length : Nat) : Int) > 6) = false := by simp only [decide_eq_false_iff_not]; omega
                      rw [k3, if_neg ce, cond_false]
                      rw [loopNZ r.ends.length (ref1RulesError_L3 r) (eErr r) ((), ()) _ (fun i hi => ?_) (by unfold ref1RulesError_L3; simp)]
                      · by_cases cz : firstNZ (eErr r) r.ends.length = 0
                        · rw [if_pos cz, if_neg (fun h => h cz)]
                          unfold lastErr
                          exact cond_some _ _ _
                        · rw [if_neg cz, if_pos cz]
                      · unfold ref1RulesError_L3 eErr
                        have h1 : (i : Int) < (r.ends.length : Int) := by omega
                        have hg : r.ends[i]? = some r.ends[i] := List.getElem?_eq_getElem hi
                        rw [hg]
                        simp only [h1, decide_true, cond_true, at?_eq r.ends (i : Int) (by omega) h1, Option.bind_some, Int.toNat_natCast, in_eq, w64_id (n := (i : Int) + 1) (by omega) (by omega), w64_id (n := ((r.pieces.length : Nat) : Int) - 1) (by omega) (by omega), cond_some]
                        generalize r.ends[i] = x
                        cases rulesWithin x.1 0 2 with
                        | false => rfl
                        | true =>
                          simp only [Bool.not_true, cond_false]
                          cases (x.1 == 1) <;> cases (x.1 == 0) <;> cases (x.2.2.1 == 0) <;> cases (x.2.1 == 0) <;> cases rulesWithin x.2.2.1 1 64 <;> cases rulesWithin x.2.1 0 (((r.pieces.length : Nat) : Int) - 1) <;> rfl
                  · rw [if_neg cse, if_pos cse]
                · unfold ref1RulesError_L2 sErr
                  have h1 : (i : Int) < (r.start.length : Int) := by omega
                  have hgd : r.start.getD i 0 = r.start[i] := by simp [List.getD_eq_getElem?_getD, List.getElem?_eq_getElem hi]
                  simp only [h1, decide_true, cond_true, at?_eq r.start (i : Int) (by omega) h1, Option.bind_some, Int.toNat_natCast, in_eq, w64_id (n := (i : Int) + 1) (by omega) (by omega), w64_id (n := 2 * ((r.pieces.length : Nat) : Int)) (by omega) (by omega), hgd]
                  cases rulesWithin r.start[i] 0 (2 * ((r.pieces.length : Nat) : Int)) <;> simp
              · rw [bne_t cs, if_pos cs]
                rfl
            · rw [if_neg cp, if_pos cp]
          · unfold ref1RulesError_L1
            have h1 : (i : Int) < (r.pieces.length : Int) := by omega
            simp only [h1, decide_true, cond_true, piece_ref r.pieces i hi (by omega) hpcs, Option.bind_some, w64_id (n := (i : Int) + 1) (by omega) (by omega)]
            by_cases ce : pErr r.pieces i = 0
            · simp [ce]
            · simp [ce, bne_t ce]
    · have e1 : ((!(rulesWithin r.2.1 1 8)) || (!(rulesWithin r.2.2.1 1 8))) = true := by
        rw [Bool.or_eq_true, Bool.not_eq_true', Bool.not_eq_true']
        by_cases k : rulesWithin r.2.1 1 8 = true
        · right
          rw [Bool.eq_false_iff]
          intro k2
          exact cw ⟨within_iff.1 k, within_iff.1 k2⟩
        · left
          exact Bool.eq_false_iff.2 k
      rw [e1, if_pos cw]
      rfl
end Go.Proofs.Ytfppnefcicdnfaa
namespace Go.Den
set_option linter.unusedVariables false
set_option linter.unusedSimpArgs false

def foldN {A : Type} (g : Nat → A → A) : Nat → A → A
  | 0, a => a
  | n + 1, a => g n (foldN g n a)
theorem iter_fold {A R : Type} (n : Nat) (f : ((A × Int × Unit) × Unit) → Option (((A × Int × Unit) × Unit) ⊕ R)) (g : Nat → A → A) (fin : A → R) (I : Nat → A → Prop) (a0 : A) (h0 : I 0 a0)
    (hs : ∀ i, i < n → ∀ a, I i a → f ((a, (i : Int), ()), ()) = some (.inl ((g i a, ((i : Int) + 1), ()), ())) ∧ I (i + 1) (g i a)) (he : ∀ a, I n a → f ((a, (n : Int), ()), ()) = some (.inr (fin a))) :
    iterW f ((a0, (0 : Int), ()), ()) = some (fin (foldN g n a0)) := by
  have hI : ∀ i, i ≤ n → I i (foldN g i a0) := fun i => by
    induction i with
    | zero => intro _; exact h0
    | succ i ih => intro hi; exact (hs i (by omega) _ (ih (by omega))).2
  have := iterW_states (f := f) n (fun i => ((foldN g i a0, (i : Int), ()), ())) (fin (foldN g n a0)) (fun i hi => by
    rw [(hs i hi _ (hI i (by omega))).1]
    simp [foldN]) (he _ (hI n (Nat.le_refl _)))
  exact this
theorem foldN_app {A : Type} (F : Nat → List A) : ∀ (n : Nat) (a : List A), foldN (fun i a => a ++ F i) n a = a ++ (List.range n).flatMap F
  | 0, a => by simp [foldN]
  | n + 1, a => by rw [foldN, foldN_app F n, List.range_succ]; simp
/-- a loop that appends -/
theorem iter_app {A R : Type} (n B : Nat) (f : (((List A) × Int × Unit) × Unit) → Option ((((List A) × Int × Unit) × Unit) ⊕ R)) (F : Nat → List A) (fin : List A → R) (a0 : List A) (hF : ∀ i, i < n → (F i).length ≤ B)
    (hs : ∀ i, i < n → ∀ a : List A, a.length ≤ a0.length + i * B → f ((a, (i : Int), ()), ()) = some (.inl ((a ++ F i, ((i : Int) + 1), ()), ()))) (he : ∀ a, f ((a, (n : Int), ()), ()) = some (.inr (fin a))) :
    iterW f ((a0, (0 : Int), ()), ()) = some (fin (a0 ++ (List.range n).flatMap F)) := by
  rw [← foldN_app]
  refine iter_fold n f (fun i a => a ++ F i) fin (fun i a => a.length ≤ a0.length + i * B) a0 (by simp) (fun i hi a ha => ⟨hs i hi a ha, ?_⟩) (fun a _ => he a)
  have := hF i hi
  rw [List.length_append, Nat.add_mul]
  omega
theorem flatMap_len {A C : Type} (F : C → List A) (B : Nat) : ∀ l : List C, (∀ x ∈ l, (F x).length ≤ B) → (l.flatMap F).length ≤ l.length * B
  | [], _ => by simp
  | x :: l, h => by
    have := flatMap_len F B l (fun y hy => h y (List.mem_cons_of_mem _ hy))
    have := h x List.mem_cons_self
    rw [List.flatMap_cons, List.length_append, List.length_cons, Nat.add_mul]
    omega
theorem foldN_all {A : Type} (xs : List A) (q : A → Bool) (b0 : Bool) : ∀ n, n ≤ xs.length → foldN (fun i b => b && ((xs[i]?).map q).getD true) n b0 = (b0 && (xs.take n).all q)
  | 0, _ => by simp [foldN]
  | n + 1, h => by
    have hn : n < xs.length := by omega
    rw [foldN, foldN_all xs q b0 n (by omega), List.getElem?_eq_getElem hn, List.take_succ_eq_append_getElem hn, List.all_append]
    simp [Bool.and_assoc]
/-- a loop that asks of all elements -/
theorem iter_all {A R : Type} (xs : List A) (q : A → Bool) (f : ((Bool × Int × Unit) × Unit) → Option (((Bool × Int × Unit) × Unit) ⊕ R)) (fin : Bool → R) (b0 : Bool)
    (hs : ∀ (i : Nat) (hi : i < xs.length) (b : Bool), f ((b, (i : Int), ()), ()) = some (.inl ((b && q xs[i], ((i : Int) + 1), ()), ()))) (he : ∀ b, f ((b, (xs.length : Int), ()), ()) = some (.inr (fin b))) :
    iterW f ((b0, (0 : Int), ()), ()) = some (fin (b0 && xs.all q)) := by
  have := foldN_all xs q b0 xs.length (Nat.le_refl _)
  rw [List.take_length] at this
  rw [← this]
  refine iter_fold xs.length f _ fin (fun _ _ => True) b0 trivial (fun i hi b _ => ⟨?_, trivial⟩) (fun b _ => he b)
  rw [hs i hi b, List.getElem?_eq_getElem hi]
  rfl
/-- a loop that counts -/
theorem iter_count {A R : Type} (xs : List A) (q : A → Bool) (f : ((Int × Int × Unit) × Unit) → Option (((Int × Int × Unit) × Unit) ⊕ R)) (fin : Int → R)
    (hs : ∀ (i : Nat) (hi : i < xs.length) (c : Int), 0 ≤ c → c ≤ i → f ((c, (i : Int), ()), ()) = some (.inl (((bif q xs[i] then c + 1 else c), ((i : Int) + 1), ()), ()))) (he : ∀ c, f ((c, (xs.length : Int), ()), ()) = some (.inr (fin c))) :
    iterW f (((0 : Int), (0 : Int), ()), ()) = some (fin ((xs.countP q : Nat) : Int)) := by
  have hf : ∀ n, n ≤ xs.length → foldN (fun i (c : Int) => bif ((xs[i]?).map q).getD false then c + 1 else c) n 0 = (((xs.take n).countP q : Nat) : Int) := fun n => by
    induction n with
    | zero => intro _; simp [foldN]
    | succ n ih =>
      intro h
      have hn : n < xs.length := by omega
      rw [foldN, ih (by omega), List.getElem?_eq_getElem hn, List.take_succ_eq_append_getElem hn, List.countP_append]
      simp only [Option.map_some, Option.getD_some, List.countP_cons, List.countP_nil]
      cases q xs[n] <;> simp
  have := hf xs.length (Nat.le_refl _)
  rw [List.take_length] at this
  rw [← this]
  refine iter_fold xs.length f _ fin (fun i c => 0 ≤ c ∧ c ≤ i) 0 (by simp) (fun i hi c hc => ⟨?_, ?_⟩) (fun b _ => he b)
  · rw [hs i hi c hc.1 hc.2, List.getElem?_eq_getElem hi]
    rfl
  · cases ((xs[i]?).map q).getD false <;> simp <;> omega
/-- a walk over a list that may stop -/
def scanL {A S R : Type} (g : S → A → S ⊕ R) (fin : S → R) : List A → S → R
  | [], s => fin s
  | x :: xs, s => match g s x with
    | .inl s' => scanL g fin xs s'
    | .inr r => r
theorem iter_scan {A S T R : Type} (xs : List A) (f : T → Option (T ⊕ R)) (st : Nat → S → T) (g : S → A → S ⊕ R) (fin : S → R) (I : Nat → S → Prop)
    (hs : ∀ i (hi : i < xs.length) s, I i s → f (st i s) = match g s xs[i] with
      | .inl s' => some (.inl (st (i + 1) s'))
      | .inr r => some (.inr r))
    (hI : ∀ i (hi : i < xs.length) s s', I i s → g s xs[i] = .inl s' → I (i + 1) s')
    (he : ∀ s, I xs.length s → f (st xs.length s) = some (.inr (fin s))) (s0 : S) (h0 : I 0 s0) :
    iterW f (st 0 s0) = some (scanL g fin xs s0) := by
  have key : ∀ k i s, i + k = xs.length → I i s → iterW f (st i s) = some (scanL g fin (xs.drop i) s) := by
    intro k
    induction k with
    | zero =>
      intro i s hi hs'
      have : i = xs.length := by omega
      subst this
      rw [iterW_inr (he s hs'), List.drop_length]
      rfl
    | succ k ih =>
      intro i s hi hs'
      have hl : i < xs.length := by omega
      have h1 := hs i hl s hs'
      have h2 := hI i hl s
      rw [List.drop_eq_getElem_cons hl]
      unfold scanL
      match hg : g s xs[i] with
      | .inl s' =>
        rw [hg] at h1
        rw [iterW_inl h1, ih (i + 1) s' (by omega) (h2 s' hs' hg)]
      | .inr r =>
        rw [hg] at h1
        rw [iterW_inr h1]
  have := key xs.length 0 s0 (by omega) h0
  rwa [List.drop_zero] at this
/-- a walk that does not stop -/
theorem scanL_inl {A S R : Type} (g : S → A → S ⊕ R) (g' : S → A → S) (fin : S → R) : ∀ (xs : List A) (s : S), (∀ s x, x ∈ xs → g s x = .inl (g' s x)) → scanL g fin xs s = fin (xs.foldl g' s)
  | [], _, _ => rfl
  | x :: xs, s, h => by
    unfold scanL
    rw [h s x List.mem_cons_self]
    exact scanL_inl g g' fin xs _ fun s y hy => h s y (List.mem_cons_of_mem _ hy)
theorem Le.iterW {T α : Type} {f g : T → Option (T ⊕ α)} (h : ∀ x, Le (f x) (g x)) (x : T) : Le (Go.Den.iterW f x) (Go.Den.iterW g x) := fun r hr => by
  obtain ⟨n, hn⟩ := iterW_inv hr
  exact Le.iter h n x r hn
theorem Le.agreeW {α : Type} {a b a' b' : Option α} (h : Le a a') (h' : Le b b') : Le (Go.Den.agree a b) (Go.Den.agree a' b') := fun r hr => by
  unfold Go.Den.agree at hr ⊢
  split at hr
  · rename_i e
    rw [h r hr, h' r (e ▸ hr), if_pos rfl]
  · cases hr
/-- a recursion that computes s -/
theorem fixW_ind {T α : Type} {G : (T → Option α) → T → Option α} (hG : Mono G) (I : T → Prop) (μ : T → Nat) (s : T → α)
    (h : ∀ φ x, I x → (∀ y, I y → μ y < μ x → φ y = some (s y)) → G φ x = some (s x)) : ∀ x, I x → fixW G x = some (s x) := by
  have a2 : ∀ n x, I x → μ x < n → fixN G n x = some (s x) := by
    intro n
    induction n with
    | zero => intro x _ hl; omega
    | succ n ih => intro x hx hl; exact h _ x hx fun y hy hm => ih y hy (by omega)
  intro x hx
  exact Le.fix (fun φ ψ hs y => hG φ ψ hs y) hG (μ x + 1) x _ (a2 _ x hx (Nat.lt_succ_self _))
end Go.Den
namespace Go.Proofs.Ytfppnefcicdnfaa
open Go.Den
set_option linter.unusedVariables false
set_option linter.unusedSimpArgs false
set_option maxRecDepth 100000

abbrev Place := (List Int) × ((List Int) × (List Int) × Unit) × Int × Int × Unit
abbrev Place.cells (p : Place) : List Int := p.1
abbrev Place.h0 (p : Place) : List Int := p.2.1.1
abbrev Place.h1 (p : Place) : List Int := p.2.1.2.1
abbrev Place.turn (p : Place) : Int := p.2.2.1
abbrev Place.quiet (p : Place) : Int := p.2.2.2.1
abbrev tyPlace : Ty := .st (.sl (.int .i64)) (.st (.st (.sl (.int .i64)) (.st (.sl (.int .i64)) .nil)) (.st (.int .i64) (.st (.int .i64) .nil)))
theorem agree_self {α : Type} (x : Option α) : agree x x = x := by simp [agree]
theorem clone_ok (s : List Int) (h : s.length ≤ 1000000) : slicesClone_int s = some s := by
  unfold slicesClone_int
  have : room (([] : List Int).length + s.length) 8 = true := room_ok (by simp; omega)
  rw [this]
  cases s with
  | nil => simp [req_true, agree_self]
  | cons a l => simp [req_true]
theorem concat2 (a b : List Int) (ha : a.length ≤ 1000) (hb : b.length ≤ 1000) : slicesConcat_int [a, b] = some (a ++ b) := by
  have w1 : w64 (0 + ((a.length : Nat) : Int)) = (a.length : Int) := by rw [Int.zero_add]; exact w64_id (by omega) (by omega)
  have w2 : w64 ((a.length : Int) + ((b.length : Nat) : Int)) = ((a.length + b.length : Nat) : Int) := by rw [w64_id (by omega) (by omega)]; omega
  have w3 : w64 ((0 : Int) + 1) = 1 := by decide
  have w4 : w64 ((1 : Int) + 1) = 2 := by decide
  have g0 : at? [a, b] 0 = some a := rfl
  have g1 : at? [a, b] 1 = some b := rfl
  have l1 : iterW (slicesConcat_int_L1 [a, b]) (((0 : Int), (0 : Int), ()), ()) = some (((((a.length + b.length : Nat) : Int)), ()), ()) := by
    have s0 : slicesConcat_int_L1 [a, b] (((0 : Int), (0 : Int), ()), ()) = some (.inl ((((a.length : Nat) : Int), (1 : Int), ()), ())) := by
      unfold slicesConcat_int_L1
      simp only [g0, w1, w3, Option.bind_some]
      rw [show decide (((a.length : Nat) : Int) < 0) = false by simp]
      rfl
    have s1 : slicesConcat_int_L1 [a, b] ((((a.length : Nat) : Int), (1 : Int), ()), ()) = some (.inl ((((a.length + b.length : Nat) : Int), (2 : Int), ()), ())) := by
      unfold slicesConcat_int_L1
      simp only [g1, w2, w4, Option.bind_some]
      rw [show decide (((a.length + b.length : Nat) : Int) < 0) = false by simp; omega]
      rfl
    have s2 : slicesConcat_int_L1 [a, b] ((((a.length + b.length : Nat) : Int), (2 : Int), ()), ()) = some (.inr ((((a.length + b.length : Nat) : Int), ()), ())) := rfl
    rw [iterW_inl s0, iterW_inl s1, iterW_inr s2]
  have l2 : iterW (slicesConcat_int_L2 [a, b]) ((([] : List Int), (0 : Int), ()), ()) = some ((a ++ b, ()), ()) := by
    have s0 : slicesConcat_int_L2 [a, b] ((([] : List Int), (0 : Int), ()), ()) = some (.inl ((a, (1 : Int), ()), ())) := by
      unfold slicesConcat_int_L2
      simp only [g0, w3, Option.bind_some]
      rw [room_ok (by simp; omega)]
      rfl
    have s1 : slicesConcat_int_L2 [a, b] ((a, (1 : Int), ()), ()) = some (.inl ((a ++ b, (2 : Int), ()), ())) := by
      unfold slicesConcat_int_L2
      simp only [g1, w4, Option.bind_some]
      rw [room_ok (by omega)]
      rfl
    have s2 : slicesConcat_int_L2 [a, b] ((a ++ b, (2 : Int), ()), ()) = some (.inr ((a ++ b, ()), ())) := rfl
    rw [iterW_inl s0, iterW_inl s1, iterW_inr s2]
  unfold slicesConcat_int
  simp only [l1, Option.bind_some]
  rw [show decide (((a.length + b.length : Nat) : Int) < 0) = false by simp; omega]
  have w5 : w64 (((a.length + b.length : Nat) : Int) - 0) = ((a.length + b.length : Nat) : Int) := by rw [Int.sub_zero]; exact w64_id (by omega) (by omega)
  simp only [w5, cond_false]
  by_cases c : a.length + b.length = 0
  · rw [c]
    simp only [Int.natCast_zero, show decide ((0 : Int) > 0) = false by decide, cond_false, Option.bind_some]
    rw [l2]
    rfl
  · have c1 : decide (((a.length + b.length : Nat) : Int) > 0) = true := by simp; omega
    have c2 : decide (0 < ((a.length + b.length : Nat) : Int)) = true := by simp; omega
    have c3 : room ((((a.length + b.length : Nat) : Int)).toNat) 8 = true := room_ok (by omega)
    have c4 : ∀ l : List Int, boundsI 0 0 l.length = true := fun l => by simp [boundsI]
    simp only [c1, c2, c3, c4, cond_true, Bool.and_self, req_true, Option.bind_some, List.take_zero]
    rw [l2]
    rfl

def outC (r : Rules) (d : Int) : Bool := decide (d < 0) || decide (d > 2 * ((r.pieces.length : Nat) : Int))
def outH (d : Int) : Bool := decide (d < 0) || decide (d > 1000)
def outT (p : Place) : Bool := (((p.turn != 0) && (p.turn != 1)) || decide (p.quiet < 0)) || decide (p.quiet > 200)
def placeBad (r : Rules) (p : Place) : Bool := p.cells.any (outC r) || ((p.h0 ++ p.h1).any outH || outT p)
def formBad (r : Rules) (p : Place) : Bool := ((((p.cells.length : Nat) : Int) != r.width * r.height) || (((p.h0.length : Nat) : Int) != ((r.pieces.length : Nat) : Int))) || (((p.h1.length : Nat) : Int) != ((r.pieces.length : Nat) : Int))
def placeErr (r : Rules) (p : Place) : Int := if ruleErr r ≠ 0 then ruleErr r else bif formBad r p then 3 else bif placeBad r p then 4 else 0

structure VR0 (r : Rules) : Prop where
  w1 : 1 ≤ r.width
  w8 : r.width ≤ 8
  h1 : 1 ≤ r.height
  h8 : r.height ≤ 8
  t1 : 1 ≤ r.pieces.length
  t6 : r.pieces.length ≤ 6
  hand : ∀ q ∈ r.pieces, 0 ≤ q.2.1 ∧ q.2.1 ≤ 64
  prom : ∀ q ∈ r.pieces, 0 ≤ q.2.2.1 ∧ q.2.2.1 ≤ ((r.pieces.length : Nat) : Int)
  ways : ∀ q ∈ r.pieces, q.2.2.2.1.length ≤ 16
  way : ∀ q ∈ r.pieces, ∀ w ∈ q.2.2.2.1, (-7 ≤ w.1 ∧ w.1 ≤ 7) ∧ (-7 ≤ w.2.1 ∧ w.2.1 ≤ 7) ∧ ¬ (w.1 = 0 ∧ w.2.1 = 0) ∧ (1 ≤ w.2.2.1 ∧ w.2.2.1 ≤ 7) ∧ (0 ≤ w.2.2.2.1 ∧ w.2.2.2.1 ≤ 2)
  start : ((r.start.length : Nat) : Int) = r.width * r.height
  startC : ∀ c ∈ r.start, 0 ≤ c ∧ c ≤ 2 * ((r.pieces.length : Nat) : Int)
  ends6 : r.ends.length ≤ 6
  ends : ∀ x ∈ r.ends, (0 ≤ x.1 ∧ x.1 ≤ 2) ∧ (if x.1 = 1 then x.2.2.1 = 0 else 1 ≤ x.2.2.1 ∧ x.2.2.1 ≤ 64) ∧ (if x.1 = 0 then x.2.1 = 0 else 0 ≤ x.2.1 ∧ x.2.1 ≤ ((r.pieces.length : Nat) : Int) - 1)
  blocked : 0 ≤ r.blocked ∧ r.blocked ≤ 2
  quiet : 0 ≤ r.quiet ∧ r.quiet ≤ 200
  repeats : r.repeats = 0 ∨ (2 ≤ r.repeats ∧ r.repeats ≤ 5)
structure Valid (r : Rules) (p : Place) : Prop where
  r0 : VR0 r
  cells : ((p.cells.length : Nat) : Int) = r.width * r.height
  l0 : p.h0.length = r.pieces.length
  l1 : p.h1.length = r.pieces.length
  cell : ∀ c ∈ p.cells, 0 ≤ c ∧ c ≤ 2 * ((r.pieces.length : Nat) : Int)
  hand0 : ∀ c ∈ p.h0, 0 ≤ c ∧ c ≤ 1000
  hand1 : ∀ c ∈ p.h1, 0 ≤ c ∧ c ≤ 1000
  turn : p.turn = 0 ∨ p.turn = 1
  quiet : 0 ≤ p.quiet ∧ p.quiet ≤ 200

theorem mem_idx {α : Type} {l : List α} {x : α} (h : x ∈ l) : ∃ i, i < l.length ∧ l[i]? = some x := by
  obtain ⟨i, hi, e⟩ := List.mem_iff_getElem.1 h
  exact ⟨i, hi, by rw [List.getElem?_eq_getElem hi, e]⟩
theorem rules_valid {r : Rules} (h : ruleErr r = 0) : VR0 r := by
  unfold ruleErr at h
  split at h
  · cases h
  split at h
  · cases h
  rename_i _ h2
  have h2 := Decidable.not_not.1 h2
  split at h
  · cases h
  rename_i h3
  split at h
  · cases h
  rename_i h4
  split at h
  · rename_i h5; exact absurd h h5
  rename_i h5
  have h5 := firstNZ_zero (Decidable.not_not.1 h5)
  split at h
  · cases h
  rename_i h6
  have h6 := Decidable.not_not.1 h6
  split at h
  · rename_i h7; exact absurd h h7
  rename_i h7
  have h7 := firstNZ_zero (Decidable.not_not.1 h7)
  split at h
  · rename_i h8; exact absurd h h8
  rename_i h8
  have h8 := Decidable.not_not.1 h8
  unfold endsErr at h8
  split at h8
  · cases h8
  rename_i h9
  have h8 := firstNZ_zero h8
  have hp : ∀ q ∈ r.pieces, (0 ≤ q.2.1 ∧ q.2.1 ≤ 64) ∧ (0 ≤ q.2.2.1 ∧ q.2.2.1 ≤ ((r.pieces.length : Nat) : Int)) ∧ q.2.2.2.1.length ≤ 16 ∧ q.2.2.2.1.any badWay = false := fun q hq => by
    obtain ⟨i, hi, e⟩ := mem_idx hq
    have := h5 i hi
    unfold pErr at this
    rw [e] at this
    simp only at this
    cases c1 : (decide (q.1 < 65) || decide (q.1 > 90))
    · cases c2 : (r.pieces.take i).any (fun q' => q'.1 == q.1)
      · cases c3 : ((!(rulesWithin q.2.1 0 64)) || (!(rulesWithin q.2.2.1 0 ((r.pieces.length : Nat) : Int))))
        · cases c4 : decide (((q.2.2.2.1.length : Nat) : Int) > 16)
          · cases c5 : q.2.2.2.1.any badWay
            · simp only [Bool.or_eq_false_iff, Bool.not_eq_false'] at c3
              simp only [decide_eq_false_iff_not] at c4
              exact ⟨within_iff.1 c3.1, within_iff.1 c3.2, by omega, rfl⟩
            · simp [c1, c2, c3, c4, c5] at this
          · simp [c1, c2, c3, c4] at this
        · simp [c1, c2, c3] at this
      · simp [c1, c2] at this
    · simp [c1] at this
  refine ⟨h2.1.1, h2.1.2, h2.2.1, h2.2.2, by omega, by omega, fun q hq => (hp q hq).1, fun q hq => (hp q hq).2.1, fun q hq => (hp q hq).2.2.1, fun q hq w hw => ?_, h6, fun c hc => ?_, by omega, fun x hx => ?_, ?_, ?_, ?_⟩
  · have := (hp q hq).2.2.2
    rw [List.any_eq_false] at this
    have := this w hw
    unfold badWay at this
    simp only [Bool.not_eq_true, Bool.or_eq_false_iff, Bool.not_eq_false', within_iff, Bool.and_eq_false_iff, beq_eq_false_iff_ne] at this
    refine ⟨this.1.1.1.1, this.1.1.1.2, fun h => ?_, this.1.2, this.2⟩
    rcases this.1.1.2 with h' | h'
    · exact h' h.1
    · exact h' h.2
  · obtain ⟨i, hi, e⟩ := mem_idx hc
    have := h7 i hi
    unfold sErr at this
    rw [List.getD_eq_getElem?_getD, e] at this
    cases c1 : rulesWithin c 0 (2 * ((r.pieces.length : Nat) : Int))
    · simp [c1] at this
    · exact within_iff.1 c1
  · obtain ⟨i, hi, e⟩ := mem_idx hx
    have := h8 i hi
    unfold eErr at this
    rw [e] at this
    simp only at this
    cases c1 : rulesWithin x.1 0 2
    · simp [c1] at this
    · cases c2 : (!(bif x.1 == 1 then x.2.2.1 == 0 else rulesWithin x.2.2.1 1 64)) || (!(bif x.1 == 0 then x.2.1 == 0 else rulesWithin x.2.1 0 (((r.pieces.length : Nat) : Int) - 1)))
      · simp only [Bool.or_eq_false_iff, Bool.not_eq_false'] at c2
        refine ⟨within_iff.1 c1, ?_, ?_⟩
        · have := c2.1
          by_cases e1 : x.1 = 1
          · rw [if_pos e1]; simpa [e1] using this
          · rw [if_neg e1]; rw [beq_f e1, cond_false] at this; exact within_iff.1 this
        · have := c2.2
          by_cases e1 : x.1 = 0
          · rw [if_pos e1]; simpa [e1] using this
          · rw [if_neg e1]; rw [beq_f e1, cond_false] at this; exact within_iff.1 this
      · simp [c1, c2] at this
  all_goals
    unfold lastErr at h
    cases c1 : (((!(rulesWithin r.blocked (0 : Int) (2 : Int))) || (!(rulesWithin r.quiet (0 : Int) (200 : Int)))) || ((r.repeats != (0 : Int)) && (!(rulesWithin r.repeats (2 : Int) (5 : Int)))))
    · simp only [Bool.or_eq_false_iff, Bool.not_eq_false', within_iff, Bool.and_eq_false_iff, bne_eq_false_iff_eq] at c1
      first
      | exact c1.1.1
      | exact c1.1.2
      | exact c1.2
    · simp [c1] at h
theorem VR0.area {r : Rules} (h : VR0 r) : 1 ≤ r.width * r.height ∧ r.width * r.height ≤ 64 := by
  have h1 : r.width * r.height ≤ 8 * 8 := Int.mul_le_mul h.w8 h.h8 (by have := h.h1; omega) (by omega)
  have h2 : 1 * 1 ≤ r.width * r.height := Int.mul_le_mul h.w1 h.h1 (by omega) (by have := h.w1; omega)
  omega
theorem sound_spec (r : Rules) (p : Place) (hr : VR0 r) (hn : p.1.length ≤ 9223372036854775807) : placeSound r p = some (bif formBad r p then 3 else bif placeBad r p then 4 else 0) := by
  have ha := hr.area
  have ht := hr.t6
  unfold placeSound formBad
  rw [show r.2.1 * r.2.2.1 = r.width * r.height from rfl, w64_id (n := r.width * r.height) (by omega) (by omega)]
  cases hb : ((((((p.1.length : Nat) : Int) != r.width * r.height) || (((p.2.1.1.length : Nat) : Int) != ((r.2.2.2.1.length : Nat) : Int))) || (((p.2.1.2.1.length : Nat) : Int) != ((r.2.2.2.1.length : Nat) : Int)))) with
  | true => rfl
  | false =>
    simp only [Bool.or_eq_false_iff, bne_eq_false_iff_eq] at hb
    obtain ⟨⟨b1, b2⟩, b3⟩ := hb
    have ht' : r.2.2.2.1.length ≤ 6 := ht
    rw [cond_false, cond_false, concat2 _ _ (by omega) (by omega), Option.bind_some]
    unfold placeBad
    have hl2 : (p.2.1.1 ++ p.2.1.2.1).length ≤ 2000 := by simp; omega
    show _ = some (bif (p.1.any (outC r) || ((p.2.1.1 ++ p.2.1.2.1).any outH || outT p)) then (4 : Int) else 0)
    generalize p.2.1.1 ++ p.2.1.2.1 = l at hl2
    have i1 : iterW (placeSound_L1 p r l) (((0 : Int), ()), ()) = some (bif p.1.any (outC r) then .inr ((true, ()), ()) else .inl ((), ())) := by
      refine iterW_any p.1 (outC r) (placeSound_L1 p r l) (.inr ((true, ()), ())) (.inl ((), ())) (fun i hi => ?_) ?_
      · unfold placeSound_L1
        simp only [show decide ((i : Int) < ((p.1.length : Nat) : Int)) = true by simp; omega, cond_true]
        rw [at?_eq _ _ (by omega) (by omega)]
        simp only [Option.bind_some, Int.toNat_natCast, List.getElem?_eq_getElem hi]
        rw [w64_id (n := (i : Int) + 1) (by omega) (by omega), show decide ((i : Int) ≥ 0) = true by simp]
        rw [w64_id (n := (2 : Int) * ((r.2.2.2.1.length : Nat) : Int)) (by omega) (by omega)]
        unfold outC
        generalize (decide (p.1[i] < (0 : Int)) || decide (p.1[i] > ((2 : Int) * ((r.2.2.2.1.length : Nat) : Int)))) = q
        cases q <;> rfl
      · unfold placeSound_L1
        simp
    have i2 : iterW (placeSound_L3 l p) (((0 : Int), ()), ()) = some (bif l.any outH then .inr ((true, ()), ()) else .inl ((), ())) := by
      refine iterW_any l outH (placeSound_L3 l p) (.inr ((true, ()), ())) (.inl ((), ())) (fun i hi => ?_) ?_
      · unfold placeSound_L3
        simp only [show decide ((i : Int) < ((l.length : Nat) : Int)) = true by simp; omega, cond_true, Int.toNat_natCast, show inb (i : Int) l.length = true from inb_iff.2 ⟨by omega, by omega⟩, req_true, show decide ((i : Int) ≥ 0) = true by simp]
        rw [w64_id (n := (i : Int) + 1) (by omega) (by omega)]
        have e : getD' l i (0 : Int) = l[i] := by simp [getD', hi]
        have e' : outH l[i] = (decide (getD' l i (0 : Int) < (0 : Int)) || decide (getD' l i (0 : Int) > (1000 : Int))) := by rw [e]; rfl
        rw [e']
        generalize (decide (getD' l i (0 : Int) < (0 : Int)) || decide (getD' l i (0 : Int) > (1000 : Int))) = q
        cases q <;> simp
      · unfold placeSound_L3
        simp
    have e4 : iterW (placeSound_L4 p r l) (((0 : Int), ()), ()) = _ := i1
    have e6 : iterW (placeSound_L6 l p) (((0 : Int), ()), ()) = _ := i2
    simp only [i1, i2, e4, e6, agree_self, Option.bind_some]
    unfold outT
    cases p.1.any (outC r)
    · cases l.any outH
      · simp only [cond_false, Sum.elim_inl, Option.bind_some, Bool.false_or]
        exact (cond_some _ _ _)
      · rfl
    · rfl
theorem place_spec (r : Rules) (p : Place) (hr : Rng tyRules r) (hn : p.1.length ≤ 9223372036854775807) : placeCheck r p = some (placeErr r p) := by
  unfold placeCheck placeErr
  rw [check_spec r hr, Option.bind_some]
  by_cases c : ruleErr r = 0
  · rw [bne_f c, cond_false, if_neg (by simpa using c), sound_spec r p (rules_valid c) hn]
    rfl
  · rw [bne_t c, cond_true, if_pos c]
theorem placeError_spec (r : Rules) (p : Place) (hr : Rng tyRules r) (hn : p.1.length ≤ 9223372036854775807) : ref1PlaceError r p = some (placeErr r p) := by
  unfold ref1PlaceError placeErr
  rw [error_spec r hr, Option.bind_some]
  by_cases c : ruleErr r = 0
  · have hv := rules_valid c
    have ha := hv.area
    have ht : r.2.2.2.1.length ≤ 6 := hv.t6
    rw [bne_f c, cond_false, if_neg (by simpa using c)]
    unfold formBad
    rw [show r.2.1 * r.2.2.1 = r.width * r.height from rfl, w64_id (n := r.width * r.height) (by omega) (by omega)]
    cases hb : ((((((p.1.length : Nat) : Int) != r.width * r.height) || (((p.2.1.1.length : Nat) : Int) != ((r.2.2.2.1.length : Nat) : Int))) || (((p.2.1.2.1.length : Nat) : Int) != ((r.2.2.2.1.length : Nat) : Int)))) with
    | true => rfl
    | false =>
      simp only [Bool.or_eq_false_iff, bne_eq_false_iff_eq] at hb
      obtain ⟨⟨b1, b2⟩, b3⟩ := hb
      rw [cond_false, cond_false]
      have i1 : ∀ b0, iterW (ref1PlaceError_L1 p r) ((b0, (0 : Int), ()), ()) = some ((((b0 && p.1.all (fun d => !outC r d)), ()), ())) := fun b0 => by
        refine iter_all p.1 (fun d => !outC r d) _ (fun b => ((b, ()), ())) b0 (fun i hi b => ?_) (fun b => ?_)
        · unfold ref1PlaceError_L1
          simp only [show decide ((i : Int) < ((p.1.length : Nat) : Int)) = true by simp; omega, cond_true]
          rw [at?_eq _ _ (by omega) (by omega), w64_id (n := (i : Int) + 1) (by omega) (by omega), w64_id (n := (2 : Int) * ((r.2.2.2.1.length : Nat) : Int)) (by omega) (by omega)]
          have : ref1In (p.1[(i : Int).toNat]'(by omega)) 0 (2 * ((r.2.2.2.1.length : Nat) : Int)) = !outC r p.1[i] := by
            unfold ref1In outC
            rw [Bool.eq_iff_iff]
            simp
          rw [Option.bind_some, this]
        · unfold ref1PlaceError_L1
          simp
      have i3 : ∀ (x6 : (Bool × Int × Unit) × Unit) (l : List Int) (b0 : Bool), getD' [p.2.1.1, p.2.1.2.1] (x6.1.2.1).toNat [] = l → l.length ≤ 6 → iterW (ref1PlaceError_L3 p x6) ((b0, (0 : Int), ()), ()) = some ((((b0 && l.all (fun d => !outH d)), ()), ())) := fun x6 l b0 hl hl6 => by
        refine iter_all l (fun d => !outH d) _ (fun b => ((b, ()), ())) b0 (fun i hi b => ?_) (fun b => ?_)
        · unfold ref1PlaceError_L3
          rw [hl]
          simp only [show decide ((i : Int) < ((l.length : Nat) : Int)) = true by simp; omega, cond_true]
          rw [at?_eq _ _ (by omega) (by omega), w64_id (n := (i : Int) + 1) (by omega) (by omega)]
          have : ref1In (l[(i : Int).toNat]'(by omega)) 0 1000 = !outH l[i] := by
            unfold ref1In outH
            rw [Bool.eq_iff_iff]
            simp
          rw [Option.bind_some, this]
        · unfold ref1PlaceError_L3
          rw [hl]
          simp
      have i2 : ∀ b0, iterW (ref1PlaceError_L2 p) ((b0, (0 : Int), ()), ()) = some ((((b0 && p.2.1.1.all (fun d => !outH d)) && p.2.1.2.1.all (fun d => !outH d), ()), ())) := fun b0 => by
        rw [iterW_inl (y := ((b0 && p.2.1.1.all (fun d => !outH d), (1 : Int), ()), ())) (by
          unfold ref1PlaceError_L2
          rw [i3 _ p.2.1.1 _ rfl (by omega)]
          rfl)]
        rw [iterW_inl (y := ((((b0 && p.2.1.1.all (fun d => !outH d)) && p.2.1.2.1.all (fun d => !outH d)), (2 : Int), ()), ())) (by
          unfold ref1PlaceError_L2
          rw [i3 _ p.2.1.2.1 _ rfl (by omega)]
          rfl)]
        exact iterW_inr rfl
      rw [i1, Option.bind_some, i2, Option.bind_some]
      have : (!((((ref1In p.2.2.1 (0 : Int) (1 : Int)) && (ref1In p.2.2.2.1 (0 : Int) (200 : Int))) && p.1.all (fun d => !outC r d)) && p.2.1.1.all (fun d => !outH d) && p.2.1.2.1.all (fun d => !outH d))) = placeBad r p := by
        have e1 : (ref1In p.2.2.1 (0 : Int) (1 : Int) && ref1In p.2.2.2.1 (0 : Int) (200 : Int)) = !outT p := by
          unfold ref1In outT
          rw [Bool.eq_iff_iff]
          simp only [Bool.and_eq_true, decide_eq_true_eq, Bool.not_eq_true', Bool.or_eq_false_iff, Bool.and_eq_false_iff, bne_eq_false_iff_eq, decide_eq_false_iff_not]
          show _ ↔ (((p.2.2.1 = 0 ∨ p.2.2.1 = 1) ∧ ¬ p.2.2.2.1 < 0) ∧ ¬ p.2.2.2.1 > 200)
          omega
        rw [e1]
        unfold placeBad
        rw [← List.not_any_eq_all_not, ← List.not_any_eq_all_not, ← List.not_any_eq_all_not, List.any_append]
        show (!(!outT p && !p.1.any (outC r) && !p.2.1.1.any outH && !p.2.1.2.1.any outH)) = (p.1.any (outC r) || (p.2.1.1.any outH || p.2.1.2.1.any outH || outT p))
        cases outT p <;> cases p.1.any (outC r) <;> cases p.2.1.1.any outH <;> cases p.2.1.2.1.any outH <;> rfl
      simp only [this]
      exact cond_some _ _ _
  · rw [bne_t c, cond_true, if_pos c]
theorem valid_of {r : Rules} {p : Place} (h : placeErr r p = 0) : Valid r p := by
  unfold placeErr at h
  split at h
  · rename_i c; exact absurd h c
  rename_i c
  have hv := rules_valid (Decidable.not_not.1 c)
  cases c1 : formBad r p
  · rw [c1, cond_false] at h
    cases c2 : placeBad r p
    · unfold formBad at c1
      unfold placeBad outT at c2
      simp only [Bool.or_eq_false_iff, bne_eq_false_iff_eq, List.any_eq_false, Bool.and_eq_false_iff, decide_eq_false_iff_not, List.mem_append, outC, outH, decide_eq_true_eq, Bool.not_eq_true] at c1 c2
      obtain ⟨⟨a1, a2⟩, a3⟩ := c1
      obtain ⟨b1, b2, ⟨b3, b4⟩, b5⟩ := c2
      exact ⟨hv, a1, by omega, by omega, fun c hc => by have := b1 c hc; omega, fun c hc => by have := b2 c (.inl hc); omega, fun c hc => by have := b2 c (.inr hc); omega, b3, by omega⟩
    · rw [c2] at h; cases h
  · rw [c1] at h; cases h
end Go.Proofs.Ytfppnefcicdnfaa
namespace Go.Proofs.Ytfppnefcicdnfaa
open Go.Den
set_option linter.unusedVariables false
set_option linter.unusedSimpArgs false
set_option maxRecDepth 100000

abbrev RWay := Int × Int × Int × Int × Unit
def cellI (p : Place) (s : Int) : Int := p.cells.getD s.toNat 0
def onB (r : Rules) (x y : Int) : Bool := decide (0 ≤ x ∧ x < r.width ∧ 0 ≤ y ∧ y < r.height)
def sq (r : Rules) (x y : Int) : Int := y * r.width + x
def enemy (p : Place) (c : Int) : Bool := decide (c > 0) && ((c - 1).tmod 2 != p.turn)
def mineB (p : Place) (c : Int) : Bool := decide (c > 0) && ((c - 1).tmod 2 == p.turn)
def takes (p : Place) (w : RWay) (c : Int) : Bool := ((c == 0) && (w.2.2.2.1 != 2)) || (enemy p c && (w.2.2.2.1 != 0))
def dyOf (p : Place) (w : RWay) : Int := if p.turn = 1 then - w.2.1 else w.2.1
def wayL (r : Rules) (p : Place) (w : RWay) : Nat → Int → Int → List Int
  | 0, _, _ => []
  | n + 1, x, y => bif onB r (x + w.1) (y + dyOf p w) then (bif takes p w (cellI p (sq r (x + w.1) (y + dyOf p w))) then [sq r (x + w.1) (y + dyOf p w)] else []) ++ (bif cellI p (sq r (x + w.1) (y + dyOf p w)) == 0 then wayL r p w n (x + w.1) (y + dyOf p w) else []) else []
def wayS (r : Rules) (p : Place) (s : Int) (w : RWay) : List Int := wayL r p w w.2.2.1.toNat (s.tmod r.width) (s.tdiv r.width)

def WayOk (w : RWay) : Prop := (-7 ≤ w.1 ∧ w.1 ≤ 7) ∧ (-7 ≤ w.2.1 ∧ w.2.1 ≤ 7) ∧ ¬ (w.1 = 0 ∧ w.2.1 = 0) ∧ (1 ≤ w.2.2.1 ∧ w.2.2.1 ≤ 7) ∧ (0 ≤ w.2.2.2.1 ∧ w.2.2.2.1 ≤ 2)
theorem Valid.wayOk {r : Rules} {p : Place} (h : Valid r p) {q : Piece} (hq : q ∈ r.pieces) {w : RWay} (hw : w ∈ q.2.2.2.1) : WayOk w := h.r0.way q hq w hw
theorem dyOf_rng {p : Place} {w : RWay} (h : WayOk w) : -7 ≤ dyOf p w ∧ dyOf p w ≤ 7 := by
  unfold dyOf; obtain ⟨_, h1, _⟩ := h; split <;> omega
theorem dyOf_ne {p : Place} {w : RWay} (h : WayOk w) : ¬ (w.1 = 0 ∧ dyOf p w = 0) := by
  unfold dyOf; obtain ⟨_, h1, h2, _⟩ := h; split <;> omega
theorem onB_iff {r : Rules} {x y : Int} : onB r x y = true ↔ 0 ≤ x ∧ x < r.width ∧ 0 ≤ y ∧ y < r.height := by simp [onB]
theorem mul_rng {y W H : Int} (hW : 0 ≤ W) (h0 : 0 ≤ y) (h1 : y < H) : 0 ≤ y * W ∧ y * W ≤ W * H - W := by
  refine ⟨Int.mul_nonneg h0 hW, ?_⟩
  have := Int.mul_le_mul_of_nonneg_right (show y ≤ H - 1 by omega) hW
  rw [Int.sub_mul, Int.one_mul, Int.mul_comm H W] at this
  exact this
theorem sq_rng {r : Rules} (hr : VR0 r) {x y : Int} (h : onB r x y = true) : 0 ≤ sq r x y ∧ sq r x y < r.width * r.height := by
  obtain ⟨h1, h2, h3, h4⟩ := onB_iff.1 h
  have := mul_rng (show 0 ≤ r.width by have := hr.w1; omega) h3 h4
  unfold sq
  omega
theorem sq_inj {r : Rules} {x y x' y' : Int} (h : onB r x y = true) (h' : onB r x' y' = true) (e : sq r x y = sq r x' y') : x = x' ∧ y = y' := by
  obtain ⟨h1, h2, h3, h4⟩ := onB_iff.1 h
  obtain ⟨g1, g2, g3, g4⟩ := onB_iff.1 h'
  unfold sq at e
  have hW : 0 < r.width := by omega
  have ey : y = y' := by
    have a : (y * r.width + x) / r.width = y := by rw [Int.add_comm, Int.add_mul_ediv_right _ _ (by omega), Int.ediv_eq_zero_of_lt h1 h2, Int.zero_add]
    have b : (y' * r.width + x') / r.width = y' := by rw [Int.add_comm, Int.add_mul_ediv_right _ _ (by omega), Int.ediv_eq_zero_of_lt g1 g2, Int.zero_add]
    rw [← a, ← b, e]
  subst ey
  exact ⟨by omega, rfl⟩
theorem at_cell {p : Place} {s : Int} (h0 : 0 ≤ s) (h1 : s < ((p.cells.length : Nat) : Int)) : at? p.1 s = some (cellI p s) := by
  rw [at?_eq p.1 s h0 h1]
  unfold cellI
  have h1' : s < ((p.1.length : Nat) : Int) := h1
  rw [List.getD_eq_getElem?_getD, List.getElem?_eq_getElem (by show s.toNat < p.1.length; omega)]
  rfl
theorem cell_rng {r : Rules} {p : Place} (h : Valid r p) (s : Int) : 0 ≤ cellI p s ∧ cellI p s ≤ 2 * ((r.pieces.length : Nat) : Int) := by
  unfold cellI
  rw [List.getD_eq_getElem?_getD]
  cases e : p.cells[s.toNat]? with
  | none => simp; omega
  | some c => exact h.cell c (List.mem_of_getElem? e)
theorem cell_small {r : Rules} {p : Place} (h : Valid r p) (s : Int) : 0 ≤ cellI p s ∧ cellI p s ≤ 12 := by
  have := cell_rng h s
  have := h.r0.t6
  omega
theorem wayL_len (r : Rules) (p : Place) (w : RWay) : ∀ (n : Nat) (x y : Int), (wayL r p w n x y).length ≤ n
  | 0, x, y => by simp [wayL]
  | n + 1, x, y => by
    unfold wayL
    have := wayL_len r p w n (x + w.1) (y + dyOf p w)
    cases onB r (x + w.1) (y + dyOf p w)
    · simp
    · cases takes p w (cellI p (sq r (x + w.1) (y + dyOf p w))) <;> cases (cellI p (sq r (x + w.1) (y + dyOf p w)) == 0) <;> simp <;> omega
theorem wayL_mem {r : Rules} {p : Place} {w : RWay} {t : Int} : ∀ {n : Nat} {x y : Int}, t ∈ wayL r p w n x y → ∃ j : Int, 1 ≤ j ∧ onB r (x + j * w.1) (y + j * dyOf p w) = true ∧ t = sq r (x + j * w.1) (y + j * dyOf p w)
  | 0, x, y, h => by simp [wayL] at h
  | n + 1, x, y, h => by
    unfold wayL at h
    cases hb : onB r (x + w.1) (y + dyOf p w) with
    | false => simp [hb] at h
    | true =>
      rw [hb, cond_true] at h
      rcases List.mem_append.1 h with h | h
      · refine ⟨1, by omega, by simpa using hb, ?_⟩
        cases ht : takes p w (cellI p (sq r (x + w.1) (y + dyOf p w))) <;> simp [ht] at h
        simpa using h
      · cases hc : (cellI p (sq r (x + w.1) (y + dyOf p w)) == 0) <;> simp [hc] at h
        obtain ⟨j, h1, h2, h3⟩ := wayL_mem h
        have e1 : x + w.1 + j * w.1 = x + (j + 1) * w.1 := by rw [Int.add_mul]; omega
        have e2 : y + dyOf p w + j * dyOf p w = y + (j + 1) * dyOf p w := by rw [Int.add_mul]; omega
        rw [e1, e2] at h2 h3
        exact ⟨j + 1, by omega, h2, h3⟩
theorem wayL_new {r : Rules} {p : Place} {w : RWay} (hw : WayOk w) {n : Nat} {x y : Int} (hb : onB r x y = true) : sq r x y ∉ wayL r p w n x y := fun h => by
  obtain ⟨j, h1, h2, h3⟩ := wayL_mem h
  obtain ⟨e1, e2⟩ := sq_inj hb h2 h3
  have a : j * w.1 = 0 := by omega
  have b : j * dyOf p w = 0 := by omega
  refine dyOf_ne (p := p) hw ⟨?_, ?_⟩
  · rcases Int.mul_eq_zero.1 a with h | h
    · omega
    · exact h
  · rcases Int.mul_eq_zero.1 b with h | h
    · omega
    · exact h
theorem way_mem_rng {r : Rules} {p : Place} (h : VR0 r) {w : RWay} {n : Nat} {x y t : Int} (ht : t ∈ wayL r p w n x y) : 0 ≤ t ∧ t < r.width * r.height := by
  obtain ⟨j, h1, h2, h3⟩ := wayL_mem ht
  rw [h3]; exact sq_rng h h2
theorem div_rng {r : Rules} (hr : VR0 r) {s : Int} (h0 : 0 ≤ s) (h1 : s < r.width * r.height) : (0 ≤ s.tmod r.width ∧ s.tmod r.width < r.width) ∧ 0 ≤ s.tdiv r.width ∧ s.tdiv r.width < r.height := by
  have hw := hr.w1
  rw [Int.tmod_eq_emod_of_nonneg h0, Int.tdiv_eq_ediv_of_nonneg h0]
  refine ⟨⟨Int.emod_nonneg _ (by omega), Int.emod_lt_of_pos _ (by omega)⟩, Int.ediv_nonneg h0 (by omega), Int.ediv_lt_of_lt_mul (by omega) (by rw [Int.mul_comm]; exact h1)⟩
theorem takes_prog {r : Rules} {p : Place} (h : Valid r p) {w : RWay} (hw : WayOk w) (s : Int) :
    ((((w.2.2.2.1 == (0 : Int)) && (cellI p s == (0 : Int))) || ((w.2.2.2.1 == (1 : Int)) && ((cellI p s == (0 : Int)) || ((decide (cellI p s > (0 : Int))) && (((w64 (cellI p s - (1 : Int))).tmod (2 : Int)) != p.2.2.1))))) || ((w.2.2.2.1 == (2 : Int)) && ((decide (cellI p s > (0 : Int))) && (((w64 (cellI p s - (1 : Int))).tmod (2 : Int)) != p.2.2.1)))) = takes p w (cellI p s) := by
  have hc := cell_small h s
  rw [w64_id (n := cellI p s - 1) (by omega) (by omega)]
  obtain ⟨_, _, _, _, h5⟩ := hw
  have h6 : w.2.2.2.1 = 0 ∨ w.2.2.2.1 = 1 ∨ w.2.2.2.1 = 2 := by omega
  unfold takes enemy
  rw [show p.turn = p.2.2.1 from rfl]
  generalize hA : (cellI p s == 0) = A
  have hA' : A = true → decide (cellI p s > 0) = false := fun h => by
    subst hA
    rw [beq_iff_eq] at h
    simp [h]
  generalize decide (cellI p s > 0) = B at hA'
  generalize ((cellI p s - 1).tmod 2 != p.2.2.1) = C
  rcases h6 with h6 | h6 | h6 <;> rw [h6] <;> cases A <;> cases B <;> cases C <;> simp_all
theorem way_iter {r : Rules} {p : Place} (h : Valid r p) {w : RWay} (hw : WayOk w) : ∀ (n : Nat) (out : List Int) (x y k : Int), 0 ≤ k → k + n = w.2.2.1 → out.length ≤ k.toNat → (0 ≤ x ∧ x < r.width) → (0 ≤ y ∧ y < r.height) →
    iterW (movesWay_L1 w r ((dyOf p w, ()), ()) p) ((out, x, y, k, ()), ()) = some ((out ++ wayL r p w n x y, ()), ())
  | 0, out, x, y, k, h0, hk, ho, hx, hy => by
    refine iterW_inr ?_
    unfold movesWay_L1
    have : decide (k < w.2.2.1) = false := by simp; omega
    simp only [this, cond_false, wayL, List.append_nil]
  | n + 1, out, x, y, k, h0, hk, ho, hx, hy => by
    have hr := h.r0
    have hd := dyOf_rng (p := p) hw
    obtain ⟨hdx, _, _, hm, _⟩ := hw
    have := hr.w8; have := hr.h8; have := hr.w1; have := hr.h1
    have ha := hr.area
    have hlt : decide (k < w.2.2.1) = true := by simp; omega
    have wx : w64 (x + w.1) = x + w.1 := w64_id (by omega) (by omega)
    have wy : w64 (y + dyOf p w) = y + dyOf p w := w64_id (by omega) (by omega)
    have wk : w64 (k + 1) = k + 1 := w64_id (by omega) (by omega)
    have hoff : ((((decide (x + w.1 < (0 : Int))) || (decide (x + w.1 ≥ r.2.1))) || (decide (y + dyOf p w < (0 : Int)))) || (decide (y + dyOf p w ≥ r.2.2.1))) = !onB r (x + w.1) (y + dyOf p w) := by
      rw [Bool.eq_iff_iff]
      simp only [Bool.or_eq_true, decide_eq_true_eq, Bool.not_eq_true', onB, decide_eq_false_iff_not]
      show ((x + w.1 < 0 ∨ x + w.1 ≥ r.width) ∨ y + dyOf p w < 0) ∨ y + dyOf p w ≥ r.height ↔ _
      omega
    unfold wayL
    cases hb : onB r (x + w.1) (y + dyOf p w) with
    | false =>
      refine iterW_inr ?_
      unfold movesWay_L1
      simp only [hlt, cond_true, wx, wy, hoff, hb, Bool.not_false, cond_false, List.append_nil]
    | true =>
      have hs := sq_rng hr hb
      obtain ⟨b1, b2, b3, b4⟩ := onB_iff.1 hb
      have hmul := mul_rng (show 0 ≤ r.width by omega) b3 b4
      have w1 : w64 ((y + dyOf p w) * r.2.1) = (y + dyOf p w) * r.2.1 := w64_id (by show _ ≤ (y + dyOf p w) * r.width; omega) (by show (y + dyOf p w) * r.width ≤ _; omega)
      have w2 : w64 ((y + dyOf p w) * r.2.1 + (x + w.1)) = sq r (x + w.1) (y + dyOf p w) := w64_id (by show _ ≤ sq r (x + w.1) (y + dyOf p w); omega) (by show sq r (x + w.1) (y + dyOf p w) ≤ _; omega)
      have hat := at_cell (p := p) hs.1 (by rw [h.cells]; exact hs.2)
      have hlen := h.cells
      have hstep : movesWay_L1 w r ((dyOf p w, ()), ()) p ((out, x, y, k, ()), ()) = (bif cellI p (sq r (x + w.1) (y + dyOf p w)) != 0 then some (.inr ((out ++ (bif takes p w (cellI p (sq r (x + w.1) (y + dyOf p w))) then [sq r (x + w.1) (y + dyOf p w)] else []), ()), ())) else some (.inl ((out ++ (bif takes p w (cellI p (sq r (x + w.1) (y + dyOf p w))) then [sq r (x + w.1) (y + dyOf p w)] else []), x + w.1, y + dyOf p w, k + 1, ()), ()))) := by
        unfold movesWay_L1
        simp only [hlt, cond_true, wx, wy, hoff, hb, Bool.not_true, cond_false, w1, w2, wk, hat, Option.bind_some, takes_prog h ⟨hdx, ‹_›, ‹_›, hm, ‹_›⟩, show ∀ b, imp b true = true from fun b => by cases b <;> rfl, req_true]
        have hroom : room (out.length + [sq r (x + w.1) (y + dyOf p w)].length) 8 = true := room_ok (by simp; omega)
        cases takes p w (cellI p (sq r (x + w.1) (y + dyOf p w)))
        · simp
        · simp only [cond_true, hroom, req_true, Option.bind_some]
      cases hc : (cellI p (sq r (x + w.1) (y + dyOf p w)) == 0) with
      | true =>
        have hne : (cellI p (sq r (x + w.1) (y + dyOf p w)) != 0) = false := by simp only [bne, hc]; rfl
        rw [hne, cond_false] at hstep
        rw [iterW_inl hstep, way_iter h ⟨hdx, ‹_›, ‹_›, hm, ‹_›⟩ n _ (x + w.1) (y + dyOf p w) (k + 1) (by omega) (by omega) (by
          have : (bif takes p w (cellI p (sq r (x + w.1) (y + dyOf p w))) then [sq r (x + w.1) (y + dyOf p w)] else []).length ≤ 1 := by cases takes p w (cellI p (sq r (x + w.1) (y + dyOf p w))) <;> simp
          rw [List.length_append]; omega) ⟨b1, b2⟩ ⟨b3, b4⟩]
        simp [List.append_assoc]
      | false =>
        have hne : (cellI p (sq r (x + w.1) (y + dyOf p w)) != 0) = true := by simp only [bne, hc]; rfl
        rw [hne, cond_true] at hstep
        rw [iterW_inr hstep]
        simp
theorem way_spec {r : Rules} {p : Place} (h : Valid r p) {w : RWay} (hw : WayOk w) {s : Int} (h0 : 0 ≤ s) (h1 : s < r.width * r.height) : movesWay r p s w = some (wayS r p s w) := by
  have hr := h.r0
  have hd := div_rng hr h0 h1
  have := hr.w8; have := hr.h8; have := hr.w1; have := hr.h1
  obtain ⟨hdx, hdy, hnz, hm, htk⟩ := id hw
  unfold movesWay wayS
  have hq : (r.2.1 != 0) = true := bne_t (by show ¬ r.width = 0; omega)
  have wdy : (bif (p.2.2.1 == (1 : Int)) then some (((w64 (0 - w.2.1)), ()), ()) else some ((w.2.1, ()), ())) = some ((dyOf p w, ()), ()) := by
    unfold dyOf
    by_cases e : p.turn = 1
    · rw [if_pos e, beq_t e, cond_true, w64_id (by omega) (by omega)]; simp
    · rw [if_neg e, beq_f e, cond_false]
  have wq : w64 (s.tdiv r.2.1) = s.tdiv r.2.1 := w64_id (by show _ ≤ s.tdiv r.width; omega) (by show s.tdiv r.width ≤ _; omega)
  rw [wdy, Option.bind_some, hq, req_true, req_true, wq, way_iter h hw w.2.2.1.toNat [] _ _ 0 (by omega) (by omega) (by simp) hd.1 hd.2]
  simp
theorem mulb {k d : Int} (h0 : 0 ≤ k) (h8 : k ≤ 8) (d0 : -7 ≤ d) (d7 : d ≤ 7) : -56 ≤ k * d ∧ k * d ≤ 56 := by
  have : k = 0 ∨ k = 1 ∨ k = 2 ∨ k = 3 ∨ k = 4 ∨ k = 5 ∨ k = 6 ∨ k = 7 ∨ k = 8 := by omega
  rcases this with rfl | rfl | rfl | rfl | rfl | rfl | rfl | rfl | rfl <;> omega
theorem refAt_spec {r : Rules} {p : Place} (h : Valid r p) (x y : Int) : ref1At r p x y = some (bif onB r x y then cellI p (sq r x y) else -1) := by
  have hr := h.r0
  have := hr.w8; have := hr.h8; have := hr.w1; have := hr.h1
  have ha := hr.area
  unfold ref1At
  rw [w64_id (n := r.2.1 - 1) (by show _ ≤ r.width - 1; omega) (by show r.width - 1 ≤ _; omega), w64_id (n := r.2.2.1 - 1) (by show _ ≤ r.height - 1; omega) (by show r.height - 1 ≤ _; omega)]
  have e : ((!(ref1In x (0 : Int) (r.2.1 - 1))) || (!(ref1In y (0 : Int) (r.2.2.1 - 1)))) = !onB r x y := by
    unfold ref1In onB
    rw [Bool.eq_iff_iff]
    simp only [Bool.or_eq_true, Bool.not_eq_true', Bool.and_eq_false_iff, decide_eq_false_iff_not]
    show ((¬ x ≥ 0 ∨ ¬ x ≤ r.width - 1) ∨ (¬ y ≥ 0 ∨ ¬ y ≤ r.height - 1)) ↔ _
    omega
  rw [e]
  cases hb : onB r x y with
  | false => rfl
  | true =>
    have hs := sq_rng hr hb
    obtain ⟨b1, b2, b3, b4⟩ := onB_iff.1 hb
    have hmul := mul_rng (show 0 ≤ r.width by omega) b3 b4
    have w1 : w64 (y * r.2.1) = y * r.2.1 := w64_id (by show _ ≤ y * r.width; omega) (by show y * r.width ≤ _; omega)
    have w2 : w64 (y * r.2.1 + x) = sq r x y := w64_id (by show _ ≤ sq r x y; omega) (by show sq r x y ≤ _; omega)
    rw [w1, w2, at_cell (p := p) hs.1 (by rw [h.cells]; exact hs.2)]
    rfl
theorem refMine_spec (c pl : Int) (h0 : 0 ≤ c) (h1 : c ≤ 12) : ref1Mine c pl = some (decide (c > 0) && ((c - 1).tmod 2 == pl)) := by
  unfold ref1Mine
  rw [w64_id (n := c - 1) (by omega) (by omega)]
  cases decide (c > 0) <;> rfl
theorem enemy_ref {r : Rules} {p : Place} (h : Valid r p) {c : Int} (h0 : 0 ≤ c) : (decide (c > 0) && ((c - 1).tmod 2 == 1 - p.turn)) = enemy p c := by
  unfold enemy
  by_cases hc : c > 0
  · have : (c - 1).tmod 2 = 0 ∨ (c - 1).tmod 2 = 1 := by rw [Int.tmod_eq_emod_of_nonneg (by omega)]; omega
    have ht := h.turn
    rw [decide_eq_true hc, Bool.true_and, Bool.true_and, Bool.eq_iff_iff, beq_iff_eq, bne_iff_ne]
    show _ ↔ ¬ _
    omega
  · simp [hc]
theorem reach_iter {r : Rules} {p : Place} (h : Valid r p) {w : RWay} (hw : WayOk w) {s t : Int} (h0 : 0 ≤ s) (h1 : s < r.width * r.height) : ∀ (n : Nat) (k : Int), 1 ≤ k → k + n = w.2.2.1 + 1 →
    (Option.bind (α := ((Unit) × (Unit)) ⊕ Bool) (iterW (ref1Reaches_L1 w r p s t) ((k, ()), ())) (Sum.elim (fun x4 => some false) some)) = some (decide (t ∈ wayL r p w n (s.tmod r.width + (k - 1) * w.1) (s.tdiv r.width + (k - 1) * dyOf p w)))
  | 0, k, hk, hn => by
    rw [iterW_inr (r := .inl ((), ())) (by
      unfold ref1Reaches_L1
      have : decide (k ≤ w.2.2.1) = false := by simp; omega
      simp only [this, cond_false])]
    simp [wayL]
  | n + 1, k, hk, hn => by
    have hr := h.r0
    have hd := dyOf_rng (p := p) hw
    obtain ⟨hdx, hdy, hnz, hm, htk⟩ := id hw
    have := hr.w8; have := hr.h8; have := hr.w1; have := hr.h1
    have ha := hr.area
    have hdr := div_rng hr h0 h1
    have hlt : decide (k ≤ w.2.2.1) = true := by simp; omega
    have m1 := mulb (k := k) (by omega) (by omega) hdx.1 hdx.2
    have m2 := mulb (k := k) (by omega) (by omega) hdy.1 hdy.2
    have m3 := mulb (k := k) (by omega) (by omega) hd.1 hd.2
    have ht := h.turn
    have wu : w64 ((1 : Int) - (w64 ((2 : Int) * p.2.2.1))) = 1 - 2 * p.turn := by
      rw [w64_id (n := (2 : Int) * p.2.2.1) (by show _ ≤ 2 * p.turn; omega) (by show 2 * p.turn ≤ _; omega)]
      exact w64_id (by show _ ≤ 1 - 2 * p.turn; omega) (by show 1 - 2 * p.turn ≤ _; omega)
    have eup : k * w.2.1 * (1 - 2 * p.turn) = k * dyOf p w := by
      unfold dyOf
      rcases ht with e | e
      · rw [e, if_neg (by omega)]; simp
      · rw [e, if_pos rfl]; simp [Int.mul_neg]
    have wq : w64 (s.tdiv r.2.1) = s.tdiv r.2.1 := w64_id (by show _ ≤ s.tdiv r.width; omega) (by show s.tdiv r.width ≤ _; omega)
    have wkx : w64 (k * w.1) = k * w.1 := w64_id (by omega) (by omega)
    have wky : w64 (k * w.2.1) = k * w.2.1 := w64_id (by omega) (by omega)
    have wky2 : w64 (k * w.2.1 * (1 - 2 * p.turn)) = k * dyOf p w := by rw [eup]; exact w64_id (by omega) (by omega)
    obtain ⟨X, hX⟩ : ∃ X, X = s.tmod r.width + k * w.1 := ⟨_, rfl⟩
    obtain ⟨Y, hY⟩ : ∃ Y, Y = s.tdiv r.width + k * dyOf p w := ⟨_, rfl⟩
    have wx : w64 (s.tmod r.2.1 + k * w.1) = X := by rw [hX]; exact w64_id (by show _ ≤ s.tmod r.width + k * w.1; omega) (by show s.tmod r.width + k * w.1 ≤ _; omega)
    have wy : w64 (s.tdiv r.2.1 + k * dyOf p w) = Y := by rw [hY]; exact w64_id (by show _ ≤ s.tdiv r.width + k * dyOf p w; omega) (by show s.tdiv r.width + k * dyOf p w ≤ _; omega)
    have wt : w64 (1 - p.2.2.1) = 1 - p.turn := w64_id (by show _ ≤ 1 - p.turn; omega) (by show 1 - p.turn ≤ _; omega)
    have ex : s.tmod r.width + (k - 1) * w.1 + w.1 = X := by rw [hX, Int.sub_mul]; omega
    have ey : s.tdiv r.width + (k - 1) * dyOf p w + dyOf p w = Y := by rw [hY, Int.sub_mul]; omega
    unfold wayL
    rw [ex, ey]
    have hAt := refAt_spec h X Y
    cases hb : onB r X Y with
    | false =>
      rw [hb, cond_false] at hAt
      rw [iterW_inr (r := .inr false) (by
        unfold ref1Reaches_L1
        simp only [hlt, cond_true, wkx, wky, wu, wky2, wq, wx, wy, hAt, Option.bind_some]
        rfl)]
      simp
    | true =>
      rw [hb, cond_true] at hAt
      have hs := sq_rng hr hb
      obtain ⟨b1, b2, b3, b4⟩ := onB_iff.1 hb
      have hmul := mul_rng (show 0 ≤ r.width by omega) b3 b4
      have hc := cell_small h (sq r X Y)
      have hneg : decide (cellI p (sq r X Y) < 0) = false := by simp; omega
      have w1 : w64 (Y * r.2.1) = Y * r.2.1 := w64_id (by show _ ≤ Y * r.width; omega) (by show Y * r.width ≤ _; omega)
      have w2 : w64 (w64 (Y * r.2.1 + s.tmod r.2.1) + k * w.1) = sq r X Y := by
        rw [w64_id (n := Y * r.2.1 + s.tmod r.2.1) (by show _ ≤ Y * r.width + s.tmod r.width; omega) (by show Y * r.width + s.tmod r.width ≤ _; omega)]
        have e : Y * r.2.1 + s.tmod r.2.1 + k * w.1 = sq r X Y := by show Y * r.width + s.tmod r.width + k * w.1 = _; unfold sq; omega
        rw [e]; exact w64_id (by omega) (by omega)
      have hmine := refMine_spec (cellI p (sq r X Y)) (1 - p.turn) hc.1 hc.2
      rw [enemy_ref h hc.1] at hmine
      by_cases ht' : sq r X Y = t
      · rw [iterW_inr (r := .inr (takes p w (cellI p (sq r X Y)))) (by
          unfold ref1Reaches_L1
          simp only [hlt, cond_true, wkx, wky, wu, wky2, wq, wx, wy, hAt, Option.bind_some, hneg, cond_false, w1, w2, beq_t ht', wt, hmine]
          rfl)]
        subst ht'
        have hnew := wayL_new (p := p) hw (n := n) hb
        rw [Option.bind_some, Sum.elim_inr, cond_true, Option.some.injEq]
        cases takes p w (cellI p (sq r X Y))
        · cases (cellI p (sq r X Y) == 0) <;> simp [hnew]
        · simp
      · cases hz : (cellI p (sq r X Y) == 0) with
        | false =>
          have hne : (cellI p (sq r X Y) != 0) = true := by simp only [bne, hz]; rfl
          rw [iterW_inr (r := .inr false) (by
            unfold ref1Reaches_L1
            simp only [hlt, cond_true, wkx, wky, wu, wky2, wq, wx, wy, hAt, Option.bind_some, hneg, cond_false, w1, w2, beq_f ht', hne])]
          rw [Option.bind_some, Sum.elim_inr, cond_true, Option.some.injEq]
          cases takes p w (cellI p (sq r X Y)) <;> simp [Ne.symm ht']
        | true =>
          have hne : (cellI p (sq r X Y) != 0) = false := by simp only [bne, hz]; rfl
          rw [iterW_inl (y := ((k + 1, ()), ())) (by
            unfold ref1Reaches_L1
            simp only [hlt, cond_true, wkx, wky, wu, wky2, wq, wx, wy, hAt, Option.bind_some, hneg, cond_false, w1, w2, beq_f ht', hne, w64_id (n := k + 1) (by omega) (by omega)])]
          rw [reach_iter h hw h0 h1 n (k + 1) (by omega) (by omega), cond_true, cond_true, show k + 1 - 1 = k by omega, ← hX, ← hY]
          congr 1
          cases takes p w (cellI p (sq r X Y)) <;> simp
          exact fun e => absurd e.symm ht'
theorem reach_spec {r : Rules} {p : Place} (h : Valid r p) {w : RWay} (hw : WayOk w) {s t : Int} (h0 : 0 ≤ s) (h1 : s < r.width * r.height) : ref1Reaches r p s t w = some (decide (t ∈ wayS r p s w)) := by
  have hr := h.r0
  have := hr.w1
  have hq : (r.2.1 != 0) = true := bne_t (by show ¬ r.width = 0; omega)
  unfold ref1Reaches wayS
  obtain ⟨_, _, _, hm, _⟩ := id hw
  rw [hq, req_true, req_true, reach_iter h hw h0 h1 w.2.2.1.toNat 1 (by omega) (by omega)]
  simp
end Go.Proofs.Ytfppnefcicdnfaa
namespace Go.Proofs.Ytfppnefcicdnfaa
open Go.Den
set_option linter.unusedVariables false
set_option linter.unusedSimpArgs false
set_option maxRecDepth 100000

theorem lt_iff (x y : Mv) : mvLt x y = true ↔ x.1 < y.1 ∨ x.1 = y.1 ∧ (x.2.1 < y.2.1 ∨ x.2.1 = y.2.1 ∧ x.2.2.1 < y.2.2.1) := by simp [mvLt]
theorem lt_f (x y : Mv) : mvLt x y = false ↔ ¬ (x.1 < y.1 ∨ x.1 = y.1 ∧ (x.2.1 < y.2.1 ∨ x.2.1 = y.2.1 ∧ x.2.2.1 < y.2.2.1)) := by rw [← lt_iff, Bool.not_eq_true]
theorem mv_eq {x y : Mv} (h1 : x.1 = y.1) (h2 : x.2.1 = y.2.1) (h3 : x.2.2.1 = y.2.2.1) : x = y := by
  obtain ⟨a, b, c, ⟨⟩⟩ := x
  obtain ⟨a', b', c', ⟨⟩⟩ := y
  simp only at h1 h2 h3
  subst h1 h2 h3
  rfl
theorem mv_beq (x y : Mv) : ((x.1 == y.1) && ((x.2.1 == y.2.1) && ((x.2.2.1 == y.2.2.1) && true))) = decide (x = y) := by
  rw [Bool.eq_iff_iff]
  simp only [Bool.and_eq_true, beq_iff_eq, decide_eq_true_eq, and_true]
  constructor
  · rintro ⟨h1, h2, h3⟩; exact mv_eq h1 h2 h3
  · rintro rfl; exact ⟨rfl, rfl, rfl⟩

/-- each once, of a list in which equals are neighbours -/
def dd1 (a : Mv) : List Mv → List Mv
  | [] => []
  | x :: xs => if x = a then dd1 a xs else x :: dd1 x xs
def dd : List Mv → List Mv
  | [] => []
  | x :: xs => x :: dd1 x xs
theorem dd1_snoc (y : Mv) : ∀ (l : List Mv) (a : Mv), dd1 a (l ++ [y]) = dd1 a l ++ (if (a :: l).getLast (by simp) = y then [] else [y])
  | [], a => by simp only [List.nil_append, dd1, List.getLast_singleton]; by_cases h : y = a <;> simp [h, eq_comm]
  | x :: xs, a => by
    simp only [List.cons_append, dd1]
    by_cases h : x = a
    · subst h
      rw [if_pos rfl, if_pos rfl, dd1_snoc y xs x]
      congr 2
    · rw [if_neg h, if_neg h, dd1_snoc y xs x, List.cons_append]
      congr 2
theorem dd_snoc {l : List Mv} (hl : l ≠ []) (y : Mv) : dd (l ++ [y]) = dd l ++ (if l.getLast hl = y then [] else [y]) := by
  cases l with
  | nil => exact absurd rfl hl
  | cons x xs => simp only [List.cons_append, dd, dd1_snoc]
theorem dd1_mem (z : Mv) : ∀ (l : List Mv) (a : Mv), z ∈ a :: dd1 a l ↔ z ∈ a :: l
  | [], a => by simp [dd1]
  | x :: xs, a => by
    simp only [dd1]
    by_cases h : x = a
    · subst h; rw [if_pos rfl, dd1_mem z xs x]; simp
    · rw [if_neg h, List.mem_cons, dd1_mem z xs x, ← List.mem_cons]
theorem dd_mem (z : Mv) (l : List Mv) : z ∈ dd l ↔ z ∈ l := by
  cases l with
  | nil => simp [dd]
  | cons x xs => exact dd1_mem z xs x
theorem dd1_lt : ∀ (l : List Mv) (a : Mv), (a :: l).Pairwise (fun x y => (!mvLt y x) = true) → (a :: dd1 a l).Pairwise (fun x y => mvLt x y = true)
  | [], a, h => by simp [dd1]
  | x :: xs, a, h => by
    simp only [dd1]
    rw [List.pairwise_cons] at h
    by_cases e : x = a
    · subst e; rw [if_pos rfl]; exact dd1_lt xs x h.2
    · rw [if_neg e, List.pairwise_cons]
      refine ⟨fun z hz => ?_, dd1_lt xs x h.2⟩
      have hz' := (dd1_mem z xs x).1 hz
      have h1 := h.1 x (by simp)
      have hax : mvLt a x = true := by
        rw [Bool.not_eq_true', lt_f] at h1
        rw [lt_iff]
        by_cases c1 : a.1 = x.1
        · by_cases c2 : a.2.1 = x.2.1
          · by_cases c3 : a.2.2.1 = x.2.2.1
            · exact absurd (mv_eq c1 c2 c3).symm e
            · omega
          · omega
        · omega
      rcases List.mem_cons.1 hz' with rfl | hz2
      · exact hax
      · have h2 := (List.pairwise_cons.1 h.2).1 z hz2
        rw [Bool.not_eq_true', lt_f] at h2
        rw [lt_iff] at hax ⊢
        omega
theorem dd_lt {l : List Mv} (h : l.Pairwise (fun x y => (!mvLt y x) = true)) : (dd l).Pairwise (fun x y => mvLt x y = true) := by
  cases l with
  | nil => simp [dd]
  | cons x xs => exact dd1_lt xs x h
theorem sort_pw (l : List Mv) : (sortMoves l).Pairwise (fun x y => (!mvLt y x) = true) := by
  unfold sortMoves
  apply List.pairwise_mergeSort
  · intro a b c h1 h2
    rw [Bool.not_eq_true', lt_f] at *
    omega
  · intro a b
    rw [Bool.or_eq_true, Bool.not_eq_true', Bool.not_eq_true', lt_f, lt_f]
    omega
theorem sort_mem (z : Mv) (l : List Mv) : z ∈ sortMoves l ↔ z ∈ l := (List.mergeSort_perm l _).mem_iff
theorem sort_len (l : List Mv) : (sortMoves l).length = l.length := List.length_mergeSort l
theorem lt_irrefl (x : Mv) : mvLt x x = false := by rw [lt_f]; omega
/-- two lists in strict order with the same moves are the same -/
theorem lt_unique : ∀ {l m : List Mv}, l.Pairwise (fun x y => mvLt x y = true) → m.Pairwise (fun x y => mvLt x y = true) → (∀ z, z ∈ l ↔ z ∈ m) → l = m
  | [], [], _, _, _ => rfl
  | [], y :: m, _, _, h => by have := (h y).2 (by simp); simp at this
  | x :: l, [], _, _, h => by have := (h x).1 (by simp); simp at this
  | x :: l, y :: m, hl, hm, h => by
    rw [List.pairwise_cons] at hl hm
    have e : x = y := by
      rcases List.mem_cons.1 ((h x).1 (by simp)) with e | e
      · exact e
      · rcases List.mem_cons.1 ((h y).2 (by simp)) with e2 | e2
        · exact e2.symm
        · have a := hm.1 x e
          have b := hl.1 y e2
          rw [lt_iff] at a b
          omega
    subst e
    congr 1
    refine lt_unique hl.2 hm.2 fun z => ⟨fun hz => ?_, fun hz => ?_⟩
    · rcases List.mem_cons.1 ((h z).1 (by simp [hz])) with e | e
      · subst e; have := hl.1 z hz; rw [lt_irrefl] at this; cases this
      · exact e
    · rcases List.mem_cons.1 ((h z).2 (by simp [hz])) with e | e
      · subst e; have := hm.1 z hz; rw [lt_irrefl] at this; cases this
      · exact e

/-! ### compacting -/
abbrev d0 : Mv := ((0 : Int), ((0 : Int), ((0 : Int), ())))
theorem get_take {xs : List Mv} {j : Nat} (h : j < xs.length) : xs.take (j + 1) = xs.take j ++ [getD' xs j d0] := by
  rw [List.take_succ_eq_append_getElem h]
  simp [getD', h]
theorem dd_take {xs : List Mv} {j : Nat} (h : j < xs.length) (hj : 1 ≤ j) : dd (xs.take (j + 1)) = dd (xs.take j) ++ (if getD' xs (j - 1) d0 = getD' xs j d0 then [] else [getD' xs j d0]) := by
  have hne : xs.take j ≠ [] := by
    intro e
    have := congrArg List.length e
    rw [List.length_take] at this
    simp only [List.length_nil] at this
    omega
  rw [get_take h, dd_snoc hne]
  have : (xs.take j).getLast hne = getD' xs (j - 1) d0 := by
    rw [List.getLast_eq_getElem]
    simp only [List.getElem_take, List.length_take, getD']
    rw [List.getD_eq_getElem?_getD, List.getElem?_eq_getElem (by omega)]
    simp only [Option.getD_some]
    congr 1
    omega
  rw [this]
theorem compact5 (xs : List Mv) (k0 : Nat) (hk0 : 1 ≤ k0) (hk1 : k0 < xs.length) (hx : xs.length ≤ 1000000) (hd : dd (xs.take (k0 + 1)) = xs.take k0) :
    ∃ r, iterW (movesList_L5 (((k0 : Int), ()), (xs, ()))) (((k0 : Int), (1 : Int), ()), (xs, ())) = some r ∧ (∃ k : Nat, r.1.1 = (k : Int) ∧ k ≤ xs.length ∧ r.2.1.length = xs.length ∧ r.2.1.take k = dd xs) := by
  refine iterW_meas (fun x => ∃ (k k2 : Nat), x.1.1 = (k : Int) ∧ x.1.2.1 = (k2 : Int) ∧ 1 ≤ k2 ∧ k0 + k2 ≤ xs.length ∧ k0 ≤ k ∧ k + 1 ≤ k0 + k2 ∧ x.2.1.length = xs.length ∧ (∀ j, k0 + k2 ≤ j + 1 → getD' x.2.1 j d0 = getD' xs j d0) ∧ x.2.1.take k = dd (xs.take (k0 + k2))) (fun x => xs.length - x.1.2.1.toNat) _ ?_ _ ⟨k0, 1, rfl, rfl, by omega, by omega, by omega, by omega, rfl, fun _ _ => rfl, by rw [hd]⟩
  rintro ⟨⟨k, k2, ⟨⟩⟩, ys, ⟨⟩⟩ ⟨K, K2, e1, e2, h1, h2, h3, h4, h5, h6, h7⟩
  simp only at e1 e2 h5 h6 h7
  subst e1 e2
  unfold movesList_L5
  simp only [Int.toNat_natCast]
  by_cases hlt : K2 < xs.length - k0
  · left
    have c1 : decide ((K2 : Int) < ((xs.length - k0 : Nat) : Int)) = true := by simp; omega
    have c2 : inb (K2 : Int) (xs.length - k0) = true := inb_iff.2 ⟨by omega, by omega⟩
    have w1 : w64 ((K2 : Int) - 1) = ((K2 - 1 : Nat) : Int) := by rw [w64_id (by omega) (by omega)]; omega
    have c3 : inb ((K2 - 1 : Nat) : Int) (xs.length - k0) = true := inb_iff.2 ⟨by omega, by omega⟩
    have w2 : w64 ((K2 : Int) + 1) = ((K2 + 1 : Nat) : Int) := by rw [w64_id (by omega) (by omega)]; omega
    have w3 : w64 ((K : Int) + 1) = ((K + 1 : Nat) : Int) := by rw [w64_id (by omega) (by omega)]; omega
    have c4 : inb (K : Int) ys.length = true := inb_iff.2 ⟨by omega, by omega⟩
    have g1 : getD' ys (k0 + K2) d0 = getD' xs (k0 + K2) d0 := h6 _ (by omega)
    have g2 : getD' ys (k0 + (K2 - 1)) d0 = getD' xs (k0 + (K2 - 1)) d0 := h6 _ (by omega)
    have hdd := dd_take (xs := xs) (j := k0 + K2) (by omega) (by omega)
    simp only [c1, cond_true, c2, req_true, w1, Int.toNat_natCast, c3, w2, w3, c4, mv_beq, g1, g2]
    by_cases he : getD' xs (k0 + K2) d0 = getD' xs (k0 + (K2 - 1)) d0
    · refine ⟨(((K : Int), ((K2 + 1 : Nat) : Int), ()), (ys, ())), by simp [he], ⟨K, K2 + 1, rfl, rfl, by omega, by omega, by omega, by omega, h5, fun j hj => h6 j (by omega), ?_⟩, by simp; omega⟩
      rw [show k0 + (K2 + 1) = k0 + K2 + 1 by omega, hdd, if_pos (by rw [he]; congr 1; omega), List.append_nil]
      exact h7
    · refine ⟨((((K + 1 : Nat) : Int), ((K2 + 1 : Nat) : Int), ()), (ys.set K (getD' xs (k0 + K2) d0), ())), by simp [he], ⟨K + 1, K2 + 1, rfl, rfl, by omega, by omega, by omega, by omega, by simp [h5], fun j hj => ?_, ?_⟩, by simp; omega⟩
      · rw [← h6 j (by omega)]
        simp only [getD']
        simp only [List.getD_eq_getElem?_getD]
        rw [List.getElem?_set_ne (by omega)]
      · rw [show k0 + (K2 + 1) = k0 + K2 + 1 by omega, hdd, if_neg (by intro e; apply he; rw [← e]; congr 1; omega), ← h7]
        rw [List.take_succ_eq_append_getElem (by simp; omega)]
        simp [List.take_set_of_le]
  · right
    have c1 : decide ((K2 : Int) < ((xs.length - k0 : Nat) : Int)) = false := by simp; omega
    refine ⟨(((K : Int), ()), (ys, ())), by simp only [c1, cond_false], K, rfl, by omega, h5, ?_⟩
    rw [h7, show k0 + K2 = xs.length by omega, List.take_length]
theorem compact4 (xs : List Mv) (hx : xs.length ≤ 1000000) (h2 : 2 ≤ xs.length) :
    (Option.bind (α := ((Unit) × ((List Mv) × Unit)) ⊕ (((List Mv) × Unit) × (Unit))) (iterW movesList_L4 (((1 : Int), ()), (xs, ()))) (Sum.elim (fun x23 => some ((x23.2.1, ()), ())) some)) = some ((dd xs, ()), ()) := by
  obtain ⟨r, hr, hq⟩ := iterW_meas (f := movesList_L4) (fun x => ∃ k : Nat, x = (((k : Int), ()), (xs, ())) ∧ 1 ≤ k ∧ k ≤ xs.length ∧ dd (xs.take k) = xs.take k) (fun x => xs.length - x.1.1.toNat) (fun r => r = .inl ((), (xs, ())) ∧ dd xs = xs ∨ r = .inr ((dd xs, ()), ())) (by
    rintro x ⟨k, rfl, h1, h3, h4⟩
    unfold movesList_L4
    simp only [Int.toNat_natCast]
    by_cases hlt : k < xs.length
    · have c1 : decide ((k : Int) < ((xs.length : Nat) : Int)) = true := by simp; omega
      have c2 : inb (k : Int) xs.length = true := inb_iff.2 ⟨by omega, by omega⟩
      have w1 : w64 ((k : Int) - 1) = ((k - 1 : Nat) : Int) := by rw [w64_id (by omega) (by omega)]; omega
      have c3 : inb ((k - 1 : Nat) : Int) xs.length = true := inb_iff.2 ⟨by omega, by omega⟩
      have w2 : w64 ((k : Int) + 1) = ((k + 1 : Nat) : Int) := by rw [w64_id (by omega) (by omega)]; omega
      have c4 : boundsI (k : Int) ((xs.length : Nat) : Int) xs.length = true := by simp [boundsI]; omega
      have hdd := dd_take hlt h1
      simp only [c1, cond_true, c2, req_true, w1, Int.toNat_natCast, c3, c4, mv_beq]
      by_cases he : getD' xs k d0 = getD' xs (k - 1) d0
      · right
        rw [if_pos he.symm, List.append_nil, h4] at hdd
        obtain ⟨r, hr, K, e1, e2, e3, e4⟩ := compact5 xs k h1 hlt hx hdd
        obtain ⟨⟨k', ⟨⟩⟩, ys, ⟨⟩⟩ := r
        simp only at e1 e3 e4
        subst e1
        refine ⟨.inr ((dd xs, ()), ()), ?_, .inr rfl⟩
        rw [hr]
        have c5 : boundsI (K : Int) ((ys.length : Nat) : Int) ys.length = true := by simp [boundsI]; omega
        have c6 : ∀ l : List Mv, K ≤ l.length → boundsI 0 (K : Int) l.length = true := fun l hl => by simp [boundsI]; omega
        simp only [he, decide_true, cond_true, Option.bind_some, c5, req_true, Int.toNat_natCast]
        rw [c6 _ (by simp; omega), req_true, Option.bind_some, Sum.elim_inr, List.take_append_of_le_length (by simp; omega), List.take_take, Nat.min_self, e4]
      · left
        refine ⟨((((k + 1 : Nat) : Int), ()), (xs, ())), ?_, ⟨k + 1, rfl, by omega, by omega, ?_⟩, by simp; omega⟩
        · simp only [he, decide_false, cond_false, Option.bind_some, Sum.elim_inl, w2]
        · rw [hdd, if_neg (fun e => he e.symm), h4, ← get_take hlt]
    · right
      have c1 : decide ((k : Int) < ((xs.length : Nat) : Int)) = false := by simp; omega
      refine ⟨.inl ((), (xs, ())), by simp only [c1, cond_false], .inl ⟨rfl, ?_⟩⟩
      have : k = xs.length := by omega
      rw [this, List.take_length] at h4
      exact h4) (((1 : Int), ()), (xs, ())) ⟨1, rfl, by omega, by omega, by
        cases xs with
        | nil => rfl
        | cons x l => rfl⟩
  rw [hr]
  rcases hq with ⟨rfl, e⟩ | rfl
  · rw [e]; rfl
  · rfl
end Go.Proofs.Ytfppnefcicdnfaa
namespace Go.Proofs.Ytfppnefcicdnfaa
open Go.Den
set_option linter.unusedVariables false
set_option linter.unusedSimpArgs false
set_option maxRecDepth 100000

def handOf (p : Place) : List Int := getD' [p.2.1.1, p.2.1.2.1] (p.2.2.1).toNat []
theorem handOf_eq {r : Rules} {p : Place} (h : Valid r p) : handOf p = if p.turn = 0 then p.h0 else p.h1 := by
  unfold handOf
  rcases h.turn with e | e
  · rw [if_pos e, show p.2.2.1 = 0 from e]; rfl
  · rw [if_neg (by omega), show p.2.2.1 = 1 from e]; rfl
theorem hand_len {r : Rules} {p : Place} (h : Valid r p) : (handOf p).length = r.pieces.length := by
  rw [handOf_eq h]; split
  · exact h.l0
  · exact h.l1
theorem hand_rng {r : Rules} {p : Place} (h : Valid r p) : ∀ c ∈ handOf p, 0 ≤ c ∧ c ≤ 1000 := by
  rw [handOf_eq h]; split
  · exact h.hand0
  · exact h.hand1
def handI (p : Place) (k : Int) : Int := (handOf p).getD k.toNat 0
theorem at_hand {p : Place} {k : Int} (h0 : 0 ≤ k) (h1 : k < (((handOf p).length : Nat) : Int)) : at? (getD' [p.2.1.1, p.2.1.2.1] (p.2.2.1).toNat []) k = some (handI p k) := by
  show at? (handOf p) k = _
  rw [at?_eq _ k h0 h1]
  unfold handI
  rw [List.getD_eq_getElem?_getD, List.getElem?_eq_getElem (by omega)]
  rfl
theorem handI_rng {r : Rules} {p : Place} (h : Valid r p) (k : Int) : 0 ≤ handI p k ∧ handI p k ≤ 1000 := by
  unfold handI
  rw [List.getD_eq_getElem?_getD]
  cases e : (handOf p)[k.toNat]? with
  | none => simp
  | some c => exact hand_rng h c (List.mem_of_getElem? e)

/-! ### columns -/
def colF (p : Place) (W x0 : Int) : Nat → Bool
  | 0 => true
  | y + 1 => colF p W x0 y && (cellI p (x0 + (y : Int) * W) != 0)
theorem colF_any (p : Place) (W x0 : Int) : ∀ y, colF p W x0 y = !((List.range y).any fun i => cellI p (x0 + (i : Int) * W) == 0)
  | 0 => rfl
  | y + 1 => by rw [colF, colF_any p W x0 y, List.range_succ, List.any_append]; simp [bne]
def filledB (r : Rules) (p : Place) (s : Int) : Bool := colF p r.width (s.tmod r.width) (s.tdiv r.width).toNat
theorem div_eq {W s : Int} (hW : 1 ≤ W) (h0 : 0 ≤ s) : s = s.tmod W + ((s.tdiv W).toNat : Int) * W := by
  have h1 := Int.tmod_add_tdiv_mul s W
  have h2 : 0 ≤ s.tdiv W := by rw [Int.tdiv_eq_ediv_of_nonneg h0]; exact Int.ediv_nonneg h0 (by omega)
  rw [Int.toNat_of_nonneg h2]
  exact h1.symm
theorem mulN {y W : Int} (hy : 0 ≤ y) (hW : 0 ≤ W) : 0 ≤ y * W := Int.mul_nonneg hy hW
theorem filled_iter {r : Rules} {p : Place} (h : Valid r p) {x0 : Int} (hx : 0 ≤ x0 ∧ x0 < r.width) : ∀ (y : Nat), (y : Int) ≤ r.height →
    (Option.bind (α := ((Unit) × (Unit)) ⊕ Bool) (iterW (movesFilled_L1 p r) ((x0 + (y : Int) * r.width - r.width, ()), ())) (Sum.elim (fun x3 => some true) some)) = some (colF p r.width x0 y)
  | 0, hy => by
    rw [iterW_inr (r := .inl ((), ())) (by
      unfold movesFilled_L1
      have : decide (x0 + ((0 : Nat) : Int) * r.width - r.width ≥ 0) = false := by simp; omega
      simp only [this, cond_false])]
    rfl
  | y + 1, hy => by
    have hr := h.r0
    have := hr.w8; have := hr.h8; have := hr.w1; have := hr.h1
    have ha := hr.area
    have hb : onB r x0 (y : Int) = true := onB_iff.2 ⟨hx.1, hx.2, by omega, by omega⟩
    have hs := sq_rng hr hb
    have hm := mul_rng (show 0 ≤ r.width by omega) (show (0 : Int) ≤ (y : Int) by omega) (show (y : Int) < r.height by omega)
    have e : x0 + ((y + 1 : Nat) : Int) * r.width - r.width = x0 + (y : Int) * r.width := by
      rw [show ((y + 1 : Nat) : Int) = (y : Int) + 1 by omega, Int.add_mul]; omega
    rw [e]
    have hat := at_cell (p := p) (s := x0 + (y : Int) * r.width) (by omega) (by rw [h.cells]; omega)
    have hge : decide (x0 + (y : Int) * r.width ≥ 0) = true := by simp; omega
    cases hc : (cellI p (x0 + (y : Int) * r.width) == 0) with
    | true =>
      rw [iterW_inr (r := .inr false) (by
        unfold movesFilled_L1
        simp only [hge, cond_true, hat, Option.bind_some, hc])]
      simp [colF, bne, hc]
    | false =>
      rw [iterW_inl (y := ((x0 + (y : Int) * r.width - r.width, ()), ())) (by
        unfold movesFilled_L1
        simp only [hge, cond_true, hat, Option.bind_some, hc, cond_false]
        rw [w64_id (n := x0 + (y : Int) * r.width - r.2.1) (by show _ ≤ x0 + (y : Int) * r.width - r.width; omega) (by show x0 + (y : Int) * r.width - r.width ≤ _; omega)]), filled_iter h hx y (by omega)]
      simp [colF, bne, hc]
theorem filled_spec {r : Rules} {p : Place} (h : Valid r p) {s : Int} (h0 : 0 ≤ s) (h1 : s < r.width * r.height) : movesFilled r p s = some (filledB r p s) := by
  have hr := h.r0
  have := hr.w8; have := hr.h8; have := hr.w1; have := hr.h1
  have ha := hr.area
  have hd := div_rng hr h0 h1
  have e := div_eq hr.w1 h0
  unfold movesFilled filledB
  rw [w64_id (n := s - r.2.1) (by show _ ≤ s - r.width; omega) (by show s - r.width ≤ _; omega)]
  have := filled_iter h hd.1 (s.tdiv r.width).toNat (by omega)
  rw [← e] at this
  exact this
def putOk (r : Rules) (p : Place) (s : Int) : Bool := (cellI p s == 0) && (!r.falls || filledB r p s)
def putsAt (r : Rules) (p : Place) (s : Nat) : List Mv := bif putOk r p (s : Int) then (List.range (handOf p).length).flatMap (fun k : Nat => bif decide (handI p (k : Int) > 0) then [((-1 : Int), ((s : Int), ((k : Int), ())))] else []) else []
theorem fm_len1 {A : Type} (n : Nat) (F : Nat → List A) (h : ∀ k, (F k).length ≤ 1) : ((List.range n).flatMap F).length ≤ n := by
  have := flatMap_len F 1 (List.range n) (fun k _ => h k)
  simpa using this
theorem putsAt_len {r : Rules} {p : Place} (h : Valid r p) (s : Nat) : (putsAt r p s).length ≤ 6 := by
  unfold putsAt
  cases putOk r p (s : Int)
  · simp
  · rw [cond_true]
    refine Nat.le_trans (fm_len1 _ _ fun k => ?_) (by rw [hand_len h]; exact h.r0.t6)
    cases decide (handI p (k : Int) > 0) <;> simp
theorem area_len {r : Rules} {p : Place} (h : Valid r p) : p.1.length ≤ 64 := by
  have := h.cells
  have := h.r0.area
  have h1 : ((p.1.length : Nat) : Int) = r.width * r.height := h.cells
  omega
theorem puts_spec {r : Rules} {p : Place} (h : Valid r p) : movesPuts r p = some ((List.range p.1.length).flatMap (putsAt r p)) := by
  have hr := h.r0
  have := hr.w8; have := hr.h8; have := hr.w1; have := hr.h1
  have ha := hr.area
  have hlen : ((p.1.length : Nat) : Int) = r.width * r.height := h.cells
  have h64 := area_len h
  have hh : (handOf p).length ≤ 6 := by rw [hand_len h]; exact hr.t6
  unfold movesPuts
  rw [iter_app (A := Mv) p.1.length 6 (movesPuts_L1 p r) (putsAt r p) (fun a => ((a, ()), ())) [] (fun i _ => putsAt_len h i) (fun i hi a hal => ?_) (fun a => ?_)]
  · simp
  · unfold movesPuts_L1
    have c1 : decide ((i : Int) < ((p.1.length : Nat) : Int)) = true := by simp; omega
    have hat := at_cell (p := p) (s := (i : Int)) (by omega) (by show (i : Int) < ((p.1.length : Nat) : Int); omega)
    simp only [c1, cond_true, hat, Option.bind_some]
    have hf := filled_spec h (s := (i : Int)) (by omega) (by omega)
    have hfil : (i : Int) < r.width → filledB r p (i : Int) = true := fun hlt => by
      unfold filledB
      rw [Int.tdiv_eq_ediv_of_nonneg (by omega), Int.ediv_eq_zero_of_lt (by omega) hlt]
      rfl
    rw [hf]
    have hg : ∀ b c : Bool, gopt b false (some c) = some (b && c) := fun b c => by cases b <;> rfl
    rw [hg, Option.bind_some]
    have hcond : ((cellI p (i : Int) != (0 : Int)) || ((r.2.2.2.2.2.1 && (decide ((i : Int) ≥ r.2.1))) && (!(((r.2.2.2.2.2.1 && (decide ((i : Int) ≥ r.2.1))) && (!(cellI p (i : Int) != (0 : Int)))) && filledB r p (i : Int))))) = !putOk r p (i : Int) := by
      unfold putOk
      rw [show r.2.2.2.2.2.1 = r.falls from rfl]
      by_cases hlt : (i : Int) < r.width
      · rw [hfil hlt, show decide ((i : Int) ≥ r.2.1) = false by simp; exact hlt]
        simp only [bne]
        cases (cellI p (i : Int) == 0) <;> cases r.falls <;> rfl
      · rw [show decide ((i : Int) ≥ r.2.1) = true by simp; show r.width ≤ (i : Int); omega]
        simp only [bne]
        cases (cellI p (i : Int) == 0) <;> cases r.falls <;> cases filledB r p (i : Int) <;> rfl
    rw [hcond, w64_id (n := (i : Int) + 1) (by omega) (by omega)]
    unfold putsAt
    cases hp : putOk r p (i : Int) with
    | false => simp
    | true =>
      have hin : inb p.2.2.1 2 = true := inb_iff.2 (by have := h.turn; show 0 ≤ p.turn ∧ p.turn < ((2 : Nat) : Int); omega)
      simp only [Bool.not_true, cond_false, cond_true, hin, req_true]
      rw [iter_app (A := Mv) (handOf p).length 1 (movesPuts_L2 p ((a, (i : Int), ()), ())) (fun k => bif decide (handI p (k : Int) > 0) then [((-1 : Int), ((i : Int), ((k : Int), ())))] else []) (fun a => ((a, ()), ())) a (fun k _ => by cases decide (handI p (k : Int) > 0) <;> simp) (fun k hk a2 ha2 => ?_) (fun a2 => ?_)]
      · rfl
      · unfold movesPuts_L2
        have c2 : decide ((k : Int) < (((getD' [p.2.1.1, p.2.1.2.1] (p.2.2.1).toNat []).length : Nat) : Int)) = true := by
          have : k < (getD' [p.2.1.1, p.2.1.2.1] (p.2.2.1).toNat []).length := hk
          simp; exact this
        have hat2 := at_hand (p := p) (k := (k : Int)) (by omega) (by omega)
        simp only [c2, cond_true, hat2, Option.bind_some]
        rw [w64_id (n := (k : Int) + 1) (by omega) (by omega)]
        cases decide (handI p (k : Int) > 0)
        · simp
        · have hroom : room (a2.length + [((-1 : Int), ((i : Int), ((k : Int), ())))].length) 24 = true := room_ok (by
            simp only [List.length_singleton, List.length_nil] at *
            have : i * 6 ≤ 64 * 6 := Nat.mul_le_mul_right _ (by omega)
            omega)
          simp only [cond_true, hroom, req_true, Option.bind_some]
      · unfold movesPuts_L2
        have c2 : decide ((((handOf p).length : Nat) : Int) < (((getD' [p.2.1.1, p.2.1.2.1] (p.2.2.1).toNat []).length : Nat) : Int)) = false := by
          show decide ((((handOf p).length : Nat) : Int) < (((handOf p).length : Nat) : Int)) = false
          simp
        simp only [c2, cond_false]
  · unfold movesPuts_L1
    simp

/-! ### moves of pieces -/
def lastB (r : Rules) (pl t : Int) : Bool := bif pl == 0 then t.tdiv r.width == r.height - 1 else t.tdiv r.width == 0
theorem isLast_spec {r : Rules} (hr : VR0 r) (pl : Int) {t : Int} (h0 : 0 ≤ t) (h1 : t < r.width * r.height) : rulesIsLast r pl t = some (lastB r pl t) := by
  have := hr.w8; have := hr.h8; have := hr.w1; have := hr.h1
  have hd := div_rng hr h0 h1
  have hq : (r.2.1 != 0) = true := bne_t (by show ¬ r.width = 0; omega)
  have w1 : w64 (t.tdiv r.2.1) = t.tdiv r.width := w64_id (by show _ ≤ t.tdiv r.width; omega) (by show t.tdiv r.width ≤ _; omega)
  have w2 : w64 (r.2.2.1 - 1) = r.height - 1 := w64_id (by show _ ≤ r.height - 1; omega) (by show r.height - 1 ≤ _; omega)
  unfold rulesIsLast lastB
  rw [hq, req_true, req_true, w1, w2]
  exact cond_some _ _ _
def pieceI (r : Rules) (k : Int) : Piece := r.pieces.getD k.toNat (0, 0, 0, [], ())
theorem at_piece {r : Rules} {k : Int} (h0 : 0 ≤ k) (h1 : k < ((r.pieces.length : Nat) : Int)) : at? r.2.2.2.1 k = some (pieceI r k) ∧ pieceI r k ∈ r.pieces := by
  have h1' : k < ((r.2.2.2.1.length : Nat) : Int) := h1
  rw [at?_eq r.2.2.2.1 k h0 h1]
  unfold pieceI
  rw [List.getD_eq_getElem?_getD, List.getElem?_eq_getElem (by show k.toNat < r.2.2.2.1.length; omega)]
  exact ⟨rfl, List.getElem_mem _⟩
def kindOf (c : Int) : Int := (c - 1).tdiv 2
theorem kind_rng {r : Rules} {p : Place} (h : Valid r p) {s : Int} (hm : cellI p s > 0) : w64 ((w64 (cellI p s - 1)).tdiv 2) = kindOf (cellI p s) ∧ 0 ≤ kindOf (cellI p s) ∧ kindOf (cellI p s) < ((r.pieces.length : Nat) : Int) := by
  have hc := cell_rng h s
  have ht := h.r0.t6
  rw [w64_id (n := cellI p s - 1) (by omega) (by omega)]
  unfold kindOf
  rw [Int.tdiv_eq_ediv_of_nonneg (by omega)]
  refine ⟨w64_id (by omega) (by omega), by omega, by omega⟩
def becomes (r : Rules) (p : Place) (k t : Int) : Int := bif decide ((pieceI r k).2.2.1 > 0) && lastB r p.turn t then (pieceI r k).2.2.1 - 1 else k
def goAt (r : Rules) (p : Place) (s : Nat) : List Mv := bif mineB p (cellI p (s : Int)) then (pieceI r (kindOf (cellI p (s : Int)))).2.2.2.1.flatMap (fun w => (wayS r p (s : Int) w).map fun t => ((s : Int), (t, (becomes r p (kindOf (cellI p (s : Int))) t, ())))) else []
theorem flatMap_range {A C : Type} (l : List C) (F : C → List A) (d : C) : (List.range l.length).flatMap (fun i => F (l.getD i d)) = l.flatMap F := by
  induction l with
  | nil => rfl
  | cons x l ih =>
    rw [List.length_cons, List.range_succ_eq_map, List.flatMap_cons, List.flatMap_cons, List.flatMap_map]
    have e : (fun a => F ((x :: l).getD a.succ d)) = fun i => F (l.getD i d) := by funext i; simp
    rw [e, ih]
    rfl
theorem map_range {A C : Type} (l : List C) (F : C → A) (d : C) : (List.range l.length).flatMap (fun i => [F (l.getD i d)]) = l.map F := by
  rw [flatMap_range l (fun x => [F x]) d]
  induction l with
  | nil => rfl
  | cons x l ih => rw [List.flatMap_cons, List.map_cons, ih]; rfl
theorem way_len {r : Rules} {p : Place} {s : Int} {w : RWay} (hw : WayOk w) : (wayS r p s w).length ≤ 7 := by
  obtain ⟨_, _, _, h4, _⟩ := hw
  exact Nat.le_trans (wayL_len _ _ _ _ _ _) (by omega)
theorem goAt_len {r : Rules} {p : Place} (h : Valid r p) (s : Nat) : (goAt r p s).length ≤ 112 := by
  unfold goAt
  cases hm : mineB p (cellI p (s : Int)) with
  | false => simp
  | true =>
    have hc : cellI p (s : Int) > 0 := by unfold mineB at hm; simp at hm; exact hm.1
    have hk := kind_rng h hc
    have hmem := (at_piece (r := r) hk.2.1 hk.2.2).2
    rw [cond_true]
    refine Nat.le_trans (flatMap_len _ 7 _ fun w hw => ?_) ?_
    · rw [List.length_map]; exact way_len (h.wayOk hmem hw)
    · have := h.r0.ways _ hmem
      omega
def movesRaw (r : Rules) (p : Place) : List Mv := (List.range p.1.length).flatMap (putsAt r p) ++ (List.range p.1.length).flatMap (goAt r p)
theorem list_raw {r : Rules} {p : Place} (h : Valid r p) : iterW (movesList_L1 p r) (((List.range p.1.length).flatMap (putsAt r p), (0 : Int), ()), ()) = some ((movesRaw r p, ()), ()) := by
  have hr := h.r0
  have := hr.w8; have := hr.h8; have := hr.w1; have := hr.h1
  have ha := hr.area
  have hlen : ((p.1.length : Nat) : Int) = r.width * r.height := h.cells
  have h64 := area_len h
  have hpl : ((List.range p.1.length).flatMap (putsAt r p)).length ≤ 64 * 6 := by
    refine Nat.le_trans (flatMap_len _ 6 _ fun i _ => putsAt_len h i) ?_
    rw [List.length_range]; exact Nat.mul_le_mul_right _ h64
  unfold movesRaw
  generalize (List.range p.1.length).flatMap (putsAt r p) = pl at hpl
  refine iter_app (A := Mv) p.1.length 112 (movesList_L1 p r) (goAt r p) (fun a => ((a, ()), ())) pl (fun i _ => goAt_len h i) (fun i hi a hal => ?_) (fun a => ?_)
  · have hal2 : a.length ≤ 64 * 6 + 64 * 112 := by
      have : i * 112 ≤ 64 * 112 := Nat.mul_le_mul_right _ (by omega)
      omega
    unfold movesList_L1
    have c1 : decide ((i : Int) < ((p.1.length : Nat) : Int)) = true := by simp; omega
    have hat := at_cell (p := p) (s := (i : Int)) (by omega) (by show (i : Int) < ((p.1.length : Nat) : Int); omega)
    have hc := cell_small h (i : Int)
    have hi2 : (i : Int) < r.width * r.height := by omega
    simp only [c1, cond_true, hat, Option.bind_some, show ∀ b, imp b true = true from fun b => by cases b <;> rfl, req_true]
    have hcond : ((cellI p (i : Int) == (0 : Int)) || (((w64 (cellI p (i : Int) - (1 : Int))).tmod (2 : Int)) != p.2.2.1)) = !mineB p (cellI p (i : Int)) := by
      rw [w64_id (n := cellI p (i : Int) - 1) (by omega) (by omega)]
      unfold mineB
      rw [show p.turn = p.2.2.1 from rfl]
      by_cases hz : cellI p (i : Int) = 0
      · simp [hz]
      · rw [beq_f hz, show decide (cellI p (i : Int) > 0) = true by simp; omega]
        simp [bne]
    rw [hcond, w64_id (n := (i : Int) + 1) (by omega) (by omega)]
    unfold goAt
    cases hm : mineB p (cellI p (i : Int)) with
    | false => simp
    | true =>
      have hcp : cellI p (i : Int) > 0 := by unfold mineB at hm; simp at hm; exact hm.1
      have hk := kind_rng h hcp
      obtain ⟨hpa, hmem⟩ := at_piece (r := r) hk.2.1 hk.2.2
      simp only [Bool.not_true, cond_false, hk.1, hpa, Option.bind_some, cond_true]
      generalize hK : kindOf (cellI p (i : Int)) = K at *
      have hways := h.r0.ways _ hmem
      have hWl : (pieceI r K).2.2.2.1.length ≤ 16 := hways
      rw [iter_app (A := Mv) (pieceI r K).2.2.2.1.length 7 (movesList_L2 (pieceI r K) r p ((a, (i : Int), ()), ()) (cellI p (i : Int))) (fun j => (wayS r p (i : Int) ((pieceI r K).2.2.2.1.getD j (0, 0, 0, 0, ()))).map fun t => ((i : Int), (t, (becomes r p K t, ())))) (fun a => ((a, ()), ())) a (fun j hj => ?_) (fun j hj a2 ha2 => ?_) (fun a2 => ?_)]
      · rw [flatMap_range (pieceI r K).2.2.2.1 (fun w => (wayS r p (i : Int) w).map fun t => ((i : Int), (t, (becomes r p K t, ())))) (0, 0, 0, 0, ())]
        rfl
      · rw [List.length_map, List.getD_eq_getElem?_getD, List.getElem?_eq_getElem hj]
        exact way_len (h.wayOk hmem (List.getElem_mem hj))
      · have ha22 : a2.length ≤ 64 * 6 + 64 * 112 + 112 := by
          have : j * 7 ≤ 16 * 7 := Nat.mul_le_mul_right _ (by omega)
          omega
        unfold movesList_L2
        have c2 : decide ((j : Int) < (((pieceI r K).2.2.2.1.length : Nat) : Int)) = true := by simp; omega
        have hatw : at? (pieceI r K).2.2.2.1 (j : Int) = some ((pieceI r K).2.2.2.1.getD j (0, 0, 0, 0, ())) := by
          rw [at?_eq _ _ (by omega) (by omega), List.getD_eq_getElem?_getD, List.getElem?_eq_getElem hj]; rfl
        have hwm : (pieceI r K).2.2.2.1.getD j (0, 0, 0, 0, ()) ∈ (pieceI r K).2.2.2.1 := by
          rw [List.getD_eq_getElem?_getD, List.getElem?_eq_getElem hj]; exact List.getElem_mem hj
        have hwo := h.wayOk hmem hwm
        simp only [c2, cond_true, hatw, Option.bind_some]
        generalize (pieceI r K).2.2.2.1.getD j (0, 0, 0, 0, ()) = w at *
        rw [way_spec h hwo (by omega) hi2, Option.bind_some]
        have hwl := way_len (r := r) (p := p) (s := (i : Int)) hwo
        have hwr : ∀ t ∈ wayS r p (i : Int) w, 0 ≤ t ∧ t < r.width * r.height := fun t ht => way_mem_rng hr ht
        generalize wayS r p (i : Int) w = T at *
        rw [iter_app (A := Mv) T.length 1 (movesList_L3 T r (cellI p (i : Int)) p ((a, (i : Int), ()), ())) (fun t => [((i : Int), (T.getD t 0, (becomes r p K (T.getD t 0), ())))]) (fun a => ((a, ()), ())) a2 (fun _ _ => by simp) (fun t ht a3 ha3 => ?_) (fun a3 => ?_)]
        · rw [map_range T (fun t => ((i : Int), (t, (becomes r p K t, ())))) 0]
          simp only [Option.bind_some]
          rw [w64_id (n := (j : Int) + 1) (by omega) (by omega)]
        · unfold movesList_L3
          have c3 : decide ((t : Int) < ((T.length : Nat) : Int)) = true := by simp; omega
          have c4 : inb (t : Int) T.length = true := inb_iff.2 ⟨by omega, by omega⟩
          have hg : getD' T t (0 : Int) = T.getD t 0 := rfl
          have htr := hwr (T.getD t 0) (by rw [List.getD_eq_getElem?_getD, List.getElem?_eq_getElem ht]; exact List.getElem_mem ht)
          simp only [c3, cond_true, c4, req_true, hk.1, hpa, Option.bind_some, Int.toNat_natCast, hg]
          generalize T.getD t 0 = tt at *
          rw [isLast_spec hr p.2.2.1 htr.1 htr.2]
          have hpr := h.r0.prom _ hmem
          have ht6 := h.r0.t6
          have hgo : ∀ b c : Bool, gopt b false (some c) = some (b && c) := fun b c => by cases b <;> rfl
          rw [hgo, Option.bind_some, w64_id (n := (pieceI r K).2.2.1 - 1) (by omega) (by omega), w64_id (n := (t : Int) + 1) (by omega) (by omega)]
          unfold becomes
          rw [show p.turn = p.2.2.1 from rfl]
          have hroom : room (a3.length + 1) 24 = true := room_ok (by omega)
          cases decide ((pieceI r K).2.2.1 > 0) <;> cases lastB r p.2.2.1 tt <;> simp [hroom, req_true]
        · unfold movesList_L3
          simp
      · unfold movesList_L2
        simp
  · unfold movesList_L1
    simp
theorem raw_len {r : Rules} {p : Place} (h : Valid r p) : (movesRaw r p).length ≤ 10000 := by
  have h64 := area_len h
  unfold movesRaw
  rw [List.length_append]
  have h1 : ((List.range p.1.length).flatMap (putsAt r p)).length ≤ 64 * 6 := by
    refine Nat.le_trans (flatMap_len _ 6 _ fun i _ => putsAt_len h i) ?_
    rw [List.length_range]; exact Nat.mul_le_mul_right _ h64
  have h2 : ((List.range p.1.length).flatMap (goAt r p)).length ≤ 64 * 112 := by
    refine Nat.le_trans (flatMap_len _ 112 _ fun i _ => goAt_len h i) ?_
    rw [List.length_range]; exact Nat.mul_le_mul_right _ h64
  omega
theorem list_dd {r : Rules} {p : Place} (h : Valid r p) : movesList r p = some (dd (sortMoves (movesRaw r p))) := by
  unfold movesList
  rw [puts_spec h, Option.bind_some, list_raw h, Option.bind_some]
  have hl := raw_len h
  have hb : Nat.blt (movesRaw r p).length 4611686018427387904 = true := by
    rw [Nat.blt_eq]; omega
  simp only [hb, req_true]
  have hs := sort_len (movesRaw r p)
  generalize sortMoves (movesRaw r p) = xs at hs
  by_cases h2 : xs.length < 2
  · have c : decide (((xs.length : Nat) : Int) < 2) = true := by simp; omega
    rw [c, cond_true]
    have : dd xs = xs := by
      match xs, h2 with
      | [], _ => rfl
      | [x], _ => rfl
    rw [this]; rfl
  · have c : decide (((xs.length : Nat) : Int) < 2) = false := by simp; omega
    rw [c, cond_false, compact4 xs (by omega) (by omega)]
    rfl
end Go.Proofs.Ytfppnefcicdnfaa
namespace Go.Proofs.Ytfppnefcicdnfaa
open Go.Den
set_option linter.unusedVariables false
set_option linter.unusedSimpArgs false
set_option maxRecDepth 100000

theorem iter_appO {A R : Type} (n B : Nat) (c : Int) (f : (((List A) × Int × Unit) × Unit) → Option ((((List A) × Int × Unit) × Unit) ⊕ R)) (F : Nat → List A) (fin : List A → R) (a0 : List A) (hF : ∀ i, i < n → (F i).length ≤ B)
    (hs : ∀ i, i < n → ∀ a : List A, a.length ≤ a0.length + i * B → f ((a, c + (i : Int), ()), ()) = some (.inl ((a ++ F i, c + (i : Int) + 1, ()), ()))) (he : ∀ a, f ((a, c + (n : Int), ()), ()) = some (.inr (fin a))) :
    iterW f ((a0, c, ()), ()) = some (fin (a0 ++ (List.range n).flatMap F)) := by
  have hl : ∀ i, i ≤ n → (a0 ++ (List.range i).flatMap F).length ≤ a0.length + i * B := fun i hi => by
    have := flatMap_len F B (List.range i) (fun x hx => hF x (by rw [List.mem_range] at hx; omega))
    rw [List.length_range] at this
    rw [List.length_append]
    omega
  have := iterW_states (f := f) n (fun i => ((a0 ++ (List.range i).flatMap F, c + (i : Int), ()), ())) (fin (a0 ++ (List.range n).flatMap F)) (fun i hi => by
    rw [hs i hi _ (hl i (by omega)), List.range_succ, List.flatMap_append, ← List.append_assoc]
    simp [Int.add_assoc]) (he _)
  simpa using this

def mvOk (r : Rules) (p : Place) (m : Mv) : Bool := decide ((-1 ≤ m.1 ∧ m.1 < ((p.1.length : Nat) : Int)) ∧ (0 ≤ m.2.1 ∧ m.2.1 < ((p.1.length : Nat) : Int)) ∧ (0 ≤ m.2.2.1 ∧ m.2.2.1 < ((r.pieces.length : Nat) : Int)))
def goOk (r : Rules) (p : Place) (m : Mv) : Bool := mineB p (cellI p m.1) && ((becomes r p (kindOf (cellI p m.1)) m.2.1 == m.2.2.1) && (pieceI r (kindOf (cellI p m.1))).2.2.2.1.any (fun w => decide (m.2.1 ∈ wayS r p m.1 w)))
def allowedB (r : Rules) (p : Place) (m : Mv) : Bool := mvOk r p m && (bif m.1 == -1 then decide (handI p m.2.2.1 > 0) && putOk r p m.2.1 else goOk r p m)
def colFrom (p : Place) (W x0 : Int) : Nat → Nat → Bool
  | _, 0 => true
  | i, n + 1 => (cellI p (x0 + (i : Int) * W) != 0) && colFrom p W x0 (i + 1) n
theorem colFrom_any (p : Place) (W x0 : Int) : ∀ n i, colFrom p W x0 i n = !((List.range n).any fun j => cellI p (x0 + ((i + j : Nat) : Int) * W) == 0)
  | 0, i => rfl
  | n + 1, i => by
    rw [colFrom, colFrom_any p W x0 n (i + 1), List.range_succ_eq_map, List.any_cons, List.any_map, Bool.not_or]
    have e : ((fun j => cellI p (x0 + ((i + j : Nat) : Int) * W) == 0) ∘ Nat.succ) = fun j => cellI p (x0 + ((i + 1 + j : Nat) : Int) * W) == 0 := by
      funext j
      simp only [Function.comp]
      rw [show i + j.succ = i + 1 + j by omega]
    rw [e]
    rfl
theorem colFrom_colF (p : Place) (W x0 : Int) (y : Nat) : colFrom p W x0 0 y = colF p W x0 y := by
  rw [colFrom_any, colF_any]
  simp
theorem up_iter {r : Rules} {p : Place} (h : Valid r p) {m : Mv} (hf : r.falls = true) (h0 : 0 ≤ m.2.1) (h1 : m.2.1 < r.width * r.height) : ∀ (n i : Nat), (i : Int) + n = m.2.1.tdiv r.width →
    (Option.bind (α := ((Unit) × (Unit)) ⊕ Bool) (iterW (ref1Allowed_L1 r m p) ((m.2.1.tmod r.width + (i : Int) * r.width, ()), ())) (Sum.elim (fun x11 => some true) some)) = some (colFrom p r.width (m.2.1.tmod r.width) i n)
  | 0, i, hi => by
    have e := Int.tmod_add_tdiv_mul m.2.1 r.width
    rw [iterW_inr (r := .inl ((), ())) (by
      unfold ref1Allowed_L1
      have : decide (m.2.1.tmod r.width + (i : Int) * r.width < m.2.1) = false := by
        rw [decide_eq_false_iff_not, show (i : Int) = m.2.1.tdiv r.width by omega]; omega
      simp only [this, Bool.and_false, cond_false])]
    rfl
  | n + 1, i, hi => by
    have hr := h.r0
    have := hr.w8; have := hr.h8; have := hr.w1; have := hr.h1
    have ha := hr.area
    have hd := div_rng hr h0 h1
    have e := Int.tmod_add_tdiv_mul m.2.1 r.width
    have hb : onB r (m.2.1.tmod r.width) (i : Int) = true := onB_iff.2 ⟨hd.1.1, hd.1.2, by omega, by omega⟩
    have hs := sq_rng hr hb
    unfold sq at hs
    have hle : ((i : Int) + 1) * r.width ≤ m.2.1.tdiv r.width * r.width := Int.mul_le_mul_of_nonneg_right (by omega) (by omega)
    rw [Int.add_mul, Int.one_mul] at hle
    have hlt : (r.2.2.2.2.2.1 && decide (m.2.1.tmod r.width + (i : Int) * r.width < m.2.1)) = true := by
      rw [show r.2.2.2.2.2.1 = true from hf, Bool.true_and, decide_eq_true_eq]; omega
    have hat := at_cell (p := p) (s := m.2.1.tmod r.width + (i : Int) * r.width) (by omega) (by rw [h.cells]; omega)
    cases hc : (cellI p (m.2.1.tmod r.width + (i : Int) * r.width) == 0) with
    | true =>
      rw [iterW_inr (r := .inr false) (by
        unfold ref1Allowed_L1
        simp only [hlt, cond_true, hat, Option.bind_some, hc])]
      simp [colFrom, bne, hc]
    | false =>
      have w1 : w64 (m.2.1.tmod r.width + (i : Int) * r.width + r.2.1) = m.2.1.tmod r.width + ((i + 1 : Nat) : Int) * r.width := by
        rw [show ((i + 1 : Nat) : Int) = (i : Int) + 1 by omega, Int.add_mul, Int.one_mul]
        rw [w64_id (by show _ ≤ m.2.1.tmod r.width + (i : Int) * r.width + r.width; omega) (by show m.2.1.tmod r.width + (i : Int) * r.width + r.width ≤ _; omega)]
        show m.2.1.tmod r.width + (i : Int) * r.width + r.width = _
        omega
      rw [iterW_inl (y := ((m.2.1.tmod r.width + ((i + 1 : Nat) : Int) * r.width, ()), ())) (by
        unfold ref1Allowed_L1
        simp only [hlt, cond_true, hat, Option.bind_some, hc, cond_false, w1])]
      rw [up_iter h hf h0 h1 n (i + 1) (by omega)]
      simp [colFrom, bne, hc]
theorem far_eq {r : Rules} {p : Place} (h : Valid r p) {t : Int} (h0 : 0 ≤ t) (h1 : t < r.width * r.height) : ref1Far r p.2.2.1 (w64 (t.tdiv r.2.1)) = lastB r p.turn t := by
  have hr := h.r0
  have := hr.w8; have := hr.h8; have := hr.w1; have := hr.h1
  have hd := div_rng hr h0 h1
  have w1 : w64 (t.tdiv r.2.1) = t.tdiv r.width := w64_id (by show _ ≤ t.tdiv r.width; omega) (by show t.tdiv r.width ≤ _; omega)
  have w2 : w64 (r.2.2.1 - 1) = r.height - 1 := w64_id (by show _ ≤ r.height - 1; omega) (by show r.height - 1 ≤ _; omega)
  unfold ref1Far lastB
  rw [w1, w2, show p.2.2.1 = p.turn from rfl]
  rcases h.turn with e | e <;> rw [e] <;> simp
theorem allowed_spec {r : Rules} {p : Place} (h : Valid r p) (m : Mv) : ref1Allowed r p m = some (allowedB r p m) := by
  have hr := h.r0
  have := hr.w8; have := hr.h8; have := hr.w1; have := hr.h1
  have ha := hr.area
  have hlen : ((p.1.length : Nat) : Int) = r.width * r.height := h.cells
  have ht6 : r.2.2.2.1.length ≤ 6 := hr.t6
  unfold ref1Allowed allowedB
  rw [w64_id (n := ((p.1.length : Nat) : Int) - 1) (by omega) (by omega), w64_id (n := ((r.2.2.2.1.length : Nat) : Int) - 1) (by omega) (by omega)]
  have hcond : (((!(ref1In m.1 (-1 : Int) (((p.1.length : Nat) : Int) - (1 : Int)))) || (!(ref1In m.2.1 (0 : Int) (((p.1.length : Nat) : Int) - (1 : Int))))) || (!(ref1In m.2.2.1 (0 : Int) (((r.2.2.2.1.length : Nat) : Int) - (1 : Int))))) = !mvOk r p m := by
    unfold ref1In mvOk
    rw [Bool.eq_iff_iff]
    simp only [Bool.or_eq_true, Bool.not_eq_true', Bool.and_eq_false_iff, decide_eq_false_iff_not]
    show _ ↔ ¬ ((-1 ≤ m.1 ∧ m.1 < ((p.1.length : Nat) : Int)) ∧ (0 ≤ m.2.1 ∧ m.2.1 < ((p.1.length : Nat) : Int)) ∧ (0 ≤ m.2.2.1 ∧ m.2.2.1 < ((r.2.2.2.1.length : Nat) : Int)))
    omega
  rw [hcond]
  cases hok : mvOk r p m with
  | false => rfl
  | true =>
    unfold mvOk at hok
    rw [decide_eq_true_eq] at hok
    obtain ⟨⟨a1, a2⟩, ⟨b1, b2⟩, c1, c2⟩ := hok
    rw [Bool.not_true, cond_false, Bool.true_and]
    have hb2 : m.2.1 < r.width * r.height := by omega
    have hq : (r.2.1 != 0) = true := bne_t (by show ¬ r.width = 0; omega)
    by_cases hm : m.1 = -1
    · rw [beq_t hm, cond_true, cond_true]
      have hin : inb p.2.2.1 2 = true := inb_iff.2 (by have := h.turn; show 0 ≤ p.turn ∧ p.turn < ((2 : Nat) : Int); omega)
      have hh := at_hand (p := p) (k := m.2.2.1) c1 (by rw [hand_len h]; exact c2)
      have hhr := handI_rng h m.2.2.1
      have hat := at_cell (p := p) (s := m.2.1) b1 b2
      have hga : ∀ b : Bool, gat b (0 : Int) p.1 m.2.1 = some (bif b then cellI p m.2.1 else 0) := fun b => by
        cases b
        · rfl
        · exact hat
      rw [hin, req_true, hh, Option.bind_some, hga, Option.bind_some]
      by_cases hz : handI p m.2.2.1 = 0
      · simp [hz]
      · have hpos : decide (handI p m.2.2.1 > 0) = true := by simp; omega
        rw [beq_f hz, hpos, Bool.not_false, cond_true, Bool.false_or, Bool.true_and]
        unfold putOk
        cases hc : (cellI p m.2.1 == 0) with
        | false => simp [bne, hc]
        | true =>
          have hne : (cellI p m.2.1 != 0) = false := by simp only [bne, hc]; rfl
          rw [hne, cond_false, hq, req_true, Bool.true_and]
          cases hf : r.falls with
          | false =>
            rw [iterW_inr (r := .inl ((), ())) (by
              unfold ref1Allowed_L1
              rw [show r.2.2.2.2.2.1 = false from hf]
              rfl)]
            rfl
          | true =>
            have hd := div_rng hr b1 hb2
            have := up_iter h hf b1 hb2 (m.2.1.tdiv r.width).toNat 0 (by omega)
            rw [colFrom_colF] at this
            unfold filledB
            simpa using this
    · rw [beq_f hm, cond_false, cond_false]
      have ha1 : 0 ≤ m.1 := by omega
      have ha2 : m.1 < r.width * r.height := by omega
      have hat := at_cell (p := p) (s := m.1) ha1 a2
      have hc := cell_small h m.1
      rw [hat, Option.bind_some, refMine_spec _ _ hc.1 hc.2, Option.bind_some]
      unfold goOk
      rw [show (decide (cellI p m.1 > 0) && (cellI p m.1 - 1).tmod 2 == p.2.2.1) = mineB p (cellI p m.1) from rfl]
      cases hmine : mineB p (cellI p m.1) with
      | false => rfl
      | true =>
        have hcp : cellI p m.1 > 0 := by unfold mineB at hmine; simp at hmine; exact hmine.1
        have hk := kind_rng h hcp
        obtain ⟨hpa, hmem⟩ := at_piece (r := r) hk.2.1 hk.2.2
        rw [Bool.not_true, cond_false, hk.1, hpa, Option.bind_some, hq, far_eq h b1 hb2, Bool.true_and]
        have hpr := h.r0.prom _ hmem
        have himp : ∀ b, imp b true = true := fun b => by cases b <;> rfl
        have hbec : (bif (((pieceI r (kindOf (cellI p m.1))).2.2.1 != (0 : Int)) && lastB r p.turn m.2.1) then some (((w64 ((pieceI r (kindOf (cellI p m.1))).2.2.1 - (1 : Int))), ()), ()) else some ((kindOf (cellI p m.1), ()), ())) = some ((becomes r p (kindOf (cellI p m.1)) m.2.1, ()), ()) := by
          have ht6' := hr.t6
          unfold becomes
          rw [w64_id (by omega) (by omega)]
          by_cases hz : (pieceI r (kindOf (cellI p m.1))).2.2.1 = 0
          · simp [hz]
          · rw [bne_t hz, show decide ((pieceI r (kindOf (cellI p m.1))).2.2.1 > 0) = true by simp; omega]
            cases lastB r p.turn m.2.1 <;> rfl
        rw [himp, req_true, hbec, Option.bind_some]
        simp only [bne]
        cases hb : (becomes r p (kindOf (cellI p m.1)) m.2.1 == m.2.2.1) with
        | false => rfl
        | true =>
          rw [Bool.not_true, cond_false, Option.bind_some, Bool.true_and]
          generalize hP : pieceI r (kindOf (cellI p m.1)) = P at *
          have hw16 := hr.ways P hmem
          have hL := iterW_any P.2.2.2.1 (fun w => decide (m.2.1 ∈ wayS r p m.1 w)) (ref1Allowed_L2 P r p m) (.inr true) (.inl ((), ())) (fun i hi => by
            unfold ref1Allowed_L2
            simp only [show decide ((i : Int) < ((P.2.2.2.1.length : Nat) : Int)) = true by simp; omega, cond_true]
            rw [at?_eq _ _ (by omega) (by omega), Option.bind_some]
            simp only [Int.toNat_natCast]
            rw [reach_spec h (h.wayOk hmem (List.getElem_mem hi)) ha1 ha2, Option.bind_some, w64_id (n := (i : Int) + 1) (by omega) (by omega)]
            cases decide (m.2.1 ∈ wayS r p m.1 P.2.2.2.1[i]) <;> rfl) (by
            unfold ref1Allowed_L2
            simp)
          rw [hL]
          cases P.2.2.2.1.any (fun w => decide (m.2.1 ∈ wayS r p m.1 w)) <;> rfl
def at3 (r : Rules) (p : Place) (i j k : Nat) : List Mv := bif allowedB r p ((i : Int) - 1, ((j : Int), ((k : Int), ()))) then [((i : Int) - 1, ((j : Int), ((k : Int), ())))] else []
def at2 (r : Rules) (p : Place) (i j : Nat) : List Mv := (List.range r.2.2.2.1.length).flatMap (at3 r p i j)
def at1 (r : Rules) (p : Place) (i : Nat) : List Mv := (List.range p.1.length).flatMap (at2 r p i)
/-- the moves of a valid position -/
def movesOf (r : Rules) (p : Place) : List Mv := (List.range (p.1.length + 1)).flatMap (at1 r p)
theorem at3_len (r : Rules) (p : Place) (i j k : Nat) : (at3 r p i j k).length ≤ 1 := by unfold at3; cases allowedB r p ((i : Int) - 1, ((j : Int), ((k : Int), ()))) <;> simp
theorem at2_len {r : Rules} {p : Place} (h : Valid r p) (i j : Nat) : (at2 r p i j).length ≤ 6 := Nat.le_trans (fm_len1 _ _ (at3_len r p i j)) h.r0.t6
theorem at1_len {r : Rules} {p : Place} (h : Valid r p) (i : Nat) : (at1 r p i).length ≤ 384 := by
  refine Nat.le_trans (flatMap_len _ 6 _ fun j _ => at2_len h i j) ?_
  have := area_len h
  rw [List.length_range]; omega
theorem refMoves_spec {r : Rules} {p : Place} (h : Valid r p) : ref1Moves r p = some (movesOf r p) := by
  have h64 := area_len h
  have ht6 : r.2.2.2.1.length ≤ 6 := h.r0.t6
  unfold ref1Moves
  rw [iter_appO (A := Mv) (p.1.length + 1) 384 (-1) (ref1Moves_L1 p r) (at1 r p) (fun a => ((a, ()), ())) [] (fun i _ => at1_len h i) (fun i hi a hal => ?_) (fun a => ?_)]
  · rfl
  · have hal2 : a.length ≤ 65 * 384 := by
      have : i * 384 ≤ 65 * 384 := Nat.mul_le_mul_right _ (by omega)
      simp only [List.length_nil] at hal; omega
    unfold ref1Moves_L1
    simp only [show decide ((-1 : Int) + (i : Int) < ((p.1.length : Nat) : Int)) = true by simp; omega, cond_true]
    rw [iter_app (A := Mv) p.1.length 6 (ref1Moves_L2 p r ((a, (-1 : Int) + (i : Int), ()), ())) (at2 r p i) (fun a => ((a, ()), ())) a (fun j _ => at2_len h i j) (fun j hj a2 ha2 => ?_) (fun a2 => ?_)]
    · simp only [Option.bind_some]
      rw [w64_id (n := (-1 : Int) + (i : Int) + 1) (by omega) (by omega)]
      rfl
    · have ha22 : a2.length ≤ 65 * 384 + 384 := by
        have : j * 6 ≤ 64 * 6 := Nat.mul_le_mul_right _ (by omega)
        omega
      unfold ref1Moves_L2
      simp only [show decide ((j : Int) < ((p.1.length : Nat) : Int)) = true by simp; omega, cond_true]
      rw [iter_app (A := Mv) r.2.2.2.1.length 1 (ref1Moves_L3 r p ((a, (-1 : Int) + (i : Int), ()), ()) ((a2, (j : Int), ()), ())) (at3 r p i j) (fun a => ((a, ()), ())) a2 (fun k _ => at3_len r p i j k) (fun k hk a3 ha3 => ?_) (fun a3 => ?_)]
      · simp only [Option.bind_some]
        rw [w64_id (n := (j : Int) + 1) (by omega) (by omega)]
        rfl
      · unfold ref1Moves_L3
        simp only [show decide ((k : Int) < ((r.2.2.2.1.length : Nat) : Int)) = true by simp; omega, cond_true]
        rw [allowed_spec h, Option.bind_some, w64_id (n := (k : Int) + 1) (by omega) (by omega)]
        unfold at3
        rw [show (-1 : Int) + (i : Int) = (i : Int) - 1 by omega]
        have hroom : room (a3.length + 1) 24 = true := room_ok (by omega)
        cases allowedB r p ((i : Int) - 1, ((j : Int), ((k : Int), ()))) <;> simp [hroom, req_true]
      · unfold ref1Moves_L3
        simp
    · unfold ref1Moves_L2
      simp
  · unfold ref1Moves_L1
    have : decide ((-1 : Int) + ((p.1.length + 1 : Nat) : Int) < ((p.1.length : Nat) : Int)) = false := by simp; omega
    simp only [this, cond_false]
theorem pw_range (n : Nat) (F : Nat → List Mv) (h1 : ∀ i, i < n → (F i).Pairwise (fun x y => mvLt x y = true)) (h2 : ∀ i j, i < j → ∀ x ∈ F i, ∀ y ∈ F j, mvLt x y = true) : ((List.range n).flatMap F).Pairwise (fun x y => mvLt x y = true) := by
  rw [List.pairwise_flatMap]
  exact ⟨fun i hi => h1 i (List.mem_range.1 hi), List.pairwise_lt_range.imp fun hij => h2 _ _ hij⟩
theorem at3_mem {r : Rules} {p : Place} {i j k : Nat} {x : Mv} (h : x ∈ at3 r p i j k) : x = ((i : Int) - 1, ((j : Int), ((k : Int), ()))) ∧ allowedB r p x = true := by
  unfold at3 at h
  cases hb : allowedB r p ((i : Int) - 1, ((j : Int), ((k : Int), ()))) with
  | false => simp [hb] at h
  | true =>
    rw [hb, cond_true, List.mem_singleton] at h
    rw [h]; exact ⟨rfl, hb⟩
theorem at2_mem {r : Rules} {p : Place} {i j : Nat} {x : Mv} (h : x ∈ at2 r p i j) : x.1 = (i : Int) - 1 ∧ x.2.1 = (j : Int) ∧ allowedB r p x = true := by
  obtain ⟨k, _, hk⟩ := List.mem_flatMap.1 h
  obtain ⟨e, h2⟩ := at3_mem hk
  refine ⟨by rw [e], by rw [e], h2⟩
theorem at1_mem {r : Rules} {p : Place} {i : Nat} {x : Mv} (h : x ∈ at1 r p i) : x.1 = (i : Int) - 1 ∧ allowedB r p x = true := by
  obtain ⟨j, _, hj⟩ := List.mem_flatMap.1 h
  obtain ⟨h1, _, h3⟩ := at2_mem hj
  exact ⟨h1, h3⟩
theorem movesOf_mem {r : Rules} {p : Place} (x : Mv) : x ∈ movesOf r p ↔ allowedB r p x = true := by
  constructor
  · intro h
    obtain ⟨i, _, hi⟩ := List.mem_flatMap.1 h
    exact (at1_mem hi).2
  · intro h
    have hok : mvOk r p x = true := by unfold allowedB at h; simp only [Bool.and_eq_true] at h; exact h.1
    unfold mvOk at hok
    rw [decide_eq_true_eq] at hok
    obtain ⟨⟨a1, a2⟩, ⟨b1, b2⟩, c1, c2⟩ := hok
    have c2' : x.2.2.1 < ((r.2.2.2.1.length : Nat) : Int) := c2
    have e : (((((x.1 + 1).toNat : Nat) : Int) - 1, (((x.2.1.toNat : Nat) : Int), (((x.2.2.1.toNat : Nat) : Int), ()))) : Mv) = x := mv_eq (by show (((x.1 + 1).toNat : Nat) : Int) - 1 = x.1; omega) (by show ((x.2.1.toNat : Nat) : Int) = x.2.1; omega) (by show ((x.2.2.1.toNat : Nat) : Int) = x.2.2.1; omega)
    refine List.mem_flatMap.2 ⟨(x.1 + 1).toNat, List.mem_range.2 (by omega), List.mem_flatMap.2 ⟨x.2.1.toNat, List.mem_range.2 (by omega), List.mem_flatMap.2 ⟨x.2.2.1.toNat, List.mem_range.2 (by omega), ?_⟩⟩⟩
    unfold at3
    rw [e, h, cond_true, List.mem_singleton]
theorem movesOf_lt (r : Rules) (p : Place) : (movesOf r p).Pairwise (fun x y => mvLt x y = true) := by
  refine pw_range _ _ (fun i _ => pw_range _ _ (fun j _ => pw_range _ _ (fun k _ => ?_) fun k k' hk x hx y hy => ?_) fun j j' hj x hx y hy => ?_) fun i i' hi x hx y hy => ?_
  · unfold at3
    cases allowedB r p ((i : Int) - 1, ((j : Int), ((k : Int), ()))) <;> simp
  · obtain ⟨ex, _⟩ := at3_mem hx
    obtain ⟨ey, _⟩ := at3_mem hy
    have e1 : x.1 = (i : Int) - 1 := by rw [ex]
    have e2 : x.2.1 = (j : Int) := by rw [ex]
    have e3 : x.2.2.1 = (k : Int) := by rw [ex]
    have f1 : y.1 = (i : Int) - 1 := by rw [ey]
    have f2 : y.2.1 = (j : Int) := by rw [ey]
    have f3 : y.2.2.1 = (k' : Int) := by rw [ey]
    rw [lt_iff]; omega
  · obtain ⟨e1, e2, _⟩ := at2_mem hx
    obtain ⟨f1, f2, _⟩ := at2_mem hy
    rw [lt_iff]; omega
  · obtain ⟨e1, _⟩ := at1_mem hx
    obtain ⟨f1, _⟩ := at1_mem hy
    rw [lt_iff]; omega
theorem raw_mem {r : Rules} {p : Place} (h : Valid r p) (x : Mv) : x ∈ movesRaw r p ↔ allowedB r p x = true := by
  have hr := h.r0
  have hlen : ((p.1.length : Nat) : Int) = r.width * r.height := h.cells
  have hh := hand_len h
  unfold movesRaw
  rw [List.mem_append]
  constructor
  · rintro (hx | hx)
    · obtain ⟨s, hs, hx⟩ := List.mem_flatMap.1 hx
      rw [List.mem_range] at hs
      unfold putsAt at hx
      cases hp : putOk r p (s : Int) with
      | false => simp [hp] at hx
      | true =>
        rw [hp, cond_true] at hx
        obtain ⟨k, hk, hx⟩ := List.mem_flatMap.1 hx
        rw [List.mem_range] at hk
        cases hd : decide (handI p (k : Int) > 0) with
        | false => simp [hd] at hx
        | true =>
          rw [hd, cond_true, List.mem_singleton] at hx
          have hok : mvOk r p x = true := by
            unfold mvOk
            rw [decide_eq_true_eq, hx]
            simp only
            omega
          unfold allowedB
          rw [hok, Bool.true_and, hx]
          simp only [beq_t rfl, cond_true, hd, hp, Bool.and_self]
    · obtain ⟨s, hs, hx⟩ := List.mem_flatMap.1 hx
      rw [List.mem_range] at hs
      unfold goAt at hx
      cases hm : mineB p (cellI p (s : Int)) with
      | false => simp [hm] at hx
      | true =>
        have hcp : cellI p (s : Int) > 0 := by unfold mineB at hm; simp at hm; exact hm.1
        have hk := kind_rng h hcp
        obtain ⟨hpa, hmem⟩ := at_piece (r := r) hk.2.1 hk.2.2
        rw [hm, cond_true] at hx
        obtain ⟨w, hw, hx⟩ := List.mem_flatMap.1 hx
        obtain ⟨t, ht, hx⟩ := List.mem_map.1 hx
        have htr : 0 ≤ t ∧ t < r.width * r.height := way_mem_rng hr ht
        have hpr := hr.prom _ hmem
        have hbr : 0 ≤ becomes r p (kindOf (cellI p (s : Int))) t ∧ becomes r p (kindOf (cellI p (s : Int))) t < ((r.pieces.length : Nat) : Int) := by
          unfold becomes
          cases hb : (decide ((pieceI r (kindOf (cellI p (s : Int)))).2.2.1 > 0) && lastB r p.turn t) with
          | false => exact hk.2
          | true =>
            simp only [Bool.and_eq_true, decide_eq_true_eq] at hb
            rw [cond_true]; omega
        have hok : mvOk r p x = true := by
          unfold mvOk
          rw [decide_eq_true_eq, ← hx]
          simp only
          omega
        unfold allowedB goOk
        rw [hok, Bool.true_and, ← hx]
        simp only
        rw [beq_f (by omega), cond_false, hm, Bool.true_and, beq_t rfl, Bool.true_and, List.any_eq_true]
        exact ⟨w, hw, by simpa using ht⟩
  · intro hx
    unfold allowedB at hx
    rw [Bool.and_eq_true] at hx
    obtain ⟨hok, hx⟩ := hx
    unfold mvOk at hok
    rw [decide_eq_true_eq] at hok
    obtain ⟨⟨a1, a2⟩, ⟨b1, b2⟩, c1, c2⟩ := hok
    by_cases hm : x.1 = -1
    · rw [beq_t hm, cond_true, Bool.and_eq_true] at hx
      left
      have e1 : ((x.2.1.toNat : Nat) : Int) = x.2.1 := by omega
      have e2 : ((x.2.2.1.toNat : Nat) : Int) = x.2.2.1 := by omega
      refine List.mem_flatMap.2 ⟨x.2.1.toNat, List.mem_range.2 (by omega), ?_⟩
      unfold putsAt
      rw [e1, hx.2, cond_true]
      refine List.mem_flatMap.2 ⟨x.2.2.1.toNat, List.mem_range.2 (by omega), ?_⟩
      rw [e2, hx.1, cond_true, List.mem_singleton]
      exact mv_eq hm rfl rfl
    · rw [beq_f hm, cond_false] at hx
      unfold goOk at hx
      simp only [Bool.and_eq_true, beq_iff_eq, List.any_eq_true, decide_eq_true_eq] at hx
      obtain ⟨h1, h2, w, hw, ht⟩ := hx
      right
      have e1 : ((x.1.toNat : Nat) : Int) = x.1 := by omega
      refine List.mem_flatMap.2 ⟨x.1.toNat, List.mem_range.2 (by omega), ?_⟩
      unfold goAt
      rw [e1, h1, cond_true]
      refine List.mem_flatMap.2 ⟨w, hw, List.mem_map.2 ⟨x.2.1, ht, ?_⟩⟩
      exact mv_eq rfl rfl h2
/-- THE PROGRAM's MOVES ARE THE REFERENCE's -/
theorem list_spec {r : Rules} {p : Place} (h : Valid r p) : movesList r p = some (movesOf r p) := by
  rw [list_dd h]
  congr 1
  refine lt_unique (dd_lt (sort_pw _)) (movesOf_lt r p) fun z => ?_
  rw [dd_mem, sort_mem, raw_mem h, movesOf_mem]
end Go.Proofs.Ytfppnefcicdnfaa
namespace Go.Proofs.Ytfppnefcicdnfaa
open Go.Den
set_option linter.unusedVariables false
set_option linter.unusedSimpArgs false
set_option maxRecDepth 100000

def own (r : Rules) (p : Place) (pl x y : Int) : Bool := onB r x y && (decide (cellI p (sq r x y) > 0) && ((cellI p (sq r x y) - 1).tmod 2 == pl))
def runB (r : Rules) (p : Place) (pl : Int) (n : Nat) (x y dx dy : Int) : Bool := (List.range n).all fun i => own r p pl (x + (i : Int) * dx) (y + (i : Int) * dy)
theorem runB_cons (r : Rules) (p : Place) (pl : Int) (n : Nat) (x y dx dy : Int) : runB r p pl (n + 1) x y dx dy = (own r p pl x y && runB r p pl n (x + dx) (y + dy) dx dy) := by
  unfold runB
  rw [List.range_succ_eq_map, List.all_cons, List.all_map]
  have e : ((fun i : Nat => own r p pl (x + (i : Int) * dx) (y + (i : Int) * dy)) ∘ Nat.succ) = fun i : Nat => own r p pl (x + dx + (i : Int) * dx) (y + dy + (i : Int) * dy) := by
    funext i
    simp only [Function.comp]
    have e1 : x + ((i.succ : Nat) : Int) * dx = x + dx + (i : Int) * dx := by rw [show ((i.succ : Nat) : Int) = (i : Int) + 1 by omega, Int.add_mul]; omega
    have e2 : y + ((i.succ : Nat) : Int) * dy = y + dy + (i : Int) * dy := by rw [show ((i.succ : Nat) : Int) = (i : Int) + 1 by omega, Int.add_mul]; omega
    rw [e1, e2]
  rw [e]
  simp
theorem runB_iff {r : Rules} {p : Place} {pl : Int} {n : Nat} {x y dx dy : Int} : runB r p pl n x y dx dy = true ↔ ∀ i : Nat, i < n → own r p pl (x + (i : Int) * dx) (y + (i : Int) * dy) = true := by
  unfold runB
  rw [List.all_eq_true]
  exact ⟨fun h i hi => h i (List.mem_range.2 hi), fun h i hi => h i (List.mem_range.1 hi)⟩
theorem runB_rev {r : Rules} {p : Place} {pl : Int} {n : Nat} {x y dx dy : Int} (h : runB r p pl n x y dx dy = true) : runB r p pl n (x + ((n : Int) - 1) * dx) (y + ((n : Int) - 1) * dy) (-dx) (-dy) = true := by
  rw [runB_iff] at *
  intro i hi
  have := h (n - 1 - i) (by omega)
  have e1 : x + ((n : Int) - 1) * dx + (i : Int) * (-dx) = x + ((n - 1 - i : Nat) : Int) * dx := by
    rw [show ((n - 1 - i : Nat) : Int) = (n : Int) - 1 - (i : Int) by omega, Int.sub_mul ((n : Int) - 1), Int.mul_neg]; omega
  have e2 : y + ((n : Int) - 1) * dy + (i : Int) * (-dy) = y + ((n - 1 - i : Nat) : Int) * dy := by
    rw [show ((n - 1 - i : Nat) : Int) = (n : Int) - 1 - (i : Int) by omega, Int.sub_mul ((n : Int) - 1), Int.mul_neg]; omega
  rw [e1, e2]; exact this
theorem own_on {r : Rules} {p : Place} {pl x y : Int} (h : own r p pl x y = true) : onB r x y = true := by unfold own at h; rw [Bool.and_eq_true] at h; exact h.1
abbrev dX (d : Nat) : Int := getD' [(1 : Int), (0 : Int), (1 : Int), (1 : Int)] d 0
abbrev dY (d : Nat) : Int := getD' [(0 : Int), (1 : Int), (1 : Int), (-1 : Int)] d 0
abbrev eX (d : Nat) : Int := getD' [(-1 : Int), (0 : Int), (-1 : Int), (1 : Int)] d 0
abbrev eY (d : Nat) : Int := getD' [(0 : Int), (-1 : Int), (-1 : Int), (-1 : Int)] d 0
def lineB (r : Rules) (p : Place) (pl c : Int) : Bool := (List.range p.1.length).any fun s => (List.range 4).any fun d => runB r p pl c.toNat ((s : Int).tmod r.width) ((s : Int).tdiv r.width) (dX d) (dY d)
def linedB (r : Rules) (p : Place) (pl c : Int) : Bool := (List.range r.height.toNat).any fun y => (List.range r.width.toNat).any fun x => (List.range 4).any fun d => runB r p pl c.toNat (x : Int) (y : Int) (eX d) (eY d)
theorem sq_div {r : Rules} {x y : Int} (h : onB r x y = true) : (sq r x y).tmod r.width = x ∧ (sq r x y).tdiv r.width = y := by
  obtain ⟨h1, h2, h3, h4⟩ := onB_iff.1 h
  have h0 : 0 ≤ sq r x y := by unfold sq; have := Int.mul_nonneg h3 (show 0 ≤ r.width by omega); omega
  rw [Int.tmod_eq_emod_of_nonneg h0, Int.tdiv_eq_ediv_of_nonneg h0]
  unfold sq
  rw [Int.add_comm, Int.add_mul_emod_self_right, Int.add_mul_ediv_right _ _ (by omega), Int.emod_eq_of_lt h1 h2, Int.ediv_eq_zero_of_lt h1 h2]
  omega
theorem lineB_of {r : Rules} {p : Place} (h : Valid r p) {pl c x y : Int} {d : Nat} (hc : 1 ≤ c) (hd : d < 4) (hr : runB r p pl c.toNat x y (dX d) (dY d) = true) : lineB r p pl c = true := by
  have hon : onB r x y = true := by
    have := runB_iff.1 hr 0 (by omega)
    exact own_on (by simpa using this)
  have hs := sq_rng h.r0 hon
  have hlen : ((p.1.length : Nat) : Int) = r.width * r.height := h.cells
  unfold lineB
  rw [List.any_eq_true]
  refine ⟨(sq r x y).toNat, List.mem_range.2 (by omega), ?_⟩
  rw [List.any_eq_true]
  refine ⟨d, List.mem_range.2 hd, ?_⟩
  rw [Int.toNat_of_nonneg hs.1, (sq_div hon).1, (sq_div hon).2]
  exact hr
theorem linedB_of {r : Rules} {p : Place} (h : Valid r p) {pl c x y : Int} {d : Nat} (hc : 1 ≤ c) (hd : d < 4) (hr : runB r p pl c.toNat x y (eX d) (eY d) = true) : linedB r p pl c = true := by
  have hon : onB r x y = true := by
    have := runB_iff.1 hr 0 (by omega)
    exact own_on (by simpa using this)
  obtain ⟨h1, h2, h3, h4⟩ := onB_iff.1 hon
  unfold linedB
  rw [List.any_eq_true]
  refine ⟨y.toNat, List.mem_range.2 (by omega), ?_⟩
  rw [List.any_eq_true]
  refine ⟨x.toNat, List.mem_range.2 (by omega), ?_⟩
  rw [List.any_eq_true]
  refine ⟨d, List.mem_range.2 hd, ?_⟩
  rw [Int.toNat_of_nonneg h1, Int.toNat_of_nonneg h3]
  exact hr
theorem lined_line {r : Rules} {p : Place} (h : Valid r p) {pl c : Int} (hc : 1 ≤ c) : linedB r p pl c = lineB r p pl c := by
  rw [Bool.eq_iff_iff]
  constructor
  · intro hl
    unfold linedB at hl
    simp only [List.any_eq_true, List.mem_range] at hl
    obtain ⟨y, _, x, _, d, hd, hr⟩ := hl
    have h4 : d = 0 ∨ d = 1 ∨ d = 2 ∨ d = 3 := by omega
    rcases h4 with rfl | rfl | rfl | rfl
    · exact lineB_of h (d := 0) hc (by omega) (runB_rev hr)
    · exact lineB_of h (d := 1) hc (by omega) (runB_rev hr)
    · exact lineB_of h (d := 2) hc (by omega) (runB_rev hr)
    · exact lineB_of h (d := 3) hc (by omega) hr
  · intro hl
    unfold lineB at hl
    simp only [List.any_eq_true, List.mem_range] at hl
    obtain ⟨s, _, d, hd, hr⟩ := hl
    have h4 : d = 0 ∨ d = 1 ∨ d = 2 ∨ d = 3 := by omega
    rcases h4 with rfl | rfl | rfl | rfl
    · exact linedB_of h (d := 0) hc (by omega) (runB_rev hr)
    · exact linedB_of h (d := 1) hc (by omega) (runB_rev hr)
    · exact linedB_of h (d := 2) hc (by omega) (runB_rev hr)
    · exact linedB_of h (d := 3) hc (by omega) hr
theorem dX_rng (d : Nat) : -1 ≤ dX d ∧ dX d ≤ 1 := by
  match d with
  | 0 => decide
  | 1 => decide
  | 2 => decide
  | 3 => decide
  | n + 4 => simp [dX, getD']
theorem dY_rng (d : Nat) : -1 ≤ dY d ∧ dY d ≤ 1 := by
  match d with
  | 0 => decide
  | 1 => decide
  | 2 => decide
  | 3 => decide
  | n + 4 => simp [dY, getD']
theorem line3 {r : Rules} {p : Place} (h : Valid r p) {pl c : Int} (d : Nat) (hc : c ≤ 64) : ∀ (m : Nat) (x y n : Int), 0 ≤ n → n + m = c → (-1 ≤ x ∧ x ≤ 8) → (-1 ≤ y ∧ y ≤ 8) →
    ∃ n', iterW (endsLine_L3 c r p pl (((d : Int), ()), ())) ((x, y, n, ()), ()) = some ((n', ()), ()) ∧ (n' == c) = runB r p pl m x y (dX d) (dY d)
  | 0, x, y, n, h0, hn, hx, hy => by
    refine ⟨n, iterW_inr ?_, ?_⟩
    · unfold endsLine_L3
      have : decide (n < c) = false := by simp; omega
      simp only [this, cond_false, Option.bind_some]
    · rw [beq_t (by omega)]; rfl
  | m + 1, x, y, n, h0, hn, hx, hy => by
    have hr := h.r0
    have := hr.w8; have := hr.h8; have := hr.w1; have := hr.h1
    have ha := hr.area
    have hlt : decide (n < c) = true := by simp; omega
    have hoff : ((((decide (x < (0 : Int))) || (decide (x ≥ r.2.1))) || (decide (y < (0 : Int)))) || (decide (y ≥ r.2.2.1))) = !onB r x y := by
      rw [Bool.eq_iff_iff]
      simp only [Bool.or_eq_true, decide_eq_true_eq, Bool.not_eq_true', onB, decide_eq_false_iff_not]
      show ((x < 0 ∨ x ≥ r.width) ∨ y < 0) ∨ y ≥ r.height ↔ _
      omega
    have hown : (bif (decide (n < c)) then (bif ((((decide (x < (0 : Int))) || (decide (x ≥ r.2.1))) || (decide (y < (0 : Int)))) || (decide (y ≥ r.2.2.1))) then some ((false, ()), ())
        else Option.bind (at? p.1 (w64 ((w64 (y * r.2.1)) + x))) fun d4 =>
        req (imp (decide (d4 > (0 : Int))) true) (some ((((decide (d4 > (0 : Int))) && (((w64 (d4 - (1 : Int))).tmod (2 : Int)) == pl)), ()), ())))
        else some ((false, ()), ())) = some ((own r p pl x y, ()), ()) := by
      rw [hlt, cond_true, hoff]
      unfold own
      cases hb : onB r x y with
      | false => rfl
      | true =>
        have hs := sq_rng hr hb
        obtain ⟨b1, b2, b3, b4⟩ := onB_iff.1 hb
        have hmul := mul_rng (show 0 ≤ r.width by omega) b3 b4
        have w1 : w64 (y * r.2.1) = y * r.2.1 := w64_id (by show _ ≤ y * r.width; omega) (by show y * r.width ≤ _; omega)
        have w2 : w64 (y * r.2.1 + x) = sq r x y := w64_id (by show _ ≤ sq r x y; omega) (by show sq r x y ≤ _; omega)
        have hcs := cell_small h (sq r x y)
        rw [w1, w2, at_cell (p := p) hs.1 (by rw [h.cells]; exact hs.2)]
        simp only [Bool.not_true, cond_false, Option.bind_some, show ∀ b, imp b true = true from fun b => by cases b <;> rfl, req_true, Bool.true_and]
        rw [w64_id (n := cellI p (sq r x y) - 1) (by omega) (by omega)]
    rw [runB_cons]
    cases ho : own r p pl x y with
    | false =>
      refine ⟨n, iterW_inr ?_, ?_⟩
      · unfold endsLine_L3
        rw [hown, ho]
        rfl
      · rw [beq_f (by omega)]; rfl
    | true =>
      obtain ⟨b1, b2, b3, b4⟩ := onB_iff.1 (own_on ho)
      have r1 := dX_rng d
      have r2 := dY_rng d
      obtain ⟨n', e1, e2⟩ := line3 h (pl := pl) d hc m (x + dX d) (y + dY d) (n + 1) (by omega) (by omega) (by omega) (by omega)
      refine ⟨n', ?_, by rw [e2]; simp⟩
      rw [iterW_inl (y := ((x + dX d, y + dY d, n + 1, ()), ())) (by
        unfold endsLine_L3
        rw [hown, ho]
        simp only [Option.bind_some, cond_true, Int.toNat_natCast]
        rw [w64_id (n := x + dX d) (by omega) (by omega), w64_id (n := y + dY d) (by omega) (by omega), w64_id (n := n + 1) (by omega) (by omega)])]
      exact e1
theorem line_spec {r : Rules} {p : Place} (h : Valid r p) (pl : Int) {c : Int} (hc1 : 1 ≤ c) (hc : c ≤ 64) : endsLine r p pl c = some (lineB r p pl c) := by
  have hr := h.r0
  have := hr.w8; have := hr.h8; have := hr.w1; have := hr.h1
  have ha := hr.area
  have hlen : ((p.1.length : Nat) : Int) = r.width * r.height := h.cells
  have hq : (r.2.1 != 0) = true := bne_t (by show ¬ r.width = 0; omega)
  unfold endsLine
  have hL := iterW_any (List.range p.1.length) (fun s => (List.range 4).any fun d => runB r p pl c.toNat ((s : Int).tmod r.width) ((s : Int).tdiv r.width) (dX d) (dY d)) (endsLine_L1 p r c pl) (.inr true) (.inl ((), ())) (fun s hs => by
    have hs' : s < p.1.length := by simpa using hs
    have hdv := div_rng hr (show (0 : Int) ≤ (s : Int) by omega) (show (s : Int) < r.width * r.height by omega)
    have hL2 := iterW_any (List.range 4) (fun d => runB r p pl c.toNat ((s : Int).tmod r.width) ((s : Int).tdiv r.width) (dX d) (dY d)) (endsLine_L2 r c p pl (((s : Int), ()), ())) (.inr (.inr (.inr (.inr true)))) (.inl ((), ())) (fun d hd => by
      have hd' : d < 4 := by simpa using hd
      have w1 : w64 ((s : Int).tdiv r.2.1) = (s : Int).tdiv r.width := w64_id (by show _ ≤ (s : Int).tdiv r.width; omega) (by show (s : Int).tdiv r.width ≤ _; omega)
      obtain ⟨n', e1, e2⟩ := line3 h (pl := pl) (c := c) d hc c.toNat ((s : Int).tmod r.width) ((s : Int).tdiv r.width) 0 (by omega) (by omega) (by omega) (by omega)
      unfold endsLine_L2
      simp only [show decide ((d : Int) < 4) = true by simp; omega, cond_true, show inb (d : Int) 4 = true from inb_iff.2 ⟨by omega, by omega⟩, req_true, hq, w1]
      rw [show ((s : Int).tmod r.2.1) = (s : Int).tmod r.width from rfl, e1, Option.bind_some]
      simp only [List.getElem_range]
      rw [← e2, w64_id (n := (d : Int) + 1) (by omega) (by omega)]
      cases (n' == c) <;> rfl) (by
      unfold endsLine_L2
      rfl)
    unfold endsLine_L1
    simp only [show decide ((s : Int) < ((p.1.length : Nat) : Int)) = true by simp; omega, cond_true, List.getElem_range]
    rw [hL2, w64_id (n := (s : Int) + 1) (by omega) (by omega)]
    cases (List.range 4).any (fun d => runB r p pl c.toNat ((s : Int).tmod r.width) ((s : Int).tdiv r.width) (dX d) (dY d)) <;> rfl) (by
    unfold endsLine_L1
    simp)
  rw [hL]
  unfold lineB
  cases (List.range p.1.length).any (fun s => (List.range 4).any fun d => runB r p pl c.toNat ((s : Int).tmod r.width) ((s : Int).tdiv r.width) (dX d) (dY d)) <;> rfl
theorem eXY_rng (d : Nat) (hd : d < 4) : (-1 ≤ eX d ∧ eX d ≤ 1) ∧ (-1 ≤ eY d ∧ eY d ≤ 1) ∧ ¬ (eX d = 0 ∧ eY d = 0) := by
  have h4 : d = 0 ∨ d = 1 ∨ d = 2 ∨ d = 3 := by omega
  rcases h4 with rfl | rfl | rfl | rfl <;> decide
theorem small_mul {n d : Int} (h0 : 0 ≤ n) (h1 : -1 ≤ d) (h2 : d ≤ 1) : (d = 0 ∧ n * d = 0) ∨ (d = 1 ∧ n * d = n) ∨ (d = -1 ∧ n * d = -n) := by
  have : d = 0 ∨ d = 1 ∨ d = -1 := by omega
  rcases this with rfl | rfl | rfl <;> simp
theorem lined4 {r : Rules} {p : Place} (h : Valid r p) {pl c : Int} (d : Nat) (hd : d < 4) {x y : Int} (hon : onB r x y = true) (s1 s2 : Unit) :
    ∃ n' : Nat, iterW (ref1Lined_L4 r p ((x, ()), ()) ((eX d, eY d, ()), ()) ((y, ()), ()) pl) (((0 : Int), ()), ()) = some (((n' : Int), ()), ()) ∧ (∀ i : Nat, i < n' → own r p pl (x + (i : Int) * eX d) (y + (i : Int) * eY d) = true) ∧ own r p pl (x + (n' : Int) * eX d) (y + (n' : Int) * eY d) = false := by
  have hr := h.r0
  have := hr.w8; have := hr.h8; have := hr.w1; have := hr.h1
  obtain ⟨o1, o2, o3, o4⟩ := onB_iff.1 hon
  obtain ⟨rx, ry, rn⟩ := eXY_rng d hd
  obtain ⟨res, h1, n', rfl, h3, h4⟩ := iterW_meas (f := ref1Lined_L4 r p ((x, ()), ()) ((eX d, eY d, ()), ()) ((y, ()), ()) pl) (fun s => ∃ n : Nat, s = (((n : Int), ()), ()) ∧ n ≤ 8 ∧ ∀ i : Nat, i < n → own r p pl (x + (i : Int) * eX d) (y + (i : Int) * eY d) = true) (fun s => 9 - s.1.1.toNat) (fun res => ∃ n' : Nat, res = (((n' : Int), ()), ()) ∧ (∀ i : Nat, i < n' → own r p pl (x + (i : Int) * eX d) (y + (i : Int) * eY d) = true) ∧ own r p pl (x + (n' : Int) * eX d) (y + (n' : Int) * eY d) = false) (by
    rintro s ⟨n, rfl, hn8, hall⟩
    have m1 := small_mul (n := (n : Int)) (by omega) rx.1 rx.2
    have m2 := small_mul (n := (n : Int)) (by omega) ry.1 ry.2
    have w1 : w64 ((n : Int) * eX d) = (n : Int) * eX d := w64_id (by omega) (by omega)
    have w2 : w64 ((n : Int) * eY d) = (n : Int) * eY d := w64_id (by omega) (by omega)
    have w3 : w64 (x + (n : Int) * eX d) = x + (n : Int) * eX d := w64_id (by omega) (by omega)
    have w4 : w64 (y + (n : Int) * eY d) = y + (n : Int) * eY d := w64_id (by omega) (by omega)
    have hAt := refAt_spec h (x + (n : Int) * eX d) (y + (n : Int) * eY d)
    have hmine : Option.bind (ref1At r p (x + (n : Int) * eX d) (y + (n : Int) * eY d)) (fun r6 => ref1Mine r6 pl) = some (own r p pl (x + (n : Int) * eX d) (y + (n : Int) * eY d)) := by
      rw [hAt, Option.bind_some]
      unfold own
      cases hb : onB r (x + (n : Int) * eX d) (y + (n : Int) * eY d) with
      | false => simp [ref1Mine, imp, req]
      | true =>
        have hc := cell_small h (sq r (x + (n : Int) * eX d) (y + (n : Int) * eY d))
        rw [cond_true, refMine_spec _ _ hc.1 hc.2, Bool.true_and]
    have hstep : ref1Lined_L4 r p ((x, ()), ()) ((eX d, eY d, ()), ()) ((y, ()), ()) pl (((n : Int), ()), ()) = bif own r p pl (x + (n : Int) * eX d) (y + (n : Int) * eY d) then some (.inl ((((n + 1 : Nat) : Int), ()), ())) else some (.inr (((n : Int), ()), ())) := by
      unfold ref1Lined_L4
      simp only [w1, w2, w3, w4]
      rw [← Option.bind_assoc, hmine, Option.bind_some, w64_id (n := (n : Int) + 1) (by omega) (by omega)]
      rfl
    cases ho : own r p pl (x + (n : Int) * eX d) (y + (n : Int) * eY d) with
    | true =>
      left
      obtain ⟨q1, q2, q3, q4⟩ := onB_iff.1 (own_on ho)
      refine ⟨_, by rw [hstep, ho, cond_true], ⟨n + 1, rfl, by omega, fun i hi => ?_⟩, by simp; omega⟩
      by_cases e : i = n
      · subst e; exact ho
      · exact hall i (by omega)
    | false =>
      right
      exact ⟨_, by rw [hstep, ho, cond_false], n, rfl, hall, ho⟩) (((0 : Int), ()), ()) ⟨0, rfl, by omega, fun i hi => by omega⟩
  exact ⟨n', h1, h3, h4⟩
theorem lined_spec {r : Rules} {p : Place} (h : Valid r p) (pl : Int) {c : Int} (hc1 : 1 ≤ c) (hc : c ≤ 64) : ref1Lined r p pl c = some (linedB r p pl c) := by
  have hr := h.r0
  have := hr.w8; have := hr.h8; have := hr.w1; have := hr.h1
  unfold ref1Lined
  have hW : ((r.width.toNat : Nat) : Int) = r.2.1 := by show _ = r.width; omega
  have hH : ((r.height.toNat : Nat) : Int) = r.2.2.1 := by show _ = r.height; omega
  have hL := iterW_any (List.range r.height.toNat) (fun y => (List.range r.width.toNat).any fun x => (List.range 4).any fun d => runB r p pl c.toNat (x : Int) (y : Int) (eX d) (eY d)) (ref1Lined_L1 r p pl c) (.inr true) (.inl ((), ())) (fun y hy => by
    have hy' : y < r.height.toNat := by simpa using hy
    have hL2 := iterW_any (List.range r.width.toNat) (fun x => (List.range 4).any fun d => runB r p pl c.toNat (x : Int) (y : Int) (eX d) (eY d)) (ref1Lined_L2 r p (((y : Int), ()), ()) pl c) (.inr (.inr (.inr (.inr true)))) (.inl ((), ())) (fun x hx => by
      have hx' : x < r.width.toNat := by simpa using hx
      have hL3 := iterW_any (List.range 4) (fun d => runB r p pl c.toNat (x : Int) (y : Int) (eX d) (eY d)) (ref1Lined_L3 r p (((x : Int), ()), ()) (((y : Int), ()), ()) pl c) (.inr (.inr (.inr (.inr (.inr (.inr (.inr true))))))) (.inl ((), ())) (fun d hd => by
        have hd' : d < 4 := by simpa using hd
        have hon : onB r (x : Int) (y : Int) = true := onB_iff.2 ⟨by omega, by omega, by omega, by omega⟩
        obtain ⟨n', e1, e2, e3⟩ := lined4 h (pl := pl) (c := c) d hd' hon () ()
        unfold ref1Lined_L3
        simp only [show decide ((d : Int) < 4) = true by simp; omega, cond_true, List.length_cons, List.length_nil, show inb (d : Int) (0 + 1 + 1 + 1 + 1) = true from inb_iff.2 ⟨by omega, by omega⟩, req_true, agree_self, Option.bind_some, Int.toNat_natCast]
        rw [e1, Option.bind_some, w64_id (n := (d : Int) + 1) (by omega) (by omega)]
        simp only [List.getElem_range]
        have hrun : decide ((n' : Int) ≥ c) = runB r p pl c.toNat (x : Int) (y : Int) (eX d) (eY d) := by
          rw [Bool.eq_iff_iff, runB_iff, decide_eq_true_eq]
          constructor
          · intro hge i hi; exact e2 i (by omega)
          · intro hall
            by_cases hlt : (n' : Int) ≥ c
            · exact hlt
            · have := hall n' (by omega)
              rw [e3] at this; cases this
        rw [hrun]
        cases runB r p pl c.toNat (x : Int) (y : Int) (eX d) (eY d) <;> rfl) (by
        unfold ref1Lined_L3
        rfl)
      unfold ref1Lined_L2
      simp only [show decide ((x : Int) < r.2.1) = true by rw [← hW]; simp; omega, cond_true, List.getElem_range]
      rw [hL3, w64_id (n := (x : Int) + 1) (by omega) (by omega)]
      cases (List.range 4).any (fun d => runB r p pl c.toNat (x : Int) (y : Int) (eX d) (eY d)) <;> rfl) (by
      unfold ref1Lined_L2
      rw [List.length_range, hW]
      simp)
    unfold ref1Lined_L1
    simp only [show decide ((y : Int) < r.2.2.1) = true by rw [← hH]; simp; omega, cond_true, List.getElem_range]
    rw [hL2, w64_id (n := (y : Int) + 1) (by omega) (by omega)]
    cases (List.range r.width.toNat).any (fun x => (List.range 4).any fun d => runB r p pl c.toNat (x : Int) (y : Int) (eX d) (eY d)) <;> rfl) (by
    unfold ref1Lined_L1
    rw [List.length_range, hH]
    simp)
  rw [hL]
  unfold linedB
  cases (List.range r.height.toNat).any (fun y => (List.range r.width.toNat).any fun x => (List.range 4).any fun d => runB r p pl c.toNat (x : Int) (y : Int) (eX d) (eY d)) <;> rfl
end Go.Proofs.Ytfppnefcicdnfaa
namespace Go.Proofs.Ytfppnefcicdnfaa
open Go.Den
set_option linter.unusedVariables false
set_option linter.unusedSimpArgs false
set_option maxRecDepth 100000

def reachB (r : Rules) (p : Place) (x : End) (mover : Int) : Bool := (List.range p.1.length).any fun s => (cellI p (s : Int) == 2 * x.2.1 + mover + 1) && lastB r mover (s : Int)
def fewOf (p : Place) (x : End) (mover : Int) : Int := ((p.1.countP (fun c => c == 2 * x.2.1 + 1 - mover + 1) : Nat) : Int)
def metB (r : Rules) (p : Place) (x : End) (mover : Int) : Bool := bif x.1 == 0 then lineB r p mover x.2.2.1 else bif x.1 == 1 then reachB r p x mover else decide (fewOf p x mover < x.2.2.1)
structure EndOk (r : Rules) (x : End) : Prop where
  kind : 0 ≤ x.1 ∧ x.1 ≤ 2
  cnt : x.1 = 0 → 1 ≤ x.2.2.1 ∧ x.2.2.1 ≤ 64
  pc : 0 ≤ x.2.1 ∧ x.2.1 ≤ 6
theorem Valid.endOk {r : Rules} {p : Place} (h : Valid r p) {x : End} (hx : x ∈ r.ends) : EndOk r x := by
  obtain ⟨h1, h2, h3⟩ := h.r0.ends x hx
  have ht := h.r0.t6
  refine ⟨h1, fun e => ?_, ?_⟩
  · rw [if_neg (by omega)] at h2; exact h2
  · split at h3 <;> omega
theorem cell_get (p : Place) (i : Nat) (hi : i < p.1.length) : cellI p (i : Int) = p.1[i] := by
  unfold cellI
  rw [List.getD_eq_getElem?_getD, Int.toNat_natCast]
  simp [hi]
theorem holds_spec {r : Rules} {p : Place} (h : Valid r p) {x : End} (hx : EndOk r x) {mover : Int} (hm : mover = 0 ∨ mover = 1) : endsHolds r p x mover = some (metB r p x mover) := by
  have hr := h.r0
  have ha := hr.area
  have h64 := area_len h
  have hlen : ((p.1.length : Nat) : Int) = r.width * r.height := h.cells
  have hp := hx.pc
  unfold endsHolds metB
  by_cases k0 : x.1 = 0
  · rw [beq_t k0, cond_true, cond_true, line_spec h mover (hx.cnt k0).1 (hx.cnt k0).2]
    rfl
  · rw [beq_f k0, cond_false, cond_false]
    by_cases k1 : x.1 = 1
    · rw [beq_t k1, cond_true, cond_true]
      have hL := iterW_any (List.range p.1.length) (fun s => (cellI p (s : Int) == 2 * x.2.1 + mover + 1) && lastB r mover (s : Int)) (endsHolds_L1 p x mover r) (.inr (.inr true)) (.inl ((), ())) (fun s hs => by
        have hs' : s < p.1.length := by simpa using hs
        unfold endsHolds_L1
        simp only [show decide ((s : Int) < ((p.1.length : Nat) : Int)) = true by simp; omega, cond_true, List.getElem_range]
        rw [at_cell (p := p) (s := (s : Int)) (by omega) (by show (s : Int) < ((p.1.length : Nat) : Int); omega), Option.bind_some, isLast_spec hr mover (by omega) (by omega)]
        rw [w64_id (n := 2 * x.2.1) (by omega) (by omega), w64_id (n := 2 * x.2.1 + mover) (by omega) (by omega), w64_id (n := 2 * x.2.1 + mover + 1) (by omega) (by omega), w64_id (n := (s : Int) + 1) (by omega) (by omega)]
        cases (cellI p (s : Int) == 2 * x.2.1 + mover + 1) <;> cases lastB r mover (s : Int) <;> rfl) (by
        unfold endsHolds_L1
        simp)
      rw [hL]
      unfold reachB
      cases (List.range p.1.length).any (fun s => (cellI p (s : Int) == 2 * x.2.1 + mover + 1) && lastB r mover (s : Int)) <;> rfl
    · rw [beq_f k1, cond_false, cond_false, Option.bind_some, Sum.elim_inl]
      have hL := iter_count p.1 (fun c => c == 2 * x.2.1 + 1 - mover + 1) (endsHolds_L2 p x mover) (fun c => ((c, ()), ())) (fun i hi c c0 ci => by
        unfold endsHolds_L2
        simp only [show decide ((i : Int) < ((p.1.length : Nat) : Int)) = true by simp; omega, cond_true]
        rw [at_cell (p := p) (s := (i : Int)) (by omega) (by show (i : Int) < ((p.1.length : Nat) : Int); omega), Option.bind_some, cell_get p i hi]
        rw [w64_id (n := 2 * x.2.1) (by omega) (by omega), w64_id (n := 2 * x.2.1 + 1) (by omega) (by omega), w64_id (n := 2 * x.2.1 + 1 - mover) (by omega) (by omega), w64_id (n := 2 * x.2.1 + 1 - mover + 1) (by omega) (by omega), w64_id (n := (i : Int) + 1) (by omega) (by omega), w64_id (n := c + 1) (by omega) (by omega)]
        cases (p.1[i] == 2 * x.2.1 + 1 - mover + 1) <;> rfl) (fun c => by
        unfold endsHolds_L2
        simp)
      rw [hL]
      rfl
/-- the answer of a condition that is met -/
def endE (r : Rules) (p : Place) (i : Nat) : Option (((Unit) × (Unit)) ⊕ Int) := match r.2.2.2.2.2.2.2.1[i]? with
  | some x => bif metB r p x (1 - p.turn) then some (.inr (bif x.2.2.2.1 then 1 + p.turn else 1 + (1 - p.turn))) else none
  | none => none
def blockedV (r : Rules) (p : Place) : Int := bif r.blocked == 0 then 1 + (1 - p.turn) else bif r.blocked == 1 then 1 + p.turn else 3
def resultOf (r : Rules) (p : Place) : Int := match scan (endE r p) (.inl ((), ())) 0 r.2.2.2.2.2.2.2.1.length with
  | .inl _ => bif (r.quiet != 0) && decide (p.quiet ≥ r.quiet) then 3 else bif decide ((((movesOf r p).length : Nat) : Int) > 0) then 0 else blockedV r p
  | .inr v => v
theorem turn_w {r : Rules} {p : Place} (h : Valid r p) : w64 ((1 : Int) - p.2.2.1) = 1 - p.turn ∧ w64 ((1 : Int) + p.2.2.1) = 1 + p.turn ∧ w64 (1 + (1 - p.turn)) = 1 + (1 - p.turn) ∧ w64 (1 + p.turn) = 1 + p.turn := by
  have ht := h.turn
  refine ⟨w64_id (by show _ ≤ 1 - p.turn; omega) (by show 1 - p.turn ≤ _; omega), w64_id (by show _ ≤ 1 + p.turn; omega) (by show 1 + p.turn ≤ _; omega), w64_id (by omega) (by omega), w64_id (by omega) (by omega)⟩
theorem result_spec {r : Rules} {p : Place} (h : Valid r p) : endsResult r p = some (resultOf r p) := by
  have ht := h.turn
  obtain ⟨t1, t2, t3, t4⟩ := turn_w h
  have h6 : r.2.2.2.2.2.2.2.1.length ≤ 6 := h.r0.ends6
  unfold endsResult resultOf
  have hL := iterW_scan r.2.2.2.2.2.2.2.1.length (endsResult_L1 r p) (endE r p) (.inl ((), ())) (fun i hi => by
    unfold endsResult_L1 endE
    rw [List.getElem?_eq_getElem hi]
    simp only [show decide ((i : Int) < ((r.2.2.2.2.2.2.2.1.length : Nat) : Int)) = true by simp; omega, cond_true]
    rw [at?_eq r.2.2.2.2.2.2.2.1 (i : Int) (by omega) (by omega), Option.bind_some, t1]
    simp only [Int.toNat_natCast]
    rw [holds_spec h (h.endOk (List.getElem_mem hi)) (by omega), Option.bind_some]
    cases metB r p r.2.2.2.2.2.2.2.1[i] (1 - p.turn)
    · simp only [cond_false]
      rw [w64_id (n := (i : Int) + 1) (by omega) (by omega)]
      rfl
    · simp only [cond_true, show decide ((i : Int) ≥ 0) = true by simp, Option.bind_some]
      unfold endsWins
      rw [t3, show p.2.2.1 = p.turn from rfl, t4]
      cases (r.2.2.2.2.2.2.2.1[i]).2.2.2.1 <;> rfl) (by
    unfold endsResult_L1
    simp)
  rw [hL, Option.bind_some]
  cases scan (endE r p) (.inl ((), ())) 0 r.2.2.2.2.2.2.2.1.length with
  | inr v => rfl
  | inl u =>
    simp only [Sum.elim_inl]
    rw [show ((r.2.2.2.2.2.2.2.2.2.1 != (0 : Int)) && (decide (p.2.2.2.1 ≥ r.2.2.2.2.2.2.2.2.2.1))) = ((r.quiet != 0) && decide (p.quiet ≥ r.quiet)) from rfl]
    cases ((r.quiet != 0) && decide (p.quiet ≥ r.quiet))
    · rw [cond_false, cond_false, list_spec h, Option.bind_some]
      cases decide ((((movesOf r p).length : Nat) : Int) > 0)
      · rw [cond_false, cond_false, t1]
        unfold blockedV endsWins
        rw [t3, show p.2.2.1 = p.turn from rfl, t4, show r.2.2.2.2.2.2.2.2.1 = r.blocked from rfl]
        cases (r.blocked == 0) <;> cases (r.blocked == 1) <;> rfl
      · rfl
    · rfl
theorem iter_fold2 {A C R : Type} (n : Nat) (f : ((A × C × Int × Unit) × Unit) → Option (((A × C × Int × Unit) × Unit) ⊕ R)) (a : Nat → A) (c : Nat → C) (res : R)
    (hs : ∀ i, i < n → f ((a i, c i, (i : Int), ()), ()) = some (.inl ((a (i + 1), c (i + 1), ((i : Int) + 1), ()), ()))) (he : f ((a n, c n, (n : Int), ()), ()) = some (.inr res)) :
    iterW f ((a 0, c 0, (0 : Int), ()), ()) = some res :=
  iterW_states (f := f) n (fun i => ((a i, c i, (i : Int), ()), ())) res (fun i hi => by rw [hs i hi]; rfl) he
theorem far2 {r : Rules} (hr : VR0 r) {mover : Int} (hm : mover = 0 ∨ mover = 1) {t : Int} (h0 : 0 ≤ t) (h1 : t < r.width * r.height) : ref1Far r mover (w64 (t.tdiv r.2.1)) = lastB r mover t := by
  have := hr.w8; have := hr.h8; have := hr.w1; have := hr.h1
  have hd := div_rng hr h0 h1
  have w1 : w64 (t.tdiv r.2.1) = t.tdiv r.width := w64_id (by show _ ≤ t.tdiv r.width; omega) (by show t.tdiv r.width ≤ _; omega)
  have w2 : w64 (r.2.2.1 - 1) = r.height - 1 := w64_id (by show _ ≤ r.height - 1; omega) (by show r.height - 1 ≤ _; omega)
  unfold ref1Far lastB
  rw [w1, w2]
  rcases hm with e | e <;> rw [e] <;> simp
theorem refLoop {r : Rules} {p : Place} (h : Valid r p) {x : End} (hx : EndOk r x) (b0 : Bool) : iterW (ref1Result_L2 p x r) ((b0, (0 : Int), (0 : Int), ()), ()) = some ((b0 || ((x.1 == 1) && reachB r p x (1 - p.turn)), fewOf p x (1 - p.turn), ()), ()) := by
  have hr := h.r0
  have := hr.w1
  have ha := hr.area
  have h64 := area_len h
  have hlen : ((p.1.length : Nat) : Int) = r.width * r.height := h.cells
  have hp := hx.pc
  have ht := h.turn
  obtain ⟨t1, t2, t3, t4⟩ := turn_w h
  have hq : (r.2.1 != 0) = true := bne_t (by show ¬ r.width = 0; omega)
  have himp : ∀ b, imp b true = true := fun b => by cases b <;> rfl
  have key := iter_fold2 p.1.length (ref1Result_L2 p x r) (fun i => b0 || ((x.1 == 1) && (List.range i).any fun s => (cellI p (s : Int) == 2 * x.2.1 + (1 - p.turn) + 1) && lastB r (1 - p.turn) (s : Int))) (fun i => (((p.1.take i).countP (fun c => c == 2 * x.2.1 + 1 - (1 - p.turn) + 1) : Nat) : Int)) ((b0 || ((x.1 == 1) && reachB r p x (1 - p.turn)), fewOf p x (1 - p.turn), ()), ()) (fun i hi => by
    unfold ref1Result_L2
    simp only [show decide ((i : Int) < ((p.1.length : Nat) : Int)) = true by simp; omega, cond_true]
    rw [at_cell (p := p) (s := (i : Int)) (by omega) (by show (i : Int) < ((p.1.length : Nat) : Int); omega), Option.bind_some, hq, himp, req_true, t1, far2 hr (by omega) (by omega) (by omega)]
    rw [show p.2.2.1 = p.turn from rfl, w64_id (n := 2 * x.2.1) (by omega) (by omega), w64_id (n := 2 * x.2.1 + (1 - p.turn)) (by omega) (by omega), w64_id (n := 2 * x.2.1 + (1 - p.turn) + 1) (by omega) (by omega), w64_id (n := 2 * x.2.1 + p.turn) (by omega) (by omega), w64_id (n := 2 * x.2.1 + p.turn + 1) (by omega) (by omega), w64_id (n := (i : Int) + 1) (by omega) (by omega)]
    have hcl : (p.1.take i).countP (fun c => c == 2 * x.2.1 + 1 - (1 - p.turn) + 1) ≤ i := Nat.le_trans List.countP_le_length (by simp; omega)
    rw [w64_id (n := (((p.1.take i).countP (fun c => c == 2 * x.2.1 + 1 - (1 - p.turn) + 1) : Nat) : Int) + 1) (by omega) (by omega)]
    rw [List.range_succ, List.any_append, List.take_succ_eq_append_getElem hi, List.countP_append, ← cell_get p i hi]
    simp only [List.any_cons, List.any_nil, Bool.or_false, List.countP_cons, List.countP_nil]
    rw [show 2 * x.2.1 + 1 - (1 - p.turn) + 1 = 2 * x.2.1 + p.turn + 1 by omega]
    have e1 : (bif ((x.1 == 1 && cellI p (i : Int) == 2 * x.2.1 + (1 - p.turn) + 1) && lastB r (1 - p.turn) (i : Int)) then some ((true, ()), ()) else some (((b0 || ((x.1 == 1) && (List.range i).any fun s => (cellI p (s : Int) == 2 * x.2.1 + (1 - p.turn) + 1) && lastB r (1 - p.turn) (s : Int))), ()), ())) = some (((b0 || ((x.1 == 1) && ((List.range i).any (fun s => (cellI p (s : Int) == 2 * x.2.1 + (1 - p.turn) + 1) && lastB r (1 - p.turn) (s : Int)) || ((cellI p (i : Int) == 2 * x.2.1 + (1 - p.turn) + 1) && lastB r (1 - p.turn) (i : Int))))), ()), ()) := by
      generalize (List.range i).any (fun s => (cellI p (s : Int) == 2 * x.2.1 + (1 - p.turn) + 1) && lastB r (1 - p.turn) (s : Int)) = q
      cases b0 <;> cases (x.1 == 1) <;> cases (cellI p (i : Int) == 2 * x.2.1 + (1 - p.turn) + 1) <;> cases lastB r (1 - p.turn) (i : Int) <;> cases q <;> rfl
    rw [e1, Option.bind_some]
    cases (cellI p (i : Int) == 2 * x.2.1 + p.turn + 1) <;> simp) (by
    unfold ref1Result_L2
    simp only [show decide (((p.1.length : Nat) : Int) < ((p.1.length : Nat) : Int)) = false by simp, cond_false, List.take_length]
    rfl)
  simpa using key
theorem refResult_spec {r : Rules} {p : Place} (h : Valid r p) : ref1Result r p = some (resultOf r p) := by
  have ht := h.turn
  obtain ⟨t1, t2, t3, t4⟩ := turn_w h
  have h6 : r.2.2.2.2.2.2.2.1.length ≤ 6 := h.r0.ends6
  have hbl := h.r0.blocked
  unfold ref1Result resultOf
  have hL := iterW_scan r.2.2.2.2.2.2.2.1.length (ref1Result_L1 r p) (endE r p) (.inl ((), ())) (fun i hi => by
    have hx := h.endOk (List.getElem_mem hi)
    unfold ref1Result_L1 endE
    rw [List.getElem?_eq_getElem hi]
    simp only [show decide ((i : Int) < ((r.2.2.2.2.2.2.2.1.length : Nat) : Int)) = true by simp; omega, cond_true]
    rw [at?_eq r.2.2.2.2.2.2.2.1 (i : Int) (by omega) (by omega), Option.bind_some, t1]
    simp only [Int.toNat_natCast]
    obtain ⟨x, hxe⟩ : ∃ x, r.2.2.2.2.2.2.2.1[i] = x := ⟨_, rfl⟩
    rw [show r.ends[i] = r.2.2.2.2.2.2.2.1[i] from rfl, hxe] at hx
    simp only [hxe]
    have hl : gopt (x.1 == 0) false (ref1Lined r p (1 - p.turn) x.2.2.1) = some ((x.1 == 0) && lineB r p (1 - p.turn) x.2.2.1) := by
      by_cases k0 : x.1 = 0
      · rw [beq_t k0, lined_spec h (1 - p.turn) (hx.cnt k0).1 (hx.cnt k0).2, lined_line h (hx.cnt k0).1]; rfl
      · rw [beq_f k0]; rfl
    rw [hl, Option.bind_some, refLoop h hx, Option.bind_some, t2, t3, w64_id (n := (i : Int) + 1) (by omega) (by omega)]
    have hk : x.1 = 0 ∨ x.1 = 1 ∨ x.1 = 2 := by have := hx.kind; omega
    unfold metB
    rcases hk with k | k | k <;> rw [k] <;> simp only [show ((0 : Int) == 0) = true from rfl, show ((0 : Int) == 1) = false from rfl, show ((0 : Int) == 2) = false from rfl, show ((1 : Int) == 0) = false from rfl, show ((1 : Int) == 1) = true from rfl, show ((1 : Int) == 2) = false from rfl, show ((2 : Int) == 0) = false from rfl, show ((2 : Int) == 1) = false from rfl, show ((2 : Int) == 2) = true from rfl, Bool.true_and, Bool.false_and, Bool.or_false, Bool.false_or, cond_true, cond_false]
    · cases lineB r p (1 - p.turn) x.2.2.1 <;> cases x.2.2.2.1 <;> rfl
    · cases reachB r p x (1 - p.turn) <;> cases x.2.2.2.1 <;> rfl
    · cases decide (fewOf p x (1 - p.turn) < x.2.2.1) <;> cases x.2.2.2.1 <;> rfl) (by
    unfold ref1Result_L1
    simp)
  rw [hL, Option.bind_some]
  cases scan (endE r p) (.inl ((), ())) 0 r.2.2.2.2.2.2.2.1.length with
  | inr v => rfl
  | inl u =>
    simp only [Sum.elim_inl]
    rw [show ((r.2.2.2.2.2.2.2.2.2.1 != (0 : Int)) && (decide (p.2.2.2.1 ≥ r.2.2.2.2.2.2.2.2.2.1))) = ((r.quiet != 0) && decide (p.quiet ≥ r.quiet)) from rfl]
    cases ((r.quiet != 0) && decide (p.quiet ≥ r.quiet))
    · rw [cond_false, cond_false, refMoves_spec h, Option.bind_some]
      cases decide ((((movesOf r p).length : Nat) : Int) > 0)
      · rw [cond_false, cond_false, t1, t2, t3]
        have hb : r.blocked = 0 ∨ r.blocked = 1 ∨ r.blocked = 2 := by omega
        unfold blockedV
        rw [show r.2.2.2.2.2.2.2.2.1 = r.blocked from rfl]
        rcases hb with e | e | e <;> rw [e] <;> rfl
      · rfl
    · rfl
end Go.Proofs.Ytfppnefcicdnfaa
