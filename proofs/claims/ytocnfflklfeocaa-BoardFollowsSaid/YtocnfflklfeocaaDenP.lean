/- Plain facts: loops and recursions of the shallow functions; numbers. No condition of its own. -/
import Derived.Test.YtocnfflklfeocaaDen0
namespace Go.Den
set_option linter.unusedVariables false
set_option linter.unusedSimpArgs false

theorem iterN_mono {T α : Type} {f : T → Option (T ⊕ α)} : ∀ {n m : Nat} {x : T} {r : α}, iterN f n x = some r → n ≤ m → iterN f m x = some r
  | 0, _, _, _, h, _ => by simp [iterN] at h
  | n + 1, 0, _, _, _, h => by omega
  | n + 1, m + 1, x, r, h, hm => by
    simp only [iterN] at h ⊢
    match hf : f x with
    | none => simp [hf] at h
    | some (.inr q) => simp only [hf] at h ⊢; exact h
    | some (.inl y) => simp only [hf] at h ⊢; exact iterN_mono h (by omega)
theorem iterW_of {T α : Type} {f : T → Option (T ⊕ α)} {n : Nat} {x : T} {r : α} (h : iterN f n x = some r) : iterW f x = some r := by
  have hx : ∃ n, (iterN f n x).isSome = true := ⟨n, by rw [h]; rfl⟩
  unfold iterW
  rw [dif_pos hx]
  obtain ⟨q, hq⟩ := Option.isSome_iff_exists.1 (Classical.choose_spec hx)
  rw [hq]
  rcases Nat.le_total n (Classical.choose hx) with hl | hl
  · rw [← hq, iterN_mono h hl]
  · rw [← h, iterN_mono hq hl]
theorem iterW_inv {T α : Type} {f : T → Option (T ⊕ α)} {x : T} {r : α} (h : iterW f x = some r) : ∃ n, iterN f n x = some r := by
  unfold iterW at h
  split at h
  · exact ⟨_, h⟩
  · cases h
theorem iterW_inl {T α : Type} {f : T → Option (T ⊕ α)} {x y : T} (h : f x = some (.inl y)) : iterW f x = iterW f y := by
  cases hy : iterW f y with
  | some r =>
    obtain ⟨n, hn⟩ := iterW_inv hy
    exact iterW_of (n := n + 1) (by simp [iterN, h, hn])
  | none =>
    cases hx : iterW f x with
    | none => rfl
    | some r =>
      obtain ⟨n, hn⟩ := iterW_inv hx
      cases n with
      | zero => simp [iterN] at hn
      | succ n =>
        simp only [iterN, h] at hn
        rw [iterW_of hn] at hy
        cases hy
theorem iterW_inr {T α : Type} {f : T → Option (T ⊕ α)} {x : T} {r : α} (h : f x = some (.inr r)) : iterW f x = some r := iterW_of (n := 1) (by simp [iterN, h])
theorem iterW_eq {T α : Type} (f : T → Option (T ⊕ α)) (x : T) : iterW f x = match f x with
    | none => none
    | some (.inl y) => iterW f y
    | some (.inr r) => some r := by
  match h : f x with
  | some (.inl y) => exact iterW_inl h
  | some (.inr r) => exact iterW_inr h
  | none =>
    cases hx : iterW f x with
    | none => rfl
    | some r =>
      obtain ⟨n, hn⟩ := iterW_inv hx
      cases n <;> simp [iterN, h] at hn
/-- a loop with a measure and an invariant -/
theorem iterW_meas {T α : Type} {f : T → Option (T ⊕ α)} (I : T → Prop) (μ : T → Nat) (Q : α → Prop)
    (h : ∀ x, I x → (∃ y, f x = some (.inl y) ∧ I y ∧ μ y < μ x) ∨ (∃ r, f x = some (.inr r) ∧ Q r)) : ∀ x, I x → ∃ r, iterW f x = some r ∧ Q r := by
  have key : ∀ (n : Nat) x, μ x < n → I x → ∃ r, iterW f x = some r ∧ Q r := by
    intro n
    induction n with
    | zero => intro x hx; omega
    | succ n ih =>
      intro x hx hi
      rcases h x hi with ⟨y, h1, h2, h3⟩ | ⟨r, h1, h2⟩
      · rw [iterW_inl h1]; exact ih y (by omega) h2
      · exact ⟨r, iterW_inr h1, h2⟩
  exact fun x hi => key _ x (Nat.lt_succ_self _) hi
/-- a loop that computes g -/
theorem iterW_fun {T α : Type} {f : T → Option (T ⊕ α)} (I : T → Prop) (μ : T → Nat) (g : T → α)
    (h : ∀ x, I x → (∃ y, f x = some (.inl y) ∧ I y ∧ μ y < μ x ∧ g y = g x) ∨ f x = some (.inr (g x))) : ∀ x, I x → iterW f x = some (g x) := by
  have key : ∀ (n : Nat) x, μ x < n → I x → iterW f x = some (g x) := by
    intro n
    induction n with
    | zero => intro x hx; omega
    | succ n ih =>
      intro x hx hi
      rcases h x hi with ⟨y, h1, h2, h3, h4⟩ | h1
      · rw [iterW_inl h1, ih y (by omega) h2, h4]
      · exact iterW_inr h1
  exact fun x hi => key _ x (Nat.lt_succ_self _) hi
/-- a recursion that computes s -/
theorem fixW_fun {T α : Type} {G : (T → Option α) → T → Option α} (I : T → Prop) (μ : T → Nat) (s : T → α)
    (h1 : ∀ φ x, I x → (∀ y, I y → φ y = none ∨ φ y = some (s y)) → G φ x = none ∨ G φ x = some (s x))
    (h2 : ∀ φ x, I x → (∀ y, I y → μ y < μ x → φ y = some (s y)) → G φ x = some (s x)) : ∀ x, I x → fixW G x = some (s x) := by
  have a1 : ∀ n x, I x → fixN G n x = none ∨ fixN G n x = some (s x) := by
    intro n
    induction n with
    | zero => intro x _; exact .inl rfl
    | succ n ih => intro x hx; exact h1 _ x hx ih
  have a2 : ∀ n x, I x → μ x < n → fixN G n x = some (s x) := by
    intro n
    induction n with
    | zero => intro x _ hl; omega
    | succ n ih => intro x hx hl; exact h2 _ x hx fun y hy hm => ih y hy (by omega)
  intro x hx
  have hx' : ∃ n, (fixN G n x).isSome = true := ⟨μ x + 1, by rw [a2 _ x hx (Nat.lt_succ_self _)]; rfl⟩
  unfold fixW
  rw [dif_pos hx']
  have := Classical.choose_spec hx'
  rcases a1 (Classical.choose hx') x hx with h | h
  · rw [h] at this; cases this
  · exact h

/-- a loop whose states are known -/
theorem iterW_states {T α : Type} {f : T → Option (T ⊕ α)} (n : Nat) (st : Nat → T) (r : α) (hs : ∀ i, i < n → f (st i) = some (.inl (st (i + 1)))) (he : f (st n) = some (.inr r)) : iterW f (st 0) = some r := by
  have key : ∀ k, k ≤ n → iterW f (st (n - k)) = some r := by
    intro k
    induction k with
    | zero => intro _; exact iterW_inr he
    | succ k ih =>
      intro hk
      have := hs (n - (k + 1)) (by omega)
      rw [show n - (k + 1) + 1 = n - k by omega] at this
      rw [iterW_inl this]
      exact ih (by omega)
  have := key n (Nat.le_refl _)
  rwa [Nat.sub_self] at this
/-- two loops that agree where an invariant holds -/
theorem iterW_congr {T α : Type} {f g : T → Option (T ⊕ α)} (I : T → Prop) (h : ∀ x, I x → f x = g x) (hi : ∀ x y, I x → f x = some (.inl y) → I y) : ∀ x, I x → iterW f x = iterW g x := by
  have key : ∀ n x, I x → iterN f n x = iterN g n x := by
    intro n
    induction n with
    | zero => intro x _; rfl
    | succ n ih =>
      intro x hx
      simp only [iterN, ← h x hx]
      match hf : f x with
      | none => rfl
      | some (.inr q) => rfl
      | some (.inl y) => exact ih y (hi x y hx hf)
  intro x hx
  cases hf : iterW f x with
  | some r =>
    obtain ⟨n, hn⟩ := iterW_inv hf
    rw [key n x hx] at hn
    exact (iterW_of hn).symm
  | none =>
    cases hg : iterW g x with
    | none => rfl
    | some r =>
      obtain ⟨n, hn⟩ := iterW_inv hg
      rw [← key n x hx] at hn
      rw [iterW_of hn] at hf
      cases hf
/-- a search in a row -/
theorem iterW_any {α β : Type} (xs : List α) (p : α → Bool) (f : ((Int × Unit) × Unit) → Option (((Int × Unit) × Unit) ⊕ β)) (A B : β)
    (h1 : ∀ i (hi : i < xs.length), f (((i : Int), ()), ()) = bif p xs[i] then some (.inr A) else some (.inl ((((i + 1 : Nat) : Int), ()), ()))) (h2 : f (((xs.length : Int), ()), ()) = some (.inr B)) :
    iterW f ((0, ()), ()) = some (bif xs.any p then A else B) := by
  have key : ∀ k i, i + k = xs.length → iterW f (((i : Int), ()), ()) = some (bif (xs.drop i).any p then A else B) := by
    intro k
    induction k with
    | zero =>
      intro i hi
      have : i = xs.length := by omega
      subst this
      rw [iterW_inr h2]
      simp
    | succ k ih =>
      intro i hi
      have hl : i < xs.length := by omega
      have hs := h1 i hl
      rw [List.drop_eq_getElem_cons hl]
      cases hp : p xs[i] with
      | true =>
        rw [hp] at hs
        rw [iterW_inr hs]
        simp only [List.any_cons, hp, Bool.true_or, cond_true]
      | false =>
        rw [hp] at hs
        rw [iterW_inl hs, ih (i + 1) (by omega)]
        simp only [List.any_cons, hp, Bool.false_or]
  have := key xs.length 0 (by omega)
  simpa using this
/-- the first answer of a row of questions -/
def scan {β : Type} (e : Nat → Option β) (B : β) : Nat → Nat → β
  | _, 0 => B
  | i, k + 1 => match e i with
    | some b => b
    | none => scan e B (i + 1) k
theorem iterW_scan {β : Type} (n : Nat) (f : ((Int × Unit) × Unit) → Option (((Int × Unit) × Unit) ⊕ β)) (e : Nat → Option β) (B : β)
    (h1 : ∀ i, i < n → f (((i : Int), ()), ()) = match e i with
      | some b => some (.inr b)
      | none => some (.inl ((((i + 1 : Nat) : Int), ()), ()))) (h2 : f (((n : Int), ()), ()) = some (.inr B)) :
    iterW f ((0, ()), ()) = some (scan e B 0 n) := by
  have key : ∀ k i, i + k = n → iterW f (((i : Int), ()), ()) = some (scan e B i k) := by
    intro k
    induction k with
    | zero =>
      intro i hi
      have : i = n := by omega
      subst this
      exact iterW_inr h2
    | succ k ih =>
      intro i hi
      have hs := h1 i (by omega)
      unfold scan
      match he : e i with
      | some b => rw [he] at hs; exact iterW_inr hs
      | none => rw [he] at hs; rw [iterW_inl hs]; exact ih (i + 1) (by omega)
  exact key n 0 (by omega)
theorem scan_map {β γ : Type} (g : β → γ) (e : Nat → Option β) (B : β) : ∀ (k i : Nat), scan (fun i => (e i).map g) (g B) i k = g (scan e B i k)
  | 0, _ => rfl
  | k + 1, i => by
    unfold scan
    match he : e i with
    | some b => rfl
    | none => simp only [Option.map_none]; exact scan_map g e B k (i + 1)
theorem scan_congr {β : Type} {e e' : Nat → Option β} (B : β) : ∀ (k i : Nat), (∀ j, i ≤ j → j < i + k → e j = e' j) → scan e B i k = scan e' B i k
  | 0, _, _ => rfl
  | k + 1, i, h => by
    unfold scan
    rw [h i (Nat.le_refl _) (by omega), scan_congr B k (i + 1) fun j h1 h2 => h j (by omega) (by omega)]
/-! ### numbers -/
theorem w64_id {n : Int} (h1 : -9223372036854775808 ≤ n) (h2 : n ≤ 9223372036854775807) : w64 n = n := by
  simp [w64, IntKind.wrap, IntKind.signed, IntKind.bits]
  omega
theorem w64_rng (n : Int) : -9223372036854775808 ≤ w64 n ∧ w64 n ≤ 9223372036854775807 := by
  simp [w64, IntKind.wrap, IntKind.signed, IntKind.bits]
  omega
theorem room_ok {n b : Nat} (h : n * b ≤ 140737488355328) : room n b = true := Nat.ble_eq_true_of_le h
theorem beq_f {α : Type} [BEq α] [LawfulBEq α] {a b : α} (h : ¬ a = b) : (a == b) = false := by simpa using h
theorem bne_t {α : Type} [BEq α] [LawfulBEq α] {a b : α} (h : ¬ a = b) : (a != b) = true := by simpa using h
theorem beq_t {α : Type} [BEq α] [LawfulBEq α] {a b : α} (h : a = b) : (a == b) = true := by simpa using h
theorem bne_f {α : Type} [BEq α] [LawfulBEq α] {a b : α} (h : a = b) : (a != b) = false := by simpa using h
theorem req_true {α : Type} (x : Option α) : req true x = x := rfl
theorem req_false {α : Type} (x : Option α) : req false x = none := rfl
theorem at?_eq {α : Type} (xs : List α) (i : Int) (h0 : 0 ≤ i) (h1 : i < (xs.length : Int)) : at? xs i = some (xs[i.toNat]'(by omega)) := by
  simp [at?, h0, List.getElem?_eq_getElem (show i.toNat < xs.length by omega)]
theorem inb_iff {i : Int} {n : Nat} : inb i n = true ↔ 0 ≤ i ∧ i < (n : Int) := by simp [inb]
/-! ### functions that the kernel can evaluate: every loop gets a bound -/
/-- what the left side gives, the right side gives -/
def Le {α : Type} (a b : Option α) : Prop := ∀ r, a = some r → b = some r
theorem Le.refl {α : Type} (a : Option α) : Le a a := fun _ h => h
theorem Le.bind {α β : Type} {a b : Option α} {f g : α → Option β} (h : Le a b) (hf : ∀ x, Le (f x) (g x)) : Le (Option.bind a f) (Option.bind b g) := fun r hr => by
  obtain ⟨x, h1, h2⟩ := Option.bind_eq_some_iff.1 hr
  rw [h x h1]
  exact hf x r h2
theorem Le.elim {α β γ : Type} {f g : α → Option γ} {f' g' : β → Option γ} (h : ∀ x, Le (f x) (g x)) (h' : ∀ x, Le (f' x) (g' x)) : ∀ x, Le (Sum.elim f f' x) (Sum.elim g g' x)
  | .inl x => h x
  | .inr x => h' x
theorem Le.cond {α : Type} {c : Bool} {a b a' b' : Option α} (h : Le a a') (h' : Le b b') : Le (bif c then a else b) (bif c then a' else b') := by
  cases c
  · exact h'
  · exact h
theorem Le.req {α : Type} {c : Bool} {a b : Option α} (h : Le a b) : Le (req c a) (req c b) := by
  cases c
  · exact Le.refl _
  · exact h
theorem Le.gopt {α : Type} {c : Bool} {d : α} {a b : Option α} (h : Le a b) : Le (gopt c d a) (gopt c d b) := by
  cases c
  · exact Le.refl _
  · exact h
theorem Le.map {α β : Type} {f : α → β} {a b : Option α} (h : Le a b) : Le (Option.map f a) (Option.map f b) := fun r hr => by
  obtain ⟨x, h1, h2⟩ := Option.map_eq_some_iff.1 hr
  rw [h x h1, ← h2]
  rfl
def agreeC {α : Type} [DecidableEq α] (a b : Option α) : Option α := if a = b then a else none
theorem Le.agree {α : Type} [DecidableEq α] {a b a' b' : Option α} (h : Le a a') (h' : Le b b') : Le (agreeC a b) (agree a' b') := fun r hr => by
  unfold agreeC at hr
  split at hr
  · rename_i e
    have h1 := h r hr
    have h2 := h' r (e ▸ hr)
    unfold Go.Den.agree
    rw [h1, h2, if_pos rfl]
  · cases hr
theorem Le.iter {T α : Type} {f g : T → Option (T ⊕ α)} (h : ∀ x, Le (f x) (g x)) (n : Nat) (x : T) : Le (iterN f n x) (iterW g x) := by
  have key : ∀ n x, Le (iterN f n x) (iterN g n x) := by
    intro n
    induction n with
    | zero => intro x; exact Le.refl _
    | succ n ih =>
      intro x r hr
      simp only [iterN] at hr ⊢
      match hf : f x with
      | none => rw [hf] at hr; cases hr
      | some (.inl y) => rw [hf] at hr; rw [h x _ hf]; exact ih y r hr
      | some (.inr q) => rw [hf] at hr; rw [h x _ hf]; exact hr
  exact fun r hr => iterW_of (key n x r hr)
/-- a loop of bounded length in which a bound on the number of rounds does not matter -/
def Mono {T α : Type} (G : (T → Option α) → T → Option α) : Prop := ∀ φ ψ, (∀ x, Le (φ x) (ψ x)) → ∀ x, Le (G φ x) (G ψ x)
theorem Le.fix {T α : Type} {F G : (T → Option α) → T → Option α} (h : ∀ φ ψ, (∀ x, Le (φ x) (ψ x)) → ∀ x, Le (F φ x) (G ψ x)) (hG : Mono G) (n : Nat) (x : T) : Le (fixN F n x) (fixW G x) := by
  have key : ∀ n x, Le (fixN F n x) (fixN G n x) := by
    intro n
    induction n with
    | zero => intro x; exact Le.refl _
    | succ n ih => intro x; exact h _ _ ih x
  have up : ∀ n x, Le (fixN G n x) (fixN G (n + 1) x) := by
    intro n
    induction n with
    | zero => intro x r hr; cases hr
    | succ n ih => intro x; exact hG _ _ ih x
  have mono : ∀ k n x, Le (fixN G n x) (fixN G (n + k) x) := by
    intro k
    induction k with
    | zero => intro n x; exact Le.refl _
    | succ k ih => intro n x r hr; exact up _ x r (ih n x r hr)
  intro r hr
  have h1 := key n x r hr
  have hx : ∃ n, (fixN G n x).isSome = true := ⟨n, by rw [h1]; rfl⟩
  unfold fixW
  rw [dif_pos hx]
  obtain ⟨q, hq⟩ := Option.isSome_iff_exists.1 (Classical.choose_spec hx)
  rw [hq]
  rcases Nat.le_total n (Classical.choose hx) with hl | hl
  · have := mono (Classical.choose hx - n) n x r h1
    rw [show n + (Classical.choose hx - n) = Classical.choose hx by omega, hq] at this
    exact this
  · have := mono (n - Classical.choose hx) (Classical.choose hx) x q hq
    rw [show Classical.choose hx + (n - Classical.choose hx) = n by omega, h1] at this
    exact this.symm
end Go.Den
