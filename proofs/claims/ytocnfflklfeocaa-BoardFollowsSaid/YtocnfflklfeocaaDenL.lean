/- Loops over an index with what is gathered on the way, in plain Lean. No condition of its own. -/
import Derived.Test.YtocnfflklfeocaaDenQ
namespace Go.Den
set_option linter.unusedVariables false
set_option linter.unusedSimpArgs false

def foldN {A : Type} (g : Nat → A → A) : Nat → A → A
  | 0, a => a
  | n + 1, a => g n (foldN g n a)
theorem iter_fold {A R : Type} (n : Nat) (f : ((A × Int × Unit) × Unit) → Option (((A × Int × Unit) × Unit) ⊕ R)) (g : Nat → A → A) (fin : A → R) (I : Nat → A → Prop) (a0 : A) (h0 : I 0 a0)
    (hs : ∀ i, i < n → ∀ a, I i a → f ((a, (i : Int), ()), ()) = some (.inl ((g i a, ((i : Int) + 1), ()), ())) ∧ I (i + 1) (g i a)) (he : ∀ a, I n a → f ((a, (n : Int), ()), ()) = some (.inr (fin a))) :
    iterW f ((a0, (0 : Int), ()), ()) = some (fin (foldN g n a0)) := by
  have hI : ∀ i, i ≤ n → I i (foldN g i a0) := fun i => by
    induction i with
    | zero => intro _; exact h0
    | succ i ih => intro hi; exact (hs i (by omega) _ (ih (by omega))).2
  have := iterW_states (f := f) n (fun i => ((foldN g i a0, (i : Int), ()), ())) (fin (foldN g n a0)) (fun i hi => by
    rw [(hs i hi _ (hI i (by omega))).1]
    simp [foldN]) (he _ (hI n (Nat.le_refl _)))
  exact this
theorem foldN_app {A : Type} (F : Nat → List A) : ∀ (n : Nat) (a : List A), foldN (fun i a => a ++ F i) n a = a ++ (List.range n).flatMap F
  | 0, a => by simp [foldN]
  | n + 1, a => by rw [foldN, foldN_app F n, List.range_succ]; simp
/-- a loop that appends -/
theorem iter_app {A R : Type} (n B : Nat) (f : (((List A) × Int × Unit) × Unit) → Option ((((List A) × Int × Unit) × Unit) ⊕ R)) (F : Nat → List A) (fin : List A → R) (a0 : List A) (hF : ∀ i, i < n → (F i).length ≤ B)
    (hs : ∀ i, i < n → ∀ a : List A, a.length ≤ a0.length + i * B → f ((a, (i : Int), ()), ()) = some (.inl ((a ++ F i, ((i : Int) + 1), ()), ()))) (he : ∀ a, f ((a, (n : Int), ()), ()) = some (.inr (fin a))) :
    iterW f ((a0, (0 : Int), ()), ()) = some (fin (a0 ++ (List.range n).flatMap F)) := by
  rw [← foldN_app]
  refine iter_fold n f (fun i a => a ++ F i) fin (fun i a => a.length ≤ a0.length + i * B) a0 (by simp) (fun i hi a ha => ⟨hs i hi a ha, ?_⟩) (fun a _ => he a)
  have := hF i hi
  rw [List.length_append, Nat.add_mul]
  omega
theorem flatMap_len {A C : Type} (F : C → List A) (B : Nat) : ∀ l : List C, (∀ x ∈ l, (F x).length ≤ B) → (l.flatMap F).length ≤ l.length * B
  | [], _ => by simp
  | x :: l, h => by
    have := flatMap_len F B l (fun y hy => h y (List.mem_cons_of_mem _ hy))
    have := h x List.mem_cons_self
    rw [List.flatMap_cons, List.length_append, List.length_cons, Nat.add_mul]
    omega
theorem foldN_all {A : Type} (xs : List A) (q : A → Bool) (b0 : Bool) : ∀ n, n ≤ xs.length → foldN (fun i b => b && ((xs[i]?).map q).getD true) n b0 = (b0 && (xs.take n).all q)
  | 0, _ => by simp [foldN]
  | n + 1, h => by
    have hn : n < xs.length := by omega
    rw [foldN, foldN_all xs q b0 n (by omega), List.getElem?_eq_getElem hn, List.take_succ_eq_append_getElem hn, List.all_append]
    simp [Bool.and_assoc]
/-- a loop that asks of all elements -/
theorem iter_all {A R : Type} (xs : List A) (q : A → Bool) (f : ((Bool × Int × Unit) × Unit) → Option (((Bool × Int × Unit) × Unit) ⊕ R)) (fin : Bool → R) (b0 : Bool)
    (hs : ∀ (i : Nat) (hi : i < xs.length) (b : Bool), f ((b, (i : Int), ()), ()) = some (.inl ((b && q xs[i], ((i : Int) + 1), ()), ()))) (he : ∀ b, f ((b, (xs.length : Int), ()), ()) = some (.inr (fin b))) :
    iterW f ((b0, (0 : Int), ()), ()) = some (fin (b0 && xs.all q)) := by
  have := foldN_all xs q b0 xs.length (Nat.le_refl _)
  rw [List.take_length] at this
  rw [← this]
  refine iter_fold xs.length f _ fin (fun _ _ => True) b0 trivial (fun i hi b _ => ⟨?_, trivial⟩) (fun b _ => he b)
  rw [hs i hi b, List.getElem?_eq_getElem hi]
  rfl
/-- a loop that counts -/
theorem iter_count {A R : Type} (xs : List A) (q : A → Bool) (f : ((Int × Int × Unit) × Unit) → Option (((Int × Int × Unit) × Unit) ⊕ R)) (fin : Int → R)
    (hs : ∀ (i : Nat) (hi : i < xs.length) (c : Int), 0 ≤ c → c ≤ i → f ((c, (i : Int), ()), ()) = some (.inl (((bif q xs[i] then c + 1 else c), ((i : Int) + 1), ()), ()))) (he : ∀ c, f ((c, (xs.length : Int), ()), ()) = some (.inr (fin c))) :
    iterW f (((0 : Int), (0 : Int), ()), ()) = some (fin ((xs.countP q : Nat) : Int)) := by
  have hf : ∀ n, n ≤ xs.length → foldN (fun i (c : Int) => bif ((xs[i]?).map q).getD false then c + 1 else c) n 0 = (((xs.take n).countP q : Nat) : Int) := fun n => by
    induction n with
    | zero => intro _; simp [foldN]
    | succ n ih =>
      intro h
      have hn : n < xs.length := by omega
      rw [foldN, ih (by omega), List.getElem?_eq_getElem hn, List.take_succ_eq_append_getElem hn, List.countP_append]
      simp only [Option.map_some, Option.getD_some, List.countP_cons, List.countP_nil]
      cases q xs[n] <;> simp
  have := hf xs.length (Nat.le_refl _)
  rw [List.take_length] at this
  rw [← this]
  refine iter_fold xs.length f _ fin (fun i c => 0 ≤ c ∧ c ≤ i) 0 (by simp) (fun i hi c hc => ⟨?_, ?_⟩) (fun b _ => he b)
  · rw [hs i hi c hc.1 hc.2, List.getElem?_eq_getElem hi]
    rfl
  · cases ((xs[i]?).map q).getD false <;> simp <;> omega
/-- a walk over a list that may stop -/
def scanL {A S R : Type} (g : S → A → S ⊕ R) (fin : S → R) : List A → S → R
  | [], s => fin s
  | x :: xs, s => match g s x with
    | .inl s' => scanL g fin xs s'
    | .inr r => r
theorem iter_scan {A S T R : Type} (xs : List A) (f : T → Option (T ⊕ R)) (st : Nat → S → T) (g : S → A → S ⊕ R) (fin : S → R) (I : Nat → S → Prop)
    (hs : ∀ i (hi : i < xs.length) s, I i s → f (st i s) = match g s xs[i] with
      | .inl s' => some (.inl (st (i + 1) s'))
      | .inr r => some (.inr r))
    (hI : ∀ i (hi : i < xs.length) s s', I i s → g s xs[i] = .inl s' → I (i + 1) s')
    (he : ∀ s, I xs.length s → f (st xs.length s) = some (.inr (fin s))) (s0 : S) (h0 : I 0 s0) :
    iterW f (st 0 s0) = some (scanL g fin xs s0) := by
  have key : ∀ k i s, i + k = xs.length → I i s → iterW f (st i s) = some (scanL g fin (xs.drop i) s) := by
    intro k
    induction k with
    | zero =>
      intro i s hi hs'
      have : i = xs.length := by omega
      subst this
      rw [iterW_inr (he s hs'), List.drop_length]
      rfl
    | succ k ih =>
      intro i s hi hs'
      have hl : i < xs.length := by omega
      have h1 := hs i hl s hs'
      have h2 := hI i hl s
      rw [List.drop_eq_getElem_cons hl]
      unfold scanL
      match hg : g s xs[i] with
      | .inl s' =>
        rw [hg] at h1
        rw [iterW_inl h1, ih (i + 1) s' (by omega) (h2 s' hs' hg)]
      | .inr r =>
        rw [hg] at h1
        rw [iterW_inr h1]
  have := key xs.length 0 s0 (by omega) h0
  rwa [List.drop_zero] at this
/-- a walk that does not stop -/
theorem scanL_inl {A S R : Type} (g : S → A → S ⊕ R) (g' : S → A → S) (fin : S → R) : ∀ (xs : List A) (s : S), (∀ s x, x ∈ xs → g s x = .inl (g' s x)) → scanL g fin xs s = fin (xs.foldl g' s)
  | [], _, _ => rfl
  | x :: xs, s, h => by
    unfold scanL
    rw [h s x List.mem_cons_self]
    exact scanL_inl g g' fin xs _ fun s y hy => h s y (List.mem_cons_of_mem _ hy)
theorem Le.iterW {T α : Type} {f g : T → Option (T ⊕ α)} (h : ∀ x, Le (f x) (g x)) (x : T) : Le (Go.Den.iterW f x) (Go.Den.iterW g x) := fun r hr => by
  obtain ⟨n, hn⟩ := iterW_inv hr
  exact Le.iter h n x r hn
theorem Le.agreeW {α : Type} {a b a' b' : Option α} (h : Le a a') (h' : Le b b') : Le (Go.Den.agree a b) (Go.Den.agree a' b') := fun r hr => by
  unfold Go.Den.agree at hr ⊢
  split at hr
  · rename_i e
    rw [h r hr, h' r (e ▸ hr), if_pos rfl]
  · cases hr
/-- a recursion that computes s -/
theorem fixW_ind {T α : Type} {G : (T → Option α) → T → Option α} (hG : Mono G) (I : T → Prop) (μ : T → Nat) (s : T → α)
    (h : ∀ φ x, I x → (∀ y, I y → μ y < μ x → φ y = some (s y)) → G φ x = some (s x)) : ∀ x, I x → fixW G x = some (s x) := by
  have a2 : ∀ n x, I x → μ x < n → fixN G n x = some (s x) := by
    intro n
    induction n with
    | zero => intro x _ hl; omega
    | succ n ih => intro x hx hl; exact h _ x hx fun y hy hm => ih y hy (by omega)
  intro x hx
  exact Le.fix (fun φ ψ hs y => hG φ ψ hs y) hG (μ x + 1) x _ (a2 _ x hx (Nat.lt_succ_self _))
end Go.Den
