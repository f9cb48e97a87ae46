/- Loops over an index with what is gathered on the way, in plain Lean. No condition of its own. -/
import Derived.Test.YtmieohplcoeadaaDenQ
namespace Go.Den
set_option linter.unusedVariables false
set_option linter.unusedSimpArgs false

def foldN {A : Type} (g : Nat → A → A) : Nat → A → A
  | 0, a => a
  | n + 1, a => g n (foldN g n a)
theorem iter_fold {A R : Type} (n : Nat) (f : ((A × Int × Unit) × Unit) → Option (((A × Int × Unit) × Unit) ⊕ R)) (g : Nat → A → A) (fin : A → R) (I : Nat → A → Prop) (a0 : A) (h0 : I 0 a0)
    (hs : ∀ i, i < n → ∀ a, I i a → f ((a, (i : Int), ()), ()) = some (.inl ((g i a, ((i : Int) + 1), ()), ())) ∧ I (i + 1) (g i a)) (he : ∀ a, I n a → f ((a, (n : Int), ()), ()) = some (.inr (fin a))) :
    iterW f ((a0, (0 : Int), ()), ()) = some (fin (foldN g n a0)) := by
  have hI : ∀ i, i ≤ n → I i (foldN g i a0) := fun i => by
    induction i with
    | zero => intro _; exact h0
    | succ i ih => intro hi; exact (hs i (by omega) _ (ih (by omega))).2
  have := iterW_states (f := f) n (fun i => ((foldN g i a0, (i : Int), ()), ())) (fin (foldN g n a0)) (fun i hi => by
    rw [(hs i hi _ (hI i (by omega))).1]
    simp [foldN]) (he _ (hI n (Nat.le_refl _)))
  exact this
theorem foldN_app {A : Type} (F : Nat → List A) : ∀ (n : Nat) (a : List A), foldN (fun i a => a ++ F i) n a = a ++ (List.range n).flatMap F
  | 0, a => by simp [foldN]
  | n + 1, a => by rw [foldN, foldN_app F n, List.range_succ]; simp
/-- a loop that appends -/
theorem iter_app {A R : Type} (n B : Nat) (f : (((List A) × Int × Unit) × Unit) → Option ((((List A) × Int × Unit) × Unit) ⊕ R)) (F : Nat → List A) (fin : List A → R) (a0 : List A) (hF : ∀ i, i < n → (F i).length ≤ B)
    (hs : ∀ i, i < n → ∀ a : List A, a.length ≤ a0.length + i * B → f ((a, (i : Int), ()), ()) = some (.inl ((a ++ F i, ((i : Int) + 1), ()), ()))) (he : ∀ a, f ((a, (n : Int), ()), ()) = some (.inr (fin a))) :
    iterW f ((a0, (0 : Int), ()), ()) = some (fin (a0 ++ (List.range n).flatMap F)) := by
  rw [← foldN_app]
  refine iter_fold n f (fun i a => a ++ F i) fin (fun i a => a.length ≤ a0.length + i * B) a0 (by simp) (fun i hi a ha => ⟨hs i hi a ha, ?_⟩) (fun a _ => he a)
  have := hF i hi
  rw [List.length_append, Nat.add_mul]
  omega
theorem flatMap_len {A C : Type} (F : C → List A) (B : Nat) : ∀ l : List C, (∀ x ∈ l, (F x).length ≤ B) → (l.flatMap F).length ≤ l.length * B
  | [], _ => by simp
  | x :: l, h => by
    have := flatMap_len F B l (fun y hy => h y (List.mem_cons_of_mem _ hy))
    have := h x List.mem_cons_self
    rw [List.flatMap_cons, List.length_append, List.length_cons, Nat.add_mul]
    omega
theorem foldN_all {A : Type} (xs : List A) (q : A → Bool) (b0 : Bool) : ∀ n, n ≤ xs.length → foldN (fun i b => b && ((xs[i]?).map q).getD true) n b0 = (b0 && (xs.take n).all q)
  | 0, _ => by simp [foldN]
  | n + 1, h => by
    have hn : n < xs.length := by omega
    rw [foldN, foldN_all xs q b0 n (by omega), List.getElem?_eq_getElem hn, List.take_succ_eq_append_getElem hn, List.all_append]
    simp [Bool.and_assoc]
/-- a loop that asks of all elements -/
theorem iter_all {A R : Type} (xs : List A) (q : A → Bool) (f : ((Bool × Int × Unit) × Unit) → Option (((Bool × Int × Unit) × Unit) ⊕ R)) (fin : Bool → R) (b0 : Bool)
    (hs : ∀ (i : Nat) (hi : i < xs.length) (b : Bool), f ((b, (i : Int), ()), ()) = some (.inl ((b && q xs[i], ((i : Int) + 1), ()), ()))) (he : ∀ b, f ((b, (xs.length : Int), ()), ()) = some (.inr (fin b))) :
    iterW f ((b0, (0 : Int), ()), ()) = some (fin (b0 && xs.all q)) := by
  have := foldN_all xs q b0 xs.length (Nat.le_refl _)
  rw [List.take_length] at this
  rw [← this]
  refine iter_fold xs.length f _ fin (fun _ _ => True) b0 trivial (fun i hi b _ => ⟨?_, trivial⟩) (fun b _ => he b)
  rw [hs i hi b, List.getElem?_eq_getElem hi]
  rfl
/-- a loop that counts -/
theorem iter_count {A R : Type} (xs : List A) (q : A → Bool) (f : ((Int × Int × Unit) × Unit) → Option (((Int × Int × Unit) × Unit) ⊕ R)) (fin : Int → R)
    (hs : ∀ (i : Nat) (hi : i < xs.length) (c : Int), 0 ≤ c → c ≤ i → f ((c, (i : Int), ()), ()) = some (.inl (((bif q xs[i] then c + 1 else c), ((i : Int) + 1), ()), ()))) (he : ∀ c, f ((c, (xs.length : Int), ()), ()) = some (.inr (fin c))) :
    iterW f (((0 : Int), (0 : Int), ()), ()) = some (fin ((xs.countP q : Nat) : Int)) := by
  have hf : ∀ n, n ≤ xs.length → foldN (fun i (c : Int) => bif ((xs[i]?).map q).getD false then c + 1 else c) n 0 = (((xs.take n).countP q : Nat) : Int) := fun n => by
    induction n with
    | zero => intro _; simp [foldN]
    | succ n ih =>
      intro h
      have hn : n < xs.length := by omega
      rw [foldN, ih (by omega), List.getElem?_eq_getElem hn, List.take_succ_eq_append_getElem hn, List.countP_append]
      simp only [Option.map_some, Option.getD_some, List.countP_cons, List.countP_nil]
      cases q xs[n] <;> simp
  have := hf xs.length (Nat.le_refl _)
  rw [List.take_length] at this
  rw [← this]
  refine iter_fold xs.length f _ fin (fun i c => 0 ≤ c ∧ c ≤ i) 0 (by simp) (fun i hi c hc => ⟨?_, ?_⟩) (fun b _ => he b)
  · rw [hs i hi c hc.1 hc.2, List.getElem?_eq_getElem hi]
    rfl
  · cases ((xs[i]?).map q).getD false <;> simp <;> omega
end Go.Den
