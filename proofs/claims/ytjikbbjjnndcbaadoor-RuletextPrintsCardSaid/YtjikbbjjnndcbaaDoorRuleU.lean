/- Loops over lines of a text. No condition of its own. -/
import Derived.Test.YtjikbbjjnndcbaaDoorRuleT
import Derived.Test.YtjikbbjjnndcbaaDoorDenL
namespace Go.Proofs.YtjikbbjjnndcbaaDoor
open Go.Den
set_option linter.unusedVariables false
set_option linter.unusedSimpArgs false
set_option maxRecDepth 100000

theorem sz_mk (a : Array UInt8) : (ByteArray.mk a).size = a.size := rfl
theorem strOf_data (ns : List Int) : (strOf ns).data.toList = ns.map fun n => UInt8.ofNat n.toNat := by
  have key : ∀ (l : List Int) (r : ByteArray), (l.foldl (fun r n => r.push (UInt8.ofNat n.toNat)) r).data.toList = r.data.toList ++ l.map fun n => UInt8.ofNat n.toNat := fun l => by
    induction l with
    | nil => intro r; simp
    | cons x l ih => intro r; rw [List.foldl_cons, ih]; simp [ByteArray.data_push]
  unfold strOf
  rw [key]
  rfl
theorem strOf_snoc (l : List Int) (x : Int) : strOf (l ++ [x]) = strOf l ++ one x.toNat := ba_ext (by
  rw [ba_app, strOf_data, strOf_data, List.map_append]; rfl)
def bigT (F : Nat → ByteArray) (n : Nat) : ByteArray := foldN (fun i s => s ++ F i) n e0T
theorem foldN_cat (F : Nat → ByteArray) : ∀ (n : Nat) (a : ByteArray), foldN (fun i s => s ++ F i) n a = a ++ bigT F n
  | 0, a => (app_e0 a).symm
  | n + 1, a => by
    show foldN _ n a ++ F n = a ++ (bigT F n ++ F n)
    rw [foldN_cat F n a, ba_asc]
theorem bigT_cat (L : Nat → List ByteArray) : ∀ n, bigT (fun i => catT (L i)) n = catT ((List.range n).flatMap L)
  | 0 => rfl
  | n + 1 => by
    show bigT _ n ++ catT (L n) = _
    rw [bigT_cat L n, List.range_succ, List.flatMap_append, cat_app]
    simp
theorem strOf_big (g : Nat → Int) (l : List Int) : ∀ n, strOf (l ++ (List.range n).map g) = strOf l ++ bigT (fun i => one (g i).toNat) n
  | 0 => by rw [List.range_zero, List.map_nil, List.append_nil]; exact (app_e0 _).symm
  | n + 1 => by
    rw [List.range_succ, List.map_append, ← List.append_assoc, List.map_cons, List.map_nil, strOf_snoc, strOf_big g l n, ba_asc]
    rfl
theorem bigT_size (F : Nat → ByteArray) (B : Nat) : ∀ n, (∀ i, i < n → (F i).size ≤ B) → (bigT F n).size ≤ n * B
  | 0, _ => Nat.zero_le _
  | n + 1, h => by
    show (bigT F n ++ F n).size ≤ _
    have := bigT_size F B n fun i hi => h i (by omega)
    have := h n (by omega)
    rw [size_app, Nat.add_mul]
    omega
theorem cat_size (B : Nat) : ∀ l : List ByteArray, (∀ x ∈ l, x.size ≤ B) → (catT l).size ≤ l.length * (B + 1)
  | [], _ => Nat.zero_le _
  | x :: l, h => by
    show ((x ++ nlT) ++ catT l).size ≤ _
    have h1 := cat_size B l fun y hy => h y (List.mem_cons_of_mem _ hy)
    have h2 := h x List.mem_cons_self
    rw [size_app, size_app, List.length_cons, Nat.add_mul, show nlT.size = 1 from rfl]
    omega
theorem flat_idx {A C : Type} (l : List A) (G : A → List C) : ∀ n, n ≤ l.length → (List.range n).flatMap (fun i => (l[i]?).toList.flatMap G) = (l.take n).flatMap G
  | 0, _ => by simp
  | n + 1, h => by
    rw [List.range_succ, List.flatMap_append, flat_idx l G n (by omega), List.take_succ_eq_append_getElem (by omega), List.flatMap_append]
    simp [List.getElem?_eq_getElem (show n < l.length by omega)]
/-- a loop over a list that appends lines -/
theorem iter_list {A C R : Type} (xs : List A) (B : Nat) (f : (((List C) × Int × Unit) × Unit) → Option ((((List C) × Int × Unit) × Unit) ⊕ R)) (G : A → List C) (fin : List C → R) (a0 : List C) (hG : ∀ x ∈ xs, (G x).length ≤ B)
    (hs : ∀ i (hi : i < xs.length) (a : List C), a.length ≤ a0.length + i * B → f ((a, (i : Int), ()), ()) = some (.inl ((a ++ G xs[i], ((i : Int) + 1), ()), ()))) (he : ∀ a, f ((a, (xs.length : Int), ()), ()) = some (.inr (fin a))) :
    iterW f ((a0, (0 : Int), ()), ()) = some (fin (a0 ++ xs.flatMap G)) := by
  have := iter_app xs.length B f (fun i => (xs[i]?).toList.flatMap G) fin a0 (fun i hi => by
    simp only [List.getElem?_eq_getElem hi, Option.toList_some, List.flatMap_cons, List.flatMap_nil, List.append_nil]
    exact hG _ (List.getElem_mem hi)) (fun i hi a ha => by
    simp only [List.getElem?_eq_getElem hi, Option.toList_some, List.flatMap_cons, List.flatMap_nil, List.append_nil]
    exact hs i hi a ha) he
  rw [this, flat_idx xs G _ (Nat.le_refl _), List.take_length]
/-- a loop that appends to a text -/
theorem iter_cat {R : Type} (n B : Nat) (f : ((ByteArray × Int × Unit) × Unit) → Option (((ByteArray × Int × Unit) × Unit) ⊕ R)) (F : Nat → ByteArray) (fin : ByteArray → R) (a0 : ByteArray) (hF : ∀ i, i < n → (F i).size ≤ B)
    (hs : ∀ i, i < n → ∀ a : ByteArray, a.size ≤ a0.size + i * B → f ((a, (i : Int), ()), ()) = some (.inl ((a ++ F i, ((i : Int) + 1), ()), ()))) (he : ∀ a, f ((a, (n : Int), ()), ()) = some (.inr (fin a))) :
    iterW f ((a0, (0 : Int), ()), ()) = some (fin (a0 ++ bigT F n)) := by
  rw [← foldN_cat]
  refine iter_fold n f (fun i a => a ++ F i) fin (fun i a => a.size ≤ a0.size + i * B) a0 (by simp) (fun i hi a ha => ⟨hs i hi a ha, ?_⟩) (fun a _ => he a)
  have := hF i hi
  rw [size_app, Nat.add_mul]
  omega
theorem iter_listT {A R : Type} (xs : List A) (B : Nat) (f : ((ByteArray × Int × Unit) × Unit) → Option (((ByteArray × Int × Unit) × Unit) ⊕ R)) (G : A → List ByteArray) (fin : ByteArray → R) (a0 : ByteArray) (hG : ∀ x ∈ xs, (catT (G x)).size ≤ B)
    (hs : ∀ i (hi : i < xs.length) (a : ByteArray), a.size ≤ a0.size + i * B → f ((a, (i : Int), ()), ()) = some (.inl ((a ++ catT (G xs[i]), ((i : Int) + 1), ()), ()))) (he : ∀ a, f ((a, (xs.length : Int), ()), ()) = some (.inr (fin a))) :
    iterW f ((a0, (0 : Int), ()), ()) = some (fin (a0 ++ catT (xs.flatMap G))) := by
  have := iter_cat xs.length B f (fun i => catT ((xs[i]?).toList.flatMap G)) fin a0 (fun i hi => by
    simp only [List.getElem?_eq_getElem hi, Option.toList_some, List.flatMap_cons, List.flatMap_nil, List.append_nil]
    exact hG _ (List.getElem_mem hi)) (fun i hi a ha => by
    simp only [List.getElem?_eq_getElem hi, Option.toList_some, List.flatMap_cons, List.flatMap_nil, List.append_nil]
    exact hs i hi a ha) he
  rw [this, bigT_cat, flat_idx xs G _ (Nat.le_refl _), List.take_length]
/-- a loop that counts down -/
theorem iter_foldD {A R : Type} (n : Nat) (f : ((A × Int × Unit) × Unit) → Option (((A × Int × Unit) × Unit) ⊕ R)) (g : Nat → A → A) (fin : A → R) (I : Nat → A → Prop) (a0 : A) (h0 : I 0 a0)
    (hs : ∀ i, i < n → ∀ a, I i a → f ((a, (n : Int) - 1 - (i : Int), ()), ()) = some (.inl ((g i a, (n : Int) - 1 - (i : Int) - 1, ()), ())) ∧ I (i + 1) (g i a)) (he : ∀ a, I n a → f ((a, (-1 : Int), ()), ()) = some (.inr (fin a))) :
    iterW f ((a0, (n : Int) - 1, ()), ()) = some (fin (foldN g n a0)) := by
  have hI : ∀ i, i ≤ n → I i (foldN g i a0) := fun i => by
    induction i with
    | zero => intro _; exact h0
    | succ i ih => intro hi; exact (hs i (by omega) _ (ih (by omega))).2
  have := iterW_states (f := f) n (fun i => ((foldN g i a0, (n : Int) - 1 - (i : Int), ()), ())) (fin (foldN g n a0)) (fun i hi => by
    rw [(hs i hi _ (hI i (by omega))).1, show (n : Int) - 1 - (i : Int) - 1 = (n : Int) - 1 - ((i + 1 : Nat) : Int) by omega]
    rfl) (by
    rw [show (n : Int) - 1 - (n : Int) = -1 by omega]
    exact he _ (hI n (Nat.le_refl _)))
  simp only [Int.natCast_zero, Int.sub_zero] at this
  exact this
end Go.Proofs.YtjikbbjjnndcbaaDoor
