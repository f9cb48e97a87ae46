/- Certificates: what a list of nodes proves, and the tree that it is. No condition of its own. -/
import Derived.Test.YticeklcmijbjfaaSearchP
namespace Go.Proofs.Yticeklcmijbjfaa
open Go.Den
set_option linter.unusedVariables false
set_option linter.unusedSimpArgs false
set_option maxRecDepth 100000

abbrev CNode := Mv × (List Int) × Unit
/-- the loop over answers -/
def valL (f : Place → Int → Int) (r : Rules) (q : Place) (own k : Int) : List (Mv × Int) → Int → Int
  | [], best => best
  | (m, j) :: rest, best => bif (resultOf r (afterOf r q m) == 0) && decide (j > k) then (bif (f (afterOf r q m) j == 0) then 0 else valL f r q own k rest (max best (f (afterOf r q m) j + 2)))
      else bif (resultOf r (afterOf r q m) != own) || (j != -1) then 0 else valL f r q own k rest (max best 2)
/-- after how many moves the winner has won; 0: it is no proof -/
def valN (l : List CNode) (r : Rules) : Nat → Place → Int → Int
  | 0, _, _ => 0
  | m + 1, p, k => match l[k.toNat]? with
    | none => 0
    | some nd => bif !allowedB r p nd.1 then 0 else
      bif (resultOf r (afterOf r p nd.1) != 0) then (bif ((resultOf r (afterOf r p nd.1) == 1 + p.turn) && decide (nd.2.1.length = 0)) then 1 else 0) else
      bif !decide ((movesOf r (afterOf r p nd.1)).length = nd.2.1.length) then 0 else
      valL (valN l r m) r (afterOf r p nd.1) (1 + p.turn) k ((movesOf r (afterOf r p nd.1)).zip nd.2.1) 0
theorem valL_congr {f g : Place → Int → Int} {r : Rules} {q : Place} {own k : Int} (h : ∀ s j, j > k → f s j = g s j) : ∀ (xs : List (Mv × Int)) (best : Int), valL f r q own k xs best = valL g r q own k xs best
  | [], _ => rfl
  | (m, j) :: rest, best => by
    unfold valL
    by_cases hj : j > k
    · rw [h _ j hj]
      rw [valL_congr h rest, valL_congr h rest]
    · rw [decide_eq_false hj, Bool.and_false, cond_false, cond_false, valL_congr h rest]
theorem valN_fuel {l : List CNode} {r : Rules} : ∀ (m m' : Nat) (p : Place) (k : Int), 0 ≤ k → l.length ≤ k.toNat + m → l.length ≤ k.toNat + m' → valN l r m p k = valN l r m' p k
  | 0, 0, _, _, _, _, _ => rfl
  | 0, m' + 1, p, k, _, h, _ => by
    unfold valN
    rw [List.getElem?_eq_none (by omega)]
  | m + 1, 0, p, k, _, _, h => by
    unfold valN
    rw [List.getElem?_eq_none (by omega)]
  | m + 1, m' + 1, p, k, h0, h1, h2 => by
    unfold valN
    cases l[k.toNat]? with
    | none => rfl
    | some nd =>
      simp only []
      rw [valL_congr (f := valN l r m) (g := valN l r m') fun s j hj => valN_fuel m m' s j (by omega) (by omega) (by omega)]
/-- the same, with what is marked on the way -/
def winsL (f : List Bool → Place → Int → List Bool × Int) (r : Rules) (q : Place) (own k : Int) : List (Mv × Int) → List Bool → Int → List Bool × Int
  | [], u, best => (u, best)
  | (m, j) :: rest, u, best => bif (resultOf r (afterOf r q m) == 0) && decide (j > k) then (bif ((f u (afterOf r q m) j).2 == 0) then ((f u (afterOf r q m) j).1, 0) else winsL f r q own k rest (f u (afterOf r q m) j).1 (max best ((f u (afterOf r q m) j).2 + 2)))
      else bif (resultOf r (afterOf r q m) != own) || (j != -1) then (u, 0) else winsL f r q own k rest u (max best 2)
def winsN (l : List CNode) (r : Rules) : Nat → List Bool → Place → Int → List Bool × Int
  | 0, u, _, _ => (u, 0)
  | m + 1, u, p, k => match l[k.toNat]? with
    | none => (u, 0)
    | some nd => bif !allowedB r p nd.1 then (u, 0) else
      bif (resultOf r (afterOf r p nd.1) != 0) then (u.set k.toNat true, bif ((resultOf r (afterOf r p nd.1) == 1 + p.turn) && decide (nd.2.1.length = 0)) then 1 else 0) else
      bif !decide ((movesOf r (afterOf r p nd.1)).length = nd.2.1.length) then (u.set k.toNat true, 0) else
      winsL (winsN l r m) r (afterOf r p nd.1) (1 + p.turn) k ((movesOf r (afterOf r p nd.1)).zip nd.2.1) (u.set k.toNat true) 0
theorem winsL_congr {f g : List Bool → Place → Int → List Bool × Int} {r : Rules} {q : Place} {own k : Int} (h : ∀ u s j, j > k → f u s j = g u s j) : ∀ (xs : List (Mv × Int)) (u : List Bool) (best : Int), winsL f r q own k xs u best = winsL g r q own k xs u best
  | [], _, _ => rfl
  | (m, j) :: rest, u, best => by
    unfold winsL
    by_cases hj : j > k
    · rw [h u _ j hj]
      rw [winsL_congr h rest, winsL_congr h rest]
    · rw [decide_eq_false hj, Bool.and_false, cond_false, cond_false, winsL_congr h rest]
theorem winsN_fuel {l : List CNode} {r : Rules} : ∀ (m m' : Nat) (u : List Bool) (p : Place) (k : Int), 0 ≤ k → l.length ≤ k.toNat + m → l.length ≤ k.toNat + m' → winsN l r m u p k = winsN l r m' u p k
  | 0, 0, _, _, _, _, _, _ => rfl
  | 0, m' + 1, u, p, k, _, h, _ => by
    unfold winsN
    rw [List.getElem?_eq_none (by omega)]
  | m + 1, 0, u, p, k, _, _, h => by
    unfold winsN
    rw [List.getElem?_eq_none (by omega)]
  | m + 1, m' + 1, u, p, k, h0, h1, h2 => by
    unfold winsN
    cases l[k.toNat]? with
    | none => rfl
    | some nd =>
      simp only []
      rw [winsL_congr (f := winsN l r m) (g := winsN l r m') fun u s j hj => winsN_fuel m m' u s j (by omega) (by omega) (by omega)]
theorem winsL_val {f : List Bool → Place → Int → List Bool × Int} {g : Place → Int → Int} {r : Rules} {q : Place} {own k : Int} (h : ∀ u s j, (f u s j).2 = g s j) : ∀ (xs : List (Mv × Int)) (u : List Bool) (best : Int), (winsL f r q own k xs u best).2 = valL g r q own k xs best
  | [], _, _ => rfl
  | (m, j) :: rest, u, best => by
    unfold winsL valL
    rw [h u]
    cases ((resultOf r (afterOf r q m) == 0) && decide (j > k)) with
    | true =>
      simp only [cond_true]
      cases (g (afterOf r q m) j == 0) with
      | true => rfl
      | false => simp only [cond_false]; exact winsL_val h rest _ _
    | false =>
      simp only [cond_false]
      cases ((resultOf r (afterOf r q m) != own) || (j != -1)) with
      | true => rfl
      | false => simp only [cond_false]; exact winsL_val h rest _ _
theorem winsN_val {l : List CNode} {r : Rules} : ∀ (m : Nat) (u : List Bool) (p : Place) (k : Int), (winsN l r m u p k).2 = valN l r m p k
  | 0, _, _, _ => rfl
  | m + 1, u, p, k => by
    unfold winsN valN
    cases l[k.toNat]? with
    | none => rfl
    | some nd =>
      simp only []
      cases (!allowedB r p nd.1) with
      | true => rfl
      | false =>
        simp only [cond_false]
        cases (resultOf r (afterOf r p nd.1) != 0) with
        | true => rfl
        | false =>
          simp only [cond_false]
          cases (!decide ((movesOf r (afterOf r p nd.1)).length = nd.2.1.length)) with
          | true => rfl
          | false => simp only [cond_false]; exact winsL_val (fun u s j => winsN_val m u s j) _ _ _
/-! the tree of the nodes -/
def reps (l : List CNode) (k : Int) : List Int := (l.getD k.toNat ((0, (0, (0, ()))), ([], ()))).2.1
inductive Anc (l : List CNode) : Int → Int → Prop
  | refl (k : Int) : Anc l k k
  | up {k a x : Int} : Anc l k a → x ∈ reps l a → a < x → 0 ≤ a → Anc l k x
theorem Anc.le {l : List CNode} {k x : Int} (h : Anc l k x) : k ≤ x := by
  induction h with
  | refl => omega
  | up _ _ h1 _ ih => omega
theorem Anc.trans {l : List CNode} {a b c : Int} (h : Anc l a b) (g : Anc l b c) : Anc l a c := by
  induction g with
  | refl => exact h
  | up _ h1 h2 h3 ih => exact .up ih h1 h2 h3
/-- each node is named by one node, once -/
structure TreeL (l : List CNode) : Prop where
  uniq : ∀ a a' x : Int, 0 ≤ a → 0 ≤ a' → a < x → a' < x → x ∈ reps l a → x ∈ reps l a' → a = a'
  once : ∀ a x : Int, 0 ≤ a → a < x → (reps l a).count x ≤ 1
theorem TreeL.chain {l : List CNode} (h : TreeL l) {j j' d : Int} (h1 : Anc l j d) (h2 : Anc l j' d) : Anc l j j' ∨ Anc l j' j := by
  induction h1 with
  | refl => exact .inr h2
  | up hk hm hlt h0 ih =>
    cases h2 with
    | refl => exact .inl (.up hk hm hlt h0)
    | up hk' hm' hlt' h0' =>
      have e := h.uniq _ _ _ h0 h0' hlt hlt' hm hm'
      subst e
      exact ih hk'
theorem TreeL.apart {l : List CNode} (h : TreeL l) {k j j' d : Int} (hk : 0 ≤ k) (hj : j ∈ reps l k) (hj' : j' ∈ reps l k) (h1 : k < j) (h2 : k < j') (hne : j ≠ j') (ha : Anc l j d) (hb : Anc l j' d) : False := by
  have key : ∀ a b : Int, a ∈ reps l k → b ∈ reps l k → k < a → k < b → a ≠ b → Anc l a b → False := by
    intro a b ha hb ha1 hb1 hne hab
    cases hab with
    | refl => exact hne rfl
    | up hk' hm hlt h0 =>
      have e := h.uniq _ _ _ h0 hk hlt hb1 hm hb
      subst e
      have := hk'.le
      omega
  rcases h.chain ha hb with h3 | h3
  · exact key j j' hj hj' h1 h2 hne h3
  · exact key j' j hj' hj h2 h1 (fun e => hne e.symm) h3
end Go.Proofs.Yticeklcmijbjfaa
