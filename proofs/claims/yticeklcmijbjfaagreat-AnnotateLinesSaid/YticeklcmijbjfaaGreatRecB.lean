/- Records: ways. No condition of its own. -/
import Derived.Test.YticeklcmijbjfaaGreatRecA
import Derived.Test.YticeklcmijbjfaaGreatRecordM
namespace Go.Proofs.YticeklcmijbjfaaGreat
open Go.Den
set_option linter.unusedVariables false
set_option linter.unusedSimpArgs false
set_option maxRecDepth 100000

def rpar (ns : List RNode) (i : Nat) : Int := ((ns[i]?).map (·.1)).getD (-1)
def rmv (ns : List RNode) (i : Nat) : Mv := ((ns[i]?).map (·.2.1)).getD (0, (0, (0, ())))
def chainN (ns : List RNode) : Nat → Int → List Nat
  | 0, _ => []
  | f + 1, n => if n < 0 then [] else n.toNat :: chainN ns f (rpar ns n.toNat)
/-- the parents of the first k nodes lie ahead of them -/
def Down (ns : List RNode) (k : Nat) : Prop := ∀ i, i < k → rpar ns i < (i : Int)
theorem Down.mono {ns : List RNode} {k j : Nat} (h : Down ns k) (hj : j ≤ k) : Down ns j := fun i hi => h i (by omega)
theorem chain_fuel {ns : List RNode} : ∀ (f g : Nat) (n : Int), Down ns (n + 1).toNat → n < (f : Int) → n < (g : Int) → chainN ns f n = chainN ns g n
  | 0, 0, n, _, _, _ => rfl
  | 0, g + 1, n, _, h, _ => by
    show [] = if n < 0 then [] else _
    rw [if_pos (by omega)]
  | f + 1, 0, n, _, _, h => by
    show (if n < 0 then [] else _) = []
    rw [if_pos (by omega)]
  | f + 1, g + 1, n, hd, h1, h2 => by
    show (if n < 0 then [] else _) = if n < 0 then [] else _
    by_cases h : n < 0
    · rw [if_pos h, if_pos h]
    · rw [if_neg h, if_neg h]
      have := hd n.toNat (by omega)
      rw [chain_fuel f g (rpar ns n.toNat) (hd.mono (by omega)) (by omega) (by omega)]
/-- the numbers of the nodes on the way up -/
def wayN (ns : List RNode) (n : Int) : List Nat := chainN ns (n + 1).toNat n
theorem wayN_neg (ns : List RNode) {n : Int} (h : n < 0) : wayN ns n = [] := by
  unfold wayN
  rw [show (n + 1).toNat = 0 by omega]
  rfl
theorem wayN_pos {ns : List RNode} {n : Int} (h : 0 ≤ n) (hd : Down ns (n + 1).toNat) : wayN ns n = n.toNat :: wayN ns (rpar ns n.toNat) := by
  have hp := hd n.toNat (by omega)
  unfold wayN
  rw [show (n + 1).toNat = n.toNat + 1 by omega]
  show (if n < 0 then [] else n.toNat :: chainN ns n.toNat (rpar ns n.toNat)) = _
  rw [if_neg (by omega), chain_fuel n.toNat (rpar ns n.toNat + 1).toNat (rpar ns n.toNat) (hd.mono (by omega)) (by omega) (by omega)]
def wayM (ns : List RNode) (n : Int) : List Mv := ((wayN ns n).map (rmv ns)).reverse
/-- what is on a way is at most its end -/
theorem wayN_le {ns : List RNode} : ∀ (k : Nat) (n : Int), (n + 1).toNat ≤ k → Down ns (n + 1).toNat → ∀ j ∈ wayN ns n, (j : Int) ≤ n
  | 0, n, hk, _, j, hj => by rw [wayN_neg ns (by omega)] at hj; cases hj
  | k + 1, n, hk, hd, j, hj => by
    by_cases h : n < 0
    · rw [wayN_neg ns h] at hj; cases hj
    · have hp := hd n.toNat (by omega)
      rw [wayN_pos (by omega) hd] at hj
      rcases List.mem_cons.1 hj with rfl | hj
      · omega
      · have := wayN_le k (rpar ns n.toNat) (by omega) (hd.mono (by omega)) j hj
        omega
theorem wayN_len {ns : List RNode} : ∀ (k : Nat) (n : Int), (n + 1).toNat ≤ k → Down ns (n + 1).toNat → (wayN ns n).length ≤ k
  | 0, n, hk, _ => by rw [wayN_neg ns (by omega)]; exact Nat.le_refl _
  | k + 1, n, hk, hd => by
    by_cases h : n < 0
    · rw [wayN_neg ns h]; exact Nat.zero_le _
    · have hp := hd n.toNat (by omega)
      rw [wayN_pos (by omega) hd, List.length_cons]
      have := wayN_len k (rpar ns n.toNat) (by omega) (hd.mono (by omega))
      omega
theorem at_node {ns : List RNode} {n : Int} (h0 : 0 ≤ n) (h1 : n < ((ns.length : Nat) : Int)) : ∃ d, at? ns n = some d ∧ d.1 = rpar ns n.toNat ∧ d.2.1 = rmv ns n.toNat := by
  have hl : n.toNat < ns.length := by omega
  refine ⟨ns[n.toNat], at?_eq _ _ h0 h1, ?_, ?_⟩
  · unfold rpar; rw [List.getElem?_eq_getElem hl]; rfl
  · unfold rmv; rw [List.getElem?_eq_getElem hl]; rfl
/-! record.Way -/
theorem way_L1 (x : Rec) (hn : x.2.2.1.length ≤ 1000) : ∀ s : ((List Mv × Int × Unit) × Unit), (s.1.2.1 < ((x.2.2.1.length : Nat) : Int) ∧ Down x.2.2.1 (s.1.2.1 + 1).toNat ∧ s.1.1.length + (s.1.2.1 + 1).toNat ≤ 2000) →
    iterW (recordWay_L1 x) s = some ((s.1.1 ++ (wayN x.2.2.1 s.1.2.1).map (rmv x.2.2.1), ()), ()) := by
  refine iterW_fun _ (fun s : ((List Mv × Int × Unit) × Unit) => (s.1.2.1 + 1).toNat) (fun s => ((s.1.1 ++ (wayN x.2.2.1 s.1.2.1).map (rmv x.2.2.1), ()), ())) ?_
  rintro ⟨⟨acc, n, ⟨⟩⟩, ⟨⟩⟩ ⟨h1, hd, hl⟩
  simp only at h1 hd hl ⊢
  by_cases h : n < 0
  · refine .inr ?_
    unfold recordWay_L1
    simp only [show decide (n ≥ 0) = false by simp; omega, cond_false, wayN_neg _ h, List.map_nil, List.append_nil]
  · refine .inl ?_
    have hp := hd n.toNat (by omega)
    obtain ⟨d, e1, e2, e3⟩ := at_node (ns := x.2.2.1) (n := n) (by omega) h1
    refine ⟨((acc ++ [rmv x.2.2.1 n.toNat], rpar x.2.2.1 n.toNat, ()), ()), ?_, ⟨by simp only; omega, hd.mono (by simp only; omega), by simp only [List.length_append, List.length_cons, List.length_nil]; omega⟩, by simp only; omega, ?_⟩
    · unfold recordWay_L1
      simp only [show decide (n ≥ 0) = true by simp; omega, cond_true]
      rw [e1]
      simp only [Option.bind_some]
      rw [room_ok (by simp only [List.length_cons, List.length_nil]; omega), req_true, e2, e3]
    · simp only
      rw [wayN_pos (by omega) hd, List.map_cons, List.append_assoc]
      rfl
def revK (xs : List Mv) (k : Nat) : List Mv := (List.range xs.length).map fun t => if t < k ∨ xs.length - k ≤ t then xs.getD (xs.length - 1 - t) (0, (0, (0, ()))) else xs.getD t (0, (0, (0, ())))
theorem revK_len (xs : List Mv) (k : Nat) : (revK xs k).length = xs.length := by simp [revK]
theorem revK_get (xs : List Mv) (k t : Nat) (h : t < xs.length) : getD' (revK xs k) t (0, (0, (0, ()))) = if t < k ∨ xs.length - k ≤ t then xs.getD (xs.length - 1 - t) (0, (0, (0, ()))) else xs.getD t (0, (0, (0, ()))) := by
  unfold getD' revK
  rw [List.getD_eq_getElem?_getD, List.getElem?_map, List.getElem?_range h]
  rfl
theorem revK_step (xs : List Mv) (k : Nat) (h : k + 1 < xs.length - k) : ((revK xs k).set k (getD' (revK xs k) (xs.length - 1 - k) (0, (0, (0, ()))))).set (xs.length - 1 - k) (getD' (revK xs k) k (0, (0, (0, ())))) = revK xs (k + 1) := by
  rw [revK_get xs k k (by omega), revK_get xs k (xs.length - 1 - k) (by omega), if_neg (by omega), if_neg (by omega)]
  apply List.ext_getElem
  · simp [revK_len]
  · intro t h1 h2
    have ht : t < xs.length := by rw [revK_len] at h2; exact h2
    have e : ∀ j, (revK xs j)[t]? = some (if t < j ∨ xs.length - j ≤ t then xs.getD (xs.length - 1 - t) (0, (0, (0, ()))) else xs.getD t (0, (0, (0, ())))) := fun j => by
      unfold revK
      rw [List.getElem?_map, List.getElem?_range ht]
      rfl
    have e1 : (revK xs (k + 1))[t] = if t < k + 1 ∨ xs.length - (k + 1) ≤ t then xs.getD (xs.length - 1 - t) (0, (0, (0, ()))) else xs.getD t (0, (0, (0, ()))) := by
      have := e (k + 1)
      rw [List.getElem?_eq_getElem h2] at this
      exact Option.some.inj this
    have hk : t < (revK xs k).length := by rw [revK_len]; exact ht
    have e2 : (revK xs k)[t] = if t < k ∨ xs.length - k ≤ t then xs.getD (xs.length - 1 - t) (0, (0, (0, ()))) else xs.getD t (0, (0, (0, ()))) := by
      have := e k
      rw [List.getElem?_eq_getElem hk] at this
      exact Option.some.inj this
    rw [e1, List.getElem_set, List.getElem_set, e2]
    by_cases c1 : xs.length - 1 - k = t
    · rw [if_pos c1, if_pos (by omega), show xs.length - 1 - t = k by omega]
    · rw [if_neg c1]
      by_cases c2 : k = t
      · rw [if_pos c2, if_pos (by omega), c2]
      · rw [if_neg c2]
        by_cases c3 : t < k ∨ xs.length - k ≤ t
        · rw [if_pos c3, if_pos (by omega)]
        · rw [if_neg c3, if_neg (by omega)]
theorem revK_zero (xs : List Mv) : revK xs 0 = xs := by
  apply List.ext_getElem
  · exact revK_len xs 0
  · intro t h1 h2
    have e : (revK xs 0)[t]? = some (xs.getD t (0, (0, (0, ())))) := by
      unfold revK
      rw [List.getElem?_map, List.getElem?_range h2]
      show some (if t < 0 ∨ xs.length - 0 ≤ t then _ else _) = _
      rw [if_neg (by omega)]
    rw [List.getElem?_eq_getElem h1] at e
    rw [Option.some.inj e]
    simp [List.getD_eq_getElem?_getD, h2]
theorem revK_all (xs : List Mv) (k : Nat) (h : xs.length ≤ 2 * k + 1) (hk : 2 * k ≤ xs.length) : revK xs k = xs.reverse := by
  apply List.ext_getElem
  · rw [revK_len, List.length_reverse]
  · intro t h1 h2
    have ht : t < xs.length := by rw [revK_len] at h1; exact h1
    have e : (revK xs k)[t]? = some (if t < k ∨ xs.length - k ≤ t then xs.getD (xs.length - 1 - t) (0, (0, (0, ()))) else xs.getD t (0, (0, (0, ())))) := by
      unfold revK
      rw [List.getElem?_map, List.getElem?_range ht]
      rfl
    rw [List.getElem?_eq_getElem h1] at e
    rw [Option.some.inj e, List.getElem_reverse]
    by_cases c : t < k ∨ xs.length - k ≤ t
    · rw [if_pos c]
      simp [List.getD_eq_getElem?_getD, show xs.length - 1 - t < xs.length by omega]
    · rw [if_neg c]
      have : t = xs.length - 1 - t := by omega
      simp only [← this]
      simp [List.getD_eq_getElem?_getD, ht]
theorem way_L2 (xs : List Mv) (hx : xs.length ≤ 1000000) : iterW recordWay_L2 ((0, (w64 (((xs.length : Nat) : Int) - 1)), ()), (xs, ())) = some ((), (xs.reverse, ())) := by
  have := iterW_states (f := recordWay_L2) (xs.length / 2) (fun k => (((k : Int), ((xs.length : Nat) : Int) - 1 - (k : Int), ()), (revK xs k, ()))) ((), (xs.reverse, ())) (fun k hk => by
    unfold recordWay_L2
    have e1 : (((xs.length : Nat) : Int) - 1 - (k : Int)).toNat = xs.length - 1 - k := by omega
    simp only [show decide ((k : Int) < ((xs.length : Nat) : Int) - 1 - (k : Int)) = true by simp; omega, cond_true]
    rw [show inb (((xs.length : Nat) : Int) - 1 - (k : Int)) (revK xs k).length = true from inb_iff.2 (by rw [revK_len]; omega), show inb (k : Int) (revK xs k).length = true from inb_iff.2 (by rw [revK_len]; omega)]
    simp only [req_true, Int.toNat_natCast, e1]
    rw [show ∀ y, inb (((xs.length : Nat) : Int) - 1 - (k : Int)) ((revK xs k).set k y).length = true from fun y => inb_iff.2 (by rw [List.length_set, revK_len]; omega), req_true, revK_step xs k (by omega), w64_id (by omega) (by omega), w64_id (by omega) (by omega), show ((k + 1 : Nat) : Int) = (k : Int) + 1 by omega, show ((xs.length : Nat) : Int) - 1 - ((k : Int) + 1) = ((xs.length : Nat) : Int) - 1 - (k : Int) - 1 by omega]) (by
    unfold recordWay_L2
    simp only [show decide (((xs.length / 2 : Nat) : Int) < ((xs.length : Nat) : Int) - 1 - ((xs.length / 2 : Nat) : Int)) = false by simp only [decide_eq_false_iff_not]; omega, cond_false]
    rw [revK_all xs _ (by omega) (by omega)])
  simp only [Int.natCast_zero, Int.sub_zero, revK_zero] at this
  rw [w64_id (by omega) (by omega)]
  exact this
theorem way_rec (x : Rec) (hn : x.2.2.1.length ≤ 1000) {n : Int} (h0 : -1 ≤ n) (h1 : n < ((x.2.2.1.length : Nat) : Int)) (hd : Down x.2.2.1 (n + 1).toNat) : recordWay x n = some (wayM x.2.2.1 n) := by
  unfold recordWay
  have e := way_L1 x hn (([], n, ()), ()) ⟨h1, hd, by simp only [List.length_nil]; omega⟩
  simp only [List.nil_append] at e
  have hl := wayN_len _ n (Nat.le_refl _) hd
  rw [e, Option.bind_some]
  simp only
  rw [way_L2 _ (by rw [List.length_map]; omega), Option.bind_some]
  rfl
/-! the reference's ways -/
theorem ref3Way_spec (ns : List RNode) (hn : ns.length ≤ 1000) : ∀ x : List RNode × Int × Unit, (x.1 = ns ∧ -1 ≤ x.2.1 ∧ x.2.1 < ((ns.length : Nat) : Int) ∧ Down ns (x.2.1 + 1).toNat ∧ ∀ i, i < (x.2.1 + 1).toNat → -1 ≤ rpar ns i) → fixW ref3Way_G x = some (wayM ns x.2.1, (true, ())) := by
  refine fixW_ind ref3Way_Mono _ (fun x => (x.2.1 + 1).toNat) (fun x => (wayM ns x.2.1, (true, ()))) ?_
  rintro φ ⟨l, n, ⟨⟩⟩ ⟨rfl, h0, h1, hd, hm⟩ hφ
  simp only at h0 h1 hd hm hφ ⊢
  have hn : l.length ≤ 1000 := hn
  unfold ref3Way_G ref3Way_F
  simp only
  by_cases h : n = -1
  · subst h
    simp only [beq_self_eq_true, cond_true]
    rw [show wayM l (-1) = [] by unfold wayM; rw [wayN_neg l (by omega)]; rfl]
  · obtain ⟨d, e1, e2, e3⟩ := at_node (ns := l) (n := n) (by omega) h1
    have hp := hd n.toNat (by omega)
    have hp2 := hm n.toNat (by omega)
    rw [beq_f h, cond_false, show (decide (n < 0) || decide (n ≥ ((l.length : Nat) : Int))) = false by simp only [Bool.or_eq_false_iff, decide_eq_false_iff_not]; omega]
    have hgat : ∀ z, gat true z l n = some d := fun z => by show at? l n = _; exact e1
    simp only [Bool.not_false, hgat, Option.bind_some, Bool.false_or, e2, show decide (rpar l n.toNat ≥ n) = false by simp only [decide_eq_false_iff_not]; omega, cond_false]
    rw [e1]
    simp only [Option.bind_some, e2]
    rw [hφ (l, rpar l n.toNat, ()) ⟨rfl, hp2, by simp only; omega, hd.mono (by simp only; omega), fun i hi => hm i (by simp only at hi; omega)⟩ (by simp only; omega), Option.bind_some]
    have hl := wayN_len _ (rpar l n.toNat) (Nat.le_refl _) (hd.mono (by omega))
    rw [room_ok (by unfold wayM; simp only [List.length_reverse, List.length_map, List.length_cons, List.length_nil]; omega), req_true, e3]
    have : wayM l n = wayM l (rpar l n.toNat) ++ [rmv l n.toNat] := by
      unfold wayM
      rw [wayN_pos (by omega) hd, List.map_cons, List.reverse_cons]
    rw [this]
theorem way3 (ns : List RNode) (hn : ns.length ≤ 1000) {n : Int} (h0 : -1 ≤ n) (h1 : n < ((ns.length : Nat) : Int)) (hd : Down ns (n + 1).toNat) (hm : ∀ i, i < (n + 1).toNat → -1 ≤ rpar ns i) : ref3Way ns n = some (wayM ns n, (true, ())) :=
  ref3Way_spec ns hn (ns, n, ()) ⟨rfl, h0, h1, hd, hm⟩
/-! on a way -/
theorem on_L1 (a : Int) (x : Rec) : ∀ s : ((Int × Unit) × Unit), (s.1.1 < ((x.2.2.1.length : Nat) : Int) ∧ Down x.2.2.1 (s.1.1 + 1).toNat) →
    iterW (recordOn_L1 a x) s = some (if 0 ≤ a ∧ a.toNat ∈ wayN x.2.2.1 s.1.1 then .inr true else .inl ((), ())) := by
  refine iterW_fun _ (fun s : ((Int × Unit) × Unit) => (s.1.1 + 1).toNat) (fun s => if 0 ≤ a ∧ a.toNat ∈ wayN x.2.2.1 s.1.1 then (Sum.inr true : (Unit × Unit) ⊕ Bool) else Sum.inl ((), ())) ?_
  rintro ⟨⟨n, ⟨⟩⟩, ⟨⟩⟩ ⟨h1, hd⟩
  simp only at h1 hd ⊢
  by_cases h : n < 0
  · refine .inr ?_
    unfold recordOn_L1
    simp only [show decide (n ≥ 0) = false by simp; omega, cond_false, wayN_neg _ h]
    rw [if_neg (by simp)]
  · have hp := hd n.toNat (by omega)
    have hw := wayN_pos (ns := x.2.2.1) (by omega) hd
    by_cases ha : n = a
    · refine .inr ?_
      subst ha
      unfold recordOn_L1
      simp only [show decide (n ≥ 0) = true by simp; omega, cond_true, beq_self_eq_true]
      rw [if_pos ⟨by omega, by rw [hw]; exact List.mem_cons_self⟩]
    · refine .inl ⟨((rpar x.2.2.1 n.toNat, ()), ()), ?_, ⟨by simp only; omega, hd.mono (by simp only; omega)⟩, by simp only; omega, ?_⟩
      · obtain ⟨d, e1, e2, e3⟩ := at_node (ns := x.2.2.1) (n := n) (by omega) h1
        unfold recordOn_L1
        simp only [show decide (n ≥ 0) = true by simp; omega, cond_true, beq_f ha, cond_false]
        rw [e1, Option.bind_some, e2]
      · simp only
        rw [hw]
        have : (0 ≤ a ∧ a.toNat ∈ n.toNat :: wayN x.2.2.1 (rpar x.2.2.1 n.toNat)) ↔ (0 ≤ a ∧ a.toNat ∈ wayN x.2.2.1 (rpar x.2.2.1 n.toNat)) := by
          rw [List.mem_cons]
          constructor
          · rintro ⟨q1, q2 | q2⟩
            · omega
            · exact ⟨q1, q2⟩
          · rintro ⟨q1, q2⟩; exact ⟨q1, .inr q2⟩
        simp only [this]
theorem on_spec (x : Rec) (a : Int) {n : Int} (h1 : n < ((x.2.2.1.length : Nat) : Int)) (hd : Down x.2.2.1 (n + 1).toNat) : recordOn x a n = some (decide (0 ≤ a ∧ a.toNat ∈ wayN x.2.2.1 n) || (a == -1)) := by
  unfold recordOn
  rw [on_L1 a x ((n, ()), ()) ⟨h1, hd⟩, Option.bind_some]
  by_cases h : 0 ≤ a ∧ a.toNat ∈ wayN x.2.2.1 n
  · simp only [if_pos h, decide_eq_true h, Bool.true_or]; rfl
  · simp only [if_neg h, decide_eq_false h, Bool.false_or]; rfl
theorem above_L1 (a : Int) (ha : 0 ≤ a) (ns : List RNode) : ∀ s : ((Int × Unit) × Unit), (s.1.1 < ((ns.length : Nat) : Int) ∧ Down ns (s.1.1 + 1).toNat) →
    ∃ r, iterW (ref3Above_L1 a ns) s = some r ∧ (r.1.1 == a) = decide (a.toNat ∈ wayN ns s.1.1) := by
  have key : ∀ k (n : Int), (n + 1).toNat ≤ k → n < ((ns.length : Nat) : Int) → Down ns (n + 1).toNat → ∃ r, iterW (ref3Above_L1 a ns) ((n, ()), ()) = some r ∧ (r.1.1 == a) = decide (a.toNat ∈ wayN ns n) := by
    intro k
    induction k with
    | zero =>
      intro n hk h1 hd
      refine ⟨((n, ()), ()), iterW_inr ?_, ?_⟩
      · unfold ref3Above_L1
        simp only [show (decide (n > a) && decide (n ≥ 0)) = false by simp; omega, cond_false]
      · simp only [wayN_neg ns (show n < 0 by omega)]
        rw [beq_f (by omega)]
        simp
    | succ k ih =>
      intro n hk h1 hd
      by_cases h : n > a
      · have hp := hd n.toNat (by omega)
        obtain ⟨d, e1, e2, e3⟩ := at_node (ns := ns) (n := n) (by omega) h1
        obtain ⟨r, q1, q2⟩ := ih (rpar ns n.toNat) (by omega) (by omega) (hd.mono (by omega))
        refine ⟨r, ?_, ?_⟩
        · rw [iterW_inl (y := ((rpar ns n.toNat, ()), ()))]
          · exact q1
          · unfold ref3Above_L1
            simp only [show (decide (n > a) && decide (n ≥ 0)) = true by simp; omega, cond_true]
            rw [e1, Option.bind_some, e2]
        · rw [q2, wayN_pos (by omega) hd]
          congr 1
          rw [List.mem_cons, eq_iff_iff]
          constructor
          · exact .inr
          · rintro (q | q)
            · omega
            · exact q
      · refine ⟨((n, ()), ()), iterW_inr ?_, ?_⟩
        · unfold ref3Above_L1
          simp only [show (decide (n > a) && decide (n ≥ 0)) = false by simp; omega, cond_false]
        · simp only
          by_cases e : n = a
          · subst e
            rw [beq_self_eq_true, wayN_pos ha hd]
            simp
          · rw [beq_f e]
            have : ¬ a.toNat ∈ wayN ns n := fun hm => by
              have := wayN_le _ n (Nat.le_refl _) hd _ hm
              omega
            simp [this]
  rintro ⟨⟨n, ⟨⟩⟩, ⟨⟩⟩ ⟨h1, hd⟩
  exact key _ n (Nat.le_refl _) h1 hd
theorem above_spec (ns : List RNode) {a n : Int} (ha : 0 ≤ a) (h1 : n < ((ns.length : Nat) : Int)) (hd : Down ns (n + 1).toNat) : ref3Above ns a n = some (decide (a.toNat ∈ wayN ns n)) := by
  obtain ⟨r, q1, q2⟩ := above_L1 a ha ns ((n, ()), ()) ⟨h1, hd⟩
  unfold ref3Above
  rw [q1, Option.bind_some, q2]
end Go.Proofs.YticeklcmijbjfaaGreat
