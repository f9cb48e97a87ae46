/- Texts of rules: lines, and numbers below zero. No condition of its own. -/
import Derived.Test.YtjikbbjjnndcbaaDoorPlaceN
namespace Go.Proofs.YtjikbbjjnndcbaaDoor
open Go.Den
set_option linter.unusedVariables false
set_option linter.unusedSimpArgs false
set_option maxRecDepth 100000

abbrev nlT : ByteArray := ByteArray.mk #[10]
/-- lines, each with its end -/
def catT : List ByteArray → ByteArray
  | [] => e0T
  | x :: l => (x ++ nlT) ++ catT l
theorem cat_app : ∀ (l m : List ByteArray), catT (l ++ m) = catT l ++ catT m
  | [], m => (e0_app _).symm
  | x :: l, m => by
    show (x ++ nlT) ++ catT (l ++ m) = ((x ++ nlT) ++ catT l) ++ catT m
    rw [cat_app l m, ba_asc (x ++ nlT)]
theorem app_e0 (a : ByteArray) : a ++ e0T = a := ba_ext (by rw [ba_app]; simp)
theorem cat_snoc (l : List ByteArray) (x : ByteArray) : catT (l ++ [x]) = catT l ++ (x ++ nlT) := by
  rw [cat_app]
  show catT l ++ ((x ++ nlT) ++ e0T) = _
  rw [app_e0]
def joinedN (l : List ByteArray) : ByteArray := ⟨(Go.Lib.join (l.map (·.data.toList)) nlT.data.toList).toArray⟩
theorem joinedN_cons : ∀ (x : ByteArray) (l : List ByteArray), joinedN (x :: l) ++ nlT = (x ++ nlT) ++ catT l
  | x, [] => ba_ext (by
    rw [ba_app, ba_app, ba_app]
    show Go.Lib.join [x.data.toList] [10] ++ [10] = (x.data.toList ++ [10]) ++ []
    simp [Go.Lib.join, List.intercalate, List.intersperse])
  | x, y :: l => by
    have ih := joinedN_cons y l
    show joinedN (x :: y :: l) ++ nlT = (x ++ nlT) ++ ((y ++ nlT) ++ catT l)
    rw [← ih]
    refine ba_ext ?_
    simp only [ba_app]
    show Go.Lib.join (x.data.toList :: y.data.toList :: l.map (·.data.toList)) [10] ++ [10] = (x.data.toList ++ [10]) ++ (Go.Lib.join (y.data.toList :: l.map (·.data.toList)) [10] ++ [10])
    simp [Go.Lib.join, List.intercalate, List.intersperse]
/-- all lines, joined, and the last end -/
theorem joinedN_cat (l : List ByteArray) (h : l ≠ []) : joinedN l ++ nlT = catT l := by
  cases l with
  | nil => exact absurd rfl h
  | cons x l => exact joinedN_cons x l
theorem joinN_spec (l : List ByteArray) (h1 : l.length ≤ 140737488355328) (h2 : (joinedN l).size ≤ 140737488355328) : joinS l (ByteArray.mk #[10]) = some (joinedN l) := by
  unfold joinS
  have q2 : (Go.Lib.join (l.map (·.data.toList)) (ByteArray.mk #[10]).data.toList).length ≤ 140737488355328 := by
    have : (Go.Lib.join (l.map (·.data.toList)) (ByteArray.mk #[10]).data.toList).length = (joinedN l).size := by rw [ba_size]; rfl
    omega
  rw [Nat.ble_eq_true_of_le h1, Nat.ble_eq_true_of_le q2]
  rfl
/-! numbers below zero -/
theorem dec_neg {n : Int} (h : n < 0) : dec n = one 45 ++ dec (-n) := ba_ext (by
  rw [ba_app, dec_list, dec_list, Go.Lib.itoa, if_pos h, Go.Lib.itoa, if_neg (by omega), show n.natAbs = (-n).toNat by omega]
  rfl)
theorem itoa_any {n : Int} (h0 : -1000 ≤ n) (h1 : n ≤ 1000) : itoaS n = some (dec n) := by
  unfold itoaS
  rw [show (decide (-9223372036854775808 ≤ n) && decide (n ≤ 9223372036854775807)) = true by simp; omega]
  rfl
theorem dec_any {n : Int} (h0 : -1000 ≤ n) (h1 : n ≤ 1000) : (dec n).size ≤ 5 := by
  by_cases h : n < 0
  · have := dec_le (n := -n) (by omega) (by omega)
    rw [dec_neg h, size_app, one_size]
    omega
  · have := dec_le (n := n) (by omega) h1
    omega
theorem rdec_all : ∀ x : Int × Unit, (-1000 ≤ x.1 ∧ x.1 ≤ 1000) → fixW ref1Dec_G x = some (dec x.1) := by
  have pos : ∀ (φ : Int × Unit → Option ByteArray) (n : Int), 0 ≤ n → n ≤ 1000 → (φ (n.tdiv 10, ()) = some (dec (n.tdiv 10)) → φ (n.tmod 10, ()) = some (dec (n.tmod 10)) → ref1Dec_G φ (n, ()) = some (dec n)) ∧
      ((φ (n.tdiv 10, ()) = none ∨ φ (n.tdiv 10, ()) = some (dec (n.tdiv 10))) → (φ (n.tmod 10, ()) = none ∨ φ (n.tmod 10, ()) = some (dec (n.tmod 10))) → ref1Dec_G φ (n, ()) = none ∨ ref1Dec_G φ (n, ()) = some (dec n)) := fun φ n h0 h1 => by
    have h2 := Int.mul_tdiv_add_tmod n 10
    have h3 : 0 ≤ n.tmod 10 := Int.tmod_nonneg _ (by omega)
    have h4 : n.tmod 10 < 10 := Int.tmod_lt_of_pos _ (by omega)
    unfold ref1Dec_G ref1Dec_F
    simp only [show decide (n < 0) = false by simp; omega, cond_false]
    by_cases h : n > 9
    · simp only [h, decide_true, cond_true]
      rw [w64_id (by omega) (by omega)]
      have key : ∀ a b, φ (n.tdiv 10, ()) = some a → φ (n.tmod 10, ()) = some b → a = dec (n.tdiv 10) → b = dec (n.tmod 10) → (Option.bind (φ (n.tdiv 10, ())) fun r5 => Option.bind (φ (n.tmod 10, ())) fun r6 => req (strRoom r5 r6) (some (r5 ++ r6))) = some (dec n) := fun a b ea eb ha hb => by
        subst ha hb
        rw [ea, Option.bind_some, eb, Option.bind_some, sroomT (by have := (dec_le (n := n.tdiv 10) (by omega) (by omega)); omega) (by have := (dec_le h3 (by omega)); omega), req_true, dec_big (n := n) (by omega)]
      refine ⟨fun e1 e2 => key _ _ e1 e2 rfl rfl, fun e1 e2 => ?_⟩
      rcases e1 with e1 | e1
      · rw [e1]; exact .inl rfl
      · rcases e2 with e2 | e2
        · rw [e1, e2]; exact .inl rfl
        · exact .inr (key _ _ e1 e2 rfl rfl)
    · simp only [h, decide_false, cond_false]
      obtain ⟨d1, d2⟩ := digit h0 (by omega)
      rw [d1, req_true, d2, dec_small h0 (by omega)]
      exact ⟨fun _ _ => rfl, fun _ _ => .inr rfl⟩
  have neg : ∀ (φ : Int × Unit → Option ByteArray) (n : Int), -1000 ≤ n → n < 0 → (φ (-n, ()) = some (dec (-n)) → ref1Dec_G φ (n, ()) = some (dec n)) ∧ (φ (-n, ()) = none → ref1Dec_G φ (n, ()) = none) := fun φ n h0 h1 => by
    have hs := dec_le (n := -n) (by omega) (by omega)
    unfold ref1Dec_G ref1Dec_F
    simp only [h1, decide_true, cond_true]
    rw [w64_id (n := 0 - n) (by omega) (by omega), show (0 : Int) - n = -n by omega]
    refine ⟨fun e => ?_, fun e => by rw [e]; rfl⟩
    rw [e, Option.bind_some, sroomT (by show 1 ≤ _; omega) (by omega), req_true, dec_neg h1]
    rfl
  refine fixW_fun (fun x : Int × Unit => -1000 ≤ x.1 ∧ x.1 ≤ 1000) (fun x => x.1.natAbs + (-x.1).toNat) (fun x => dec x.1) ?_ ?_
  · rintro φ ⟨n, ⟨⟩⟩ ⟨h0, h1⟩ hφ
    simp only at h0 h1
    by_cases h : n < 0
    · rcases hφ (-n, ()) (by simp only; omega) with e | e
      · exact .inl ((neg φ n h0 h).2 e)
      · exact .inr ((neg φ n h0 h).1 e)
    · have h2 := Int.mul_tdiv_add_tmod n 10
      have h3 : 0 ≤ n.tmod 10 := Int.tmod_nonneg _ (by omega)
      have h4 : n.tmod 10 < 10 := Int.tmod_lt_of_pos _ (by omega)
      exact (pos φ n (by omega) h1).2 (hφ (n.tdiv 10, ()) (by simp only; omega)) (hφ (n.tmod 10, ()) (by simp only; omega))
  · rintro φ ⟨n, ⟨⟩⟩ ⟨h0, h1⟩ hφ
    simp only at h0 h1
    by_cases h : n < 0
    · exact (neg φ n h0 h).1 (hφ (-n, ()) (by simp only; omega) (by simp only; omega))
    · have h2 := Int.mul_tdiv_add_tmod n 10
      have h3 : 0 ≤ n.tmod 10 := Int.tmod_nonneg _ (by omega)
      have h4 : n.tmod 10 < 10 := Int.tmod_lt_of_pos _ (by omega)
      by_cases h9 : n > 9
      · exact (pos φ n (by omega) h1).1 (hφ (n.tdiv 10, ()) (by simp only; omega) (by simp only; omega)) (hφ (n.tmod 10, ()) (by simp only; omega) (by simp only; omega))
      · unfold ref1Dec_G ref1Dec_F
        simp only [show decide (n < 0) = false by simp; omega, show decide (n > 9) = false by simp; omega, cond_false]
        obtain ⟨d1, d2⟩ := digit (n := n) (by omega) (by omega)
        rw [d1, req_true, d2, dec_small (by omega) (by omega)]
theorem rdec_any {n : Int} (h0 : -1000 ≤ n) (h1 : n ≤ 1000) : ref1Dec n = some (dec n) := rdec_all (n, ()) ⟨h0, h1⟩
end Go.Proofs.YtjikbbjjnndcbaaDoor
