/- Numerals and letters in texts. No condition of its own. -/
import Derived.Test.YtjikbbjjnndcbaaDoorCoreV
import Derived.Test.YtjikbbjjnndcbaaDoorStrS
import Derived.Test.YtjikbbjjnndcbaaDoorDecM
namespace Go.Proofs.YtjikbbjjnndcbaaDoor
open Go.Den
set_option linter.unusedVariables false
set_option linter.unusedSimpArgs false
set_option maxRecDepth 100000

theorem ba_ext {a b : ByteArray} (h : a.data.toList = b.data.toList) : a = b := by
  obtain ⟨⟨a⟩⟩ := a
  obtain ⟨⟨b⟩⟩ := b
  simp only at h
  rw [h]
theorem ba_app (a b : ByteArray) : (a ++ b).data.toList = a.data.toList ++ b.data.toList := by
  rw [ByteArray.data_append, Array.toList_append]
theorem ba_size (a : ByteArray) : a.size = a.data.toList.length := by
  rw [Array.length_toList]; rfl
theorem ba_asc (a b c : ByteArray) : (a ++ b) ++ c = a ++ (b ++ c) := ba_ext (by simp only [ba_app, List.append_assoc])
theorem size_app (a b : ByteArray) : (a ++ b).size = a.size + b.size := by rw [ba_size, ba_app, List.length_append, ← ba_size, ← ba_size]
abbrev e0T : ByteArray := ByteArray.mk #[]
theorem e0_app (a : ByteArray) : e0T ++ a = a := ba_ext (by rw [ba_app]; rfl)
def one (b : Nat) : ByteArray := ByteArray.mk #[UInt8.ofNat b]
theorem one_size (b : Nat) : (one b).size = 1 := rfl
/-- a number, in digits -/
def dec (n : Int) : ByteArray := ⟨(Go.Lib.itoa n).toArray⟩
theorem dec_list (n : Int) : (dec n).data.toList = Go.Lib.itoa n := rfl
theorem dec_small {n : Int} (h0 : 0 ≤ n) (h1 : n < 10) : dec n = one (48 + n.toNat) := ba_ext (by
  rw [dec_list, Go.Lib.itoa, if_neg (by omega), Go.Lib.decDigits, dif_pos (by omega)]
  rfl)
theorem dec_big {n : Int} (h : 10 ≤ n) : dec n = dec (n.tdiv 10) ++ dec (n.tmod 10) := ba_ext (by
  have h1 := Int.mul_tdiv_add_tmod n 10
  have h2 : 0 ≤ n.tmod 10 := Int.tmod_nonneg _ (by omega)
  have h3 : n.tmod 10 < 10 := Int.tmod_lt_of_pos _ (by omega)
  have e1 : (n.tdiv 10).toNat = n.toNat / 10 := by omega
  have e2 : (n.tmod 10).toNat = n.toNat % 10 := by omega
  rw [ba_app, dec_list, dec_small h2 h3, dec_list, Go.Lib.itoa, if_neg (by omega), Go.Lib.decDigits, dif_neg (by omega), Go.Lib.itoa, if_neg (by omega), e1, e2]
  rfl)
theorem dec_size : ∀ (k : Nat) (n : Int), 0 ≤ n → n < 10 ^ (k + 1) → 1 ≤ (dec n).size ∧ (dec n).size ≤ k + 1
  | 0, n, h0, h1 => by rw [dec_small h0 (by simpa using h1), one_size]; omega
  | k + 1, n, h0, h1 => by
    by_cases h : n < 10
    · rw [dec_small h0 h, one_size]; omega
    · have h2 := Int.mul_tdiv_add_tmod n 10
      have h3 : 0 ≤ n.tmod 10 := Int.tmod_nonneg _ (by omega)
      have h4 : n.tmod 10 < 10 := Int.tmod_lt_of_pos _ (by omega)
      have h5 : (10 : Int) ^ (k + 1 + 1) = 10 * 10 ^ (k + 1) := by rw [Int.pow_succ]; omega
      have := dec_size k (n.tdiv 10) (by omega) (by omega)
      rw [dec_big (by omega), size_app, dec_small h3 h4, one_size]
      omega
theorem dec_le {n : Int} (h0 : 0 ≤ n) (h1 : n ≤ 1000) : 1 ≤ (dec n).size ∧ (dec n).size ≤ 4 := dec_size 3 n h0 (by omega)
theorem sroomT {a b : ByteArray} (h : a.size ≤ 100000000) (h' : b.size ≤ 100000000) : strRoom a b = true := Nat.ble_eq_true_of_le (by omega)
theorem itoa_spec {n : Int} (h0 : 0 ≤ n) (h1 : n ≤ 1000) : itoaS n = some (dec n) := by
  unfold itoaS
  rw [show (decide (-9223372036854775808 ≤ n) && decide (n ≤ 9223372036854775807)) = true by simp; omega]
  rfl
theorem digit {n : Int} (h0 : 0 ≤ n) (h1 : n < 10) : (boundsI n (w64 (n + 1)) (ByteArray.mk #[48, 49, 50, 51, 52, 53, 54, 55, 56, 57]).size) = true ∧ (ByteArray.mk #[48, 49, 50, 51, 52, 53, 54, 55, 56, 57]).extract n.toNat (w64 (n + 1)).toNat = one (48 + n.toNat) := by
  obtain ⟨m, rfl⟩ := Int.eq_ofNat_of_zero_le h0
  have : m < 10 := by omega
  match m, this with
  | 0, _ | 1, _ | 2, _ | 3, _ | 4, _ | 5, _ | 6, _ | 7, _ | 8, _ | 9, _ => exact ⟨by decide, ba_ext (by decide)⟩
/-- the reference's numerals -/
theorem rdec_spec : ∀ x : Int × Unit, (0 ≤ x.1 ∧ x.1 ≤ 1000) → fixW ref1Dec_G x = some (dec x.1) := by
  refine fixW_fun (fun x : Int × Unit => 0 ≤ x.1 ∧ x.1 ≤ 1000) (fun x => x.1.toNat) (fun x => dec x.1) ?_ ?_
  · rintro φ ⟨n, ⟨⟩⟩ ⟨h0, h1⟩ hφ
    simp only at h0 h1
    have h2 := Int.mul_tdiv_add_tmod n 10
    have h3 : 0 ≤ n.tmod 10 := Int.tmod_nonneg _ (by omega)
    have h4 : n.tmod 10 < 10 := Int.tmod_lt_of_pos _ (by omega)
    unfold ref1Dec_G ref1Dec_F
    simp only [show decide (n < 0) = false by simp; omega, cond_false]
    by_cases h : n > 9
    · simp only [h, decide_true, cond_true]
      rw [w64_id (by omega) (by omega)]
      rcases hφ (n.tdiv 10, ()) (by simp only; omega) with e | e
      · rw [e]; exact .inl rfl
      · rw [e, Option.bind_some]
        rcases hφ (n.tmod 10, ()) (by simp only; omega) with e2 | e2
        · rw [e2]; exact .inl rfl
        · rw [e2, Option.bind_some, sroomT (by have := (dec_le (n := n.tdiv 10) (by omega) (by omega)); simp only; omega) (by have := (dec_le h3 (by omega)); simp only; omega), req_true, dec_big (n := n) (by omega)]
          exact .inr rfl
    · simp only [h, decide_false, cond_false]
      obtain ⟨d1, d2⟩ := digit h0 (by omega)
      rw [d1, req_true, d2, dec_small h0 (by omega)]
      exact .inr rfl
  · rintro φ ⟨n, ⟨⟩⟩ ⟨h0, h1⟩ hφ
    simp only at h0 h1
    have h2 := Int.mul_tdiv_add_tmod n 10
    have h3 : 0 ≤ n.tmod 10 := Int.tmod_nonneg _ (by omega)
    have h4 : n.tmod 10 < 10 := Int.tmod_lt_of_pos _ (by omega)
    unfold ref1Dec_G ref1Dec_F
    simp only [show decide (n < 0) = false by simp; omega, cond_false]
    by_cases h : n > 9
    · simp only [h, decide_true, cond_true]
      rw [w64_id (by omega) (by omega), hφ (n.tdiv 10, ()) (by simp only; omega) (by simp only; omega), Option.bind_some, hφ (n.tmod 10, ()) (by simp only; omega) (by simp only; omega), Option.bind_some,
        sroomT (by have := (dec_le (n := n.tdiv 10) (by omega) (by omega)); simp only; omega) (by have := (dec_le h3 (by omega)); simp only; omega), req_true, dec_big (n := n) (by omega)]
    · simp only [h, decide_false, cond_false]
      obtain ⟨d1, d2⟩ := digit h0 (by omega)
      rw [d1, req_true, d2, dec_small h0 (by omega)]
theorem rdec {n : Int} (h0 : 0 ≤ n) (h1 : n ≤ 1000) : ref1Dec n = some (dec n) := rdec_spec (n, ()) ⟨h0, h1⟩
theorem enc_one {c : Int} (h : 0 ≤ c) (h' : c < 128) : Go.Utf8.encode (IntKind.wrap .i32 c) = one c.toNat := by
  rw [show IntKind.wrap .i32 c = c by rw [IntKind.wrap_i32]; omega]
  unfold Go.Utf8.encode
  have : Go.Utf8.valid c = true := by unfold Go.Utf8.valid; simp; omega
  rw [this]
  simp only [if_true]
  rw [if_pos (by omega)]
  rfl
theorem str_one (c : Int) : strOf [c] = one c.toNat := rfl
/-- the letters of rules are capitals -/
def Caps (r : Rules) : Prop := ∀ q ∈ r.pieces, 65 ≤ q.1 ∧ q.1 ≤ 90
theorem caps_of {r : Rules} (h : ruleErr r = 0) : Caps r := by
  unfold ruleErr at h
  split at h
  · cases h
  split at h
  · cases h
  rename_i _ h2
  have h2 := Decidable.not_not.1 h2
  split at h
  · cases h
  rename_i h3
  split at h
  · cases h
  rename_i h4
  split at h
  · rename_i h5; exact absurd h h5
  rename_i h5
  have h5 := firstNZ_zero (Decidable.not_not.1 h5)
  intro q hq
  obtain ⟨i, hi, e⟩ := mem_idx hq
  have := h5 i hi
  unfold pErr at this
  rw [e] at this
  simp only at this
  cases c1 : (decide (q.1 < 65) || decide (q.1 > 90))
  · simp only [Bool.or_eq_false_iff, decide_eq_false_iff_not] at c1
    omega
  · rw [c1, cond_true] at this; cases this
end Go.Proofs.YtjikbbjjnndcbaaDoor
