/- The law OfferSays, without the program. -/
import Derived.Test.YtejmikpmkfnlgaaOfferLaw
namespace Go.Proofs.Ytejmikpmkfnlgaa
open Go.Eng Go.RowKit
theorem checkV_b {b0 b1 l00 l01 l10 l11 kind player n : Int} (h : checkV b0 b1 l00 l01 l10 l11 kind player n = 0) :
    (b0 = -1 ∨ b0 = 0 ∨ b0 = 1) ∧ (b1 = -1 ∨ b1 = 0 ∨ b1 = 1) := by
  have h0 : check0 b0 b1 l00 l01 l10 l11 = 0 := by
    unfold checkV at h
    rcases Bool.eq_false_or_eq_true (check0 b0 b1 l00 l01 l10 l11 != 0) with h1 | h1
    · rw [h1, cond_true] at h; exact h
    · simpa using h1
  unfold check0 at h0
  simp only [cond_eq_ite, Bool.or_eq_true, decide_eq_true_eq] at h0
  repeat' split at h0
  all_goals first | (exfalso; omega) | (constructor <;> omega)
theorem offersV_true : offersV = true := by decide +kernel
theorem pliesV_is {p n : Int} (hp : p = 0 ∨ p = 1) (h0 : 0 ≤ n) : pliesV p n = if n = 0 ∨ (n = 1 ∧ p = 1) then 0 else if n % 2 = p then 2 else 1 := by
  unfold pliesV turnV
  rw [if_neg (by omega)]
  have hm : n % 2 = 0 ∨ n % 2 = 1 := by omega
  rcases hp with rfl | rfl <;> rcases hm with hm | hm <;> simp [hm, cond_eq_ite] <;> (repeat' split) <;> omega
set_option maxHeartbeats 4000000 in
theorem k4_true {b0 b1 l00 l01 l10 l11 player n g : Int} (c : checkV b0 b1 l00 l01 l10 l11 0 player n = 0)
    (hg : g = bif (b0 != -1) then 7 else bif player == 0 then (bif l00 == n then 11 else 0) else (bif l01 == n then 11 else 0)) : lawV_k4 b0 b1 l00 l01 l10 l11 player n g = true := by
  have b := checkV_b c
  obtain ⟨-, hp, n0, n1⟩ := checkV_zero c
  subst hg
  have p0 := pliesV_is (p := 0) (by omega) n0
  have p1 := pliesV_is (p := 1) (by omega) n0
  generalize pliesV 0 n = q0 at p0
  rcases hp with rfl | rfl <;> rcases b.1 with rfl | rfl | rfl <;> unfold lawV_k4 makeV acceptV declineV openV <;> simp [c, p1, pliesV_is (p := 0) (by omega) n0]
  all_goals (try (rcases Bool.eq_false_or_eq_true (l00 == n) with e | e <;> simp [e]; done))
  all_goals (try (rcases Bool.eq_false_or_eq_true (l01 == n) with e | e <;> simp [e]; done))
  all_goals ((repeat' split) <;> omega)
set_option maxHeartbeats 4000000 in
theorem k5_true {b0 b1 l00 l01 l10 l11 player n g : Int} (c : checkV b0 b1 l00 l01 l10 l11 1 player n = 0)
    (hg : g = bif (b1 != -1) then 7 else bif player == 0 then (bif l10 == n then 11 else bif n == 0 then 8 else 0) else (bif l11 == n then 11 else bif ((n == 0) || (n == 1)) then 8 else 0)) : lawV_k5 b0 b1 l00 l01 l10 l11 player n g = true := by
  have b := checkV_b c
  obtain ⟨-, hp, n0, n1⟩ := checkV_zero c
  subst hg
  have p0 := pliesV_is (p := 0) (by omega) n0
  have p1 := pliesV_is (p := 1) (by omega) n0
  have q0 : (pliesV 0 n == 0) = (n == 0) := by rw [p0, Bool.eq_iff_iff]; simp only [beq_iff_eq]; (repeat' split) <;> omega
  have q1 : (pliesV 1 n == 0) = ((n == 0) || (n == 1)) := by rw [p1]; by_cases a : n = 0 <;> by_cases b : n = 1 <;> simp [a, b]; split <;> simp [a, b]
  rcases hp with rfl | rfl <;> rcases b.2 with rfl | rfl | rfl <;> unfold lawV_k5 makeV acceptV declineV openV
  · simp only [q0]
    rcases Bool.eq_false_or_eq_true (l10 == n) with e | e <;> rcases Bool.eq_false_or_eq_true (n == 0) with e2 | e2 <;> simp [c, e, e2]
  · simp [c]
  · simp [c]
    rw [p1]; (repeat' split) <;> omega
  · simp only [q1]
    rcases Bool.eq_false_or_eq_true (l11 == n) with e | e <;> rcases Bool.eq_false_or_eq_true (n == 0) with e2 | e2 <;> rcases Bool.eq_false_or_eq_true (n == 1) with e3 | e3 <;> simp [c, e, e2, e3]
  · simp [c]
    rw [p0]; (repeat' split) <;> omega
  · simp [c]
theorem k3_true (b0 b1 l00 l01 l10 l11 kind player n : Int) : lawV_k3 b0 b1 l00 l01 l10 l11 kind player n = true := by
  unfold lawV_k3
  rw [faultV_eq]
  by_cases c : checkV b0 b1 l00 l01 l10 l11 kind player n = 0
  · obtain ⟨hk, hp, -, -⟩ := checkV_zero c
    have c' : (checkV b0 b1 l00 l01 l10 l11 kind player n != 0) = false := by simp [c]
    rw [c', cond_false]
    rcases hk with rfl | rfl
    · rw [show ((0 : Int) == 0) = true from rfl, cond_true]
      rcases Bool.eq_false_or_eq_true (b0 != -1) with e0 | e0
      · rw [e0, cond_true]; exact k4_true c (by rw [e0]; rfl)
      · rw [e0, cond_false]
        rcases hp with rfl | rfl
        · exact k4_true c (by rw [e0]; rfl)
        · exact k4_true c (by rw [e0]; rfl)
    · rw [show ((1 : Int) == 0) = false from rfl, cond_false]
      rcases Bool.eq_false_or_eq_true (b1 != -1) with e0 | e0
      · rw [e0, cond_true]; exact k5_true c (by rw [e0]; rfl)
      · rw [e0, cond_false]
        rcases hp with rfl | rfl
        · exact k5_true c (by rw [e0]; rfl)
        · exact k5_true c (by rw [e0]; rfl)
  · have c' : (checkV b0 b1 l00 l01 l10 l11 kind player n != 0) = true := by simpa using c
    unfold makeV acceptV declineV openV
    simp [c']
theorem k1_true (b0 b1 l00 l01 l10 l11 kind player n : Int) : lawV_k1 b0 b1 l00 l01 l10 l11 kind player n = true := by
  unfold lawV_k1 backV
  rw [k3_true]
  generalize checkV b0 b1 l00 l01 l10 l11 0 0 n = y
  by_cases e : y = 0 <;> simp [e, cond_eq_ite]
theorem lawV_true (b0 b1 l00 l01 l10 l11 kind player n : Int) : lawV b0 b1 l00 l01 l10 l11 kind player n = true := by
  unfold lawV lawV_k2
  rw [k1_true, offersV_true, faultV_eq, faultV_eq]
  unfold moveV backV
  generalize checkV b0 b1 l00 l01 l10 l11 0 player 0 = x
  generalize checkV b0 b1 l00 l01 l10 l11 0 0 n = y
  by_cases e : x = 0 <;> by_cases f : y = 0 <;> by_cases g : b0 = 1 - player <;> simp [e, f, g, cond_eq_ite]
end Go.Proofs.Ytejmikpmkfnlgaa
