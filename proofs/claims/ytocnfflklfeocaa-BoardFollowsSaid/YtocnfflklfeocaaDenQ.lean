/- Plain facts: data in range, decided. No condition of its own. -/
import Derived.Test.YtocnfflklfeocaaDenF
import Derived.Test.YtocnfflklfeocaaDenP
namespace Go.Den
set_option linter.unusedVariables false
def rngB : (τ : Ty) → D τ → Bool
  | .int k, (n : Int) => decide (k.min ≤ n) && decide (n ≤ k.max)
  | .bool, _ => true
  | .str, (s : ByteArray) => Nat.ble s.size maxLen
  | .sl e, (xs : List (D e)) => Nat.ble xs.length maxLen && xs.all (rngB e)
  | .osl _ e, (xs : List (D e)) => Nat.ble xs.length maxLen && xs.all (rngB e)
  | .obx e, x => rngB e x
  | .err, _ => true
  | .bld _ _, _ => true
  | .nil, _ => true
  | .st f r, x => rngB f x.1 && rngB r x.2
theorem rngB_ok : ∀ (τ : Ty) (x : D τ), rngB τ x = true → Rng τ x
  | .int k, n, h => by
    simp only [rngB, Bool.and_eq_true, decide_eq_true_eq] at h
    cases k <;> exact h
  | .bool, _, _ => trivial
  | .str, s, h => Nat.le_of_ble_eq_true h
  | .sl e, xs, h => by
    simp only [rngB, Bool.and_eq_true] at h
    exact ⟨Nat.le_of_ble_eq_true h.1, fun x hx => rngB_ok e x (List.all_eq_true.1 h.2 x hx)⟩
  | .osl _ e, xs, h => by
    simp only [rngB, Bool.and_eq_true] at h
    exact ⟨Nat.le_of_ble_eq_true h.1, fun x hx => rngB_ok e x (List.all_eq_true.1 h.2 x hx)⟩
  | .obx e, x, h => rngB_ok e x h
  | .err, _, _ => trivial
  | .bld _ _, _, _ => trivial
  | .nil, _, _ => trivial
  | .st f r, x, h => by
    simp only [rngB, Bool.and_eq_true] at h
    exact ⟨rngB_ok f x.1 h.1, rngB_ok r x.2 h.2⟩
end Go.Den
