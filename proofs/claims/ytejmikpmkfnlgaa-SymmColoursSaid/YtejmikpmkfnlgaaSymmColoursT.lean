/- The law SymmColours, in plain Lean: small boards. No condition of its own. -/
import Derived.Test.YtejmikpmkfnlgaaSymmColoursK
namespace Go.Proofs.Ytejmikpmkfnlgaa
open Go.Den
set_option linter.unusedVariables false
set_option linter.unusedSimpArgs false
set_option maxRecDepth 100000

/-- the digits of a number -/
def dig (c : Nat) : Nat → Nat → List Nat
  | 0, _ => []
  | n + 1, x => x % c :: dig c n (x / c)
def setAll : List Nat → List Nat → List Nat → List Nat
  | m, p :: P, c :: cs => setAll (m.set p c) P cs
  | m, _, _ => m
def lessOk : List Nat → List Nat → Bool
  | a :: as, b :: bs => bif Nat.beq a b then lessOk as bs else Nat.blt b a
  | _, _ => true
def least (n : Nat) (cells : List Nat) : List (List Nat) → Bool
  | [] => true
  | P :: T => lessOk (setAll (List.replicate n 0) P cells) cells && least n cells T
def sumUp (f : Nat → Nat) : Nat → Nat → Nat
  | _, 0 => 0
  | x, m + 1 => f x + sumUp f (x + 1) m
theorem sumUp_add (f : Nat → Nat) : ∀ (m x m' : Nat), sumUp f x (m + m') = sumUp f x m + sumUp f (x + m) m'
  | 0, x, m' => by simp [sumUp]
  | m + 1, x, m' => by
    rw [show m + 1 + m' = (m + m') + 1 by omega]
    simp only [sumUp]
    rw [sumUp_add f m (x + 1) m', show x + 1 + m = x + (m + 1) by omega]
    omega
theorem sumUp_congr {f g : Nat → Nat} (h : ∀ x, f x = g x) (x m : Nat) : sumUp f x m = sumUp g x m := by rw [show f = g from funext h]
theorem sumUp_shift (f : Nat → Nat) : ∀ (m x k : Nat), sumUp f (x + k) m = sumUp (fun y => f (y + k)) x m
  | 0, x, k => rfl
  | m + 1, x, k => by
    simp only [sumUp]
    rw [show x + k + 1 = (x + 1) + k by omega, sumUp_shift f m (x + 1) k]
theorem sumUp_mul (f : Nat → Nat) (c : Nat) : ∀ M, sumUp f 0 (c * M) = sumUp (fun y => sumUp (fun d => f (d + c * y)) 0 c) 0 M
  | 0 => rfl
  | M + 1 => by
    have := sumUp_add (fun y => sumUp (fun d => f (d + c * y)) 0 c) M 0 1
    rw [this, Nat.mul_succ, sumUp_add, sumUp_mul f c M]
    simp only [sumUp, Nat.zero_add, Nat.add_zero]
    have := sumUp_shift f c 0 (c * M)
    rw [Nat.zero_add] at this
    rw [this]
/-- the sum over all lists of digits -/
def tot (c : Nat) : Nat → (List Nat → Nat) → Nat
  | 0, f => f []
  | n + 1, f => tot c n fun l => sumUp (fun d => f (d :: l)) 0 c
theorem sumUp_lt {f g : Nat → Nat} : ∀ (m x : Nat), (∀ y, x ≤ y → y < x + m → f y = g y) → sumUp f x m = sumUp g x m
  | 0, _, _ => rfl
  | m + 1, x, h => by
    simp only [sumUp]
    rw [h x (Nat.le_refl _) (by omega), sumUp_lt m (x + 1) fun y h1 h2 => h y (by omega) (by omega)]
theorem tot_eq (c : Nat) : ∀ (n : Nat) (f : List Nat → Nat), sumUp (fun x => f (dig c n x)) 0 (c ^ n) = tot c n f
  | 0, f => by simp [sumUp, tot, dig]
  | n + 1, f => by
    rw [Nat.pow_succ, Nat.mul_comm, sumUp_mul]
    unfold tot
    rw [← tot_eq c n]
    refine sumUp_congr (fun y => ?_) _ _
    refine sumUp_lt _ _ fun d _ hd => ?_
    have h1 : (d + c * y) % c = d := by rw [Nat.add_mul_mod_self_left]; exact Nat.mod_eq_of_lt (by omega)
    have h2 : (d + c * y) / c = y := by rw [Nat.add_mul_div_left _ _ (by omega), Nat.div_eq_of_lt (by omega), Nat.zero_add]
    simp only [dig, h1, h2]
def T11 : List (List Nat) := [[0], [0], [0], [0], [0], [0], [0], [0]]
def F11 (a0 : Nat) : Bool := ((bif Nat.beq a0 a0 then true else Nat.blt a0 a0) && ((bif Nat.beq a0 a0 then true else Nat.blt a0 a0) && ((bif Nat.beq a0 a0 then true else Nat.blt a0 a0) && ((bif Nat.beq a0 a0 then true else Nat.blt a0 a0) && ((bif Nat.beq a0 a0 then true else Nat.blt a0 a0) && ((bif Nat.beq a0 a0 then true else Nat.blt a0 a0) && ((bif Nat.beq a0 a0 then true else Nat.blt a0 a0) && ((bif Nat.beq a0 a0 then true else Nat.blt a0 a0) && true))))))))
def f11 : List Nat → Nat
  | [a0] => bif F11 a0 then 1 else 0
  | _ => 0
theorem f11_eq (c x : Nat) : f11 (dig c 1 x) = bif least 1 (dig c 1 x) T11 then 1 else 0 := rfl
theorem t11_1 : tot 1 1 f11 = 1 := by decide +kernel
theorem t11_2 : tot 2 1 f11 = 2 := by decide +kernel
theorem t11_3 : tot 3 1 f11 = 3 := by decide +kernel
def T12 : List (List Nat) := [[0, 1], [0, 1], [1, 0], [1, 0]]
def F12 (a0 a1 : Nat) : Bool := ((bif Nat.beq a0 a0 then (bif Nat.beq a1 a1 then true else Nat.blt a1 a1) else Nat.blt a0 a0) && ((bif Nat.beq a0 a0 then (bif Nat.beq a1 a1 then true else Nat.blt a1 a1) else Nat.blt a0 a0) && ((bif Nat.beq a1 a0 then (bif Nat.beq a0 a1 then true else Nat.blt a1 a0) else Nat.blt a0 a1) && ((bif Nat.beq a1 a0 then (bif Nat.beq a0 a1 then true else Nat.blt a1 a0) else Nat.blt a0 a1) && true))))
def f12 : List Nat → Nat
  | [a0, a1] => bif F12 a0 a1 then 1 else 0
  | _ => 0
theorem f12_eq (c x : Nat) : f12 (dig c 2 x) = bif least 2 (dig c 2 x) T12 then 1 else 0 := rfl
theorem t12_1 : tot 1 2 f12 = 1 := by decide +kernel
theorem t12_2 : tot 2 2 f12 = 3 := by decide +kernel
theorem t12_3 : tot 3 2 f12 = 6 := by decide +kernel
def T13 : List (List Nat) := [[0, 1, 2], [0, 1, 2], [2, 1, 0], [2, 1, 0]]
def F13 (a0 a1 a2 : Nat) : Bool := ((bif Nat.beq a0 a0 then (bif Nat.beq a1 a1 then (bif Nat.beq a2 a2 then true else Nat.blt a2 a2) else Nat.blt a1 a1) else Nat.blt a0 a0) && ((bif Nat.beq a0 a0 then (bif Nat.beq a1 a1 then (bif Nat.beq a2 a2 then true else Nat.blt a2 a2) else Nat.blt a1 a1) else Nat.blt a0 a0) && ((bif Nat.beq a2 a0 then (bif Nat.beq a1 a1 then (bif Nat.beq a0 a2 then true else Nat.blt a2 a0) else Nat.blt a1 a1) else Nat.blt a0 a2) && ((bif Nat.beq a2 a0 then (bif Nat.beq a1 a1 then (bif Nat.beq a0 a2 then true else Nat.blt a2 a0) else Nat.blt a1 a1) else Nat.blt a0 a2) && true))))
def f13 : List Nat → Nat
  | [a0, a1, a2] => bif F13 a0 a1 a2 then 1 else 0
  | _ => 0
theorem f13_eq (c x : Nat) : f13 (dig c 3 x) = bif least 3 (dig c 3 x) T13 then 1 else 0 := rfl
theorem t13_1 : tot 1 3 f13 = 1 := by decide +kernel
theorem t13_2 : tot 2 3 f13 = 6 := by decide +kernel
theorem t13_3 : tot 3 3 f13 = 18 := by decide +kernel
def T14 : List (List Nat) := [[0, 1, 2, 3], [0, 1, 2, 3], [3, 2, 1, 0], [3, 2, 1, 0]]
def F14 (a0 a1 a2 a3 : Nat) : Bool := ((bif Nat.beq a0 a0 then (bif Nat.beq a1 a1 then (bif Nat.beq a2 a2 then (bif Nat.beq a3 a3 then true else Nat.blt a3 a3) else Nat.blt a2 a2) else Nat.blt a1 a1) else Nat.blt a0 a0) && ((bif Nat.beq a0 a0 then (bif Nat.beq a1 a1 then (bif Nat.beq a2 a2 then (bif Nat.beq a3 a3 then true else Nat.blt a3 a3) else Nat.blt a2 a2) else Nat.blt a1 a1) else Nat.blt a0 a0) && ((bif Nat.beq a3 a0 then (bif Nat.beq a2 a1 then (bif Nat.beq a1 a2 then (bif Nat.beq a0 a3 then true else Nat.blt a3 a0) else Nat.blt a2 a1) else Nat.blt a1 a2) else Nat.blt a0 a3) && ((bif Nat.beq a3 a0 then (bif Nat.beq a2 a1 then (bif Nat.beq a1 a2 then (bif Nat.beq a0 a3 then true else Nat.blt a3 a0) else Nat.blt a2 a1) else Nat.blt a1 a2) else Nat.blt a0 a3) && true))))
def f14 : List Nat → Nat
  | [a0, a1, a2, a3] => bif F14 a0 a1 a2 a3 then 1 else 0
  | _ => 0
theorem f14_eq (c x : Nat) : f14 (dig c 4 x) = bif least 4 (dig c 4 x) T14 then 1 else 0 := rfl
theorem t14_1 : tot 1 4 f14 = 1 := by decide +kernel
theorem t14_2 : tot 2 4 f14 = 10 := by decide +kernel
theorem t14_3 : tot 3 4 f14 = 45 := by decide +kernel
def T15 : List (List Nat) := [[0, 1, 2, 3, 4], [0, 1, 2, 3, 4], [4, 3, 2, 1, 0], [4, 3, 2, 1, 0]]
def F15 (a0 a1 a2 a3 a4 : Nat) : Bool := ((bif Nat.beq a0 a0 then (bif Nat.beq a1 a1 then (bif Nat.beq a2 a2 then (bif Nat.beq a3 a3 then (bif Nat.beq a4 a4 then true else Nat.blt a4 a4) else Nat.blt a3 a3) else Nat.blt a2 a2) else Nat.blt a1 a1) else Nat.blt a0 a0) && ((bif Nat.beq a0 a0 then (bif Nat.beq a1 a1 then (bif Nat.beq a2 a2 then (bif Nat.beq a3 a3 then (bif Nat.beq a4 a4 then true else Nat.blt a4 a4) else Nat.blt a3 a3) else Nat.blt a2 a2) else Nat.blt a1 a1) else Nat.blt a0 a0) && ((bif Nat.beq a4 a0 then (bif Nat.beq a3 a1 then (bif Nat.beq a2 a2 then (bif Nat.beq a1 a3 then (bif Nat.beq a0 a4 then true else Nat.blt a4 a0) else Nat.blt a3 a1) else Nat.blt a2 a2) else Nat.blt a1 a3) else Nat.blt a0 a4) && ((bif Nat.beq a4 a0 then (bif Nat.beq a3 a1 then (bif Nat.beq a2 a2 then (bif Nat.beq a1 a3 then (bif Nat.beq a0 a4 then true else Nat.blt a4 a0) else Nat.blt a3 a1) else Nat.blt a2 a2) else Nat.blt a1 a3) else Nat.blt a0 a4) && true))))
def f15 : List Nat → Nat
  | [a0, a1, a2, a3, a4] => bif F15 a0 a1 a2 a3 a4 then 1 else 0
  | _ => 0
theorem f15_eq (c x : Nat) : f15 (dig c 5 x) = bif least 5 (dig c 5 x) T15 then 1 else 0 := rfl
theorem t15_1 : tot 1 5 f15 = 1 := by decide +kernel
theorem t15_2 : tot 2 5 f15 = 20 := by decide +kernel
theorem t15_3 : tot 3 5 f15 = 135 := by decide +kernel
def T16 : List (List Nat) := [[0, 1, 2, 3, 4, 5], [0, 1, 2, 3, 4, 5], [5, 4, 3, 2, 1, 0], [5, 4, 3, 2, 1, 0]]
def F16 (a0 a1 a2 a3 a4 a5 : Nat) : Bool := ((bif Nat.beq a0 a0 then (bif Nat.beq a1 a1 then (bif Nat.beq a2 a2 then (bif Nat.beq a3 a3 then (bif Nat.beq a4 a4 then (bif Nat.beq a5 a5 then true else Nat.blt a5 a5) else Nat.blt a4 a4) else Nat.blt a3 a3) else Nat.blt a2 a2) else Nat.blt a1 a1) else Nat.blt a0 a0) && ((bif Nat.beq a0 a0 then (bif Nat.beq a1 a1 then (bif Nat.beq a2 a2 then (bif Nat.beq a3 a3 then (bif Nat.beq a4 a4 then (bif Nat.beq a5 a5 then true else Nat.blt a5 a5) else Nat.blt a4 a4) else Nat.blt a3 a3) else Nat.blt a2 a2) else Nat.blt a1 a1) else Nat.blt a0 a0) && ((bif Nat.beq a5 a0 then (bif Nat.beq a4 a1 then (bif Nat.beq a3 a2 then (bif Nat.beq a2 a3 then (bif Nat.beq a1 a4 then (bif Nat.beq a0 a5 then true else Nat.blt a5 a0) else Nat.blt a4 a1) else Nat.blt a3 a2) else Nat.blt a2 a3) else Nat.blt a1 a4) else Nat.blt a0 a5) && ((bif Nat.beq a5 a0 then (bif Nat.beq a4 a1 then (bif Nat.beq a3 a2 then (bif Nat.beq a2 a3 then (bif Nat.beq a1 a4 then (bif Nat.beq a0 a5 then true else Nat.blt a5 a0) else Nat.blt a4 a1) else Nat.blt a3 a2) else Nat.blt a2 a3) else Nat.blt a1 a4) else Nat.blt a0 a5) && true))))
def f16 : List Nat → Nat
  | [a0, a1, a2, a3, a4, a5] => bif F16 a0 a1 a2 a3 a4 a5 then 1 else 0
  | _ => 0
theorem f16_eq (c x : Nat) : f16 (dig c 6 x) = bif least 6 (dig c 6 x) T16 then 1 else 0 := rfl
theorem t16_1 : tot 1 6 f16 = 1 := by decide +kernel
theorem t16_2 : tot 2 6 f16 = 36 := by decide +kernel
theorem t16_3 : tot 3 6 f16 = 378 := by decide +kernel
def T17 : List (List Nat) := [[0, 1, 2, 3, 4, 5, 6], [0, 1, 2, 3, 4, 5, 6], [6, 5, 4, 3, 2, 1, 0], [6, 5, 4, 3, 2, 1, 0]]
def F17 (a0 a1 a2 a3 a4 a5 a6 : Nat) : Bool := ((bif Nat.beq a0 a0 then (bif Nat.beq a1 a1 then (bif Nat.beq a2 a2 then (bif Nat.beq a3 a3 then (bif Nat.beq a4 a4 then (bif Nat.beq a5 a5 then (bif Nat.beq a6 a6 then true else Nat.blt a6 a6) else Nat.blt a5 a5) else Nat.blt a4 a4) else Nat.blt a3 a3) else Nat.blt a2 a2) else Nat.blt a1 a1) else Nat.blt a0 a0) && ((bif Nat.beq a0 a0 then (bif Nat.beq a1 a1 then (bif Nat.beq a2 a2 then (bif Nat.beq a3 a3 then (bif Nat.beq a4 a4 then (bif Nat.beq a5 a5 then (bif Nat.beq a6 a6 then true else Nat.blt a6 a6) else Nat.blt a5 a5) else Nat.blt a4 a4) else Nat.blt a3 a3) else Nat.blt a2 a2) else Nat.blt a1 a1) else Nat.blt a0 a0) && ((bif Nat.beq a6 a0 then (bif Nat.beq a5 a1 then (bif Nat.beq a4 a2 then (bif Nat.beq a3 a3 then (bif Nat.beq a2 a4 then (bif Nat.beq a1 a5 then (bif Nat.beq a0 a6 then true else Nat.blt a6 a0) else Nat.blt a5 a1) else Nat.blt a4 a2) else Nat.blt a3 a3) else Nat.blt a2 a4) else Nat.blt a1 a5) else Nat.blt a0 a6) && ((bif Nat.beq a6 a0 then (bif Nat.beq a5 a1 then (bif Nat.beq a4 a2 then (bif Nat.beq a3 a3 then (bif Nat.beq a2 a4 then (bif Nat.beq a1 a5 then (bif Nat.beq a0 a6 then true else Nat.blt a6 a0) else Nat.blt a5 a1) else Nat.blt a4 a2) else Nat.blt a3 a3) else Nat.blt a2 a4) else Nat.blt a1 a5) else Nat.blt a0 a6) && true))))
def f17 : List Nat → Nat
  | [a0, a1, a2, a3, a4, a5, a6] => bif F17 a0 a1 a2 a3 a4 a5 a6 then 1 else 0
  | _ => 0
theorem f17_eq (c x : Nat) : f17 (dig c 7 x) = bif least 7 (dig c 7 x) T17 then 1 else 0 := rfl
theorem t17_1 : tot 1 7 f17 = 1 := by decide +kernel
theorem t17_2 : tot 2 7 f17 = 72 := by decide +kernel
theorem t17_3 : tot 3 7 f17 = 1134 := by decide +kernel
def T18 : List (List Nat) := [[0, 1, 2, 3, 4, 5, 6, 7], [0, 1, 2, 3, 4, 5, 6, 7], [7, 6, 5, 4, 3, 2, 1, 0], [7, 6, 5, 4, 3, 2, 1, 0]]
def F18 (a0 a1 a2 a3 a4 a5 a6 a7 : Nat) : Bool := ((bif Nat.beq a0 a0 then (bif Nat.beq a1 a1 then (bif Nat.beq a2 a2 then (bif Nat.beq a3 a3 then (bif Nat.beq a4 a4 then (bif Nat.beq a5 a5 then (bif Nat.beq a6 a6 then (bif Nat.beq a7 a7 then true else Nat.blt a7 a7) else Nat.blt a6 a6) else Nat.blt a5 a5) else Nat.blt a4 a4) else Nat.blt a3 a3) else Nat.blt a2 a2) else Nat.blt a1 a1) else Nat.blt a0 a0) && ((bif Nat.beq a0 a0 then (bif Nat.beq a1 a1 then (bif Nat.beq a2 a2 then (bif Nat.beq a3 a3 then (bif Nat.beq a4 a4 then (bif Nat.beq a5 a5 then (bif Nat.beq a6 a6 then (bif Nat.beq a7 a7 then true else Nat.blt a7 a7) else Nat.blt a6 a6) else Nat.blt a5 a5) else Nat.blt a4 a4) else Nat.blt a3 a3) else Nat.blt a2 a2) else Nat.blt a1 a1) else Nat.blt a0 a0) && ((bif Nat.beq a7 a0 then (bif Nat.beq a6 a1 then (bif Nat.beq a5 a2 then (bif Nat.beq a4 a3 then (bif Nat.beq a3 a4 then (bif Nat.beq a2 a5 then (bif Nat.beq a1 a6 then (bif Nat.beq a0 a7 then true else Nat.blt a7 a0) else Nat.blt a6 a1) else Nat.blt a5 a2) else Nat.blt a4 a3) else Nat.blt a3 a4) else Nat.blt a2 a5) else Nat.blt a1 a6) else Nat.blt a0 a7) && ((bif Nat.beq a7 a0 then (bif Nat.beq a6 a1 then (bif Nat.beq a5 a2 then (bif Nat.beq a4 a3 then (bif Nat.beq a3 a4 then (bif Nat.beq a2 a5 then (bif Nat.beq a1 a6 then (bif Nat.beq a0 a7 then true else Nat.blt a7 a0) else Nat.blt a6 a1) else Nat.blt a5 a2) else Nat.blt a4 a3) else Nat.blt a3 a4) else Nat.blt a2 a5) else Nat.blt a1 a6) else Nat.blt a0 a7) && true))))
def f18 : List Nat → Nat
  | [a0, a1, a2, a3, a4, a5, a6, a7] => bif F18 a0 a1 a2 a3 a4 a5 a6 a7 then 1 else 0
  | _ => 0
theorem f18_eq (c x : Nat) : f18 (dig c 8 x) = bif least 8 (dig c 8 x) T18 then 1 else 0 := rfl
theorem t18_1 : tot 1 8 f18 = 1 := by decide +kernel
theorem t18_2 : tot 2 8 f18 = 136 := by decide +kernel
theorem t18_3 : tot 3 8 f18 = 3321 := by decide +kernel
def T21 : List (List Nat) := [[0, 1], [1, 0], [0, 1], [1, 0]]
def F21 (a0 a1 : Nat) : Bool := ((bif Nat.beq a0 a0 then (bif Nat.beq a1 a1 then true else Nat.blt a1 a1) else Nat.blt a0 a0) && ((bif Nat.beq a1 a0 then (bif Nat.beq a0 a1 then true else Nat.blt a1 a0) else Nat.blt a0 a1) && ((bif Nat.beq a0 a0 then (bif Nat.beq a1 a1 then true else Nat.blt a1 a1) else Nat.blt a0 a0) && ((bif Nat.beq a1 a0 then (bif Nat.beq a0 a1 then true else Nat.blt a1 a0) else Nat.blt a0 a1) && true))))
def f21 : List Nat → Nat
  | [a0, a1] => bif F21 a0 a1 then 1 else 0
  | _ => 0
theorem f21_eq (c x : Nat) : f21 (dig c 2 x) = bif least 2 (dig c 2 x) T21 then 1 else 0 := rfl
theorem t21_1 : tot 1 2 f21 = 1 := by decide +kernel
theorem t21_2 : tot 2 2 f21 = 3 := by decide +kernel
theorem t21_3 : tot 3 2 f21 = 6 := by decide +kernel
def T22 : List (List Nat) := [[0, 1, 2, 3], [1, 0, 3, 2], [2, 3, 0, 1], [3, 2, 1, 0], [0, 2, 1, 3], [1, 3, 0, 2], [2, 0, 3, 1], [3, 1, 2, 0]]
def F22 (a0 a1 a2 a3 : Nat) : Bool := ((bif Nat.beq a0 a0 then (bif Nat.beq a1 a1 then (bif Nat.beq a2 a2 then (bif Nat.beq a3 a3 then true else Nat.blt a3 a3) else Nat.blt a2 a2) else Nat.blt a1 a1) else Nat.blt a0 a0) && ((bif Nat.beq a1 a0 then (bif Nat.beq a0 a1 then (bif Nat.beq a3 a2 then (bif Nat.beq a2 a3 then true else Nat.blt a3 a2) else Nat.blt a2 a3) else Nat.blt a1 a0) else Nat.blt a0 a1) && ((bif Nat.beq a2 a0 then (bif Nat.beq a3 a1 then (bif Nat.beq a0 a2 then (bif Nat.beq a1 a3 then true else Nat.blt a3 a1) else Nat.blt a2 a0) else Nat.blt a1 a3) else Nat.blt a0 a2) && ((bif Nat.beq a3 a0 then (bif Nat.beq a2 a1 then (bif Nat.beq a1 a2 then (bif Nat.beq a0 a3 then true else Nat.blt a3 a0) else Nat.blt a2 a1) else Nat.blt a1 a2) else Nat.blt a0 a3) && ((bif Nat.beq a0 a0 then (bif Nat.beq a2 a1 then (bif Nat.beq a1 a2 then (bif Nat.beq a3 a3 then true else Nat.blt a3 a3) else Nat.blt a2 a1) else Nat.blt a1 a2) else Nat.blt a0 a0) && ((bif Nat.beq a2 a0 then (bif Nat.beq a0 a1 then (bif Nat.beq a3 a2 then (bif Nat.beq a1 a3 then true else Nat.blt a3 a1) else Nat.blt a2 a3) else Nat.blt a1 a0) else Nat.blt a0 a2) && ((bif Nat.beq a1 a0 then (bif Nat.beq a3 a1 then (bif Nat.beq a0 a2 then (bif Nat.beq a2 a3 then true else Nat.blt a3 a2) else Nat.blt a2 a0) else Nat.blt a1 a3) else Nat.blt a0 a1) && ((bif Nat.beq a3 a0 then (bif Nat.beq a1 a1 then (bif Nat.beq a2 a2 then (bif Nat.beq a0 a3 then true else Nat.blt a3 a0) else Nat.blt a2 a2) else Nat.blt a1 a1) else Nat.blt a0 a3) && true))))))))
def f22 : List Nat → Nat
  | [a0, a1, a2, a3] => bif F22 a0 a1 a2 a3 then 1 else 0
  | _ => 0
theorem f22_eq (c x : Nat) : f22 (dig c 4 x) = bif least 4 (dig c 4 x) T22 then 1 else 0 := rfl
theorem t22_1 : tot 1 4 f22 = 1 := by decide +kernel
theorem t22_2 : tot 2 4 f22 = 6 := by decide +kernel
theorem t22_3 : tot 3 4 f22 = 21 := by decide +kernel
def T23 : List (List Nat) := [[0, 1, 2, 3, 4, 5], [1, 0, 3, 2, 5, 4], [4, 5, 2, 3, 0, 1], [5, 4, 3, 2, 1, 0]]
def F23 (a0 a1 a2 a3 a4 a5 : Nat) : Bool := ((bif Nat.beq a0 a0 then (bif Nat.beq a1 a1 then (bif Nat.beq a2 a2 then (bif Nat.beq a3 a3 then (bif Nat.beq a4 a4 then (bif Nat.beq a5 a5 then true else Nat.blt a5 a5) else Nat.blt a4 a4) else Nat.blt a3 a3) else Nat.blt a2 a2) else Nat.blt a1 a1) else Nat.blt a0 a0) && ((bif Nat.beq a1 a0 then (bif Nat.beq a0 a1 then (bif Nat.beq a3 a2 then (bif Nat.beq a2 a3 then (bif Nat.beq a5 a4 then (bif Nat.beq a4 a5 then true else Nat.blt a5 a4) else Nat.blt a4 a5) else Nat.blt a3 a2) else Nat.blt a2 a3) else Nat.blt a1 a0) else Nat.blt a0 a1) && ((bif Nat.beq a4 a0 then (bif Nat.beq a5 a1 then (bif Nat.beq a2 a2 then (bif Nat.beq a3 a3 then (bif Nat.beq a0 a4 then (bif Nat.beq a1 a5 then true else Nat.blt a5 a1) else Nat.blt a4 a0) else Nat.blt a3 a3) else Nat.blt a2 a2) else Nat.blt a1 a5) else Nat.blt a0 a4) && ((bif Nat.beq a5 a0 then (bif Nat.beq a4 a1 then (bif Nat.beq a3 a2 then (bif Nat.beq a2 a3 then (bif Nat.beq a1 a4 then (bif Nat.beq a0 a5 then true else Nat.blt a5 a0) else Nat.blt a4 a1) else Nat.blt a3 a2) else Nat.blt a2 a3) else Nat.blt a1 a4) else Nat.blt a0 a5) && true))))
def f23 : List Nat → Nat
  | [a0, a1, a2, a3, a4, a5] => bif F23 a0 a1 a2 a3 a4 a5 then 1 else 0
  | _ => 0
theorem f23_eq (c x : Nat) : f23 (dig c 6 x) = bif least 6 (dig c 6 x) T23 then 1 else 0 := rfl
theorem t23_1 : tot 1 6 f23 = 1 := by decide +kernel
theorem t23_2 : tot 2 6 f23 = 24 := by decide +kernel
theorem t23_3 : tot 3 6 f23 = 216 := by decide +kernel
def T24 : List (List Nat) := [[0, 1, 2, 3, 4, 5, 6, 7], [1, 0, 3, 2, 5, 4, 7, 6], [6, 7, 4, 5, 2, 3, 0, 1], [7, 6, 5, 4, 3, 2, 1, 0]]
def F24 (a0 a1 a2 a3 a4 a5 a6 a7 : Nat) : Bool := ((bif Nat.beq a0 a0 then (bif Nat.beq a1 a1 then (bif Nat.beq a2 a2 then (bif Nat.beq a3 a3 then (bif Nat.beq a4 a4 then (bif Nat.beq a5 a5 then (bif Nat.beq a6 a6 then (bif Nat.beq a7 a7 then true else Nat.blt a7 a7) else Nat.blt a6 a6) else Nat.blt a5 a5) else Nat.blt a4 a4) else Nat.blt a3 a3) else Nat.blt a2 a2) else Nat.blt a1 a1) else Nat.blt a0 a0) && ((bif Nat.beq a1 a0 then (bif Nat.beq a0 a1 then (bif Nat.beq a3 a2 then (bif Nat.beq a2 a3 then (bif Nat.beq a5 a4 then (bif Nat.beq a4 a5 then (bif Nat.beq a7 a6 then (bif Nat.beq a6 a7 then true else Nat.blt a7 a6) else Nat.blt a6 a7) else Nat.blt a5 a4) else Nat.blt a4 a5) else Nat.blt a3 a2) else Nat.blt a2 a3) else Nat.blt a1 a0) else Nat.blt a0 a1) && ((bif Nat.beq a6 a0 then (bif Nat.beq a7 a1 then (bif Nat.beq a4 a2 then (bif Nat.beq a5 a3 then (bif Nat.beq a2 a4 then (bif Nat.beq a3 a5 then (bif Nat.beq a0 a6 then (bif Nat.beq a1 a7 then true else Nat.blt a7 a1) else Nat.blt a6 a0) else Nat.blt a5 a3) else Nat.blt a4 a2) else Nat.blt a3 a5) else Nat.blt a2 a4) else Nat.blt a1 a7) else Nat.blt a0 a6) && ((bif Nat.beq a7 a0 then (bif Nat.beq a6 a1 then (bif Nat.beq a5 a2 then (bif Nat.beq a4 a3 then (bif Nat.beq a3 a4 then (bif Nat.beq a2 a5 then (bif Nat.beq a1 a6 then (bif Nat.beq a0 a7 then true else Nat.blt a7 a0) else Nat.blt a6 a1) else Nat.blt a5 a2) else Nat.blt a4 a3) else Nat.blt a3 a4) else Nat.blt a2 a5) else Nat.blt a1 a6) else Nat.blt a0 a7) && true))))
def f24 : List Nat → Nat
  | [a0, a1, a2, a3, a4, a5, a6, a7] => bif F24 a0 a1 a2 a3 a4 a5 a6 a7 then 1 else 0
  | _ => 0
theorem f24_eq (c x : Nat) : f24 (dig c 8 x) = bif least 8 (dig c 8 x) T24 then 1 else 0 := rfl
theorem t24_1 : tot 1 8 f24 = 1 := by decide +kernel
theorem t24_2 : tot 2 8 f24 = 76 := by decide +kernel
theorem t24_3 : tot 3 8 f24 = 1701 := by decide +kernel
def T31 : List (List Nat) := [[0, 1, 2], [2, 1, 0], [0, 1, 2], [2, 1, 0]]
def F31 (a0 a1 a2 : Nat) : Bool := ((bif Nat.beq a0 a0 then (bif Nat.beq a1 a1 then (bif Nat.beq a2 a2 then true else Nat.blt a2 a2) else Nat.blt a1 a1) else Nat.blt a0 a0) && ((bif Nat.beq a2 a0 then (bif Nat.beq a1 a1 then (bif Nat.beq a0 a2 then true else Nat.blt a2 a0) else Nat.blt a1 a1) else Nat.blt a0 a2) && ((bif Nat.beq a0 a0 then (bif Nat.beq a1 a1 then (bif Nat.beq a2 a2 then true else Nat.blt a2 a2) else Nat.blt a1 a1) else Nat.blt a0 a0) && ((bif Nat.beq a2 a0 then (bif Nat.beq a1 a1 then (bif Nat.beq a0 a2 then true else Nat.blt a2 a0) else Nat.blt a1 a1) else Nat.blt a0 a2) && true))))
def f31 : List Nat → Nat
  | [a0, a1, a2] => bif F31 a0 a1 a2 then 1 else 0
  | _ => 0
theorem f31_eq (c x : Nat) : f31 (dig c 3 x) = bif least 3 (dig c 3 x) T31 then 1 else 0 := rfl
theorem t31_1 : tot 1 3 f31 = 1 := by decide +kernel
theorem t31_2 : tot 2 3 f31 = 6 := by decide +kernel
theorem t31_3 : tot 3 3 f31 = 18 := by decide +kernel
def T32 : List (List Nat) := [[0, 1, 2, 3, 4, 5], [2, 1, 0, 5, 4, 3], [3, 4, 5, 0, 1, 2], [5, 4, 3, 2, 1, 0]]
def F32 (a0 a1 a2 a3 a4 a5 : Nat) : Bool := ((bif Nat.beq a0 a0 then (bif Nat.beq a1 a1 then (bif Nat.beq a2 a2 then (bif Nat.beq a3 a3 then (bif Nat.beq a4 a4 then (bif Nat.beq a5 a5 then true else Nat.blt a5 a5) else Nat.blt a4 a4) else Nat.blt a3 a3) else Nat.blt a2 a2) else Nat.blt a1 a1) else Nat.blt a0 a0) && ((bif Nat.beq a2 a0 then (bif Nat.beq a1 a1 then (bif Nat.beq a0 a2 then (bif Nat.beq a5 a3 then (bif Nat.beq a4 a4 then (bif Nat.beq a3 a5 then true else Nat.blt a5 a3) else Nat.blt a4 a4) else Nat.blt a3 a5) else Nat.blt a2 a0) else Nat.blt a1 a1) else Nat.blt a0 a2) && ((bif Nat.beq a3 a0 then (bif Nat.beq a4 a1 then (bif Nat.beq a5 a2 then (bif Nat.beq a0 a3 then (bif Nat.beq a1 a4 then (bif Nat.beq a2 a5 then true else Nat.blt a5 a2) else Nat.blt a4 a1) else Nat.blt a3 a0) else Nat.blt a2 a5) else Nat.blt a1 a4) else Nat.blt a0 a3) && ((bif Nat.beq a5 a0 then (bif Nat.beq a4 a1 then (bif Nat.beq a3 a2 then (bif Nat.beq a2 a3 then (bif Nat.beq a1 a4 then (bif Nat.beq a0 a5 then true else Nat.blt a5 a0) else Nat.blt a4 a1) else Nat.blt a3 a2) else Nat.blt a2 a3) else Nat.blt a1 a4) else Nat.blt a0 a5) && true))))
def f32 : List Nat → Nat
  | [a0, a1, a2, a3, a4, a5] => bif F32 a0 a1 a2 a3 a4 a5 then 1 else 0
  | _ => 0
theorem f32_eq (c x : Nat) : f32 (dig c 6 x) = bif least 6 (dig c 6 x) T32 then 1 else 0 := rfl
theorem t32_1 : tot 1 6 f32 = 1 := by decide +kernel
theorem t32_2 : tot 2 6 f32 = 24 := by decide +kernel
theorem t32_3 : tot 3 6 f32 = 216 := by decide +kernel
def T41 : List (List Nat) := [[0, 1, 2, 3], [3, 2, 1, 0], [0, 1, 2, 3], [3, 2, 1, 0]]
def F41 (a0 a1 a2 a3 : Nat) : Bool := ((bif Nat.beq a0 a0 then (bif Nat.beq a1 a1 then (bif Nat.beq a2 a2 then (bif Nat.beq a3 a3 then true else Nat.blt a3 a3) else Nat.blt a2 a2) else Nat.blt a1 a1) else Nat.blt a0 a0) && ((bif Nat.beq a3 a0 then (bif Nat.beq a2 a1 then (bif Nat.beq a1 a2 then (bif Nat.beq a0 a3 then true else Nat.blt a3 a0) else Nat.blt a2 a1) else Nat.blt a1 a2) else Nat.blt a0 a3) && ((bif Nat.beq a0 a0 then (bif Nat.beq a1 a1 then (bif Nat.beq a2 a2 then (bif Nat.beq a3 a3 then true else Nat.blt a3 a3) else Nat.blt a2 a2) else Nat.blt a1 a1) else Nat.blt a0 a0) && ((bif Nat.beq a3 a0 then (bif Nat.beq a2 a1 then (bif Nat.beq a1 a2 then (bif Nat.beq a0 a3 then true else Nat.blt a3 a0) else Nat.blt a2 a1) else Nat.blt a1 a2) else Nat.blt a0 a3) && true))))
def f41 : List Nat → Nat
  | [a0, a1, a2, a3] => bif F41 a0 a1 a2 a3 then 1 else 0
  | _ => 0
theorem f41_eq (c x : Nat) : f41 (dig c 4 x) = bif least 4 (dig c 4 x) T41 then 1 else 0 := rfl
theorem t41_1 : tot 1 4 f41 = 1 := by decide +kernel
theorem t41_2 : tot 2 4 f41 = 10 := by decide +kernel
theorem t41_3 : tot 3 4 f41 = 45 := by decide +kernel
def T42 : List (List Nat) := [[0, 1, 2, 3, 4, 5, 6, 7], [3, 2, 1, 0, 7, 6, 5, 4], [4, 5, 6, 7, 0, 1, 2, 3], [7, 6, 5, 4, 3, 2, 1, 0]]
def F42 (a0 a1 a2 a3 a4 a5 a6 a7 : Nat) : Bool := ((bif Nat.beq a0 a0 then (bif Nat.beq a1 a1 then (bif Nat.beq a2 a2 then (bif Nat.beq a3 a3 then (bif Nat.beq a4 a4 then (bif Nat.beq a5 a5 then (bif Nat.beq a6 a6 then (bif Nat.beq a7 a7 then true else Nat.blt a7 a7) else Nat.blt a6 a6) else Nat.blt a5 a5) else Nat.blt a4 a4) else Nat.blt a3 a3) else Nat.blt a2 a2) else Nat.blt a1 a1) else Nat.blt a0 a0) && ((bif Nat.beq a3 a0 then (bif Nat.beq a2 a1 then (bif Nat.beq a1 a2 then (bif Nat.beq a0 a3 then (bif Nat.beq a7 a4 then (bif Nat.beq a6 a5 then (bif Nat.beq a5 a6 then (bif Nat.beq a4 a7 then true else Nat.blt a7 a4) else Nat.blt a6 a5) else Nat.blt a5 a6) else Nat.blt a4 a7) else Nat.blt a3 a0) else Nat.blt a2 a1) else Nat.blt a1 a2) else Nat.blt a0 a3) && ((bif Nat.beq a4 a0 then (bif Nat.beq a5 a1 then (bif Nat.beq a6 a2 then (bif Nat.beq a7 a3 then (bif Nat.beq a0 a4 then (bif Nat.beq a1 a5 then (bif Nat.beq a2 a6 then (bif Nat.beq a3 a7 then true else Nat.blt a7 a3) else Nat.blt a6 a2) else Nat.blt a5 a1) else Nat.blt a4 a0) else Nat.blt a3 a7) else Nat.blt a2 a6) else Nat.blt a1 a5) else Nat.blt a0 a4) && ((bif Nat.beq a7 a0 then (bif Nat.beq a6 a1 then (bif Nat.beq a5 a2 then (bif Nat.beq a4 a3 then (bif Nat.beq a3 a4 then (bif Nat.beq a2 a5 then (bif Nat.beq a1 a6 then (bif Nat.beq a0 a7 then true else Nat.blt a7 a0) else Nat.blt a6 a1) else Nat.blt a5 a2) else Nat.blt a4 a3) else Nat.blt a3 a4) else Nat.blt a2 a5) else Nat.blt a1 a6) else Nat.blt a0 a7) && true))))
def f42 : List Nat → Nat
  | [a0, a1, a2, a3, a4, a5, a6, a7] => bif F42 a0 a1 a2 a3 a4 a5 a6 a7 then 1 else 0
  | _ => 0
theorem f42_eq (c x : Nat) : f42 (dig c 8 x) = bif least 8 (dig c 8 x) T42 then 1 else 0 := rfl
theorem t42_1 : tot 1 8 f42 = 1 := by decide +kernel
theorem t42_2 : tot 2 8 f42 = 76 := by decide +kernel
theorem t42_3 : tot 3 8 f42 = 1701 := by decide +kernel
def T51 : List (List Nat) := [[0, 1, 2, 3, 4], [4, 3, 2, 1, 0], [0, 1, 2, 3, 4], [4, 3, 2, 1, 0]]
def F51 (a0 a1 a2 a3 a4 : Nat) : Bool := ((bif Nat.beq a0 a0 then (bif Nat.beq a1 a1 then (bif Nat.beq a2 a2 then (bif Nat.beq a3 a3 then (bif Nat.beq a4 a4 then true else Nat.blt a4 a4) else Nat.blt a3 a3) else Nat.blt a2 a2) else Nat.blt a1 a1) else Nat.blt a0 a0) && ((bif Nat.beq a4 a0 then (bif Nat.beq a3 a1 then (bif Nat.beq a2 a2 then (bif Nat.beq a1 a3 then (bif Nat.beq a0 a4 then true else Nat.blt a4 a0) else Nat.blt a3 a1) else Nat.blt a2 a2) else Nat.blt a1 a3) else Nat.blt a0 a4) && ((bif Nat.beq a0 a0 then (bif Nat.beq a1 a1 then (bif Nat.beq a2 a2 then (bif Nat.beq a3 a3 then (bif Nat.beq a4 a4 then true else Nat.blt a4 a4) else Nat.blt a3 a3) else Nat.blt a2 a2) else Nat.blt a1 a1) else Nat.blt a0 a0) && ((bif Nat.beq a4 a0 then (bif Nat.beq a3 a1 then (bif Nat.beq a2 a2 then (bif Nat.beq a1 a3 then (bif Nat.beq a0 a4 then true else Nat.blt a4 a0) else Nat.blt a3 a1) else Nat.blt a2 a2) else Nat.blt a1 a3) else Nat.blt a0 a4) && true))))
def f51 : List Nat → Nat
  | [a0, a1, a2, a3, a4] => bif F51 a0 a1 a2 a3 a4 then 1 else 0
  | _ => 0
theorem f51_eq (c x : Nat) : f51 (dig c 5 x) = bif least 5 (dig c 5 x) T51 then 1 else 0 := rfl
theorem t51_1 : tot 1 5 f51 = 1 := by decide +kernel
theorem t51_2 : tot 2 5 f51 = 20 := by decide +kernel
theorem t51_3 : tot 3 5 f51 = 135 := by decide +kernel
def T61 : List (List Nat) := [[0, 1, 2, 3, 4, 5], [5, 4, 3, 2, 1, 0], [0, 1, 2, 3, 4, 5], [5, 4, 3, 2, 1, 0]]
def F61 (a0 a1 a2 a3 a4 a5 : Nat) : Bool := ((bif Nat.beq a0 a0 then (bif Nat.beq a1 a1 then (bif Nat.beq a2 a2 then (bif Nat.beq a3 a3 then (bif Nat.beq a4 a4 then (bif Nat.beq a5 a5 then true else Nat.blt a5 a5) else Nat.blt a4 a4) else Nat.blt a3 a3) else Nat.blt a2 a2) else Nat.blt a1 a1) else Nat.blt a0 a0) && ((bif Nat.beq a5 a0 then (bif Nat.beq a4 a1 then (bif Nat.beq a3 a2 then (bif Nat.beq a2 a3 then (bif Nat.beq a1 a4 then (bif Nat.beq a0 a5 then true else Nat.blt a5 a0) else Nat.blt a4 a1) else Nat.blt a3 a2) else Nat.blt a2 a3) else Nat.blt a1 a4) else Nat.blt a0 a5) && ((bif Nat.beq a0 a0 then (bif Nat.beq a1 a1 then (bif Nat.beq a2 a2 then (bif Nat.beq a3 a3 then (bif Nat.beq a4 a4 then (bif Nat.beq a5 a5 then true else Nat.blt a5 a5) else Nat.blt a4 a4) else Nat.blt a3 a3) else Nat.blt a2 a2) else Nat.blt a1 a1) else Nat.blt a0 a0) && ((bif Nat.beq a5 a0 then (bif Nat.beq a4 a1 then (bif Nat.beq a3 a2 then (bif Nat.beq a2 a3 then (bif Nat.beq a1 a4 then (bif Nat.beq a0 a5 then true else Nat.blt a5 a0) else Nat.blt a4 a1) else Nat.blt a3 a2) else Nat.blt a2 a3) else Nat.blt a1 a4) else Nat.blt a0 a5) && true))))
def f61 : List Nat → Nat
  | [a0, a1, a2, a3, a4, a5] => bif F61 a0 a1 a2 a3 a4 a5 then 1 else 0
  | _ => 0
theorem f61_eq (c x : Nat) : f61 (dig c 6 x) = bif least 6 (dig c 6 x) T61 then 1 else 0 := rfl
theorem t61_1 : tot 1 6 f61 = 1 := by decide +kernel
theorem t61_2 : tot 2 6 f61 = 36 := by decide +kernel
theorem t61_3 : tot 3 6 f61 = 378 := by decide +kernel
def T71 : List (List Nat) := [[0, 1, 2, 3, 4, 5, 6], [6, 5, 4, 3, 2, 1, 0], [0, 1, 2, 3, 4, 5, 6], [6, 5, 4, 3, 2, 1, 0]]
def F71 (a0 a1 a2 a3 a4 a5 a6 : Nat) : Bool := ((bif Nat.beq a0 a0 then (bif Nat.beq a1 a1 then (bif Nat.beq a2 a2 then (bif Nat.beq a3 a3 then (bif Nat.beq a4 a4 then (bif Nat.beq a5 a5 then (bif Nat.beq a6 a6 then true else Nat.blt a6 a6) else Nat.blt a5 a5) else Nat.blt a4 a4) else Nat.blt a3 a3) else Nat.blt a2 a2) else Nat.blt a1 a1) else Nat.blt a0 a0) && ((bif Nat.beq a6 a0 then (bif Nat.beq a5 a1 then (bif Nat.beq a4 a2 then (bif Nat.beq a3 a3 then (bif Nat.beq a2 a4 then (bif Nat.beq a1 a5 then (bif Nat.beq a0 a6 then true else Nat.blt a6 a0) else Nat.blt a5 a1) else Nat.blt a4 a2) else Nat.blt a3 a3) else Nat.blt a2 a4) else Nat.blt a1 a5) else Nat.blt a0 a6) && ((bif Nat.beq a0 a0 then (bif Nat.beq a1 a1 then (bif Nat.beq a2 a2 then (bif Nat.beq a3 a3 then (bif Nat.beq a4 a4 then (bif Nat.beq a5 a5 then (bif Nat.beq a6 a6 then true else Nat.blt a6 a6) else Nat.blt a5 a5) else Nat.blt a4 a4) else Nat.blt a3 a3) else Nat.blt a2 a2) else Nat.blt a1 a1) else Nat.blt a0 a0) && ((bif Nat.beq a6 a0 then (bif Nat.beq a5 a1 then (bif Nat.beq a4 a2 then (bif Nat.beq a3 a3 then (bif Nat.beq a2 a4 then (bif Nat.beq a1 a5 then (bif Nat.beq a0 a6 then true else Nat.blt a6 a0) else Nat.blt a5 a1) else Nat.blt a4 a2) else Nat.blt a3 a3) else Nat.blt a2 a4) else Nat.blt a1 a5) else Nat.blt a0 a6) && true))))
def f71 : List Nat → Nat
  | [a0, a1, a2, a3, a4, a5, a6] => bif F71 a0 a1 a2 a3 a4 a5 a6 then 1 else 0
  | _ => 0
theorem f71_eq (c x : Nat) : f71 (dig c 7 x) = bif least 7 (dig c 7 x) T71 then 1 else 0 := rfl
theorem t71_1 : tot 1 7 f71 = 1 := by decide +kernel
theorem t71_2 : tot 2 7 f71 = 72 := by decide +kernel
theorem t71_3 : tot 3 7 f71 = 1134 := by decide +kernel
def T81 : List (List Nat) := [[0, 1, 2, 3, 4, 5, 6, 7], [7, 6, 5, 4, 3, 2, 1, 0], [0, 1, 2, 3, 4, 5, 6, 7], [7, 6, 5, 4, 3, 2, 1, 0]]
def F81 (a0 a1 a2 a3 a4 a5 a6 a7 : Nat) : Bool := ((bif Nat.beq a0 a0 then (bif Nat.beq a1 a1 then (bif Nat.beq a2 a2 then (bif Nat.beq a3 a3 then (bif Nat.beq a4 a4 then (bif Nat.beq a5 a5 then (bif Nat.beq a6 a6 then (bif Nat.beq a7 a7 then true else Nat.blt a7 a7) else Nat.blt a6 a6) else Nat.blt a5 a5) else Nat.blt a4 a4) else Nat.blt a3 a3) else Nat.blt a2 a2) else Nat.blt a1 a1) else Nat.blt a0 a0) && ((bif Nat.beq a7 a0 then (bif Nat.beq a6 a1 then (bif Nat.beq a5 a2 then (bif Nat.beq a4 a3 then (bif Nat.beq a3 a4 then (bif Nat.beq a2 a5 then (bif Nat.beq a1 a6 then (bif Nat.beq a0 a7 then true else Nat.blt a7 a0) else Nat.blt a6 a1) else Nat.blt a5 a2) else Nat.blt a4 a3) else Nat.blt a3 a4) else Nat.blt a2 a5) else Nat.blt a1 a6) else Nat.blt a0 a7) && ((bif Nat.beq a0 a0 then (bif Nat.beq a1 a1 then (bif Nat.beq a2 a2 then (bif Nat.beq a3 a3 then (bif Nat.beq a4 a4 then (bif Nat.beq a5 a5 then (bif Nat.beq a6 a6 then (bif Nat.beq a7 a7 then true else Nat.blt a7 a7) else Nat.blt a6 a6) else Nat.blt a5 a5) else Nat.blt a4 a4) else Nat.blt a3 a3) else Nat.blt a2 a2) else Nat.blt a1 a1) else Nat.blt a0 a0) && ((bif Nat.beq a7 a0 then (bif Nat.beq a6 a1 then (bif Nat.beq a5 a2 then (bif Nat.beq a4 a3 then (bif Nat.beq a3 a4 then (bif Nat.beq a2 a5 then (bif Nat.beq a1 a6 then (bif Nat.beq a0 a7 then true else Nat.blt a7 a0) else Nat.blt a6 a1) else Nat.blt a5 a2) else Nat.blt a4 a3) else Nat.blt a3 a4) else Nat.blt a2 a5) else Nat.blt a1 a6) else Nat.blt a0 a7) && true))))
def f81 : List Nat → Nat
  | [a0, a1, a2, a3, a4, a5, a6, a7] => bif F81 a0 a1 a2 a3 a4 a5 a6 a7 then 1 else 0
  | _ => 0
theorem f81_eq (c x : Nat) : f81 (dig c 8 x) = bif least 8 (dig c 8 x) T81 then 1 else 0 := rfl
theorem t81_1 : tot 1 8 f81 = 1 := by decide +kernel
theorem t81_2 : tot 2 8 f81 = 136 := by decide +kernel
theorem t81_3 : tot 3 8 f81 = 3321 := by decide +kernel
def boards : List (Nat × Nat × List (List Nat) × List Nat) := [(1, 1, T11, [0, 1, 2, 3]), (1, 2, T12, [0, 1, 3, 6]), (1, 3, T13, [0, 1, 6, 18]), (1, 4, T14, [0, 1, 10, 45]), (1, 5, T15, [0, 1, 20, 135]), (1, 6, T16, [0, 1, 36, 378]), (1, 7, T17, [0, 1, 72, 1134]), (1, 8, T18, [0, 1, 136, 3321]), (2, 1, T21, [0, 1, 3, 6]), (2, 2, T22, [0, 1, 6, 21]), (2, 3, T23, [0, 1, 24, 216]), (2, 4, T24, [0, 1, 76, 1701]), (3, 1, T31, [0, 1, 6, 18]), (3, 2, T32, [0, 1, 24, 216]), (4, 1, T41, [0, 1, 10, 45]), (4, 2, T42, [0, 1, 76, 1701]), (5, 1, T51, [0, 1, 20, 135]), (6, 1, T61, [0, 1, 36, 378]), (7, 1, T71, [0, 1, 72, 1134]), (8, 1, T81, [0, 1, 136, 3321])]
/-- what the law counts -/
def wants (n c : Nat) (T : List (List Nat)) : Nat := sumUp (fun x => bif least n (dig c n x) T then 1 else 0) 0 (c ^ n)
theorem boards_wants : ∀ b ∈ boards, wants (b.1 * b.2.1) 0 b.2.2.1 = b.2.2.2.getD 0 0 ∧ wants (b.1 * b.2.1) 1 b.2.2.1 = b.2.2.2.getD 1 0 ∧ wants (b.1 * b.2.1) 2 b.2.2.1 = b.2.2.2.getD 2 0 ∧ wants (b.1 * b.2.1) 3 b.2.2.1 = b.2.2.2.getD 3 0 := by
  simp only [boards, List.forall_mem_cons, List.not_mem_nil, false_implies, implies_true, and_true]
  refine ⟨?_, ?_, ?_, ?_, ?_, ?_, ?_, ?_, ?_, ?_, ?_, ?_, ?_, ?_, ?_, ?_, ?_, ?_, ?_, ?_⟩
  · exact ⟨rfl, (sumUp_congr (fun x => (f11_eq 1 x).symm) _ _).trans ((tot_eq 1 1 f11).trans t11_1), (sumUp_congr (fun x => (f11_eq 2 x).symm) _ _).trans ((tot_eq 2 1 f11).trans t11_2), (sumUp_congr (fun x => (f11_eq 3 x).symm) _ _).trans ((tot_eq 3 1 f11).trans t11_3)⟩
  · exact ⟨rfl, (sumUp_congr (fun x => (f12_eq 1 x).symm) _ _).trans ((tot_eq 1 2 f12).trans t12_1), (sumUp_congr (fun x => (f12_eq 2 x).symm) _ _).trans ((tot_eq 2 2 f12).trans t12_2), (sumUp_congr (fun x => (f12_eq 3 x).symm) _ _).trans ((tot_eq 3 2 f12).trans t12_3)⟩
  · exact ⟨rfl, (sumUp_congr (fun x => (f13_eq 1 x).symm) _ _).trans ((tot_eq 1 3 f13).trans t13_1), (sumUp_congr (fun x => (f13_eq 2 x).symm) _ _).trans ((tot_eq 2 3 f13).trans t13_2), (sumUp_congr (fun x => (f13_eq 3 x).symm) _ _).trans ((tot_eq 3 3 f13).trans t13_3)⟩
  · exact ⟨rfl, (sumUp_congr (fun x => (f14_eq 1 x).symm) _ _).trans ((tot_eq 1 4 f14).trans t14_1), (sumUp_congr (fun x => (f14_eq 2 x).symm) _ _).trans ((tot_eq 2 4 f14).trans t14_2), (sumUp_congr (fun x => (f14_eq 3 x).symm) _ _).trans ((tot_eq 3 4 f14).trans t14_3)⟩
  · exact ⟨rfl, (sumUp_congr (fun x => (f15_eq 1 x).symm) _ _).trans ((tot_eq 1 5 f15).trans t15_1), (sumUp_congr (fun x => (f15_eq 2 x).symm) _ _).trans ((tot_eq 2 5 f15).trans t15_2), (sumUp_congr (fun x => (f15_eq 3 x).symm) _ _).trans ((tot_eq 3 5 f15).trans t15_3)⟩
  · exact ⟨rfl, (sumUp_congr (fun x => (f16_eq 1 x).symm) _ _).trans ((tot_eq 1 6 f16).trans t16_1), (sumUp_congr (fun x => (f16_eq 2 x).symm) _ _).trans ((tot_eq 2 6 f16).trans t16_2), (sumUp_congr (fun x => (f16_eq 3 x).symm) _ _).trans ((tot_eq 3 6 f16).trans t16_3)⟩
  · exact ⟨rfl, (sumUp_congr (fun x => (f17_eq 1 x).symm) _ _).trans ((tot_eq 1 7 f17).trans t17_1), (sumUp_congr (fun x => (f17_eq 2 x).symm) _ _).trans ((tot_eq 2 7 f17).trans t17_2), (sumUp_congr (fun x => (f17_eq 3 x).symm) _ _).trans ((tot_eq 3 7 f17).trans t17_3)⟩
  · exact ⟨rfl, (sumUp_congr (fun x => (f18_eq 1 x).symm) _ _).trans ((tot_eq 1 8 f18).trans t18_1), (sumUp_congr (fun x => (f18_eq 2 x).symm) _ _).trans ((tot_eq 2 8 f18).trans t18_2), (sumUp_congr (fun x => (f18_eq 3 x).symm) _ _).trans ((tot_eq 3 8 f18).trans t18_3)⟩
  · exact ⟨rfl, (sumUp_congr (fun x => (f21_eq 1 x).symm) _ _).trans ((tot_eq 1 2 f21).trans t21_1), (sumUp_congr (fun x => (f21_eq 2 x).symm) _ _).trans ((tot_eq 2 2 f21).trans t21_2), (sumUp_congr (fun x => (f21_eq 3 x).symm) _ _).trans ((tot_eq 3 2 f21).trans t21_3)⟩
  · exact ⟨rfl, (sumUp_congr (fun x => (f22_eq 1 x).symm) _ _).trans ((tot_eq 1 4 f22).trans t22_1), (sumUp_congr (fun x => (f22_eq 2 x).symm) _ _).trans ((tot_eq 2 4 f22).trans t22_2), (sumUp_congr (fun x => (f22_eq 3 x).symm) _ _).trans ((tot_eq 3 4 f22).trans t22_3)⟩
  · exact ⟨rfl, (sumUp_congr (fun x => (f23_eq 1 x).symm) _ _).trans ((tot_eq 1 6 f23).trans t23_1), (sumUp_congr (fun x => (f23_eq 2 x).symm) _ _).trans ((tot_eq 2 6 f23).trans t23_2), (sumUp_congr (fun x => (f23_eq 3 x).symm) _ _).trans ((tot_eq 3 6 f23).trans t23_3)⟩
  · exact ⟨rfl, (sumUp_congr (fun x => (f24_eq 1 x).symm) _ _).trans ((tot_eq 1 8 f24).trans t24_1), (sumUp_congr (fun x => (f24_eq 2 x).symm) _ _).trans ((tot_eq 2 8 f24).trans t24_2), (sumUp_congr (fun x => (f24_eq 3 x).symm) _ _).trans ((tot_eq 3 8 f24).trans t24_3)⟩
  · exact ⟨rfl, (sumUp_congr (fun x => (f31_eq 1 x).symm) _ _).trans ((tot_eq 1 3 f31).trans t31_1), (sumUp_congr (fun x => (f31_eq 2 x).symm) _ _).trans ((tot_eq 2 3 f31).trans t31_2), (sumUp_congr (fun x => (f31_eq 3 x).symm) _ _).trans ((tot_eq 3 3 f31).trans t31_3)⟩
  · exact ⟨rfl, (sumUp_congr (fun x => (f32_eq 1 x).symm) _ _).trans ((tot_eq 1 6 f32).trans t32_1), (sumUp_congr (fun x => (f32_eq 2 x).symm) _ _).trans ((tot_eq 2 6 f32).trans t32_2), (sumUp_congr (fun x => (f32_eq 3 x).symm) _ _).trans ((tot_eq 3 6 f32).trans t32_3)⟩
  · exact ⟨rfl, (sumUp_congr (fun x => (f41_eq 1 x).symm) _ _).trans ((tot_eq 1 4 f41).trans t41_1), (sumUp_congr (fun x => (f41_eq 2 x).symm) _ _).trans ((tot_eq 2 4 f41).trans t41_2), (sumUp_congr (fun x => (f41_eq 3 x).symm) _ _).trans ((tot_eq 3 4 f41).trans t41_3)⟩
  · exact ⟨rfl, (sumUp_congr (fun x => (f42_eq 1 x).symm) _ _).trans ((tot_eq 1 8 f42).trans t42_1), (sumUp_congr (fun x => (f42_eq 2 x).symm) _ _).trans ((tot_eq 2 8 f42).trans t42_2), (sumUp_congr (fun x => (f42_eq 3 x).symm) _ _).trans ((tot_eq 3 8 f42).trans t42_3)⟩
  · exact ⟨rfl, (sumUp_congr (fun x => (f51_eq 1 x).symm) _ _).trans ((tot_eq 1 5 f51).trans t51_1), (sumUp_congr (fun x => (f51_eq 2 x).symm) _ _).trans ((tot_eq 2 5 f51).trans t51_2), (sumUp_congr (fun x => (f51_eq 3 x).symm) _ _).trans ((tot_eq 3 5 f51).trans t51_3)⟩
  · exact ⟨rfl, (sumUp_congr (fun x => (f61_eq 1 x).symm) _ _).trans ((tot_eq 1 6 f61).trans t61_1), (sumUp_congr (fun x => (f61_eq 2 x).symm) _ _).trans ((tot_eq 2 6 f61).trans t61_2), (sumUp_congr (fun x => (f61_eq 3 x).symm) _ _).trans ((tot_eq 3 6 f61).trans t61_3)⟩
  · exact ⟨rfl, (sumUp_congr (fun x => (f71_eq 1 x).symm) _ _).trans ((tot_eq 1 7 f71).trans t71_1), (sumUp_congr (fun x => (f71_eq 2 x).symm) _ _).trans ((tot_eq 2 7 f71).trans t71_2), (sumUp_congr (fun x => (f71_eq 3 x).symm) _ _).trans ((tot_eq 3 7 f71).trans t71_3)⟩
  · exact ⟨rfl, (sumUp_congr (fun x => (f81_eq 1 x).symm) _ _).trans ((tot_eq 1 8 f81).trans t81_1), (sumUp_congr (fun x => (f81_eq 2 x).symm) _ _).trans ((tot_eq 2 8 f81).trans t81_2), (sumUp_congr (fun x => (f81_eq 3 x).symm) _ _).trans ((tot_eq 3 8 f81).trans t81_3)⟩
end Go.Proofs.Ytejmikpmkfnlgaa
