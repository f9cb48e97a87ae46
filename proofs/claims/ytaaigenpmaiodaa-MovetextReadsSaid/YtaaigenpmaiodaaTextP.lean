/- Texts of moves, in plain Lean: what the program and the reference write. No condition of its own. -/
import Derived.Test.YtaaigenpmaiodaaTextS
import Derived.Test.YtaaigenpmaiodaaGameQ
namespace Go.Proofs.Ytaaigenpmaiodaa
open Go.Den
set_option linter.unusedVariables false
set_option linter.unusedSimpArgs false
set_option maxRecDepth 100000

/-! ### bytes -/
theorem enc_ascii {c : Int} (h : 0 ≤ c) (h' : c < 128) : Go.Utf8.encode c = ByteArray.mk #[UInt8.ofNat c.toNat] := by
  unfold Go.Utf8.encode
  have : Go.Utf8.valid c = true := by unfold Go.Utf8.valid; simp; omega
  simp only [this, if_true]
  rw [if_pos (by omega)]
theorem size_ite {c : Prop} [Decidable c] {a b : ByteArray} {n : Nat} (ha : a.size ≤ n) (hb : b.size ≤ n) : (if c then a else b).size ≤ n := by split <;> assumption
theorem enc_size (c : Int) : (Go.Utf8.encode c).size ≤ 4 := by
  unfold Go.Utf8.encode
  exact size_ite (by show 1 ≤ 4; omega) (size_ite (by show 2 ≤ 4; omega) (size_ite (by show 3 ≤ 4; omega) (by show 4 ≤ 4; omega)))
theorem bytes_inj {a b : ByteArray} (h : a.toList = b.toList) : a = b := by
  rw [ByteArray.toList_eq, ByteArray.toList_eq] at h
  cases a; cases b
  simp only at h
  rw [Array.toList_inj.1 h]
theorem bytes_beq (a b : ByteArray) : (a.toList == b.toList) = decide (a = b) := by
  rw [Bool.eq_iff_iff]
  simp only [beq_iff_eq, decide_eq_true_eq]
  exact ⟨bytes_inj, fun h => by rw [h]⟩
theorem sroom {a b : ByteArray} (h : a.size ≤ 1000000) (h' : b.size ≤ 1000000) : strRoom a b = true := by
  exact Nat.ble_eq_true_of_le (show a.size + b.size ≤ 9223372036854775807 by omega)
theorem i32_id {n : Int} (h1 : 0 ≤ n) (h2 : n ≤ 1000000) : IntKind.wrap .i32 n = n := by
  simp [IntKind.wrap, IntKind.signed, IntKind.bits]
  omega
theorem u8_inj {x y : Nat} (hx : x < 256) (hy : y < 256) : UInt8.ofNat x = UInt8.ofNat y ↔ x = y := by
  constructor
  · intro h
    have := congrArg UInt8.toNat h
    simp at this
    omega
  · intro h; rw [h]
theorem mk1_inj {a b : UInt8} : ByteArray.mk #[a] = ByteArray.mk #[b] ↔ a = b := by
  constructor
  · intro h; injection h with h; simpa using h
  · intro h; rw [h]
/-! ### squares -/
def colT (i : Int) : ByteArray := ByteArray.mk #[UInt8.ofNat (97 + i).toNat]
def rowT (i : Int) : ByteArray := ByteArray.mk #[UInt8.ofNat (49 + i).toNat]
def sqT (r : Rules) (n : Int) : ByteArray := ByteArray.mk #[UInt8.ofNat (97 + n.tmod r.width).toNat, UInt8.ofNat (49 + n.tdiv r.width).toNat]
structure OnB (r : Rules) (n : Int) : Prop where
  w : 1 ≤ r.width ∧ r.width ≤ 8
  c : 0 ≤ n.tmod r.width ∧ n.tmod r.width < 8
  d : 0 ≤ n.tdiv r.width ∧ n.tdiv r.width < 8
theorem onB_of {r : Rules} (h : VR0 r) {n : Int} (h0 : 0 ≤ n) (h1 : n < r.width * r.height) : OnB r n := by
  have w1 := h.w1
  have w8 := h.w8
  have e1 := h.h1
  have e8 := h.h8
  have a := Int.tmod_lt_of_pos n (show 0 < r.width by omega)
  have b := Int.tmod_nonneg r.width h0
  have c := Int.tdiv_nonneg h0 (show 0 ≤ r.width by omega)
  have d : n.tdiv r.width < r.height := by
    rw [Int.tdiv_eq_ediv_of_nonneg h0]
    exact Int.ediv_lt_of_lt_mul (by omega) (by rw [Int.mul_comm]; exact h1)
  exact ⟨⟨w1, w8⟩, ⟨b, by omega⟩, ⟨c, by omega⟩⟩
theorem onB_cell {r : Rules} {p : Place} (h : Valid r p) {n : Int} (h0 : 0 ≤ n) (h1 : n < ((p.1.length : Nat) : Int)) : OnB r n := by
  have hc : ((p.1.length : Nat) : Int) = r.width * r.height := h.cells
  exact onB_of h.r0 h0 (by omega)
theorem sq_size (r : Rules) (n : Int) : (sqT r n).size = 2 := rfl
theorem sq_app (r : Rules) (n : Int) : colT (n.tmod r.width) ++ rowT (n.tdiv r.width) = sqT r n := rfl
theorem sq_c (r : Rules) (n : Int) : (sqT r n).extract 0 1 = colT (n.tmod r.width) := rfl
theorem sq_r (r : Rules) (n : Int) : (sqT r n).extract 1 2 = rowT (n.tdiv r.width) := rfl
theorem col_inj {a b : Int} (ha : 0 ≤ a ∧ a < 8) (hb : 0 ≤ b ∧ b < 8) : colT a = colT b ↔ a = b := by
  unfold colT
  rw [mk1_inj, u8_inj (by omega) (by omega)]
  omega
theorem row_inj {a b : Int} (ha : 0 ≤ a ∧ a < 8) (hb : 0 ≤ b ∧ b < 8) : rowT a = rowT b ↔ a = b := by
  unfold rowT
  rw [mk1_inj, u8_inj (by omega) (by omega)]
  omega
theorem col_row {a b : Int} (ha : 0 ≤ a ∧ a < 8) (hb : 0 ≤ b ∧ b < 8) : ¬ colT a = rowT b := by
  unfold colT rowT
  rw [mk1_inj, u8_inj (by omega) (by omega)]
  omega
theorem one_two {a : ByteArray} (h : a.size ≤ 1) (r : Rules) (n : Int) : ¬ a = sqT r n := fun e => by
  have := congrArg ByteArray.size e
  rw [sq_size] at this
  omega
theorem column_spec {r : Rules} {n : Int} (h : OnB r n) : movetextColumn r n = some (colT (n.tmod r.width)) := by
  have := h.w
  have := h.c
  unfold movetextColumn colT
  rw [show (r.2.1 != 0) = true from bne_t (by show ¬ r.width = 0; omega), req_true]
  show some (Go.Utf8.encode (IntKind.wrap .i32 (w64 (97 + n.tmod r.width)))) = _
  rw [w64_id (by omega) (by omega), i32_id (by omega) (by omega), enc_ascii (by omega) (by omega)]
theorem row_spec {r : Rules} {n : Int} (h : OnB r n) : movetextRow r n = some (rowT (n.tdiv r.width)) := by
  have := h.w
  have := h.d
  unfold movetextRow rowT
  rw [show (r.2.1 != 0) = true from bne_t (by show ¬ r.width = 0; omega), req_true]
  show some (Go.Utf8.encode (IntKind.wrap .i32 (w64 (49 + w64 (n.tdiv r.width))))) = _
  rw [w64_id (n := n.tdiv r.width) (by omega) (by omega), w64_id (by omega) (by omega), i32_id (by omega) (by omega), enc_ascii (by omega) (by omega)]
theorem square_spec {r : Rules} {n : Int} (h : OnB r n) : movetextSquare r n = some (sqT r n) := by
  unfold movetextSquare
  rw [column_spec h, row_spec h, Option.bind_some, Option.bind_some, sroom (by show 1 ≤ _; omega) (by show 1 ≤ _; omega), req_true, sq_app]
theorem abc (i : Int) (h : 0 ≤ i ∧ i < 8) : strAt (ByteArray.mk #[97, 98, 99, 100, 101, 102, 103, 104]) i = some (UInt8.ofNat (97 + i).toNat) ∧ strAt (ByteArray.mk #[49, 50, 51, 52, 53, 54, 55, 56]) i = some (UInt8.ofNat (49 + i).toNat) := by
  have : i = 0 ∨ i = 1 ∨ i = 2 ∨ i = 3 ∨ i = 4 ∨ i = 5 ∨ i = 6 ∨ i = 7 := by omega
  rcases this with rfl | rfl | rfl | rfl | rfl | rfl | rfl | rfl <;> exact ⟨rfl, rfl⟩
theorem u8_nat {x : Nat} (h : x < 128) : Go.Utf8.encode (((UInt8.ofNat x).toNat : Nat) : Int) = ByteArray.mk #[UInt8.ofNat x] := by
  have : (UInt8.ofNat x).toNat = x := by simp; omega
  rw [this, enc_ascii (by omega) (by omega)]
  rfl
theorem rsquare_spec {r : Rules} {n : Int} (h : OnB r n) : ref3Square r.width n = some (sqT r n) := by
  have hw := h.w
  have hc := h.c
  have hd := h.d
  unfold ref3Square
  rw [show (r.width != 0) = true from bne_t (by omega), req_true, w64_id (by omega) (by omega), (abc _ hc).1, Option.bind_some, req_true, (abc _ hd).2, Option.bind_some]
  rw [u8_nat (by omega), u8_nat (by omega), sroom (by show 1 ≤ _; omega) (by show 1 ≤ _; omega), req_true]
  rfl
end Go.Proofs.Ytaaigenpmaiodaa
