/- Texts of positions: the whole. No condition of its own. -/
import Derived.Test.YtjikbbjjnndcbaaDoorPlaceW
namespace Go.Proofs.YtjikbbjjnndcbaaDoor
open Go.Den
set_option linter.unusedVariables false
set_option linter.unusedSimpArgs false
set_option maxRecDepth 100000

abbrev slashT : ByteArray := ByteArray.mk #[47]
abbrev spT : ByteArray := ByteArray.mk #[32]
def joined (l : List ByteArray) : ByteArray := ⟨(Go.Lib.join (l.map (·.data.toList)) slashT.data.toList).toArray⟩
theorem inter_snoc (sep x : List UInt8) : ∀ (l : List (List UInt8)), l ≠ [] → sep.intercalate (l ++ [x]) = sep.intercalate l ++ (sep ++ x)
  | [], h => absurd rfl h
  | [a], _ => by simp [List.intercalate, List.intersperse]
  | a :: b :: t, _ => by
    have ih := inter_snoc sep x (b :: t) (by simp)
    simp only [List.intercalate, List.intersperse, List.cons_append, List.flatten_cons] at ih ⊢
    rw [ih]
    simp
theorem joined_nil : joined [] = e0T := rfl
theorem joined_one (x : ByteArray) : joined [x] = x := ba_ext (by
  show Go.Lib.join [x.data.toList] [47] = _
  simp [Go.Lib.join, List.intercalate, List.intersperse])
theorem joined_snoc (l : List ByteArray) (x : ByteArray) (h : l ≠ []) : joined (l ++ [x]) = (joined l ++ slashT) ++ x := ba_ext (by
  rw [ba_app, ba_app]
  show Go.Lib.join ((l ++ [x]).map (·.data.toList)) [47] = (Go.Lib.join (l.map (·.data.toList)) [47] ++ [47]) ++ x.data.toList
  unfold Go.Lib.join
  rw [List.map_append, List.map_cons, List.map_nil, inter_snoc _ _ _ (by simpa using h), List.append_assoc])

/-- the cells of row y -/
def rowC (r : Rules) (p : Place) (y : Int) : List Int := (p.1.take ((y + 1) * r.width).toNat).drop (y * r.width).toNat
/-- the first j rows, from the top -/
def rowsT (r : Rules) (p : Place) (j : Nat) : List ByteArray := (List.range j).map fun (i : Nat) => rowT r (rowC r p (r.height - 1 - (i : Int)))
theorem rowsT_succ (r : Rules) (p : Place) (j : Nat) : rowsT r p (j + 1) = rowsT r p j ++ [rowT r (rowC r p (r.height - 1 - (j : Int)))] := by
  unfold rowsT
  rw [List.range_succ, List.map_append]
  rfl
theorem rowsT_len (r : Rules) (p : Place) (j : Nat) : (rowsT r p j).length = j := by simp [rowsT]
theorem row_mul {r : Rules} {p : Place} (h : Valid r p) {y : Int} (h0 : 0 ≤ y) (h1 : y < r.height) : 0 ≤ y * r.width ∧ (y + 1) * r.width = y * r.width + r.width ∧ y * r.width + r.width ≤ ((p.1.length : Nat) : Int) ∧ ((p.1.length : Nat) : Int) ≤ 64 := by
  have hw := h.r0.w1
  have e1 : 0 ≤ y * r.width := Int.mul_nonneg h0 (by omega)
  have e2 : (y + 1) * r.width = y * r.width + r.width := by rw [Int.add_mul]; omega
  have e3 : (y + 1) * r.width ≤ r.height * r.width := Int.mul_le_mul_of_nonneg_right (by omega) (by omega)
  have hc := h.cells
  have e4 : r.height * r.width = r.width * r.height := Int.mul_comm _ _
  have ha := h.r0.area
  have hc' : ((p.1.length : Nat) : Int) = r.width * r.height := hc
  omega
theorem rowC_len {r : Rules} {p : Place} (h : Valid r p) {y : Int} (h0 : 0 ≤ y) (h1 : y < r.height) : (((rowC r p y).length : Nat) : Int) = r.width := by
  obtain ⟨e1, e2, e3, e4⟩ := row_mul h h0 h1
  have hw := h.r0.w1
  unfold rowC
  rw [List.length_drop, List.length_take]
  omega
theorem rowC_get {r : Rules} {p : Place} (h : Valid r p) {y : Int} (h0 : 0 ≤ y) (h1 : y < r.height) {x : Nat} (hx : x < (rowC r p y).length) : at? p.1 (y * r.width + (x : Int)) = some (rowC r p y)[x] := by
  obtain ⟨e1, e2, e3, e4⟩ := row_mul h h0 h1
  have hl := rowC_len h h0 h1
  have hw := h.r0.w1
  rw [at?_eq _ _ (by omega) (by omega), ← List.getElem?_eq_getElem, ← List.getElem?_eq_getElem hx]
  unfold rowC
  rw [List.getElem?_drop, List.getElem?_take, if_pos (by omega)]
  congr 1
  omega
theorem rowC_mem {r : Rules} {p : Place} (h : Valid r p) (y : Int) : ∀ c ∈ rowC r p y, 0 ≤ c ∧ c ≤ 2 * ((r.pieces.length : Nat) : Int) := fun c hc => h.cell c (List.mem_of_mem_take (List.mem_of_mem_drop hc))
theorem joined_bnd {r : Rules} {p : Place} (h : Valid r p) : ∀ j : Nat, ((j : Nat) : Int) ≤ r.height → (joined (rowsT r p j)).size ≤ 50 * j ∧ (1 ≤ j → 1 ≤ (joined (rowsT r p j)).size)
  | 0, _ => ⟨Nat.le_refl _, fun h => absurd h (by omega)⟩
  | j + 1, hj => by
    have h8 := h.r0.h8
    have w8 := h.r0.w8
    have w1 := h.r0.w1
    have ih := joined_bnd h j (by omega)
    have hl := rowC_len h (y := r.height - 1 - (j : Int)) (by omega) (by omega)
    have hs := rowT_size r (rowC r p (r.height - 1 - (j : Int))) (by omega)
    have hp := rowT_pos r (rowC r p (r.height - 1 - (j : Int))) (by omega) (by omega)
    rw [rowsT_succ]
    by_cases h0 : j = 0
    · subst h0
      rw [show rowsT r p 0 = [] from rfl, List.nil_append, joined_one]
      omega
    · have hne : rowsT r p j ≠ [] := fun e => h0 (by rw [← rowsT_len r p j, e]; rfl)
      rw [joined_snoc _ _ hne, size_app, size_app, show slashT.size = 1 from rfl]
      omega
/-- the rows, joined -/
def boardTl (r : Rules) (p : Place) : List ByteArray := rowsT r p r.height.toNat
def boardT (r : Rules) (p : Place) : ByteArray := joined (boardTl r p)
/-- the whole text -/
def textT (r : Rules) (p : Place) : ByteArray := ((((((boardT r p ++ spT) ++ handT r p.2.1.1) ++ spT) ++ handT r p.2.1.2.1) ++ spT) ++ dec (p.2.2.1 + 1) ++ spT) ++ dec p.2.2.2.1
theorem board_size {r : Rules} {p : Place} (h : Valid r p) : (boardT r p).size ≤ 400 := by
  have h8 := h.r0.h8
  have h1 := h.r0.h1
  have := (joined_bnd h r.height.toNat (by omega)).1
  unfold boardT boardTl
  omega
theorem placeText_spec {r : Rules} {p : Place} (hC : Caps r) (h : Valid r p) : placeText r p = some (textT r p) := by
  have h8 := h.r0.h8
  have h1 := h.r0.h1
  have w1 := h.r0.w1
  have t6 := h.r0.t6
  unfold placeText
  have hL := iterW_states (f := placeText_L1 r p) r.height.toNat (fun j => ((rowsT r p j, r.height - 1 - (j : Int), ()), ())) ((boardTl r p, ()), ()) (fun j hj => by
      have w8 := h.r0.w8
      obtain ⟨e1, e2, e3, e4⟩ := row_mul h (y := r.height - 1 - (j : Int)) (by omega) (by omega)
      have hl := rowC_len h (y := r.height - 1 - (j : Int)) (by omega) (by omega)
      unfold placeText_L1
      simp only [show decide (r.height - 1 - (j : Int) ≥ (0 : Int)) = true by simp; omega, cond_true]
      rw [show r.2.1 = r.width from rfl, w64_id (n := (r.height - 1 - (j : Int)) * r.width) (by omega) (by omega), w64_id (n := r.height - 1 - (j : Int) + 1) (by omega) (by omega), w64_id (n := (r.height - 1 - (j : Int) + 1) * r.width) (by omega) (by omega)]
      rw [show boundsI ((r.height - 1 - (j : Int)) * r.width) ((r.height - 1 - (j : Int) + 1) * r.width) p.1.length = true by unfold boundsI; simp; omega, req_true]
      have hr := placeRow_spec hC t6 (rowC r p (r.height - 1 - (j : Int))) (by omega) (rowC_mem h _)
      unfold rowC at hr
      rw [hr, Option.bind_some, room_ok (by simp [rowsT_len]; omega), req_true, w64_id (n := r.height - 1 - (j : Int) - 1) (by omega) (by omega), rowsT_succ]
      congr 5
      omega) (by
    unfold placeText_L1
    simp only [show decide (r.height - 1 - ((r.height.toNat : Nat) : Int) ≥ (0 : Int)) = false by simp; omega, cond_false]
    rfl)
  have hh : w64 (r.2.2.1 - 1) = r.height - 1 - ((0 : Nat) : Int) := by
    show w64 (r.height - 1) = _
    rw [w64_id (by omega) (by omega)]; omega
  rw [hh]
  have hL' : iterW (placeText_L1 r p) ((([] : List ByteArray), r.height - 1 - ((0 : Nat) : Int), ()), ()) = _ := hL
  rw [hL', Option.bind_some]
  have hbs := board_size h
  have hj : joinS (boardTl r p) (ByteArray.mk #[47]) = some (boardT r p) := by
    unfold joinS
    have q1 : (boardTl r p).length ≤ 140737488355328 := by unfold boardTl; rw [rowsT_len]; omega
    have q2 : (Go.Lib.join ((boardTl r p).map (·.data.toList)) (ByteArray.mk #[47]).data.toList).length ≤ 140737488355328 := by
      have : (Go.Lib.join ((boardTl r p).map (·.data.toList)) (ByteArray.mk #[47]).data.toList).length = (boardT r p).size := by rw [ba_size]; rfl
      omega
    rw [Nat.ble_eq_true_of_le q1, Nat.ble_eq_true_of_le q2]
    rfl
  simp only [hj, Option.bind_some]
  have s1 := handT_size (r := r) (l := p.2.1.1) h.hand0
  have s2 := handT_size (r := r) (l := p.2.1.2.1) h.hand1
  have l0 : p.2.1.1.length = r.pieces.length := h.l0
  have l1 : p.2.1.2.1.length = r.pieces.length := h.l1
  have ht : p.2.2.1 = 0 ∨ p.2.2.1 = 1 := h.turn
  have hq : 0 ≤ p.2.2.2.1 ∧ p.2.2.2.1 ≤ 200 := h.quiet
  have d1 := dec_le (n := p.2.2.1 + 1) (by omega) (by omega)
  have d2 := dec_le (n := p.2.2.2.1) (by omega) (by omega)
  have es : spT.size = 1 := rfl
  have ek : (ByteArray.mk #[32]).size = 1 := rfl
  rw [placeHand_spec hC t6 p.2.1.1 l0 h.hand0, placeHand_spec hC t6 p.2.1.2.1 l1 h.hand1, w64_id (n := p.2.2.1 + 1) (by omega) (by omega), itoa_spec (n := p.2.2.1 + 1) (by omega) (by omega), itoa_spec (n := p.2.2.2.1) (by omega) (by omega)]
  simp only [Option.bind_some]
  rw [sroomT (by omega) (by show spT.size ≤ _; omega), req_true, sroomT (by rw [size_app]; omega) (by omega), req_true, sroomT (by simp only [size_app]; omega) (by show spT.size ≤ _; omega), req_true, sroomT (by simp only [size_app]; omega) (by omega), req_true,
    sroomT (by simp only [size_app]; omega) (by show spT.size ≤ _; omega), req_true, sroomT (by simp only [size_app]; omega) (by omega), req_true, sroomT (by simp only [size_app]; omega) (by show spT.size ≤ _; omega), req_true, sroomT (by simp only [size_app]; omega) (by omega), req_true]
  rfl
end Go.Proofs.YtjikbbjjnndcbaaDoor
