/- Texts of positions: the reference's are the same. No condition of its own. -/
import Derived.Test.YtjikbbjjnndcbaaDoorPlaceX
namespace Go.Proofs.YtjikbbjjnndcbaaDoor
open Go.Den
set_option linter.unusedVariables false
set_option linter.unusedSimpArgs false
set_option maxRecDepth 100000

theorem letter_spec {r : Rules} (hC : Caps r) {c : Int} (h0 : 1 ≤ c) (h1 : c ≤ 2 * ((r.pieces.length : Nat) : Int)) (ht : r.pieces.length ≤ 6) : ref1Letter r c = some (cellT r c) := by
  unfold ref1Letter
  have hdm := Int.mul_tdiv_add_tmod (c - 1) 2
  have hm0 : 0 ≤ (c - 1).tmod 2 := Int.tmod_nonneg _ (by omega)
  have hm1 : (c - 1).tmod 2 < 2 := Int.tmod_lt_of_pos _ (by omega)
  rw [w64_id (n := c - 1) (by omega) (by omega), w64_id (n := (c - 1).tdiv 2) (by omega) (by omega)]
  obtain ⟨q, e2, e3⟩ := at_pieceL (r := r) (k := (c - 1).tdiv 2) (by omega) (by omega)
  rw [e2, Option.bind_some, e3]
  have hk : ((c - 1).tdiv 2).toNat = (c - 1).toNat / 2 := by omega
  rw [hk]
  have hcap := capsL hC ((c - 1).toNat / 2)
  have e4 : (bif (c.tmod 2 == 0) then some (((wu8 (pieceL r ((c - 1).toNat / 2) + 32)), ()), ()) else some ((pieceL r ((c - 1).toNat / 2), ()), ())) = some ((cellN r c, ()), ()) := by
    unfold cellN
    cases (c.tmod 2 == 0)
    · rfl
    · simp only [cond_true]
      rw [show wu8 (pieceL r ((c - 1).toNat / 2) + 32) = pieceL r ((c - 1).toNat / 2) + 32 by rw [wu8, IntKind.wrap_u8]; omega]
  rw [e4, Option.bind_some]
  rfl
/-- a row of the reference, behind what stands -/
theorem rrow_spec {r : Rules} {p : Place} (hC : Caps r) (h : Valid r p) {y : Int} (h0 : 0 ≤ y) (h1 : y < r.height) (s : ByteArray) (x3s : ByteArray) (hs : s.size ≤ 1000) :
    iterW (ref1PlaceText_L2 r p ((x3s, y, ()), ())) ((s, (0 : Int), (0 : Int), ()), ()) = some ((s ++ rowT r (rowC r p y), ()), ()) := by
  obtain ⟨e1, e2, e3, e4⟩ := row_mul h h0 h1
  have hl := rowC_len h h0 h1
  have w1 := h.r0.w1
  have w8 := h.r0.w8
  have t6 := h.r0.t6
  have hW : w64 (r.2.1 + 1) = (((rowC r p y).length : Nat) : Int) + 1 := by rw [show r.2.1 = r.width from rfl, w64_id (by omega) (by omega)]; omega
  have hrow : ∀ x : Nat, x < (rowC r p y).length → at? p.1 (w64 (w64 (y * r.2.1) + (x : Int))) = (rowC r p y)[x]? := fun x hx => by
    rw [show r.2.1 = r.width from rfl, w64_id (n := y * r.width) (by omega) (by omega), w64_id (n := y * r.width + (x : Int)) (by omega) (by omega), rowC_get h h0 h1 hx, List.getElem?_eq_getElem hx]
  have hmem := rowC_mem h y
  have hrw : r.2.1 = (((rowC r p y).length : Nat) : Int) := hl.symm
  rw [← gap_fold]
  unfold gapT
  generalize rowC r p y = cells at *
  let st : Nat → (ByteArray × Int × Int × Unit) × Unit := fun i => if i ≤ cells.length then (((foldT r (cells.take i) s).1, (foldT r (cells.take i) s).2, (i : Int), ()), ()) else ((gapT (foldT r cells s), 0, (i : Int), ()), ())
  have hL := iterW_states (f := ref1PlaceText_L2 r p ((x3s, y, ()), ())) (cells.length + 1) st ((gapT (foldT r cells s), ()), ()) (fun i hi => by
      have hb := foldT_bnd r (cells.take i) s (by rw [List.length_take]; omega)
      have hlt : (cells.take i).length ≤ 64 := by rw [List.length_take]; omega
      have hg := gap_size hb.1 (by omega)
      have e5 : ∀ q : ByteArray × Int, 0 ≤ q.2 → q.2 ≤ 900 → q.1.size ≤ 2000 → (bif decide (q.2 > 0) then (Option.bind (ref1Dec q.2) fun r8 => req (strRoom q.1 r8) (some (((q.1 ++ r8), (0 : Int), ()), ()))) else some ((q.1, q.2, ()), ())) = some ((gapT q, 0, ()), ()) := fun q q0 q1 q2 => by
        unfold gapT
        cases hd : decide (q.2 > 0)
        · simp only [decide_eq_false_iff_not] at hd
          have : q.2 = 0 := by omega
          rw [this]
          rfl
        · have := dec_le q0 (by omega)
          simp only [cond_true]
          rw [rdec q0 (by omega), Option.bind_some, sroomT (by omega) (by omega), req_true]
      by_cases hc : i < cells.length
      · show ref1PlaceText_L2 r p ((x3s, y, ()), ()) (if i ≤ cells.length then _ else _) = some (.inl (if i + 1 ≤ cells.length then _ else _))
        rw [if_pos (by omega), if_pos (by omega), fold_take r cells s hc]
        have hci := hmem _ (List.getElem_mem hc)
        have hat := hrow i hc
        rw [List.getElem?_eq_getElem hc] at hat
        generalize foldT r (cells.take i) s = q at hb hg
        unfold ref1PlaceText_L2
        simp only [hW, show decide ((i : Int) < ((cells.length : Nat) : Int) + 1) = true by simp; omega, cond_true]
        rw [show decide ((i : Int) < r.2.1) = true by simp; omega, cond_true, hat, Option.bind_some, Option.bind_some, w64_id (n := (i : Int) + 1) (by omega) (by omega)]
        generalize cells[i] = c at hci
        unfold stepT
        simp only []
        cases h2 : (c == 0)
        · simp only [beq_eq_false_iff_ne] at h2
          simp only [cond_false]
          rw [e5 q hb.1 hb.2.1 (by omega), Option.bind_some]
          simp only [show decide (c > 0) = true by simp; omega, cond_true]
          rw [letter_spec hC (by omega) hci.2 t6, Option.bind_some, sroomT (by omega) (by show 1 ≤ _; omega), req_true]
          rfl
        · simp only [cond_true, Option.bind_some]
          rw [w64_id (n := q.2 + 1) (by omega) (by omega)]
          rfl
      · have hie : i = cells.length := by omega
        subst hie
        show ref1PlaceText_L2 r p ((x3s, y, ()), ()) (if cells.length ≤ cells.length then _ else _) = some (.inl (if cells.length + 1 ≤ cells.length then _ else _))
        rw [if_pos (by omega), if_neg (by omega)]
        rw [List.take_length] at *
        unfold ref1PlaceText_L2
        simp only [hW, show decide (((cells.length : Nat) : Int) < ((cells.length : Nat) : Int) + 1) = true by simp; omega, cond_true]
        rw [show decide (((cells.length : Nat) : Int) < r.2.1) = false by simp; omega, cond_false, Option.bind_some, w64_id (n := ((cells.length : Nat) : Int) + 1) (by omega) (by omega)]
        simp only [show ((-1 : Int) == 0) = false by decide, cond_false]
        rw [e5 (foldT r cells s) hb.1 hb.2.1 (by omega), Option.bind_some]
        rfl) (by
    show ref1PlaceText_L2 r p ((x3s, y, ()), ()) (if cells.length + 1 ≤ cells.length then _ else _) = _
    rw [if_neg (by omega)]
    unfold ref1PlaceText_L2
    simp only [hW]
    rw [show decide (((cells.length + 1 : Nat) : Int) < ((cells.length : Nat) : Int) + 1) = false by simp, cond_false])
  exact hL
theorem rhand_spec {r : Rules} {p : Place} (hC : Caps r) (h : Valid r p) (k : Nat) (l : List Int) (hk : getD' [p.2.1.1, p.2.1.2.1] k [] = l) (s0 : ByteArray) (hl : l.length = r.pieces.length) (hr : ∀ c ∈ l, 0 ≤ c ∧ c ≤ 1000) :
    iterW (ref1PlaceText_L4 p ((s0, (k : Int), ()), ()) r) (((ByteArray.mk #[]), (0 : Int), ()), ()) = some ((handF r l, ()), ()) := by
  have t6 := h.r0.t6
  have hL := iter_fold l.length (ref1PlaceText_L4 p ((s0, (k : Int), ()), ()) r) (handS r l) (fun s => ((s, ()), ())) (fun i s => s.size ≤ 5 * i) e0T (Nat.le_refl _) (fun i hi s hs => by
      refine ⟨?_, handS_size hr hi hs⟩
      unfold ref1PlaceText_L4 handS
      simp only [Int.toNat_natCast, hk, agree_self]
      simp only [show decide ((i : Int) < ((l.length : Nat) : Int)) = true by simp; omega, cond_true]
      rw [at?_eq _ _ (by omega) (by omega), Option.bind_some]
      simp only [Int.toNat_natCast]
      have hx : l.getD i 0 = l[i] := by simp [List.getD_eq_getElem?_getD, hi]
      have hd := hr _ (List.getElem_mem hi)
      rw [hx, w64_id (n := (i : Int) + 1) (by omega) (by omega)]
      cases decide (l[i] > 0)
      · rfl
      · simp only [cond_true]
        obtain ⟨q, e2, e3⟩ := at_pieceL (r := r) (k := (i : Int)) (by omega) (by omega)
        have hcap := capsL hC i
        have hds := dec_le hd.1 hd.2
        simp only [e2, Option.bind_some, e3, rdec hd.1 hd.2, str_one, Int.toNat_natCast]
        rw [sroomT (a := one (pieceL r i).toNat) (by rw [one_size]; omega) (by omega), req_true, sroomT (by omega) (by rw [size_app, one_size]; omega), req_true]
        simp only [agree_self, Option.bind_some]) (fun s hs => by
      unfold ref1PlaceText_L4
      simp only [Int.toNat_natCast, hk]
      simp only [show decide (((l.length : Nat) : Int) < ((l.length : Nat) : Int)) = false by simp, cond_false])
  exact hL
theorem refText_spec {r : Rules} {p : Place} (hC : Caps r) (h : Valid r p) : ref1PlaceText r p = some (textT r p) := by
  have h8 := h.r0.h8
  have h1 := h.r0.h1
  have w1 := h.r0.w1
  have w8 := h.r0.w8
  have t6 := h.r0.t6
  unfold ref1PlaceText
  have hL := iterW_states (f := ref1PlaceText_L1 r p) r.height.toNat (fun j => ((joined (rowsT r p j), r.height - 1 - (j : Int), ()), ())) ((boardT r p, ()), ()) (fun j hj => by
      have hb := joined_bnd h j (by omega)
      unfold ref1PlaceText_L1
      simp only [show decide (r.height - 1 - (j : Int) ≥ (0 : Int)) = true by simp; omega, cond_true, empty_iff]
      rw [rowsT_succ]
      by_cases hj0 : j = 0
      · subst hj0
        rw [show rowsT r p 0 = [] from rfl, List.nil_append, joined_one, joined_nil]
        simp only [show decide (e0T.size = 0) = true from rfl, Bool.not_true, cond_false, Option.bind_some]
        rw [rrow_spec hC h (by omega) (by omega) _ _ (by show 0 ≤ _; omega), Option.bind_some, e0_app, Option.bind_some, w64_id (by omega) (by omega)]
        congr 5
        omega
      · have hne : rowsT r p j ≠ [] := fun e => hj0 (by rw [← rowsT_len r p j, e]; rfl)
        have hp := hb.2 (by omega)
        rw [joined_snoc _ _ hne]
        rw [show decide ((joined (rowsT r p j)).size = 0) = false from decide_eq_false (by omega)]
        simp only [Bool.not_false, cond_true]
        rw [sroomT (by omega) (by show 1 ≤ _; omega), req_true, Option.bind_some]
        simp only []
        rw [rrow_spec hC h (by omega) (by omega) _ _ (by rw [size_app]; show _ + 1 ≤ _; omega), Option.bind_some, Option.bind_some, w64_id (by omega) (by omega)]
        congr 5
        omega) (by
    unfold ref1PlaceText_L1
    simp only [show decide (r.height - 1 - ((r.height.toNat : Nat) : Int) ≥ (0 : Int)) = false by simp; omega, cond_false]
    rfl)
  have hh : w64 (r.2.2.1 - 1) = r.height - 1 - ((0 : Nat) : Int) := by
    show w64 (r.height - 1) = _
    rw [w64_id (by omega) (by omega)]; omega
  rw [hh]
  have hL' : iterW (ref1PlaceText_L1 r p) (((ByteArray.mk #[]), r.height - 1 - ((0 : Nat) : Int), ()), ()) = _ := hL
  rw [hL', Option.bind_some]
  have hbs := board_size h
  have s1 := handT_size (r := r) (l := p.2.1.1) h.hand0
  have s2 := handT_size (r := r) (l := p.2.1.2.1) h.hand1
  have l0 : p.2.1.1.length = r.pieces.length := h.l0
  have l1 : p.2.1.2.1.length = r.pieces.length := h.l1
  have ht : p.2.2.1 = 0 ∨ p.2.2.1 = 1 := h.turn
  have hq : 0 ≤ p.2.2.2.1 ∧ p.2.2.2.1 ≤ 200 := h.quiet
  have d1 := dec_le (n := p.2.2.1 + 1) (by omega) (by omega)
  have d2 := dec_le (n := p.2.2.2.1) (by omega) (by omega)
  have ek : (ByteArray.mk #[32]).size = 1 := rfl
  have es : spT.size = 1 := rfl
  have step : ∀ (k : Nat) (l : List Int) (s : ByteArray), k < 2 → getD' [p.2.1.1, p.2.1.2.1] k [] = l → l.length = r.pieces.length → (∀ c ∈ l, 0 ≤ c ∧ c ≤ 1000) → s.size ≤ 1000 →
      ref1PlaceText_L3 p r ((s, (k : Int), ()), ()) = some (.inl ((s ++ (spT ++ handT r l), (k : Int) + 1, ()), ())) := fun k l s hk2 hk hl hr hs => by
    unfold ref1PlaceText_L3
    simp only [show decide ((k : Int) < 2) = true by simp; omega, cond_true]
    rw [show inb (k : Int) 2 = true by rw [inb_iff]; omega, req_true, rhand_spec hC h k l hk s hl hr, Option.bind_some, w64_id (n := (k : Int) + 1) (by omega) (by omega)]
    simp only [empty_iff]
    have e : (bif decide ((handF r l).size = 0) then some (((ByteArray.mk #[45]), ()), ()) else some ((handF r l, ()), ())) = some ((handT r l, ()), ()) := by
      unfold handT
      cases decide ((handF r l).size = 0) <;> rfl
    rw [e, Option.bind_some]
    have := handT_size (r := r) hr
    simp only []
    rw [sroomT (by omega) (by omega), req_true, sroomT (by omega) (by rw [size_app]; omega), req_true]
    rfl
  have i0 : ref1PlaceText_L3 p r ((boardT r p, (0 : Int), ()), ()) = some (.inl ((boardT r p ++ (spT ++ handT r p.2.1.1), (1 : Int), ()), ())) := step 0 p.2.1.1 (boardT r p) (by omega) rfl l0 h.hand0 (by omega)
  have i1 : ref1PlaceText_L3 p r ((boardT r p ++ (spT ++ handT r p.2.1.1), (1 : Int), ()), ()) = some (.inl (((boardT r p ++ (spT ++ handT r p.2.1.1)) ++ (spT ++ handT r p.2.1.2.1), (2 : Int), ()), ())) := step 1 p.2.1.2.1 (boardT r p ++ (spT ++ handT r p.2.1.1)) (by omega) rfl l1 h.hand1 (by simp only [size_app]; omega)
  have i2 : ref1PlaceText_L3 p r (((boardT r p ++ (spT ++ handT r p.2.1.1)) ++ (spT ++ handT r p.2.1.2.1), (2 : Int), ()), ()) = some (.inr (((boardT r p ++ (spT ++ handT r p.2.1.1)) ++ (spT ++ handT r p.2.1.2.1), ()), ())) := rfl
  have hI : iterW (ref1PlaceText_L3 p r) ((boardT r p, (0 : Int), ()), ()) = some (((boardT r p ++ (spT ++ handT r p.2.1.1)) ++ (spT ++ handT r p.2.1.2.1), ()), ()) := by
    rw [iterW_inl i0]
    exact (iterW_inl i1).trans (iterW_inr i2)
  simp only [hI, Option.bind_some]
  rw [w64_id (n := p.2.2.1 + 1) (by omega) (by omega), rdec (n := p.2.2.1 + 1) (by omega) (by omega), rdec (n := p.2.2.2.1) (by omega) (by omega)]
  simp only [Option.bind_some]
  rw [sroomT (by simp only [size_app]; omega) (by omega), req_true, sroomT (by simp only [size_app]; omega) (by omega), req_true, sroomT (by simp only [size_app]; omega) (by omega), req_true, sroomT (by simp only [size_app]; omega) (by omega), req_true]
  unfold textT
  simp only [ba_asc]
end Go.Proofs.YtjikbbjjnndcbaaDoor
