/- Texts of moves: the text of a legal move, by the program and by the reference. No condition of its own. -/
import Derived.Test.YtaaigenpmaiodaaTextP
namespace Go.Proofs.Ytaaigenpmaiodaa
open Go.Den
set_option linter.unusedVariables false
set_option linter.unusedSimpArgs false
set_option maxRecDepth 100000

def letterT (r : Rules) (k : Int) : ByteArray := Go.Utf8.encode (pieceI r k).1
def Letters (r : Rules) : Prop := ∀ q ∈ r.pieces, 0 ≤ q.1 ∧ q.1 ≤ 255
theorem letters_of {r : Rules} (hr : Rng tyRules r) : Letters r := fun q hq => by
  have := (hr.2.2.2.1.2 q hq).1
  have h1 : IntKind.u8.min = 0 := by decide
  have h2 : IntKind.u8.max = 255 := by decide
  rw [← h1, ← h2]
  exact this
theorem letter_spec {r : Rules} (hL : Letters r) {k : Int} (h0 : 0 ≤ k) (h1 : k < ((r.pieces.length : Nat) : Int)) : movetextLetter r k = some (letterT r k) := by
  obtain ⟨a, b⟩ := at_piece h0 h1
  have := hL _ b
  unfold movetextLetter letterT
  rw [a, Option.bind_some, i32_id this.1 (by omega)]
theorem letter_size (r : Rules) (k : Int) : (letterT r k).size ≤ 4 := enc_size _
/-- another piece of the same kind that can go there, too -/
def riv (p : Place) (m x : Mv) : Bool := (((decide (x.1 ≥ 0)) && (x.1 != m.1)) && (x.2.1 == m.2.1)) && (cellI p x.1 == cellI p m.1)
def rivals (r : Rules) (p : Place) (m : Mv) : List Int := ((movesOf r p).filter (riv p m)).map fun x => x.1
def sameC (r : Rules) (m : Mv) (n : Int) : Bool := n.tmod r.width == m.1.tmod r.width
def sameR (r : Rules) (m : Mv) (n : Int) : Bool := n.tdiv r.width == m.1.tdiv r.width
def e0 : ByteArray := ByteArray.mk #[]
def markT (r : Rules) (p : Place) (m : Mv) : ByteArray := if (rivals r p m).length = 0 then e0 else if (rivals r p m).any (sameC r m) = false then colT (m.1.tmod r.width) else if (rivals r p m).any (sameR r m) = false then rowT (m.1.tdiv r.width) else sqT r m.1
theorem mark_size (r : Rules) (p : Place) (m : Mv) : (markT r p m).size ≤ 2 := by
  unfold markT
  split
  · show 0 ≤ 2; omega
  · split
    · show 1 ≤ 2; omega
    · split
      · show 1 ≤ 2; omega
      · show 2 ≤ 2; omega
theorem mark_L1 (l : List Mv) (m : Mv) (p : Place) (i : Int) (acc : List Int) : movetextMark_L1 l m p ((i, ()), ((acc, ()), ())) = bif (decide (i < ((l.length : Nat) : Int))) then (Option.bind (at? l i) fun d => Option.bind (gat (((decide (d.1 ≥ 0)) && (d.1 != m.1)) && (d.2.1 == m.2.1)) 0 p.1 d.1) fun a => Option.bind (gat (((decide (d.1 ≥ 0)) && (d.1 != m.1)) && (d.2.1 == m.2.1)) 0 p.1 m.1) fun b =>
    Option.bind (bif ((((decide (d.1 ≥ 0)) && (d.1 != m.1)) && (d.2.1 == m.2.1)) && (a == b)) then req (room (acc.length + 1) 8) (some ((), ((acc ++ [d.1], ()), ()))) else some ((), ((acc, ()), ()))) fun x : Unit × ((List Int × Unit) × Unit) => some (Sum.inl ((w64 (i + 1), ()), ((x.2.1.1, ()), ()))))
  else some (Sum.inr ((), ((acc, ()), ()))) := rfl
theorem mark_L2 (l : List Int) (r : Rules) (m : Mv) (i : Int) : movetextMark_L2 ((), ((l, ()), ())) r m ((i, ()), ()) = bif (decide (i < ((l.length : Nat) : Int))) then (req (inb i l.length) (req (r.width != 0) (req (r.width != 0) (bif ((getD' l i.toNat 0).tmod r.width == m.1.tmod r.width) then (Option.map Sum.inr (Option.map Sum.inr (bif (!(decide (i ≥ 0))) then (Option.bind (movetextColumn r m.1) fun a => some a)
    else Option.bind (iterW (movetextMark_L3 ((), ((l, ()), ())) r m) (((0 : Int), ()), ())) (Sum.elim (fun _ => Option.bind (movetextRow r m.1) fun a => some a) some)))) else some (Sum.inl ((w64 (i + 1), ()), ()))))))
  else some (Sum.inr (Sum.inl ((), ()))) := rfl
theorem mark_L3 (l : List Int) (r : Rules) (m : Mv) (i : Int) : movetextMark_L3 ((), ((l, ()), ())) r m ((i, ()), ()) = bif (decide (i < ((l.length : Nat) : Int))) then (req (inb i l.length) (req (r.width != 0) (req (r.width != 0) (bif (w64 ((getD' l i.toNat 0).tdiv r.width) == w64 (m.1.tdiv r.width)) then (Option.map Sum.inr (Option.map Sum.inr (bif (!(decide (i ≥ 0))) then (Option.bind (movetextRow r m.1) fun a => some a)
    else Option.bind (movetextSquare r m.1) fun a => some a))) else some (Sum.inl ((w64 (i + 1), ()), ()))))))
  else some (Sum.inr (Sum.inl ((), ()))) := rfl
theorem riv_mem {r : Rules} {p : Place} {m : Mv} {n : Int} (hn : n ∈ rivals r p m) : 0 ≤ n ∧ n < ((p.1.length : Nat) : Int) := by
  unfold rivals at hn
  obtain ⟨x, hx, rfl⟩ := List.mem_map.1 hn
  obtain ⟨hx1, hx2⟩ := List.mem_filter.1 hx
  have := (allowed_rng ((movesOf_mem x).1 hx1)).1
  have : x.1 ≥ 0 := by
    unfold riv at hx2
    simp only [Bool.and_eq_true, decide_eq_true_eq] at hx2
    exact hx2.1.1.1
  omega
theorem mark_spec {r : Rules} {p : Place} {m : Mv} (h : Valid r p) (ha : allowedB r p m = true) (hm : ¬ m.1 < 0) : movetextMark r p (movesOf r p) m = some (markT r p m) := by
  have hrg := allowed_rng ha
  have hb := onB_cell h (n := m.1) (by omega) hrg.1.2
  have hlen := movesOf_len h
  have hw : (r.width != 0) = true := bne_t (by have := hb.w; omega)
  unfold movetextMark
  generalize hl : movesOf r p = l at hlen
  have hI := iterW_states (f := movetextMark_L1 l m p) l.length (fun i => (((i : Int), ()), ((((l.take i).filter (riv p m)).map (fun x => x.1), ()), ()))) ((), (((l.filter (riv p m)).map (fun x => x.1), ()), ())) (fun i hi => by
    have hal : allowedB r p l[i] = true := (movesOf_mem _).1 (hl ▸ List.getElem_mem hi)
    have hx := allowed_rng hal
    have ht : (((l.take (i + 1)).filter (riv p m)).map (fun x => x.1)) = ((l.take i).filter (riv p m)).map (fun x => x.1) ++ (if riv p m l[i] = true then [l[i].1] else []) := by
      rw [List.take_succ_eq_append_getElem hi, List.filter_append, List.map_append]
      by_cases c : riv p m l[i] = true
      · rw [if_pos c, List.filter_cons_of_pos c]; rfl
      · rw [if_neg c, List.filter_cons_of_neg c]; rfl
    rw [mark_L1, ltd l i hi, cond_true, at?_eq l _ (by omega) (by omega), Option.bind_some, ht]
    simp only [Int.toNat_natCast]
    have hroom : room ((((l.take i).filter (riv p m)).map (fun x => x.1)).length + 1) 8 = true := room_ok (by
      have := List.length_filter_le (riv p m) (l.take i)
      simp only [List.length_map, List.length_take] at this ⊢
      omega)
    rw [w64_id (n := (i : Int) + 1) (by omega) (by omega)]
    unfold riv at hroom ⊢
    cases hc : ((decide (l[i].1 ≥ 0) && (l[i].1 != m.1)) && (l[i].2.1 == m.2.1)) with
    | false => simp [gat]
    | true =>
      have h0 : l[i].1 ≥ 0 := by
        simp only [Bool.and_eq_true, decide_eq_true_eq] at hc
        exact hc.1.1
      simp only [gat, cond_true, Bool.true_and]
      rw [at_cell h0 hx.1.2, Option.bind_some, at_cell (by omega) hrg.1.2, Option.bind_some]
      cases hcc : (cellI p l[i].1 == cellI p m.1) with
      | false => simp
      | true =>
        simp only [cond_true]
        rw [hroom, req_true]
        simp) (by rw [mark_L1, nltd, cond_false, List.take_length])
  have hI' : iterW (movetextMark_L1 l m p) (((0 : Int), ()), ((([] : List Int), ()), ())) = _ := hI
  rw [hI', Option.bind_some]
  have hR : (l.filter (riv p m)).map (fun x => x.1) = rivals r p m := by unfold rivals; rw [hl]
  rw [hR]
  have hrl : (rivals r p m).length ≤ 100000 := by
    unfold rivals
    rw [hl, List.length_map]
    exact Nat.le_trans (List.length_filter_le _ _) hlen
  have hmem := fun n (hn : n ∈ rivals r p m) => riv_mem hn
  unfold markT
  generalize rivals r p m = R at hrl hmem ⊢
  simp only
  by_cases c0 : R.length = 0
  · rw [beq_t (by omega), cond_true, if_pos c0]; rfl
  · rw [beq_f (by omega), cond_false, if_neg c0]
    have hL3 := iterW_any R (sameR r m) (movetextMark_L3 ((), ((R, ()), ())) r m) (.inr (sqT r m.1)) (.inl ((), ())) (fun i hi => by
      have hn := hmem _ (List.getElem_mem hi)
      have hbn := onB_cell h hn.1 hn.2
      have := hbn.d
      have := hb.d
      rw [mark_L3, ltd R i hi, cond_true, inbN R i hi, req_true, hw, req_true, req_true, Int.toNat_natCast, gd_eq R i hi, w64_id (n := R[i].tdiv r.width) (by omega) (by omega), w64_id (n := m.1.tdiv r.width) (by omega) (by omega), w64_id (n := (i : Int) + 1) (by omega) (by omega), decide_eq_true (show (i : Int) ≥ 0 by omega), square_spec hb]
      show (bif sameR r m R[i] then _ else _) = _
      cases sameR r m R[i] <;> rfl) (by rw [mark_L3, nltd, cond_false])
    have hL2 := iterW_any R (sameC r m) (movetextMark_L2 ((), ((R, ()), ())) r m) (.inr (if R.any (sameR r m) = false then rowT (m.1.tdiv r.width) else sqT r m.1)) (.inl ((), ())) (fun i hi => by
      rw [mark_L2, ltd R i hi, cond_true, inbN R i hi, req_true, hw, req_true, req_true, Int.toNat_natCast, gd_eq R i hi, w64_id (n := (i : Int) + 1) (by omega) (by omega), decide_eq_true (show (i : Int) ≥ 0 by omega), hL3, Option.bind_some]
      show (bif sameC r m R[i] then _ else _) = _
      rw [row_spec hb]
      cases sameC r m R[i] with
      | false => rfl
      | true => cases R.any (sameR r m) <;> rfl) (by rw [mark_L2, nltd, cond_false])
    rw [hL2, Option.bind_some, column_spec hb]
    cases R.any (sameC r m) <;> rfl
def eqT : ByteArray := ByteArray.mk #[61]
def xT : ByteArray := ByteArray.mk #[120]
def atT : ByteArray := ByteArray.mk #[64]
/-- the text of a move of a piece, with a mark -/
def goT (r : Rules) (p : Place) (m : Mv) (mark : ByteArray) : ByteArray :=
  bif m.2.2.1 != kindOf (cellI p m.1) then ((bif cellI p m.2.1 != 0 then (letterT r (kindOf (cellI p m.1)) ++ mark) ++ xT else letterT r (kindOf (cellI p m.1)) ++ mark) ++ sqT r m.2.1) ++ (eqT ++ letterT r m.2.2.1)
  else (bif cellI p m.2.1 != 0 then (letterT r (kindOf (cellI p m.1)) ++ mark) ++ xT else letterT r (kindOf (cellI p m.1)) ++ mark) ++ sqT r m.2.1
def moveT (r : Rules) (p : Place) (m : Mv) : ByteArray := if m.1 < 0 then (letterT r m.2.2.1 ++ atT) ++ sqT r m.2.1 else goT r p m (markT r p m)
theorem allowed_mine {r : Rules} {p : Place} {m : Mv} (ha : allowedB r p m = true) (hm : ¬ m.1 < 0) : cellI p m.1 > 0 ∧ (cellI p m.1 - 1).tmod 2 = p.turn := by
  unfold allowedB at ha
  rw [Bool.and_eq_true] at ha
  have h2 := ha.2
  rw [beq_f (show ¬ m.1 = -1 by omega), cond_false] at h2
  unfold goOk mineB at h2
  simp only [Bool.and_eq_true, decide_eq_true_eq, beq_iff_eq] at h2
  exact h2.1
theorem of_spec {r : Rules} {p : Place} {m : Mv} (hL : Letters r) (h : Valid r p) (ha : allowedB r p m = true) : movetextOf r p (movesOf r p) m = some (moveT r p m) := by
  have hrg := allowed_rng ha
  have hbt := onB_cell h (n := m.2.1) hrg.2.1.1 hrg.2.1.2
  unfold movetextOf moveT
  by_cases hm : m.1 < 0
  · rw [decide_eq_true hm, cond_true, if_pos hm, letter_spec hL hrg.2.2.1 hrg.2.2.2, Option.bind_some, square_spec hbt]
    have s1 := letter_size r m.2.2.1
    rw [sroom (by omega) (by show 1 ≤ _; omega), req_true, Option.bind_some, sroom (by rw [ByteArray.size_append]; show _ + 1 ≤ _; omega) (by show 2 ≤ _; omega), req_true]
    rfl
  · obtain ⟨hc, _⟩ := allowed_mine ha hm
    obtain ⟨k1, k2, k3⟩ := kind_rng h hc
    have s1 := letter_size r (kindOf (cellI p m.1))
    have s2 := mark_size r p m
    have s3 := letter_size r m.2.2.1
    have sx : xT.size = 1 := rfl
    have se : eqT.size = 1 := rfl
    have ss := sq_size r m.2.1
    rw [decide_eq_false hm, cond_false, if_neg hm, at_cell (by omega) hrg.1.2, Option.bind_some, k1, letter_spec hL k2 k3, Option.bind_some, mark_spec h ha hm, Option.bind_some, sroom (by omega) (by omega), req_true, at_cell hrg.2.1.1 hrg.2.1.2, Option.bind_some, square_spec hbt, letter_spec hL hrg.2.2.1 hrg.2.2.2]
    unfold goT
    have r1 : strRoom (letterT r (kindOf (cellI p m.1)) ++ markT r p m) xT = true := sroom (by rw [ByteArray.size_append]; omega) (by omega)
    have r1' : strRoom (letterT r (kindOf (cellI p m.1)) ++ markT r p m) (ByteArray.mk #[120]) = true := r1
    rw [r1', req_true]
    have r2 : ∀ a : ByteArray, a.size ≤ 20 → strRoom a (sqT r m.2.1) = true := fun a ha => sroom (by omega) (by omega)
    have r3 : strRoom (ByteArray.mk #[61]) (letterT r m.2.2.1) = true := sroom (show eqT.size ≤ _ by omega) (by omega)
    have r4 : ∀ a : ByteArray, a.size ≤ 20 → strRoom (a ++ sqT r m.2.1) ((ByteArray.mk #[61]) ++ letterT r m.2.2.1) = true := fun a ha => sroom (by rw [ByteArray.size_append]; omega) (by rw [ByteArray.size_append]; show eqT.size + _ ≤ _; omega)
    have z1 : (letterT r (kindOf (cellI p m.1)) ++ markT r p m).size ≤ 20 := by rw [ByteArray.size_append]; omega
    have z2 : ((letterT r (kindOf (cellI p m.1)) ++ markT r p m) ++ ByteArray.mk #[120]).size ≤ 20 := by rw [ByteArray.size_append, ByteArray.size_append]; show _ + xT.size ≤ _; omega
    cases cellI p m.2.1 != 0 with
    | true =>
      simp only [cond_true, Option.bind_some]
      rw [r2 _ z2, req_true]
      cases m.2.2.1 != kindOf (cellI p m.1) with
      | true =>
        simp only [cond_true]
        rw [r3, req_true, r4 _ z2, req_true]
        rfl
      | false => rfl
    | false =>
      simp only [cond_false, Option.bind_some]
      rw [r2 _ z1, req_true]
      cases m.2.2.1 != kindOf (cellI p m.1) with
      | true =>
        simp only [cond_true, Option.bind_some]
        rw [r3, req_true, r4 _ z1, req_true]
        rfl
      | false => rfl
/-! ### the reference -/
/-- does a mark tell the square n apart? -/
def hitT (mark s : ByteArray) : Bool := (((mark.toList == e0.toList) || (mark.toList == (s.extract 0 1).toList)) || (mark.toList == (s.extract 1 s.size).toList)) || (mark.toList == s.toList)
theorem hit_0 (r : Rules) (n : Int) : hitT e0 (sqT r n) = true := by unfold hitT; simp
theorem e0_col (i : Int) : ¬ colT i = e0 := fun h => by have := congrArg ByteArray.size h; cases this
theorem e0_row (i : Int) : ¬ rowT i = e0 := fun h => by have := congrArg ByteArray.size h; cases this
theorem hit_c {r : Rules} {n : Int} {a : Int} (hb : OnB r n) (ha : 0 ≤ a ∧ a < 8) : hitT (colT a) (sqT r n) = decide (n.tmod r.width = a) := by
  unfold hitT
  rw [show (sqT r n).size = 2 from rfl, sq_c, sq_r, bytes_beq, bytes_beq, bytes_beq, bytes_beq, decide_eq_false (e0_col a), decide_eq_false (col_row ha hb.d), decide_eq_false (one_two (by show 1 ≤ 1; omega) r n), Bool.false_or, Bool.or_false, Bool.or_false]
  rw [Bool.eq_iff_iff, decide_eq_true_eq, decide_eq_true_eq, col_inj ha hb.c]
  exact eq_comm
theorem hit_r {r : Rules} {n : Int} {a : Int} (hb : OnB r n) (ha : 0 ≤ a ∧ a < 8) : hitT (rowT a) (sqT r n) = decide (n.tdiv r.width = a) := by
  unfold hitT
  have : ¬ rowT a = colT (n.tmod r.width) := fun h => col_row hb.c ha h.symm
  rw [show (sqT r n).size = 2 from rfl, sq_c, sq_r, bytes_beq, bytes_beq, bytes_beq, bytes_beq, decide_eq_false (e0_row a), decide_eq_false this, decide_eq_false (one_two (by show 1 ≤ 1; omega) r n), Bool.false_or, Bool.false_or, Bool.or_false]
  rw [Bool.eq_iff_iff, decide_eq_true_eq, decide_eq_true_eq, row_inj ha hb.d]
  exact eq_comm
end Go.Proofs.Ytaaigenpmaiodaa
