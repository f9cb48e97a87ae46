/- Texts of moves: the reference writes the same. No condition of its own. -/
import Derived.Test.YtaaigenpmaiodaaTextQ
namespace Go.Proofs.Ytaaigenpmaiodaa
open Go.Den
set_option linter.unusedVariables false
set_option linter.unusedSimpArgs false
set_option maxRecDepth 100000

def marks (own : ByteArray) : List ByteArray := [e0, own.extract 0 1, own.extract 1 ((own.size : Nat) : Int).toNat, own]
def markAt (own : ByteArray) (k : Int) : ByteArray := getD' (marks own) k.toNat ByteArray.empty
/-- is it not a rival at all? -/
def notR (m x : Mv) : Bool := ((decide (x.1 < 0)) || (x.2.1 != m.2.1)) || (x.1 == m.1)
theorem mt_L2 (l : List Mv) (e : Int) (m : Mv) (p : Place) (c : Int) (r : Rules) (own : ByteArray) (k : Int) (b : Bool) (i : Int) : ref3MoveText_L2 (l, (e, ())) m p c r own ((k, ()), ()) ((b, i, ()), ()) =
    bif (decide (i < ((l.length : Nat) : Int))) then (Option.bind (req (inb i l.length) (Option.bind (gat (!notR m (getD' l i.toNat d0)) 0 p.1 (getD' l i.toNat d0).1) fun d => bif notR m (getD' l i.toNat d0) || (d != c) then some ((b, ()), ()) else
      Option.bind (ref3Square r.width (getD' l i.toNat d0).1) fun s => req (imp (!((markAt own k).toList == e0.toList)) (boundsI 0 1 s.size)) (req (imp (!(((markAt own k).toList == e0.toList) || ((markAt own k).toList == (s.extract 0 1).toList))) (boundsI 1 ((s.size : Nat) : Int) s.size)) (Option.bind (bif hitT (markAt own k) s then some ((false, ()), ()) else some ((b, ()), ())) fun x : (Bool × Unit) × Unit => some ((x.1.1, ()), ()))))) fun x : (Bool × Unit) × Unit => some (Sum.inl ((x.1.1, w64 (i + 1), ()), ())))
    else some (Sum.inr ((b, ()), ())) := by
  unfold ref3MoveText_L2
  simp only [agree_self]
  rfl
noncomputable def finF (r : Rules) (p : Place) (m : Mv) (c : Int) (mark to : ByteArray) : Option (((Unit) × (Unit)) ⊕ (((Int × Unit) × (Unit)) ⊕ (((Unit) × (Unit)) ⊕ ByteArray))) :=
  Option.bind (at? r.2.2.2.1 (w64 ((w64 (c - 1)).tdiv 2))) fun d18 => req (strRoom (Go.Utf8.encode d18.1) mark) (Option.bind (at? p.1 m.2.1) fun d19 =>
    Option.bind (bif decide (d19 > 0) then req (strRoom (Go.Utf8.encode d18.1 ++ mark) xT) (some ((((Go.Utf8.encode d18.1 ++ mark) ++ xT), ()), ())) else some (((Go.Utf8.encode d18.1 ++ mark), ()), ())) fun x20 : (ByteArray × Unit) × Unit =>
    req (strRoom x20.1.1 to) (Option.bind (bif (w64 ((w64 ((w64 (2 * m.2.2.1)) + p.2.2.1)) + 1)) != c then (Option.bind (at? r.2.2.2.1 m.2.2.1) fun d21 => req (strRoom eqT (Go.Utf8.encode d21.1)) (req (strRoom (x20.1.1 ++ to) (eqT ++ Go.Utf8.encode d21.1)) (some ((((x20.1.1 ++ to) ++ (eqT ++ Go.Utf8.encode d21.1)), ()), ()))))
      else some (((x20.1.1 ++ to), ()), ())) fun x22 : (ByteArray × Unit) × Unit => some (Sum.inr (Sum.inr (Sum.inr x22.1.1)))))
theorem mt_L1 (own : ByteArray) (l : List Mv) (e : Int) (m : Mv) (p : Place) (c : Int) (r : Rules) (to : ByteArray) (k : Int) : ref3MoveText_L1 own (l, (e, ())) m p c r to ((k, ()), ()) =
    bif (decide (k < (((marks own).length : Nat) : Int))) then (Option.bind (req (inb k (marks own).length) (Option.bind (iterW (ref3MoveText_L2 (l, (e, ())) m p c r own ((k, ()), ())) ((true, (0 : Int), ()), ())) fun x => bif ((!x.1.1) && (!((markAt own k).toList == own.toList))) then some (Sum.inl ((), ())) else finF r p m c (markAt own k) to)) (Sum.elim (fun _ => some (Sum.inl ((w64 (k + 1), ()), ()))) some))
    else some (Sum.inr (Sum.inl ((), ()))) := by
  unfold ref3MoveText_L1
  simp only [agree_self]
  rfl
theorem fin_spec {r : Rules} {p : Place} {m : Mv} (hL : Letters r) (h : Valid r p) (ha : allowedB r p m = true) (hm : ¬ m.1 < 0) (mark : ByteArray) (hs : mark.size ≤ 2) : finF r p m (cellI p m.1) mark (sqT r m.2.1) = some (.inr (.inr (.inr (goT r p m mark)))) := by
  have hrg := allowed_rng ha
  obtain ⟨hc, hc2⟩ := allowed_mine ha hm
  obtain ⟨k1, k2, k3⟩ := kind_rng h hc
  have hcr := cell_rng h m.2.1
  have hcr1 := cell_rng h m.1
  have ht := h.turn
  have t6 := h.r0.t6
  have s1 := letter_size r (kindOf (cellI p m.1))
  have s3 := letter_size r m.2.2.1
  have sx : xT.size = 1 := rfl
  have se : eqT.size = 1 := rfl
  have ss := sq_size r m.2.1
  unfold finF goT
  rw [k1, (at_piece k2 k3).1, Option.bind_some, (at_piece hrg.2.2.1 hrg.2.2.2).1, at_cell hrg.2.1.1 hrg.2.1.2]
  have hl1 : Go.Utf8.encode (pieceI r (kindOf (cellI p m.1))).1 = letterT r (kindOf (cellI p m.1)) := rfl
  have hl2 : Go.Utf8.encode (pieceI r m.2.2.1).1 = letterT r m.2.2.1 := rfl
  simp only [Option.bind_some, hl1, hl2]
  rw [sroom (by omega) (by omega), req_true]
  have q1 : decide (cellI p m.2.1 > 0) = (cellI p m.2.1 != 0) := by rw [Bool.eq_iff_iff]; simp; omega
  have hkind : kindOf (cellI p m.1) = (cellI p m.1 - 1).tdiv 2 := rfl
  have hdm := Int.mul_tdiv_add_tmod (cellI p m.1 - 1) 2
  have hpt : p.2.2.1 = p.turn := rfl
  have q2 : ((w64 ((w64 ((w64 (2 * m.2.2.1)) + p.2.2.1)) + 1)) != cellI p m.1) = (m.2.2.1 != kindOf (cellI p m.1)) := by
    rw [w64_id (n := 2 * m.2.2.1) (by omega) (by omega), hpt, w64_id (n := 2 * m.2.2.1 + p.turn) (by omega) (by omega), w64_id (by omega) (by omega)]
    rw [Bool.eq_iff_iff]
    simp only [bne_iff_ne]
    omega
  rw [q1, q2]
  have r2 : ∀ a : ByteArray, a.size ≤ 20 → strRoom a (sqT r m.2.1) = true := fun a ha => sroom (by omega) (by omega)
  have r3 : strRoom eqT (letterT r m.2.2.1) = true := sroom (by omega) (by omega)
  have r4 : ∀ a : ByteArray, a.size ≤ 20 → strRoom (a ++ sqT r m.2.1) (eqT ++ letterT r m.2.2.1) = true := fun a ha => sroom (by rw [ByteArray.size_append]; omega) (by rw [ByteArray.size_append]; omega)
  have z1 : (letterT r (kindOf (cellI p m.1)) ++ mark).size ≤ 20 := by rw [ByteArray.size_append]; omega
  have z2 : ((letterT r (kindOf (cellI p m.1)) ++ mark) ++ xT).size ≤ 20 := by rw [ByteArray.size_append, ByteArray.size_append]; omega
  have r1 : strRoom (letterT r (kindOf (cellI p m.1)) ++ mark) xT = true := sroom (by omega) (by omega)
  rw [r1, req_true]
  cases cellI p m.2.1 != 0 with
  | true =>
    simp only [cond_true, Option.bind_some]
    rw [r2 _ z2, req_true]
    cases m.2.2.1 != kindOf (cellI p m.1) with
    | true =>
      simp only [cond_true]
      rw [r3, req_true, r4 _ z2, req_true]
      rfl
    | false => rfl
  | false =>
    simp only [cond_false, Option.bind_some]
    rw [r2 _ z1, req_true]
    cases m.2.2.1 != kindOf (cellI p m.1) with
    | true =>
      simp only [cond_true]
      rw [r3, req_true, r4 _ z1, req_true]
      rfl
    | false => rfl
/-- no rival is met by a mark -/
def alone (r : Rules) (p : Place) (m : Mv) (mark : ByteArray) : Bool := (movesOf r p).all fun x => !(riv p m x && hitT mark (sqT r x.1))
theorem alone_loop {r : Rules} {p : Place} {m : Mv} (h : Valid r p) (ha : allowedB r p m = true) (hm : ¬ m.1 < 0) (own : ByteArray) (k e : Int) : iterW (ref3MoveText_L2 (movesOf r p, (e, ())) m p (cellI p m.1) r own ((k, ()), ())) ((true, (0 : Int), ()), ()) = some ((alone r p m (markAt own k), ()), ()) := by
  have hlen := movesOf_len h
  unfold alone
  generalize hl : movesOf r p = l at hlen
  have := iter_all l (fun x => !(riv p m x && hitT (markAt own k) (sqT r x.1))) (ref3MoveText_L2 (l, (e, ())) m p (cellI p m.1) r own ((k, ()), ())) (fun b => ((b, ()), ())) true (fun i hi b => by
    have hal : allowedB r p l[i] = true := (movesOf_mem _).1 (hl ▸ List.getElem_mem hi)
    have hx := allowed_rng hal
    rw [mt_L2, ltd l i hi, cond_true, inbN l i hi, req_true]
    simp only [Int.toNat_natCast]
    rw [gd_eq l i hi, w64_id (n := (i : Int) + 1) (by omega) (by omega)]
    have hn : (!notR m l[i]) = ((decide (l[i].1 ≥ 0) && (l[i].1 != m.1)) && (l[i].2.1 == m.2.1)) := by
      unfold notR
      rw [Bool.eq_iff_iff]
      simp only [Bool.not_eq_true', Bool.or_eq_false_iff, decide_eq_false_iff_not, bne_eq_false_iff_eq, beq_eq_false_iff_ne, Bool.and_eq_true, decide_eq_true_eq, bne_iff_ne, beq_iff_eq]
      constructor
      · rintro ⟨⟨a, b⟩, c⟩; exact ⟨⟨by omega, c⟩, b⟩
      · rintro ⟨⟨a, b⟩, c⟩; exact ⟨⟨by omega, c⟩, b⟩
    have hn' : notR m l[i] = !((decide (l[i].1 ≥ 0) && (l[i].1 != m.1)) && (l[i].2.1 == m.2.1)) := by rw [← hn, Bool.not_not]
    unfold riv
    rw [hn', Bool.not_not]
    cases hc : ((decide (l[i].1 ≥ 0) && (l[i].1 != m.1)) && (l[i].2.1 == m.2.1)) with
    | false => simp [gat]
    | true =>
      have h0 : l[i].1 ≥ 0 := by
        simp only [Bool.and_eq_true, decide_eq_true_eq] at hc
        exact hc.1.1
      simp only [gat, cond_true, Bool.not_true, Bool.false_or, Bool.true_and]
      rw [at_cell h0 hx.1.2, Option.bind_some]
      by_cases hcc : cellI p l[i].1 = cellI p m.1
      · rw [bne_f hcc, cond_false, beq_t hcc, Bool.true_and, rsquare_spec (onB_cell h h0 hx.1.2), Option.bind_some]
        have b1 : boundsI 0 1 (sqT r l[i].1).size = true := rfl
        have b2 : boundsI 1 (((sqT r l[i].1).size : Nat) : Int) (sqT r l[i].1).size = true := rfl
        have himp : ∀ b, imp b true = true := fun b => by cases b <;> rfl
        rw [b1, b2, himp, himp, req_true, req_true]
        cases hitT (markAt own k) (sqT r l[i].1) <;> simp
      · rw [bne_t hcc, cond_true, beq_f hcc]
        simp) (fun b => by rw [mt_L2, nltd, cond_false])
  rw [this, Bool.true_and]
theorem all_riv {r : Rules} {p : Place} {m : Mv} (q : Int → Bool) : ((movesOf r p).all fun x => !(riv p m x && q x.1)) = !(rivals r p m).any q := by
  unfold rivals
  rw [List.any_map, List.any_filter]
  induction movesOf r p with
  | nil => rfl
  | cons x l ih =>
    rw [List.all_cons, List.any_cons, ih]
    simp only [Function.comp, Bool.not_or]
theorem rtext_spec {r : Rules} {p : Place} {m : Mv} (hL : Letters r) (hr : Rng tyRules r) (h : Valid r p) (hp0 : placeErr r p = 0) (ha : allowedB r p m = true) : ref3MoveText r p m = some (moveT r p m) := by
  have hrg := allowed_rng ha
  have h64 := area_len h
  have hbt := onB_cell h (n := m.2.1) hrg.2.1.1 hrg.2.1.2
  unfold ref3MoveText moveT
  rw [show ref3Square r.2.1 m.2.1 = some (sqT r m.2.1) from rsquare_spec hbt, Option.bind_some]
  by_cases hm : m.1 < 0
  · rw [decide_eq_true hm, cond_true, if_pos hm, (at_piece hrg.2.2.1 hrg.2.2.2).1, Option.bind_some]
    have s1 := letter_size r m.2.2.1
    have hl2 : Go.Utf8.encode (pieceI r m.2.2.1).1 = letterT r m.2.2.1 := rfl
    rw [hl2, sroom (by omega) (by show 1 ≤ _; omega), req_true, sroom (by rw [ByteArray.size_append]; show _ + 1 ≤ _; omega) (by show 2 ≤ _; omega), req_true]
    rfl
  · have hbm := onB_cell h (n := m.1) (by omega) hrg.1.2
    rw [decide_eq_false hm, cond_false, if_neg hm, at_cell (by omega) hrg.1.2, Option.bind_some, all_spec r p hr (by omega), if_pos hp0, Option.bind_some, show ref3Square r.2.1 m.1 = some (sqT r m.1) from rsquare_spec hbm, Option.bind_some]
    have b1 : boundsI 0 1 (sqT r m.1).size = true := rfl
    have b2 : boundsI 1 (((sqT r m.1).size : Nat) : Int) (sqT r m.1).size = true := rfl
    rw [b1, b2, req_true, req_true]
    have hlm : (marks (sqT r m.1)).length = 4 := rfl
    have m0 : markAt (sqT r m.1) 0 = e0 := rfl
    have m1 : markAt (sqT r m.1) 1 = colT (m.1.tmod r.width) := rfl
    have m2 : markAt (sqT r m.1) 2 = rowT (m.1.tdiv r.width) := rfl
    have m3 : markAt (sqT r m.1) 3 = sqT r m.1 := rfl
    have n0 : (e0.toList == (sqT r m.1).toList) = false := by rw [bytes_beq, decide_eq_false (one_two (by show 0 ≤ 1; omega) r m.1)]
    have n1 : ((colT (m.1.tmod r.width)).toList == (sqT r m.1).toList) = false := by rw [bytes_beq, decide_eq_false (one_two (by show 1 ≤ 1; omega) r m.1)]
    have n2 : ((rowT (m.1.tdiv r.width)).toList == (sqT r m.1).toList) = false := by rw [bytes_beq, decide_eq_false (one_two (by show 1 ≤ 1; omega) r m.1)]
    have a0 : alone r p m e0 = decide ((rivals r p m).length = 0) := by
      unfold alone
      rw [all_riv (fun n => hitT e0 (sqT r n))]
      simp only [hit_0]
      cases rivals r p m <;> simp
    have hany : ∀ q q' : Int → Bool, (∀ n ∈ rivals r p m, q n = q' n) → (rivals r p m).any q = (rivals r p m).any q' := fun q q' hq => by
      rw [Bool.eq_iff_iff, List.any_eq_true, List.any_eq_true]
      exact ⟨fun ⟨x, hx, e⟩ => ⟨x, hx, by rw [← hq x hx]; exact e⟩, fun ⟨x, hx, e⟩ => ⟨x, hx, by rw [hq x hx]; exact e⟩⟩
    have a1 : alone r p m (colT (m.1.tmod r.width)) = !(rivals r p m).any (sameC r m) := by
      unfold alone
      rw [all_riv (fun n => hitT (colT (m.1.tmod r.width)) (sqT r n)), hany _ (sameC r m) (fun n hn => by
        have := riv_mem hn
        rw [hit_c (onB_cell h this.1 this.2) hbm.c]
        unfold sameC
        rw [Bool.eq_iff_iff]; simp)]
    have a2 : alone r p m (rowT (m.1.tdiv r.width)) = !(rivals r p m).any (sameR r m) := by
      unfold alone
      rw [all_riv (fun n => hitT (rowT (m.1.tdiv r.width)) (sqT r n)), hany _ (sameR r m) (fun n hn => by
        have := riv_mem hn
        rw [hit_r (onB_cell h this.1 this.2) hbm.d]
        unfold sameR
        rw [Bool.eq_iff_iff]; simp)]
    have step : ∀ k : Nat, k < 4 → ref3MoveText_L1 (sqT r m.1) (movesOf r p, (placeErr r p, ())) m p (cellI p m.1) r (sqT r m.2.1) (((k : Int), ()), ()) = bif ((!alone r p m (markAt (sqT r m.1) (k : Int))) && (!((markAt (sqT r m.1) (k : Int)).toList == (sqT r m.1).toList))) then some (.inl ((((k + 1 : Nat) : Int), ()), ())) else some (.inr (.inr (goT r p m (markAt (sqT r m.1) (k : Int))))) := fun k hk => by
      have hsz : (markAt (sqT r m.1) (k : Int)).size ≤ 2 := by
        have : k = 0 ∨ k = 1 ∨ k = 2 ∨ k = 3 := by omega
        rcases this with rfl | rfl | rfl | rfl
        · show 0 ≤ 2; omega
        · show 1 ≤ 2; omega
        · show 1 ≤ 2; omega
        · show 2 ≤ 2; omega
      rw [mt_L1, hlm, decide_eq_true (by omega), cond_true, show inb (k : Int) 4 = true from inb_iff.2 ⟨by omega, by omega⟩, req_true, alone_loop h ha hm, Option.bind_some, fin_spec hL h ha hm _ hsz, w64_id (n := (k : Int) + 1) (by omega) (by omega)]
      simp only
      cases (!alone r p m (markAt (sqT r m.1) (k : Int))) && (!((markAt (sqT r m.1) (k : Int)).toList == (sqT r m.1).toList)) <;> rfl
    have f0 := step 0 (by omega)
    have f1 := step 1 (by omega)
    have f2 := step 2 (by omega)
    have f3 := step 3 (by omega)
    simp only [Int.natCast_zero, show ((1 : Nat) : Int) = 1 from rfl, show ((2 : Nat) : Int) = 2 from rfl, show ((3 : Nat) : Int) = 3 from rfl, m0, m1, m2, m3, n0, n1, n2, a0, a1, a2, Bool.not_false, Bool.and_true, Bool.not_not] at f0 f1 f2 f3
    have n3 : ((sqT r m.1).toList == (sqT r m.1).toList) = true := beq_self_eq_true _
    rw [n3, Bool.not_true, Bool.and_false, cond_false] at f3
    unfold markT
    have main : ∀ v, iterW (ref3MoveText_L1 (sqT r m.1) (movesOf r p, (placeErr r p, ())) m p (cellI p m.1) r (sqT r m.2.1)) (((0 : Int), ()), ()) = some (.inr v) → Option.bind (iterW (ref3MoveText_L1 (sqT r m.1) (movesOf r p, (placeErr r p, ())) m p (cellI p m.1) r (sqT r m.2.1)) (((0 : Int), ()), ())) (Sum.elim (fun _ => some e0) some) = some v := fun v hv => by rw [hv]; rfl
    by_cases c0 : (rivals r p m).length = 0
    · rw [if_pos c0]
      rw [decide_eq_true c0, Bool.not_true, cond_false] at f0
      exact main _ (iterW_inr f0)
    · rw [if_neg c0]
      rw [decide_eq_false c0, Bool.not_false, cond_true] at f0
      by_cases c1 : (rivals r p m).any (sameC r m) = false
      · rw [if_pos c1]
        rw [c1, cond_false] at f1
        exact main _ ((iterW_inl f0).trans (iterW_inr f1))
      · rw [if_neg c1]
        rw [show (rivals r p m).any (sameC r m) = true by simpa using c1, cond_true] at f1
        by_cases c2 : (rivals r p m).any (sameR r m) = false
        · rw [if_pos c2]
          rw [c2, cond_false] at f2
          exact main _ ((iterW_inl f0).trans ((iterW_inl f1).trans (iterW_inr f2)))
        · rw [if_neg c2]
          rw [show (rivals r p m).any (sameR r m) = true by simpa using c2, cond_true] at f2
          exact main _ ((iterW_inl f0).trans ((iterW_inl f1).trans ((iterW_inl f2).trans (iterW_inr f3))))
end Go.Proofs.Ytaaigenpmaiodaa
