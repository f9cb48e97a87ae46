/- The law StoreKeeps in plain Lean: it is true. Conditions: numbers in range, fewer than 2^61 positions. -/
import Derived.Test.YticeklcmijbjfaaStoreKeepsS
import Derived.Test.YticeklcmijbjfaaGameP
import Derived.Test.YticeklcmijbjfaaCoreK
namespace Go.Proofs.Yticeklcmijbjfaa
open Go.Den
set_option linter.unusedVariables false
set_option linter.unusedSimpArgs false
set_option maxRecDepth 100000

abbrev Slot := Bool × Place × Int × Int × Unit
abbrev Kept := Place × Int × Int × Bool × Unit
abbrev sP0 : Place := ([], (([], ([], ())), ((0 : Int), ((0 : Int), ()))))
abbrev dS : Slot := (false, (sP0, ((0 : Int), ((0 : Int), ()))))
abbrev dK : Kept := (sP0, ((0 : Int), ((0 : Int), (false, ()))))
def slk (k : Kept) : Slot := (k.2.2.2.1, (k.1, (k.2.1, (k.2.2.1, ()))))
theorem slk_set (K : List Kept) (i : Nat) (p : Place) (d sc : Int) : (K.map slk).set i (true, (p, (d, (sc, ())))) = (K.set i (p, (d, (sc, (true, ()))))).map slk := by
  rw [List.map_set]; rfl
theorem gd_slk (K : List Kept) (i : Nat) : getD' (K.map slk) i dS = slk (getD' K i dK) := by
  simp only [getD', List.getD_eq_getElem?_getD, List.getElem?_map]
  cases K[i]? <;> rfl
theorem key_rng (p : Place) : R64 (keyOf p) := by
  have h : R64 (foldN (k2 1 p.2.1.2.1) p.2.1.2.1.length (foldN (k2 0 p.2.1.1) p.2.1.1.length (foldN (k1 p) p.1.length 0))) :=
    fold_rng (fun i a h => k2_rng i a h) _ _ (fold_rng (fun i a h => k2_rng i a h) _ _ (fold_rng (fun i a h => k1_rng h) _ _ ⟨by omega, by omega⟩))
  unfold keyOf
  cases (p.turn == 1) with
  | true => exact wu_rng _
  | false => exact h
def ixN (n : Nat) (p : Place) : Nat := ((keyOf p).tmod (n : Int)).toNat
theorem ix_eq {n : Nat} (h1 : 1 ≤ n) (h2 : n ≤ 4096) (p : Place) : wu64 ((n : Nat) : Int) = (n : Int) ∧ ((keyOf p).tmod (n : Int)) = ((ixN n p : Nat) : Int) ∧ ixN n p < n := by
  have hk := key_rng p
  have e1 : wu64 ((n : Nat) : Int) = (n : Int) := by rw [wu_eq]; omega
  have e2 := Int.tmod_nonneg (n : Int) hk.1
  have e3 := Int.tmod_lt_of_pos (keyOf p) (show (0 : Int) < (n : Int) by omega)
  refine ⟨e1, ?_, ?_⟩
  · unfold ixN; omega
  · unfold ixN; omega
def dBad (d : Int) : Bool := decide (d < (0 : Int)) || decide (d > (12 : Int))
def sBad (s : Int) : Bool := decide (s < (-1000 : Int)) || decide (s > (1000 : Int))
def getErr (r : Rules) (p : Place) (d : Int) : Int := if placeErr r p ≠ 0 then placeErr r p else bif dBad d then 1 else 0
def putErr (r : Rules) (p : Place) (d sc : Int) : Int := if getErr r p d ≠ 0 then getErr r p d else bif sBad sc then 4 else 0
def isFree (k : Kept) (d : Int) : Bool := (!k.2.2.2.1) || decide (k.2.1 ≤ d)
def updK (n : Nat) (K : List Kept) (p : Place) (d sc : Int) : List Kept := bif isFree (getD' K (ixN n p) dK) d then K.set (ixN n p) (p, (d, (sc, (true, ())))) else K
theorem getErr_spec (r : Rules) (p : Place) (d : Int) (hr : Rng tyRules r) (hn : p.1.length ≤ 9223372036854775807) :
    (Option.bind (placeCheck r p) fun r2 => bif (r2 != (0 : Int)) then some ((r2, ()), ()) else bif ((decide (d < (0 : Int))) || (decide (d > (12 : Int)))) then some (((1 : Int), ()), ()) else some (((0 : Int), ()), ())) = some ((getErr r p d, ()), ()) := by
  rw [place_spec r p hr hn, Option.bind_some]
  unfold getErr
  by_cases c : placeErr r p = 0
  · rw [if_neg (by simpa using c), bne_f c, cond_false]
    show (bif dBad d then _ else _) = _
    cases dBad d <;> rfl
  · rw [if_pos c, bne_t c, cond_true]
theorem getErr_valid {r : Rules} {p : Place} {d : Int} (h : getErr r p d = 0) : Valid r p := by
  unfold getErr at h
  by_cases c : placeErr r p = 0
  · exact valid_of c
  · rw [if_pos c] at h; exact absurd h c
theorem put_spec {r : Rules} {K : List Kept} {n : Nat} (hr : Rng tyRules r) {p : Place} (hn : p.1.length ≤ 9223372036854775807) (hK : K.length = n) (h1 : 1 ≤ n) (h2 : n ≤ 4096) (f d sc : Int) :
    storeStorePut (r, (K.map slk, (f, ()))) p d sc = some ((r, ((bif (putErr r p d sc == 0) then updK n K p d sc else K).map slk, (f, ()))), putErr r p d sc) := by
  unfold storeStorePut
  simp only [getErr_spec r p d hr hn, Option.bind_some]
  unfold putErr
  by_cases c : getErr r p d = 0
  · have hv := getErr_valid c
    obtain ⟨e1, e2, e3⟩ := ix_eq h1 h2 p
    rw [if_neg (by simpa using c), bne_f c, cond_false]
    show (bif sBad sc then _ else _) = _
    cases hs : sBad sc with
    | true => rfl
    | false =>
      simp only [cond_false, key_spec hv, Option.bind_some, List.length_map, hK, e1]
      rw [bne_t (show ¬ (n : Int) = 0 by omega), req_true, e2, inb_iff.2 ⟨by omega, by omega⟩, req_true, Int.toNat_natCast, gd_slk]
      rw [pcopy_spec hv, Option.bind_some, pl_eta, slk_set]
      show Option.bind (bif isFree (getD' K (ixN n p) dK) d then some ((), (_, ())) else some ((), (_, ()))) _ = _
      unfold updK
      cases isFree (getD' K (ixN n p) dK) d <;> rfl
  · rw [if_pos c, bne_t c, cond_true, beq_f c, cond_false]
def isHit (k : Kept) (p : Place) (d : Int) : Bool := (k.2.2.2.1 && (k.2.1 == d)) && decide (k.1 = p)
theorem gopt_some {α : Type} (g : Bool) (d : α) (x : α) : gopt g d (some x) = some (bif g then x else d) := by cases g <;> rfl
theorem gopt_of {α : Type} {g : Bool} {d : α} {x : Option α} {y : α} (h : g = true → x = some y) : gopt g d x = some (bif g then y else d) := by
  cases g with
  | true => rw [h rfl]; rfl
  | false => rfl
theorem get_spec {r : Rules} {K : List Kept} {n : Nat} (hr : Rng tyRules r) {p : Place} (hn : p.1.length ≤ 9223372036854775807) (hK : K.length = n) (h1 : 1 ≤ n) (h2 : n ≤ 4096) (hV : ∀ k ∈ K, k.2.2.2.1 = true → Valid r k.1) (f d : Int) :
    storeStoreGet (r, (K.map slk, (f, ()))) p d = some (if getErr r p d = 0 then (bif isHit (getD' K (ixN n p) dK) p d then ((r, (K.map slk, (w64 (f + 1), ()))), ((getD' K (ixN n p) dK).2.2.1, ((0 : Int), ()))) else ((r, (K.map slk, (f, ()))), ((0 : Int), ((8 : Int), ())))) else ((r, (K.map slk, (f, ()))), ((0 : Int), (getErr r p d, ())))) := by
  unfold storeStoreGet
  simp only [getErr_spec r p d hr hn, Option.bind_some]
  by_cases c : getErr r p d = 0
  · have hv := getErr_valid c
    obtain ⟨e1, e2, e3⟩ := ix_eq h1 h2 p
    rw [if_pos c, bne_f c, cond_false]
    simp only [key_spec hv, Option.bind_some, List.length_map, hK, e1]
    rw [bne_t (show ¬ (n : Int) = 0 by omega), req_true, e2, inb_iff.2 ⟨by omega, by omega⟩, req_true, Int.toNat_natCast, gd_slk]
    have hm : getD' K (ixN n p) dK ∈ K := by rw [gd_eq K _ (by omega)]; exact List.getElem_mem _
    generalize getD' K (ixN n p) dK = k at hm ⊢
    have hq : isHit k p d = ((k.2.2.2.1 && (k.2.1 == d)) && ((k.1.2.2.2.1 == p.2.2.2.1) && same0 k.1 p)) := by
      unfold isHit
      have e4 : decide (k.1 = p) = ((k.1.2.2.2.1 == p.2.2.2.1) && same0 k.1 p) := by
        rw [Bool.eq_iff_iff]
        unfold same0
        simp only [decide_eq_true_eq, Bool.and_eq_true, beq_iff_eq]
        constructor
        · intro h; rw [h]; simp
        · rintro ⟨h1, ⟨⟨h2, h3⟩, h4⟩, h5⟩; exact place_eta _ _ h2 h3 h4 h5 h1
      rw [e4]
    rw [gopt_of (y := same0 k.1 p) (fun hg => by
      refine same_spec (r := r) (hV k hm ?_)
      simp only [slk, Bool.not_eq_true', Bool.or_eq_false_iff, Bool.not_eq_false'] at hg
      exact hg.1.1), Option.bind_some, hq]
    simp only [slk]
    cases k.2.2.2.1 <;> cases hd : (k.2.1 == d) <;> cases hq2 : (k.1.2.2.2.1 == p.2.2.2.1) <;> cases same0 k.1 p <;> simp [bne, hd, hq2]
  · rw [if_neg c, bne_t c, cond_true]
def flS (r : Rules) (S : List Slot) (f : Int) : ByteArray × Int × Int × (List Piece) × (List Int) × Bool × Bool × (List End) × Int × Int × Int × (List Slot) × Int × Unit := (r.1, (r.2.1, (r.2.2.1, (r.2.2.2.1, (r.2.2.2.2.1, (r.2.2.2.2.2.1, (r.2.2.2.2.2.2.1, (r.2.2.2.2.2.2.2.1, (r.2.2.2.2.2.2.2.2.1, (r.2.2.2.2.2.2.2.2.2.1, (r.2.2.2.2.2.2.2.2.2.2.1, (S, (f, ())))))))))))))
def usedK (k : Kept) : Bool := k.2.2.2.1
structure InvK (r : Rules) (n : Nat) (K : List Kept) (many found : Int) (i : Nat) : Prop where
  len : K.length = n
  val : ∀ k ∈ K, k.2.2.2.1 = true → Valid r k.1
  many : many = ((K.countP usedK : Nat) : Int)
  f0 : 0 ≤ found
  f1 : found ≤ (i : Int)
theorem InvK.up {r : Rules} {n : Nat} {K : List Kept} {many found : Int} {i : Nat} (h : InvK r n K many found i) : InvK r n K many found (i + 1) := ⟨h.len, h.val, h.many, h.f0, by have := h.f1; omega⟩
def cutS (script : List (Int × Int × Int × Unit)) : List (Int × Int × Int × Unit) := (script.take ((if (30 : Int) < ((script.length : Nat) : Int) then (30 : Int) else ((script.length : Nat) : Int))).toNat).drop 0
theorem skSame {r : Rules} (p q : Place) (h : Valid r p) : ref1SamePlace p q = some (decide (p = q)) := by
  have h64 := area_len h
  have t6 := h.r0.t6
  have l0 : p.2.1.1.length = r.pieces.length := h.l0
  have l1 : p.2.1.2.1.length = r.pieces.length := h.l1
  exact same_place p q (by omega) (by omega) (by omega)
theorem in_dBad (d : Int) : (!(ref1In d (0 : Int) (12 : Int))) = dBad d := by
  unfold ref1In dBad
  rw [Bool.eq_iff_iff]
  simp
theorem in_sBad (d : Int) : (!(ref1In d (-1000 : Int) (1000 : Int))) = sBad d := by
  unfold ref1In sBad
  rw [Bool.eq_iff_iff]
  simp
theorem step_ok {r : Rules} {script : List (Int × Int × Int × Unit)} {l : List Place} {n : Nat} (hr : Rng tyRules r) (hl : Rng (.sl tyPlace) l) (h0 : 0 < l.length) (hll : l.length ≤ 2305843009213693952) (h1 : 1 ≤ n) (h2 : n ≤ 4096) {K : List Kept} {many found : Int} {i : Nat} (h : InvK r n K many found i) (hi : i < (cutS script).length) (hi30 : i < 30) :
    ∃ many' found' K', law1StoreKeeps_L2 script l r (n : Int) ((many, found, (i : Int), ()), (flS r (K.map slk) found, (K, ()))) = some (.inl ((many', found', ((i + 1 : Nat) : Int), ()), (flS r (K'.map slk) found', (K', ())))) ∧ InvK r n K' many' found' (i + 1) := by
  have hK := h.len
  have hw1 : w64 ((i : Int) + 1) = ((i + 1 : Nat) : Int) := by rw [w64_id (by omega) (by omega)]; omega
  have hmany : many ≤ 4096 := by
    have := h.many
    have h3 : K.countP usedK ≤ K.length := List.countP_le_length
    omega
  have hm0 : 0 ≤ many := by have := h.many; omega
  have hf0 := h.f0
  have hf1 := h.f1
  unfold law1StoreKeeps_L2
  simp only []
  rw [show ((script.take ((if (30 : Int) < ((script.length : Nat) : Int) then (30 : Int) else ((script.length : Nat) : Int))).toNat).drop 0) = cutS script from rfl]
  generalize cutS script = C at hi ⊢
  obtain ⟨x, hx⟩ : ∃ x, at? C (i : Int) = some x := ⟨_, at?_eq _ _ (by omega) (by omega)⟩
  rw [ltd C i hi, cond_true, hx, Option.bind_some, bne_t (show ¬ ((l.length : Nat) : Int) = 0 by omega), req_true, req_true]
  have hj : ∃ p, at? l ((w64 ((x.1.tmod ((l.length : Nat) : Int)) + ((l.length : Nat) : Int))).tmod ((l.length : Nat) : Int)) = some p ∧ p ∈ l := by
    have ha := Int.tmod_lt_of_pos x.1 (show (0 : Int) < ((l.length : Nat) : Int) by omega)
    have hb : -((l.length : Nat) : Int) < x.1.tmod ((l.length : Nat) : Int) := by
      have := Int.lt_tmod_of_pos x.1 (show (0 : Int) < ((l.length : Nat) : Int) by omega)
      omega
    rw [w64_id (by omega) (by omega)]
    have hc := Int.tmod_nonneg (((l.length : Nat) : Int)) (show 0 ≤ x.1.tmod ((l.length : Nat) : Int) + ((l.length : Nat) : Int) by omega)
    have hd := Int.tmod_lt_of_pos (x.1.tmod ((l.length : Nat) : Int) + ((l.length : Nat) : Int)) (show (0 : Int) < ((l.length : Nat) : Int) by omega)
    exact ⟨_, at?_eq _ _ hc (by omega), List.getElem_mem _⟩
  obtain ⟨p, hp, hpl⟩ := hj
  have hpr : Rng tyPlace p := hl.2 p hpl
  have hn : p.1.length ≤ 9223372036854775807 := hpr.1.1
  obtain ⟨a, d, sc, u⟩ := x
  simp only [] at hp ⊢
  rw [hp, Option.bind_some, placeError_spec r p hr hn, Option.bind_some]
  simp only [in_dBad, in_sBad]
  have hg : (bif ((placeErr r p == (0 : Int)) && dBad d) then some (((1 : Int), ()), ()) else some ((placeErr r p, ()), ())) = some ((getErr r p d, ()), ()) := by
    unfold getErr
    by_cases c : placeErr r p = 0
    · rw [if_neg (by simpa using c), beq_t c, c]
      cases dBad d <;> rfl
    · rw [if_pos c, beq_f c]; rfl
  rw [hg, Option.bind_some]
  obtain ⟨e1, e2, e3⟩ := ix_eq h1 h2 p
  have hput := put_spec hr hn hK h1 h2 found d sc
  have hget := get_spec hr hn hK h1 h2 h.val found d
  have hmk : getD' K (ixN n p) dK ∈ K := by
    rw [gd_eq K _ (by omega)]; exact List.getElem_mem _
  generalize hk : getD' K (ixN n p) dK = k at hmk hget
  have hfull : ∀ q : Place, (q.1, ((q.2.1.1, (q.2.1.2.1, ())), (q.2.2.1, (q.2.2.2.1, ())))) = q := fun _ => rfl
  have hix : inb ((ixN n p : Nat) : Int) K.length = true := inb_iff.2 ⟨by omega, by omega⟩
  have hn0 : ((n : Int) != 0) = true := bne_t (by omega)
  have hsame : ∀ g : Bool, (g = true → k.2.2.2.1 = true) → gopt g false (ref1SamePlace k.1 p) = some (bif g then decide (k.1 = p) else false) := fun g hg => gopt_of fun h3 => skSame (r := r) _ _ (h.val k hmk (hg h3))
  by_cases c7 : sc = 7
  · have hs7 : (sc == (7 : Int)) = true := beq_t c7
    simp only [hs7, Bool.not_true, Bool.and_false, Bool.false_and, cond_false, Option.bind_some, cond_true, Bool.true_and]
    by_cases c : getErr r p d = 0
    · have hv := getErr_valid c
      rw [if_pos c] at hget
      simp only [c, beq_self_eq_true, cond_true, rkey_spec hv, Option.bind_some, e1, e2, Int.toNat_natCast, hn0, req_true, hix, hk, hfull]
      rw [hsame _ (fun h3 => by simp only [Bool.and_eq_true] at h3; exact h3.1), Option.bind_some]
      have hh : (((k.2.2.2.1) && (k.2.1 == d)) && (bif (k.2.2.2.1 && (k.2.1 == d)) then decide (k.1 = p) else false)) = isHit k p d := by
        unfold isHit
        cases (k.2.2.2.1 && (k.2.1 == d)) <;> rfl
      rw [hh]
      simp only [flS, rep_eta]
      rw [hget]
      cases hit : isHit k p d with
      | true =>
        refine ⟨many, found + 1, K, ?_, hK, h.val, h.many, by omega, by omega⟩
        simp only [cond_true, Option.bind_some, w64_id (n := found + 1) (by omega) (by omega), bne_self_eq_false, Bool.or_self, cond_false, Sum.elim_inl, hw1]
        try rfl
      | false =>
        refine ⟨many, found, K, ?_, h.up⟩
        simp only [cond_false, Option.bind_some, bne_self_eq_false, Bool.or_self, Sum.elim_inl, hw1]
        try rfl
    · rw [if_neg c] at hget
      refine ⟨many, found, K, ?_, h.up⟩
      simp only [beq_f c, cond_false, Option.bind_some, flS, rep_eta]
      rw [hget]
      simp only [Option.bind_some, bne_self_eq_false, Bool.or_self, cond_false, Sum.elim_inl, hw1]
      try rfl
  · have hs7 : (sc == (7 : Int)) = false := beq_f c7
    have hpe : (bif ((getErr r p d == (0 : Int)) && sBad sc) then some (((4 : Int), ()), ()) else some ((getErr r p d, ()), ())) = some ((putErr r p d sc, ()), ()) := by
      unfold putErr
      by_cases c : getErr r p d = 0
      · rw [if_neg (by simpa using c), beq_t c, c]
        cases sBad sc <;> rfl
      · rw [if_pos c, beq_f c]; rfl
    simp only [hs7, Bool.not_false, Bool.and_true, hpe, Option.bind_some, Bool.false_and, cond_false]
    by_cases c : putErr r p d sc = 0
    · have hv : Valid r p := by
        refine getErr_valid (d := d) ?_
        unfold putErr at c
        by_cases c3 : getErr r p d = 0
        · exact c3
        · rw [if_pos c3] at c; exact absurd c c3
      rw [beq_t c, cond_true, c] at hput
      simp only [c, beq_self_eq_true, cond_true, rkey_spec hv, Option.bind_some, e1, e2, Int.toNat_natCast, hn0, req_true, hix, hk, hfull]
      rw [hsame false (fun h3 => by cases h3)]
      simp only [Option.bind_some, cond_false, flS, rep_eta]
      rw [hput]
      have hset : ∀ q ∈ K.set (ixN n p) (p, (d, (sc, (true, ())))), q.2.2.2.1 = true → Valid r q.1 := fun q hq hu => by
        rcases List.mem_or_eq_of_mem_set hq with h3 | h3
        · exact h.val q h3 hu
        · rw [h3]; exact hv
      have hcs := List.countP_set (p := usedK) (a := (p, (d, (sc, (true, ()))))) (show ixN n p < K.length by omega)
      have hku : usedK (K[ixN n p]'(by omega)) = k.2.2.2.1 := by rw [← hk, gd_eq K _ (by omega)]; rfl
      have hkp : usedK (p, (d, (sc, (true, ())))) = true := rfl
      rw [hku, hkp] at hcs
      have hpos : k.2.2.2.1 = true → 1 ≤ K.countP usedK := fun h3 => List.countP_pos_iff.2 ⟨k, hmk, h3⟩
      rw [show ((!k.2.2.2.1) || decide (k.2.1 ≤ d)) = isFree k d from rfl]
      unfold updK
      rw [hk]
      cases hf : isFree k d with
      | true =>
        cases hu : k.2.2.2.1 with
        | true =>
          have := hpos hu
          rw [hu] at hcs
          refine ⟨many, found, K.set (ixN n p) (p, (d, (sc, (true, ())))), ?_, by simpa using hK, hset, ?_, hf0, by omega⟩
          · simp only [cond_true, Bool.not_true, cond_false, Option.bind_some, bne_self_eq_false, Sum.elim_inl, hw1]
            try rfl
          · rw [h.many, hcs]; simp; omega
        | false =>
          rw [hu] at hcs
          have hlt : K.countP usedK < 4096 := by
            have h3 : (K.set (ixN n p) (p, (d, (sc, (true, ()))))).countP usedK ≤ (K.set (ixN n p) (p, (d, (sc, (true, ()))))).length := List.countP_le_length
            rw [hcs, List.length_set] at h3
            simp at h3
            omega
          refine ⟨many + 1, found, K.set (ixN n p) (p, (d, (sc, (true, ())))), ?_, by simpa using hK, hset, ?_, hf0, by omega⟩
          · simp only [cond_true, Bool.not_false, Option.bind_some, bne_self_eq_false, cond_false, Sum.elim_inl, hw1, w64_id (n := many + 1) (by omega) (by have := h.many; omega)]
            try rfl
          · rw [h.many, hcs]; simp
      | false =>
        refine ⟨many, found, K, ?_, h.up⟩
        simp only [cond_false, Option.bind_some, bne_self_eq_false, Sum.elim_inl, hw1]
        try rfl
    · rw [beq_f c, cond_false] at hput
      refine ⟨many, found, K, ?_, h.up⟩
      simp only [beq_f c, cond_false, Option.bind_some, flS, rep_eta]
      rw [hput]
      simp only [Option.bind_some, bne_self_eq_false, cond_false, Sum.elim_inl, hw1]
      try rfl
theorem loop_ok {r : Rules} {script : List (Int × Int × Int × Unit)} {l : List Place} {n : Nat} (hr : Rng tyRules r) (hl : Rng (.sl tyPlace) l) (h0 : 0 < l.length) (hll : l.length ≤ 2305843009213693952) (h1 : 1 ≤ n) (h2 : n ≤ 4096) :
    ∃ many found K i, iterW (law1StoreKeeps_L2 script l r (n : Int)) (((0 : Int), (0 : Int), (0 : Int), ()), (flS r ((List.replicate n dK).map slk) 0, (List.replicate n dK, ()))) = some (.inl ((many, found, ()), (flS r (K.map slk) found, (K, ())))) ∧ InvK r n K many found i ∧ i ≤ 30 := by
  have hC : (cutS script).length ≤ 30 := by
    unfold cutS
    rw [List.drop_zero, List.length_take]
    split <;> omega
  have hinit : InvK r n (List.replicate n dK) 0 0 0 := by
    refine ⟨by simp, fun k hk hu => ?_, ?_, by omega, by omega⟩
    · rw [List.eq_of_mem_replicate hk] at hu; cases hu
    · rw [List.countP_replicate]; simp [usedK]
  obtain ⟨x, hx, many, found, K, i, e, hI⟩ := iterW_meas (f := law1StoreKeeps_L2 script l r (n : Int)) (fun y => ∃ (i : Nat) (many found : Int) (K : List Kept), y = ((many, found, (i : Int), ()), (flS r (K.map slk) found, (K, ()))) ∧ i ≤ (cutS script).length ∧ InvK r n K many found i) (fun y => 100 - y.1.2.2.1.toNat) (fun x => ∃ many found K i, x = .inl ((many, found, ()), (flS r (K.map slk) found, (K, ()))) ∧ InvK r n K many found i ∧ i ≤ 30) (by
    rintro y ⟨i, many, found, K, rfl, hi, h⟩
    by_cases hlt : i < (cutS script).length
    · left
      obtain ⟨many', found', K', e1, e2⟩ := step_ok hr hl h0 hll h1 h2 h hlt (by omega)
      exact ⟨_, e1, ⟨i + 1, many', found', K', rfl, by omega, e2⟩, by simp only [Int.toNat_natCast]; omega⟩
    · right
      refine ⟨_, ?_, many, found, K, i, rfl, h, by omega⟩
      unfold law1StoreKeeps_L2
      simp only []
      rw [show ((script.take ((if (30 : Int) < ((script.length : Nat) : Int) then (30 : Int) else ((script.length : Nat) : Int))).toNat).drop 0) = cutS script from rfl]
      rw [decide_eq_false (by omega), cond_false]) (((0 : Int), (0 : Int), (0 : Int), ()), (flS r ((List.replicate n dK).map slk) 0, (List.replicate n dK, ()))) ⟨0, 0, 0, List.replicate n dK, rfl, by omega, hinit⟩
  exact ⟨many, found, K, i, by rw [hx, e], hI⟩
theorem count_ok (K : List Kept) (hK : K.length ≤ 4096) (f : ((Int × Int × Unit) × Unit) → Option (((Int × Int × Unit) × Unit) ⊕ ((Int × Unit) × Unit)))
    (hf : ∀ (i : Nat) (c : Int), f ((c, (i : Int), ()), ()) = bif (decide ((i : Int) < (((K.map slk).length : Nat) : Int))) then (req (inb (i : Int) (K.map slk).length) (Option.bind (bif (getD' (K.map slk) (((i : Int)).toNat) dS).1 then some (((w64 (c + (1 : Int))), ()), ()) else some ((c, ()), ())) fun x : (Int × Unit) × Unit => some (Sum.inl ((x.1.1, (w64 ((i : Int) + (1 : Int))), ()), ())))) else some (Sum.inr ((c, ()), ()))) :
    iterW f (((0 : Int), (0 : Int), ()), ()) = some ((((K.countP usedK : Nat) : Int), ()), ()) := by
  refine iter_count K usedK f (fun c => ((c, ()), ())) (fun i hi c h0 h1 => ?_) (fun c => ?_)
  · rw [hf, List.length_map, ltd K i hi, cond_true, inbN K i hi, req_true, Int.toNat_natCast, gd_slk, gd_eq K i hi, w64_id (n := c + 1) (by omega) (by omega), w64_id (n := (i : Int) + 1) (by omega) (by omega)]
    show Option.bind (bif usedK K[i] then _ else _) _ = _
    cases usedK K[i] <;> rfl
  · rw [hf, List.length_map, nltd K, cond_false]
theorem sthree_rng : Rng tyRules law1Three := rngB_ok _ _ (by decide +kernel)
theorem sthree_ok : ruleErr law1Three = 0 := by decide +kernel
theorem snear_ok : placeErr law1Three law1Near = 0 := by decide +kernel
theorem swon_ok : placeErr law1Three law1Won = 0 := by decide +kernel
theorem law1StoreKeeps_true (r : Rules) (l : List Place) (size : Int) (script : List (Int × Int × Int × Unit)) (hr : Rng tyRules r) (hl : Rng (.sl tyPlace) l) (hs : Rng (.int .i64) size) (hsc : Rng (.sl (.st (.int .i64) (.st (.int .i64) (.st (.int .i64) .nil)))) script) (hl88 : l.length * 88 < 140737488355328) : law1StoreKeeps r l size script = some true := by
  have hll : l.length ≤ 2305843009213693952 := by omega
  have hsl : script.length ≤ 9223372036854775807 := hsc.1
  have hnv := valid_of snear_ok
  have hwv := valid_of swon_ok
  have hfull : ∀ q : Place, (q.1, ((q.2.1.1, (q.2.1.2.1, ())), (q.2.2.1, (q.2.2.2.1, ())))) = q := fun _ => rfl
  have t1 := check_spec law1Three sthree_rng
  rw [sthree_ok] at t1
  have x1 : ixN 1 law1Near = 0 := by decide +kernel
  have x2 : ixN 1 law1Won = 0 := by decide +kernel
  have hrep : ∀ n : Nat, List.replicate n dS = (List.replicate n dK).map slk := fun n => by rw [List.map_replicate]; rfl
  have p1 := put_spec (K := List.replicate 1 dK) (n := 1) sthree_rng (p := law1Near) (by decide) rfl (by omega) (by omega) 0 2 5
  have q1 : putErr law1Three law1Near 2 5 = 0 := by decide +kernel
  rw [q1, beq_self_eq_true, cond_true] at p1
  have w1 : updK 1 (List.replicate 1 dK) law1Near 2 5 = [(law1Near, (2, (5, (true, ()))))] := by unfold updK; rw [x1]; rfl
  rw [w1] at p1
  have p2 := put_spec (K := [(law1Near, (2, (5, (true, ()))))]) (n := 1) sthree_rng (p := law1Won) (by decide) rfl (by omega) (by omega) 0 1 6
  have q2 : putErr law1Three law1Won 1 6 = 0 := by decide +kernel
  rw [q2, beq_self_eq_true, cond_true] at p2
  have w2 : updK 1 [(law1Near, (2, (5, (true, ()))))] law1Won 1 6 = [(law1Near, (2, (5, (true, ()))))] := by unfold updK; rw [x2]; rfl
  rw [w2] at p2
  have p3 := get_spec (K := [(law1Near, (2, (5, (true, ()))))]) (n := 1) sthree_rng (p := law1Near) (by decide) rfl (by omega) (by omega) (fun k hk _ => by rw [List.mem_singleton.1 hk]; exact hnv) 0 2
  have q3 : getErr law1Three law1Near 2 = 0 := by decide +kernel
  have q4 : isHit (getD' [(law1Near, ((2 : Int), ((5 : Int), (true, ()))))] (ixN 1 law1Near) dK) law1Near 2 = true := by decide +kernel
  have q5 : (getD' [(law1Near, ((2 : Int), ((5 : Int), (true, ()))))] (ixN 1 law1Near) dK).2.2.1 = 5 := by decide +kernel
  rw [if_pos q3, q4, cond_true, q5] at p3
  have w01 : w64 ((0 : Int) + 1) = 1 := by decide
  rw [w01] at p3
  unfold law1StoreKeeps
  simp only [rep_eta, hfull, t1, Option.bind_some, bne_self_eq_false, cond_false, rcopy_spec (rules_valid sthree_ok), agree_self, Bool.or_self, hrep, p1, p2, p3]
  rw [count_ok [(law1Near, (2, (5, (true, ()))))] (by decide) _ (fun i c => rfl), Option.bind_some]
  simp only [check_spec r hr, error_spec r hr, Option.bind_some]
  rw [show (((List.countP usedK [((law1Near, ((2 : Int), ((5 : Int), (true, ())))) : Kept)] : Nat) : Int) != 1) = false from rfl, cond_false, Option.bind_some, cond_false]
  have hinS : ∀ s : Int, (!(ref1In s (1 : Int) (4096 : Int))) = (decide (s < 1) || decide (s > 4096)) := fun s => by
    unfold ref1In
    rw [Bool.eq_iff_iff]
    simp
  by_cases c : ruleErr r = 0
  · have hv0 := rules_valid c
    simp only [c, bne_self_eq_false, cond_false, beq_self_eq_true, Bool.true_and, hinS, rcopy_spec hv0, Option.bind_some]
    by_cases cs : 1 ≤ size ∧ size ≤ 4096
    · obtain ⟨n, rfl⟩ : ∃ n : Nat, size = (n : Int) := ⟨size.toNat, by omega⟩
      have hz : (decide ((n : Int) < 1) || decide ((n : Int) > 4096)) = false := by simp; omega
      have hrm : (decide (0 ≤ (n : Int)) && room ((n : Int)).toNat 112) = true := by
        rw [Int.toNat_natCast, room_ok (by omega), decide_eq_true (by omega)]; rfl
      rw [hz, cond_false]
      simp only [beq_self_eq_true, Bool.true_and, hrm, req_true, agree_self, Option.bind_some, cond_false, bne_self_eq_false, Bool.false_or]
      by_cases h0 : l.length = 0
      · rw [beq_t (show ((l.length : Nat) : Int) = 0 by omega), cond_true]
      · rw [beq_f (show ¬ ((l.length : Nat) : Int) = 0 by omega), cond_false]
        have hb : boundsI 0 (if (30 : Int) < ((script.length : Nat) : Int) then (30 : Int) else ((script.length : Nat) : Int)) script.length = true := by
          split
          · simp [boundsI]; omega
          · simp [boundsI]
        obtain ⟨many, found, K, i, hL, hI, _⟩ := loop_ok (script := script) hr hl (by omega) hll (show 1 ≤ n by omega) (show n ≤ 4096 by omega)
        unfold flS at hL
        rw [hb, req_true, Int.toNat_natCast, hL, Option.bind_some, Sum.elim_inl]
        rw [count_ok K (by have := hI.len; omega) _ (fun i c => rfl), Option.bind_some]
        simp only [hI.many, beq_self_eq_true, cond_true, Option.bind_some]
    · have hz : (decide (size < 1) || decide (size > 4096)) = true := by simp; omega
      rw [hz, cond_true]
      rfl
  · simp only [bne_t c, cond_true, beq_f c, Bool.false_and, cond_false, Option.bind_some, Bool.true_or, beq_self_eq_true]
end Go.Proofs.Yticeklcmijbjfaa
