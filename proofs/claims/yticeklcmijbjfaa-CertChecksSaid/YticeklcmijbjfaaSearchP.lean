/- What the program's and the reference's searches compute. No condition of its own. -/
import Derived.Test.YticeklcmijbjfaaSearchS
import Derived.Test.YticeklcmijbjfaaSearchM
import Derived.Test.YticeklcmijbjfaaSearch
namespace Go.Proofs.Yticeklcmijbjfaa
open Go.Den
set_option linter.unusedVariables false
set_option linter.unusedSimpArgs false
set_option maxRecDepth 100000

theorem getD'_eq {A : Type} (xs : List A) (i : Nat) (hi : i < xs.length) (d : A) : getD' xs ((i : Int)).toNat d = xs[i] := by
  simp [getD', hi]
theorem lt_dec {A : Type} (xs : List A) (i : Nat) (hi : i < xs.length) : decide ((i : Int) < ((xs.length : Nat) : Int)) = true := by simp; omega
theorem nlt_dec {A : Type} (xs : List A) : decide (((xs.length : Nat) : Int) < ((xs.length : Nat) : Int)) = false := by simp
theorem inb_nat {A : Type} (xs : List A) (i : Nat) (hi : i < xs.length) : inb (i : Int) xs.length = true := inb_iff.2 ⟨by omega, by omega⟩
theorem scan_rng {β : Type} {e : Nat → Option β} {B : β} (Q : β → Prop) (hB : Q B) (he : ∀ i b, e i = some b → Q b) : ∀ (k i : Nat), Q (scan e B i k)
  | 0, _ => hB
  | k + 1, i => by
    unfold scan
    match h : e i with
    | some b => exact he i b h
    | none => exact scan_rng Q hB he k (i + 1)
theorem end_rng {r : Rules} {p : Place} (h : Valid r p) : ∀ i b, endE r p i = some b → ∃ v, b = .inr v ∧ (v = 1 ∨ v = 2) := by
  intro i b hb
  have ht := h.turn
  unfold endE at hb
  split at hb
  · rename_i x _
    cases hm : metB r p x (1 - p.turn) with
    | false => rw [hm] at hb; cases hb
    | true =>
      rw [hm] at hb
      simp only [cond_true, Option.some.injEq] at hb
      subst hb
      refine ⟨_, rfl, ?_⟩
      cases x.2.2.2.1
      · simp only [cond_false]; omega
      · simp only [cond_true]; omega
  · cases hb
theorem result_cases {r : Rules} {p : Place} (h : Valid r p) : (resultOf r p = 0 ∧ 0 < (movesOf r p).length) ∨ resultOf r p = 1 ∨ resultOf r p = 2 ∨ resultOf r p = 3 := by
  have ht := h.turn
  unfold resultOf
  have := scan_rng (e := endE r p) (B := .inl ((), ())) (fun b => b = .inl ((), ()) ∨ ∃ v, b = .inr v ∧ (v = 1 ∨ v = 2)) (.inl rfl) (fun i b hb => .inr (end_rng h i b hb)) r.2.2.2.2.2.2.2.1.length 0
  rcases this with e | ⟨v, e, hv⟩
  · rw [e]
    simp only
    cases (r.quiet != 0) && decide (p.quiet ≥ r.quiet) with
    | true => right; right; right; rfl
    | false =>
      simp only [cond_false]
      by_cases c : (((movesOf r p).length : Nat) : Int) > 0
      · rw [decide_eq_true c]; left; exact ⟨rfl, by omega⟩
      · rw [decide_eq_false c]
        right
        simp only [cond_false]
        unfold blockedV
        cases r.blocked == 0
        · cases r.blocked == 1
          · right; right; rfl
          · simp only [cond_false, cond_true]; omega
        · simp only [cond_true]; omega
  · rw [e]
    simp only
    omega
theorem open_0 {r : Rules} {p : Place} (h : resultOf r p = 0) : openMoves r p = movesOf r p := if_pos h
theorem open_n {r : Rules} {p : Place} (h : ¬ resultOf r p = 0) : openMoves r p = [] := if_neg h
theorem mem_after {r : Rules} {p : Place} {ms : List Mv} (h : Valid r p) (hm : ms = openMoves r p) {i : Nat} (hi : i < ms.length) : allowedB r p ms[i] = true ∧ Valid r (afterOf r p ms[i]) := by
  have : ms[i] ∈ openMoves r p := hm ▸ List.getElem_mem hi
  exact ⟨open_allowed this, after_valid h (open_allowed this)⟩
/-! ### the walk -/
abbrev FlR := ByteArray × Int × Int × (List (Int × Int × Int × (List (Int × Int × Int × Int × Unit)) × Unit)) × (List Int) × Bool × Bool × (List (Int × Int × Int × Bool × Unit)) × Int × Int × Int × Int × Int × Unit
def fl (r : Rules) (s : Int × Int) : FlR := (r.1, (r.2.1, (r.2.2.1, (r.2.2.2.1, (r.2.2.2.2.1, (r.2.2.2.2.2.1, (r.2.2.2.2.2.2.1, (r.2.2.2.2.2.2.2.1, (r.2.2.2.2.2.2.2.2.1, (r.2.2.2.2.2.2.2.2.2.1, (r.2.2.2.2.2.2.2.2.2.2.1, (s.1, (s.2, ())))))))))))))
abbrev CtT := (Rules × Int × Int × Unit) × Place × Int × Unit
abbrev CtR := (Rules × Int × Int × Unit) × Bool
theorem walk_L1 (ms : List Mv) (p : Place) (φ : CtT → Option CtR) (depth i : Int) (r : Rules) (s : Int × Int) : perftCounterWalk_L1 ms p φ depth ((i, ()), (fl r s, ())) =
    bif decide (i < ((ms.length : Nat) : Int)) then req (inb i ms.length) (Option.bind (movesMake r p (getD' ms i.toNat d0)) fun q => Option.bind (φ ((r, s.1, s.2, ()), q, w64 (depth - 1), ())) fun x =>
      bif (!x.2) then some (Sum.inr (Sum.inr (x.1, false))) else some (Sum.inl ((w64 (i + 1), ()), (fl x.1.1 (x.1.2.1, x.1.2.2.1), ()))))
    else some (Sum.inr (Sum.inl ((), (fl r s, ())))) := rfl
theorem walk_F (φ : CtT → Option CtR) (r : Rules) (n l : Int) (p : Place) (depth : Int) : perftCounterWalk_F φ (r, n, l, ()) p depth =
    bif decide (w64 (n + 1) > 50000) then some ((r, w64 (n + 1), l, ()), false) else bif depth == 0 then some ((r, w64 (n + 1), w64 (l + 1), ()), true) else
    Option.bind (endsMoves r p) fun ms => Option.bind (iterW (perftCounterWalk_L1 ms p φ depth) (((0 : Int), ()), (fl r (w64 (n + 1), l), ()))) (Sum.elim (fun x => some ((((x.2.1.1, (x.2.1.2.1, (x.2.1.2.2.1, (x.2.1.2.2.2.1, (x.2.1.2.2.2.2.1, (x.2.1.2.2.2.2.2.1, (x.2.1.2.2.2.2.2.2.1, (x.2.1.2.2.2.2.2.2.2.1, (x.2.1.2.2.2.2.2.2.2.2.1, (x.2.1.2.2.2.2.2.2.2.2.2.1, (x.2.1.2.2.2.2.2.2.2.2.2.2.1, ())))))))))))), x.2.1.2.2.2.2.2.2.2.2.2.2.2), true)) some) := rfl
theorem walkS_rng (r : Rules) (d : Nat) (p : Place) (n l : Int) (h : (walkS r d p (n, l)).2 = true) (hl : 0 ≤ l) (hln : l ≤ n) : 0 ≤ (walkS r d p (n, l)).1.2 ∧ (walkS r d p (n, l)).1.2 ≤ (walkS r d p (n, l)).1.1 ∧ (walkS r d p (n, l)).1.1 ≤ 50000 := by
  obtain ⟨a1, a2⟩ := walkS_spec r d p n l
  by_cases c : n + (treeN r d p : Int) ≤ 50000
  · rw [a1 c]
    have := countN_le r d p
    simp only
    omega
  · rw [a2 (by omega)] at h
    cases h
def ctOf (r : Rules) (w : (Int × Int) × Bool) : CtR := ((r, w.1.1, w.1.2, ()), w.2)
theorem walk_fix : ∀ x : CtT, (Valid x.1.1 x.2.1 ∧ 0 ≤ x.2.2.1 ∧ x.2.2.1 ≤ 12 ∧ 0 ≤ x.1.2.2.1 ∧ x.1.2.2.1 ≤ x.1.2.1 ∧ x.1.2.1 ≤ 50000) → fixW perftCounterWalk_G x = some (ctOf x.1.1 (walkS x.1.1 x.2.2.1.toNat x.2.1 (x.1.2.1, x.1.2.2.1))) := by
  refine fixW_ind perftCounterWalk_Mono _ (fun x => x.2.2.1.toNat) _ ?_
  rintro φ ⟨⟨r, n, l, ⟨⟩⟩, p, depth, ⟨⟩⟩ ⟨hv, hd0, hd1, hl0, hl1, hn⟩ ih
  show perftCounterWalk_F φ (r, n, l, ()) p depth = _
  simp only at hv hd0 hd1 hl0 hl1 hn ih ⊢
  rw [walk_F, w64_id (n := n + 1) (by omega) (by omega), w64_id (n := l + 1) (by omega) (by omega)]
  obtain ⟨d, rfl⟩ := Int.eq_ofNat_of_zero_le hd0
  simp only [Int.toNat_natCast] at ih ⊢
  by_cases c : n + 1 > 50000
  · rw [decide_eq_true c, cond_true]
    cases d with
    | zero => unfold walkS; rw [if_pos c]; rfl
    | succ d => unfold walkS; rw [if_pos c]; rfl
  rw [decide_eq_false c, cond_false]
  cases d with
  | zero => unfold walkS; rw [if_neg c]; rfl
  | succ d =>
    rw [beq_f (show ¬ (((d + 1 : Nat) : Int)) = 0 by omega), cond_false, endsMoves_spec hv, Option.bind_some]
    have hlen := open_len hv
    unfold walkS
    rw [if_neg c]
    generalize hms : openMoves r p = ms at hlen ⊢
    have hL := iter_scan ms (perftCounterWalk_L1 ms p φ ((d + 1 : Nat) : Int)) (fun i s => (((i : Int), ()), (fl r s, ())))
      (fun acc m => bif (walkS r d (afterOf r p m) acc).2 then .inl (walkS r d (afterOf r p m) acc).1 else .inr (.inr (ctOf r ((walkS r d (afterOf r p m) acc).1, false)))) (fun s => .inl ((), (fl r s, ())))
      (fun _ s => 0 ≤ s.2 ∧ s.2 ≤ s.1 ∧ s.1 ≤ 50000) (fun i hi s hs => by
        obtain ⟨ha, va⟩ := mem_after hv hms.symm hi
        obtain ⟨sn, sl⟩ := s
        show perftCounterWalk_L1 ms p φ _ (((i : Int), ()), (fl r (sn, sl), ())) = _
        rw [walk_L1, lt_dec ms i hi, cond_true, inb_nat ms i hi, req_true, getD'_eq ms i hi, make_spec hv ha, Option.bind_some, w64_id (n := ((d + 1 : Nat) : Int) - 1) (by omega) (by omega),
          ih ((r, sn, sl, ()), afterOf r p ms[i], ((d + 1 : Nat) : Int) - 1, ()) ⟨va, by simp only; omega, by simp only; omega, hs.1, hs.2.1, hs.2.2⟩ (by simp only; omega), Option.bind_some]
        simp only [show (((d + 1 : Nat) : Int) - 1).toNat = d by omega]
        generalize walkS r d (afterOf r p ms[i]) (sn, sl) = w
        obtain ⟨⟨w1, w2⟩, w3⟩ := w
        rw [w64_id (n := (i : Int) + 1) (by omega) (by omega)]
        cases w3 <;> rfl) (fun i hi s s' hs hg => by
        obtain ⟨sn, sl⟩ := s
        cases hw : (walkS r d (afterOf r p ms[i]) (sn, sl)).2 with
        | false =>
          rw [hw] at hg
          simp only [cond_false] at hg
          cases hg
        | true =>
          rw [hw] at hg
          simp only [cond_true] at hg
          cases hg
          exact walkS_rng r d _ sn sl hw hs.1 hs.2.1) (fun s hs => by
        show perftCounterWalk_L1 ms p φ _ ((((ms.length : Nat) : Int), ()), (fl r s, ())) = _
        rw [walk_L1, nlt_dec, cond_false]) (n + 1, l) ⟨hl0, by simp only; omega, by simp only; omega⟩
    have hL' : iterW (perftCounterWalk_L1 ms p φ ((d + 1 : Nat) : Int)) (((0 : Int), ()), (fl r (n + 1, l), ())) = _ := hL
    rw [hL', Option.bind_some]
    clear hL hL' hms hlen
    generalize (n + 1, l) = s0
    induction ms generalizing s0 with
    | nil => rfl
    | cons m ms ih2 =>
      unfold scanL
      cases hw : (walkS r d (afterOf r p m) s0).2 with
      | false => rfl
      | true =>
        simp only [cond_true]
        exact ih2 _
theorem walk_spec {r : Rules} {p : Place} (h : Valid r p) {d : Nat} (hd : d ≤ 12) : perftCounterWalk (r, 0, 0, ()) p (d : Int) = some (ctOf r (walkS r d p (0, 0))) := by
  have := walk_fix ((r, 0, 0, ()), p, (d : Int), ()) ⟨h, by simp only; omega, by simp only; omega, by simp only; omega, by simp only; omega, by simp only; omega⟩
  exact this
def okDepth (depth : Int) : Bool := decide (0 ≤ depth) && decide (depth ≤ 12)
/-- the errors of all searches -/
def treeErr (r : Rules) (p : Place) (depth : Int) : Int := if placeErr r p ≠ 0 then placeErr r p else bif !okDepth depth then 1 else if 50000 < treeN r depth.toNat p then 17 else 0
theorem treeErr_p {r : Rules} {p : Place} (depth : Int) (c : ¬ placeErr r p = 0) : treeErr r p depth = placeErr r p := if_pos c
theorem treeErr_v {r : Rules} {p : Place} (depth : Int) (c : placeErr r p = 0) : treeErr r p depth = bif !okDepth depth then 1 else if 50000 < treeN r depth.toNat p then 17 else 0 := by
  unfold treeErr
  rw [if_neg (fun h => h c)]
theorem treeErr_d {r : Rules} {p : Place} {depth : Int} (c : placeErr r p = 0) (hd : okDepth depth = false) : treeErr r p depth = 1 := by rw [treeErr_v depth c, hd]; rfl
theorem treeErr_b {r : Rules} {p : Place} {depth : Int} (c : placeErr r p = 0) (hd : okDepth depth = true) (ht : 50000 < treeN r depth.toNat p) : treeErr r p depth = 17 := by rw [treeErr_v depth c, hd, if_pos ht]; rfl
theorem treeErr_0 {r : Rules} {p : Place} {depth : Int} (c : placeErr r p = 0) (hd : okDepth depth = true) (ht : ¬ 50000 < treeN r depth.toNat p) : treeErr r p depth = 0 := by rw [treeErr_v depth c, hd, if_neg ht]; rfl
theorem okDepth_iff {depth : Int} : okDepth depth = true ↔ 0 ≤ depth ∧ depth ≤ 12 := by simp [okDepth]
theorem check_search (r : Rules) (p : Place) (depth : Int) (hr : Rng tyRules r) (hn : p.1.length ≤ 9223372036854775807) : perftCheck r p depth = some (if treeErr r p depth = 0 then ((treeN r depth.toNat p : Int), ((countN r depth.toNat p : Int), (0, ()))) else (0, (0, (treeErr r p depth, ())))) := by
  unfold perftCheck
  rw [place_spec r p hr hn, Option.bind_some]
  by_cases c : placeErr r p = 0
  · have hv := valid_of c
    rw [bne_f c, cond_false]
    cases e2 : okDepth depth with
    | true =>
      have hd := okDepth_iff.1 e2
      have e1 : ((decide (depth < 0)) || (decide (depth > 12))) = false := by simp; omega
      obtain ⟨d, rfl⟩ := Int.eq_ofNat_of_zero_le hd.1
      rw [e1, cond_false, walk_spec hv (by omega), Option.bind_some]
      obtain ⟨a1, a2⟩ := walkS_spec r d p 0 0
      by_cases ct : 50000 < treeN r d p
      · have := a2 (by omega)
        rw [treeErr_b c e2 ct]
        simp only [ctOf, this, Bool.not_false, cond_true]
        rfl
      · rw [a1 (by omega), treeErr_0 c e2 ct]
        simp only [ctOf, Bool.not_true, cond_false, Int.zero_add, Int.toNat_natCast, if_true]
    | false =>
      have e1 : ((decide (depth < 0)) || (decide (depth > 12))) = true := by
        have : ¬ (0 ≤ depth ∧ depth ≤ 12) := fun h => by rw [okDepth_iff.2 h] at e2; cases e2
        simp
        omega
      rw [e1, cond_true, treeErr_d c e2]
      rfl
  · rw [bne_t c, cond_true, treeErr_p depth c, if_neg c]
theorem tree_search (r : Rules) (p : Place) (depth : Int) (hr : Rng tyRules r) (hn : p.1.length ≤ 9223372036854775807) : perftTree r p depth = some (if treeErr r p depth = 0 then ((treeN r depth.toNat p : Int), (0, ())) else (0, (treeErr r p depth, ()))) := by
  unfold perftTree
  rw [check_search r p depth hr hn, Option.bind_some]
  split <;> rfl
/-! ### the reference: trees -/
abbrev RT := Rules × Place × Int × Unit
abbrev RF := Rules × Place × Int × Int × Unit
theorem in_ok (depth : Int) : ref1In depth 0 12 = okDepth depth := by
  rfl
def lightB (r : Rules) (p : Place) (depth : Int) : Bool := (placeErr r p != 0) || (!okDepth depth) || (decide (p.1.length ≤ 20) && decide (treeN r depth.toNat p ≤ 1200))
/-! ### the reference: counts -/
theorem sum_take {A : Type} (f : A → Nat) (l : List A) (i : Nat) (hi : i < l.length) : ((l.take (i + 1)).map f).sum = ((l.take i).map f).sum + f l[i] := by
  rw [List.take_succ_eq_append_getElem hi, List.map_append, List.sum_append]
  simp
theorem sum_take_le {A : Type} (f : A → Nat) (l : List A) (i : Nat) : ((l.take i).map f).sum ≤ (l.map f).sum := by
  conv => rhs; rw [← List.take_append_drop i l]
  rw [List.map_append, List.sum_append]
  omega
theorem mem_sum {A : Type} (f : A → Nat) {l : List A} {x : A} (hx : x ∈ l) : f x ≤ (l.map f).sum := by
  induction l with
  | nil => cases hx
  | cons y l ih =>
    rw [List.map_cons, List.sum_cons]
    rcases List.mem_cons.1 hx with rfl | h
    · omega
    · have := ih h; omega
end Go.Proofs.Yticeklcmijbjfaa
