/- Rules in plain Lean: what is wrong with rules, as the program and the reference compute it. No condition of its own. -/
import Derived.Test.YtocnfflklfeocaaDenQ
import Derived.Test.YtocnfflklfeocaaCoreS
import Derived.Laws.Strings
namespace Go.Proofs.Ytocnfflklfeocaa
open Go.Den
set_option linter.unusedVariables false
set_option linter.unusedSimpArgs false
set_option maxRecDepth 100000

abbrev Way := Int × Int × Int × Int × Unit
abbrev Piece := Int × Int × Int × (List Way) × Unit
abbrev End := Int × Int × Int × Bool × Unit
abbrev Rules := ByteArray × Int × Int × (List Piece) × (List Int) × Bool × Bool × (List End) × Int × Int × Int × Unit
abbrev Rules.name (r : Rules) : ByteArray := r.1
abbrev Rules.width (r : Rules) : Int := r.2.1
abbrev Rules.height (r : Rules) : Int := r.2.2.1
abbrev Rules.pieces (r : Rules) : List Piece := r.2.2.2.1
abbrev Rules.start (r : Rules) : List Int := r.2.2.2.2.1
abbrev Rules.falls (r : Rules) : Bool := r.2.2.2.2.2.1
abbrev Rules.keeps (r : Rules) : Bool := r.2.2.2.2.2.2.1
abbrev Rules.ends (r : Rules) : List End := r.2.2.2.2.2.2.2.1
abbrev Rules.blocked (r : Rules) : Int := r.2.2.2.2.2.2.2.2.1
abbrev Rules.quiet (r : Rules) : Int := r.2.2.2.2.2.2.2.2.2.1
abbrev Rules.repeats (r : Rules) : Int := r.2.2.2.2.2.2.2.2.2.2.1
abbrev tyWay : Ty := .st (.int .i64) (.st (.int .i64) (.st (.int .i64) (.st (.int .i64) .nil)))
abbrev tyPiece : Ty := .st (.int .u8) (.st (.int .i64) (.st (.int .i64) (.st (.sl tyWay) .nil)))
abbrev tyEnd : Ty := .st (.int .i64) (.st (.int .i64) (.st (.int .i64) (.st .bool .nil)))
abbrev tyRules : Ty := .st .str (.st (.int .i64) (.st (.int .i64) (.st (.sl tyPiece) (.st (.sl (.int .i64)) (.st .bool (.st .bool (.st (.sl tyEnd) (.st (.int .i64) (.st (.int .i64) (.st (.int .i64) .nil))))))))))

/-! ### a loop that looks for the first error -/
def nz (x : Int) : Option Int := if x = 0 then none else some x
def firstNZ (f : Nat → Int) (n : Nat) : Int := scan (fun i => nz (f i)) 0 0 n
theorem firstNZ_zero {f : Nat → Int} {n : Nat} (h : firstNZ f n = 0) : ∀ i, i < n → f i = 0 := by
  have key : ∀ (k i : Nat), scan (fun i => nz (f i)) 0 i k = 0 → ∀ j, i ≤ j → j < i + k → f j = 0 := by
    intro k
    induction k with
    | zero => intro i _ j h1 h2; omega
    | succ k ih =>
      intro i hs j h1 h2
      unfold scan at hs
      by_cases c : f i = 0
      · simp only [nz, if_pos c] at hs
        rcases Nat.eq_or_lt_of_le h1 with e | e
        · rw [← e]; exact c
        · exact ih (i + 1) hs j e (by omega)
      · simp only [nz, if_neg c] at hs
        exact absurd hs c
  exact fun i hi => key n 0 h i (Nat.zero_le _) (by omega)
theorem firstNZ_congr {f g : Nat → Int} {n : Nat} (h : ∀ i, i < n → f i = g i) : firstNZ f n = firstNZ g n :=
  scan_congr 0 n 0 fun j _ hj => by rw [h j (by omega)]
theorem loopNZ {γ : Type} (n : Nat) (f : ((Int × Unit) × Unit) → Option (((Int × Unit) × Unit) ⊕ (γ ⊕ Int))) (err : Nat → Int) (u : γ) (z : Option Int)
    (h1 : ∀ i, i < n → f (((i : Int), ()), ()) = if err i = 0 then some (.inl ((((i + 1 : Nat) : Int), ()), ())) else some (.inr (.inr (err i)))) (h2 : f (((n : Int), ()), ()) = some (.inr (.inl u))) :
    Option.bind (iterW f ((0, ()), ())) (Sum.elim (fun _ => z) some) = if firstNZ err n = 0 then z else some (firstNZ err n) := by
  have key : ∀ k i, i + k = n → Option.bind (iterW f (((i : Int), ()), ())) (Sum.elim (fun _ => z) some) = if scan (fun i => nz (err i)) 0 i k = 0 then z else some (scan (fun i => nz (err i)) 0 i k) := by
    intro k
    induction k with
    | zero =>
      intro i hi
      have : i = n := by omega
      subst this
      rw [iterW_inr h2]
      rfl
    | succ k ih =>
      intro i hi
      have hs := h1 i (by omega)
      unfold scan
      by_cases c : err i = 0
      · rw [if_pos c] at hs
        rw [iterW_inl hs, ih (i + 1) (by omega)]
        have : nz (err i) = none := by simp only [nz, if_pos c]
        rw [this]
      · rw [if_neg c] at hs
        rw [iterW_inr hs]
        have : nz (err i) = some (err i) := by simp only [nz, if_neg c]
        simp only [this, if_neg c]
        rfl
  exact key n 0 (by omega)
/-! ### names -/
def ch (s : ByteArray) (i : Nat) : Nat := ((s[i]?).getD 0).toNat
theorem strAt_eq (s : ByteArray) (i : Nat) (h : i < s.size) : ∃ c : UInt8, strAt s (i : Int) = some c ∧ c.toNat = ch s i := by
  refine ⟨(s[i]?).getD 0, ?_, rfl⟩
  have h0 : decide ((0 : Int) ≤ (i : Int)) = true := by simp
  have : s[i]? = some s[i] := getElem?_pos s i h
  unfold strAt
  rw [h0, cond_true, Int.toNat_natCast, this]
  rfl
theorem ch_lt (s : ByteArray) (i : Nat) : ch s i < 256 := UInt8.toNat_lt _
def nameBad (s : ByteArray) (i : Nat) : Bool := !(decide (65 ≤ ch s i ∧ ch s i ≤ 90) || decide (i ≠ 0 ∧ 48 ≤ ch s i ∧ ch s i ≤ 57))
def nameOk (s : ByteArray) : Bool := !((List.range s.size).any (nameBad s)) && decide (1 ≤ s.size ∧ s.size ≤ 8)
theorem empty_iff (s : ByteArray) : (s.toList == (ByteArray.mk #[]).toList) = decide (s.size = 0) := by
  rw [ByteArray.toList_eq, ByteArray.toList_eq]
  obtain ⟨⟨l⟩⟩ := s
  rw [Bool.eq_iff_iff, beq_iff_eq, decide_eq_true_eq]
  exact List.length_eq_zero_iff.symm
theorem name_spec (s : ByteArray) (hs : s.size ≤ 9223372036854775807) : rulesName s = some (nameOk s) := by
  unfold rulesName nameOk
  have hL := iterW_any (List.range s.size) (nameBad s) (rulesName_L1 s) (.inr false) (.inl ((), ())) (fun i hi => by
    have hi' : i < s.size := by simpa using hi
    obtain ⟨c, h1, h2⟩ := strAt_eq s i hi'
    have hlt := ch_lt s i
    unfold rulesName_L1
    have h3 : (i : Int) < (s.size : Int) := by omega
    have hg : ∀ b, gopt b 0 (some c) = some (bif b then c else 0) := fun b => by cases b <;> rfl
    simp only [h3, decide_true, cond_true, h1, Option.bind_some, hg, List.getElem_range, w64_id (n := (i : Int) + 1) (by omega) (by omega)]
    have hb : nameBad s i = !(decide (65 ≤ c.toNat ∧ c.toNat ≤ 90) || decide (i ≠ 0 ∧ 48 ≤ c.toNat ∧ c.toNat ≤ 57)) := by unfold nameBad; rw [h2]
    rw [hb]
    generalize hn : c.toNat = n at *
    have e0 : ((i : Int) == 0) = decide (i = 0) := by rw [Bool.eq_iff_iff]; simp
    rw [e0]
    by_cases c1 : 65 ≤ n
    · have a1 : decide ((n : Int) ≥ 65) = true := by simp only [decide_eq_true_eq]; omega
      simp only [a1, cond_true, Bool.true_and, hn]
      by_cases c2 : n ≤ 90
      · have a2 : decide ((n : Int) ≤ 90) = true := by simp only [decide_eq_true_eq]; omega
        simp [a2, c1, c2]
      · have a2 : decide ((n : Int) ≤ 90) = false := by simp only [decide_eq_false_iff_not]; omega
        have a3 : decide ((n : Int) < 48) = false := by simp only [decide_eq_false_iff_not]; omega
        have a4 : decide ((n : Int) > 57) = true := by simp only [decide_eq_true_eq]; omega
        have a5 : ¬ n ≤ 57 := by omega
        by_cases c3 : i = 0
        · simp [a2, c1, c2, c3]
        · simp [a2, a3, a4, a5, c1, c2, c3, hn]
    · have a1 : decide ((n : Int) ≥ 65) = false := by simp only [decide_eq_false_iff_not]; omega
      by_cases c3 : i = 0
      · simp [a1, c1, c3]
      · by_cases c4 : 48 ≤ n
        · have a3 : decide ((n : Int) < 48) = false := by simp only [decide_eq_false_iff_not]; omega
          by_cases c5 : n ≤ 57
          · have a4 : decide ((n : Int) > 57) = false := by simp only [decide_eq_false_iff_not]; omega
            simp [a1, a3, a4, c1, c3, c4, c5, hn]
          · have a4 : decide ((n : Int) > 57) = true := by simp only [decide_eq_true_eq]; omega
            simp [a1, a3, a4, c1, c3, c4, c5, hn]
        · have a3 : decide ((n : Int) < 48) = true := by simp only [decide_eq_true_eq]; omega
          simp [a1, a3, c1, c3, c4, hn]) (by unfold rulesName_L1; simp)
  rw [hL, empty_iff]
  cases (List.range s.size).any (nameBad s) with
  | true => rfl
  | false =>
    simp only [cond_false, Option.bind_some, Sum.elim_inl, Bool.not_false, Bool.true_and, Option.some.injEq]
    rw [Bool.eq_iff_iff]
    simp only [Bool.and_eq_true, Bool.not_eq_true', decide_eq_false_iff_not, decide_eq_true_eq]
    omega
theorem named_spec (s : ByteArray) (hs : s.size ≤ 9223372036854775807) : ref1Named s = some (nameOk s) := by
  unfold ref1Named nameOk
  have hL := iterW_any (List.range s.size) (nameBad s) (ref1Named_L1 s) (.inr false) (.inl ((), ())) (fun i hi => by
    have hi' : i < s.size := by simpa using hi
    obtain ⟨c, h1, h2⟩ := strAt_eq s i hi'
    have hlt := ch_lt s i
    unfold ref1Named_L1
    have h3 : (i : Int) < (s.size : Int) := by omega
    have hg : ∀ b, gopt b 0 (some c) = some (bif b then c else 0) := fun b => by cases b <;> rfl
    simp only [h3, decide_true, cond_true, h1, Option.bind_some, hg, List.getElem_range, w64_id (n := (i : Int) + 1) (by omega) (by omega), w64_id (n := ((c.toNat : Nat) : Int)) (by omega) (by omega)]
    have hb : nameBad s i = !(decide (65 ≤ c.toNat ∧ c.toNat ≤ 90) || decide (i ≠ 0 ∧ 48 ≤ c.toNat ∧ c.toNat ≤ 57)) := by unfold nameBad; rw [h2]
    rw [hb]
    have hc : (c.toNat : Int) < 256 := by omega
    generalize hn : c.toNat = n at *
    have e0 : ((i : Int) == 0) = decide (i = 0) := by rw [Bool.eq_iff_iff]; simp
    rw [e0]
    unfold ref1In
    by_cases c1 : 48 ≤ n ∧ n ≤ 57
    · have a1 : (decide ((n : Int) ≥ 48) && decide ((n : Int) ≤ 57)) = true := by simp only [Bool.and_eq_true, decide_eq_true_eq]; omega
      have a2 : ¬ 65 ≤ n := by omega
      by_cases c3 : i = 0
      · simp [a1, a2, c1, c3]
      · simp [a1, a2, c1, c3]
    · have a1 : (decide ((n : Int) ≥ 48) && decide ((n : Int) ≤ 57)) = false := by simp only [Bool.and_eq_false_iff, decide_eq_false_iff_not]; omega
      have a3 : decide (i ≠ 0 ∧ 48 ≤ n ∧ n ≤ 57) = false := by simp only [decide_eq_false_iff_not]; omega
      simp only [a1, Bool.not_false, Bool.true_and, cond_true, hn, Bool.false_and, Bool.or_false, a3]
      have a4 : (decide (w64 (n : Int) ≥ 65) && decide (w64 (n : Int) ≤ 90)) = decide (65 ≤ n ∧ n ≤ 90) := by
        rw [w64_id (by omega) (by omega), Bool.eq_iff_iff]
        simp only [Bool.and_eq_true, decide_eq_true_eq]
        omega
      rw [a4]
      rfl) (by unfold ref1Named_L1; simp)
  rw [hL]
  cases (List.range s.size).any (nameBad s) with
  | true => rfl
  | false =>
    simp only [cond_false, Option.bind_some, Sum.elim_inl, Bool.not_false, Bool.true_and, Option.some.injEq]
    unfold ref1In
    rw [Bool.eq_iff_iff]
    simp only [Bool.and_eq_true, decide_eq_true_eq]
    omega
/-! ### pieces -/
def badWay (w : Way) : Bool := ((((!(rulesWithin w.1 (-7 : Int) (7 : Int))) || (!(rulesWithin w.2.1 (-7 : Int) (7 : Int)))) || ((w.1 == (0 : Int)) && (w.2.1 == (0 : Int)))) || (!(rulesWithin w.2.2.1 (1 : Int) (7 : Int)))) || (!(rulesWithin w.2.2.2.1 (0 : Int) (2 : Int)))
def pErr (l : List Piece) (i : Nat) : Int := match l[i]? with
  | none => 0
  | some p => bif decide (p.1 < 65) || decide (p.1 > 90) then 6 else bif (l.take i).any (fun q => q.1 == p.1) then 7
    else bif (!(rulesWithin p.2.1 0 64)) || (!(rulesWithin p.2.2.1 0 ((l.length : Nat) : Int))) then 4 else bif decide (((p.2.2.2.1.length : Nat) : Int) > 16) then 2 else bif p.2.2.2.1.any badWay then 4 else 0
theorem in_eq : ref1In = rulesWithin := rfl
theorem take_len {α : Type} (l : List α) {i : Nat} (h : i ≤ l.length) : ((l.take i).drop 0).length = i := by simp; omega
theorem pieces_spec (r : Rules) : rulesPieces r = some (if r.pieces.length = 0 then 8 else if 6 < r.pieces.length then 2 else firstNZ (pErr r.pieces) r.pieces.length) := by
  unfold rulesPieces
  by_cases c0 : r.pieces.length = 0
  · have : (((r.pieces.length : Nat) : Int) == 0) = true := beq_t (by omega)
    rw [this, if_pos c0]
    rfl
  · have : (((r.pieces.length : Nat) : Int) == 0) = false := beq_f (by omega)
    rw [this, if_neg c0, cond_false]
    by_cases c1 : 6 < r.pieces.length
    · have : decide (((r.pieces.length : Nat) : Int) > 6) = true := by simp only [decide_eq_true_eq]; omega
      rw [this, if_pos c1]
      rfl
    · have : decide (((r.pieces.length : Nat) : Int) > 6) = false := by simp only [decide_eq_false_iff_not]; omega
      rw [this, if_neg c1, cond_false]
      rw [loopNZ r.pieces.length (rulesPieces_L1 r) (pErr r.pieces) ((), ()) (some 0) (fun i hi => ?_) (by unfold rulesPieces_L1; simp)]
      · split
        · rename_i h; rw [h]
        · rfl
      · unfold rulesPieces_L1
        have h1 : (i : Int) < (r.pieces.length : Int) := by omega
        have hg : r.pieces[i]? = some r.pieces[i] := List.getElem?_eq_getElem hi
        have hb : boundsI 0 (i : Int) r.pieces.length = true := by unfold boundsI; simp only [Bool.and_eq_true, decide_eq_true_eq]; omega
        simp only [h1, decide_true, cond_true, at?_eq r.pieces (i : Int) (by omega) h1, Option.bind_some, Int.toNat_natCast, hb, req_true, w64_id (n := (i : Int) + 1) (by omega) (by omega)]
        unfold pErr
        rw [hg]
        generalize hp : r.pieces[i] = p
        simp only
        cases hA : (decide (p.1 < 65) || decide (p.1 > 90)) with
        | true => simp
        | false =>
          have hL2 := iterW_any ((r.pieces.take i).drop 0) (fun q => q.1 == p.1) (rulesPieces_L2 r (((i : Int), ()), ()) p) (.inr (.inr (.inr (.inr (7 : Int))))) (.inl ((), ())) (fun j hj => by
            have hj' : j < i := by rw [take_len _ (by omega)] at hj; exact hj
            unfold rulesPieces_L2
            have h2 : (j : Int) < ((((r.pieces.take i).drop 0).length : Nat) : Int) := by omega
            have h3 : (j : Int) ≥ 0 := by omega
            simp only [Int.toNat_natCast, h2, decide_true, cond_true, at?_eq ((r.pieces.take i).drop 0) (j : Int) (by omega) h2, Option.bind_some, h3, w64_id (n := (j : Int) + 1) (by omega) (by omega)]
            rfl) (by unfold rulesPieces_L2; simp)
          rw [hL2]
          simp only [List.drop_zero, cond_false, Option.bind_some]
          cases hB : (r.pieces.take i).any (fun q => q.1 == p.1) with
          | true => simp
          | false =>
            simp only [cond_false, Sum.elim_inl]
            cases hC : ((!(rulesWithin p.2.1 0 64)) || (!(rulesWithin p.2.2.1 0 ((r.pieces.length : Nat) : Int)))) with
            | true => simp
            | false =>
              simp only [cond_false]
              by_cases cD : ((p.2.2.2.1.length : Nat) : Int) > 16
              · simp [cD]
              · have hL4 := iterW_any p.2.2.2.1 badWay (rulesPieces_L4 p) (.inr (.inr (.inr (.inr (4 : Int))))) (.inl ((), ())) (fun j hj => by
                  unfold rulesPieces_L4
                  have h2 : (j : Int) < ((p.2.2.2.1.length : Nat) : Int) := by omega
                  simp only [h2, decide_true, cond_true, at?_eq p.2.2.2.1 (j : Int) (by omega) h2, Option.bind_some, Int.toNat_natCast, w64_id (n := (j : Int) + 1) (by omega) (by omega)]
                  rfl) (by unfold rulesPieces_L4; simp)
                simp only [cD, decide_false, cond_false, hL4, Option.bind_some]
                cases p.2.2.2.1.any badWay <;> simp
theorem piece_ref (l : List Piece) (i : Nat) (hi : i < l.length) (hl : l.length ≤ 1000) (hr : ∀ p ∈ l, Rng tyPiece p) : ref1PieceError l (i : Int) = some (pErr l i) := by
  unfold ref1PieceError pErr
  have h1 : (i : Int) < (l.length : Int) := by omega
  have hg : l[i]? = some l[i] := List.getElem?_eq_getElem hi
  have hrp := hr _ (List.getElem_mem hi)
  have hb : 0 ≤ l[i].1 ∧ l[i].1 ≤ 255 := hrp.1
  rw [hg]
  simp only [at?_eq l (i : Int) (by omega) h1, Option.bind_some, Int.toNat_natCast, w64_id (n := l[i].1) (by omega) (by omega), in_eq]
  generalize l[i] = p at *
  have hA' : (!(rulesWithin p.1 65 90)) = (decide (p.1 < 65) || decide (p.1 > 90)) := by
    unfold rulesWithin
    rw [Bool.eq_iff_iff]
    simp only [Bool.not_eq_true', Bool.and_eq_false_iff, decide_eq_false_iff_not, Bool.or_eq_true, decide_eq_true_eq]
    omega
  rw [hA']
  cases hA : (decide (p.1 < 65) || decide (p.1 > 90)) with
  | true => simp
  | false =>
    have hL1 := iterW_any ((l.take i).drop 0) (fun q => q.1 == p.1) (ref1PieceError_L1 (i : Int) l p) (.inr (7 : Int)) (.inl ((), ())) (fun j hj => by
      have hj' : j < i := by rw [take_len _ (by omega)] at hj; exact hj
      unfold ref1PieceError_L1
      have h2 : (j : Int) < (i : Int) := by omega
      have h3 : (j : Int) < (l.length : Int) := by omega
      simp only [h2, decide_true, cond_true, at?_eq l (j : Int) (by omega) h3, Option.bind_some, Int.toNat_natCast, List.drop_zero, List.getElem_take, w64_id (n := (j : Int) + 1) (by omega) (by omega)]
      rfl) (by
        unfold ref1PieceError_L1
        rw [take_len _ (by omega)]
        simp)
    rw [hL1]
    simp only [List.drop_zero, cond_false, Option.bind_some]
    cases hB : (l.take i).any (fun q => q.1 == p.1) with
    | true => simp
    | false =>
      simp only [cond_false, Sum.elim_inl]
      cases hC : ((!(rulesWithin p.2.1 0 64)) || (!(rulesWithin p.2.2.1 0 ((l.length : Nat) : Int)))) with
      | true => simp
      | false =>
        simp only [cond_false]
        by_cases cD : ((p.2.2.2.1.length : Nat) : Int) > 16
        · simp [cD]
        · have hL4 := iterW_any p.2.2.2.1 badWay (ref1PieceError_L2 p) (.inr (4 : Int)) (.inl ((), ())) (fun j hj => by
            unfold ref1PieceError_L2
            have h2 : (j : Int) < ((p.2.2.2.1.length : Nat) : Int) := by omega
            simp only [h2, decide_true, cond_true, at?_eq p.2.2.2.1 (j : Int) (by omega) h2, Option.bind_some, Int.toNat_natCast, w64_id (n := (j : Int) + 1) (by omega) (by omega), in_eq]
            rfl) (by unfold ref1PieceError_L2; simp)
          simp only [cD, decide_false, cond_false, hL4, Option.bind_some]
          cases p.2.2.2.1.any badWay <;> simp
/-! ### the start, the ends, the rest -/
def sErr (r : Rules) (i : Nat) : Int := bif rulesWithin (r.start.getD i 0) 0 (2 * ((r.pieces.length : Nat) : Int)) then 0 else 4
def eErr (r : Rules) (i : Nat) : Int := match r.ends[i]? with
  | none => 0
  | some x => bif !(rulesWithin x.1 0 2) then 1 else
    bif (!(bif x.1 == 1 then x.2.2.1 == 0 else rulesWithin x.2.2.1 1 64)) || (!(bif x.1 == 0 then x.2.1 == 0 else rulesWithin x.2.1 0 (((r.pieces.length : Nat) : Int) - 1))) then 4 else 0
def lastErr (r : Rules) : Int := bif (((!(rulesWithin r.blocked (0 : Int) (2 : Int))) || (!(rulesWithin r.quiet (0 : Int) (200 : Int)))) || ((r.repeats != (0 : Int)) && (!(rulesWithin r.repeats (2 : Int) (5 : Int))))) then 4 else 0
def endsErr (r : Rules) : Int := if 6 < r.ends.length then 2 else firstNZ (eErr r) r.ends.length
def ruleErr (r : Rules) : Int :=
  if nameOk r.name = false then 6 else
  if ¬ ((1 ≤ r.width ∧ r.width ≤ 8) ∧ 1 ≤ r.height ∧ r.height ≤ 8) then 4 else
  if r.pieces.length = 0 then 8 else if 6 < r.pieces.length then 2 else
  if firstNZ (pErr r.pieces) r.pieces.length ≠ 0 then firstNZ (pErr r.pieces) r.pieces.length else
  if ((r.start.length : Nat) : Int) ≠ r.width * r.height then 3 else
  if firstNZ (sErr r) r.start.length ≠ 0 then firstNZ (sErr r) r.start.length else
  if endsErr r ≠ 0 then endsErr r else lastErr r
theorem within_iff {n a b : Int} : rulesWithin n a b = true ↔ a ≤ n ∧ n ≤ b := by unfold rulesWithin; simp
theorem conditions_spec (r : Rules) (hl : r.pieces.length ≤ 1000) : rulesConditions r = some (endsErr r) := by
  unfold rulesConditions endsErr
  by_cases c : 6 < r.ends.length
  · have : decide (((r.ends.length : Nat) : Int) > 6) = true := by simp only [decide_eq_true_eq]; omega
    rw [this, if_pos c]
    rfl
  · have : decide (((r.ends.length : Nat) : Int) > 6) = false := by simp only [decide_eq_false_iff_not]; omega
    rw [this, if_neg c, cond_false]
    rw [loopNZ r.ends.length (rulesConditions_L1 r) (eErr r) ((), ()) (some 0) (fun i hi => ?_) (by unfold rulesConditions_L1; simp)]
    · split
      · rename_i h; rw [h]
      · rfl
    · unfold rulesConditions_L1 eErr
      have h1 : (i : Int) < (r.ends.length : Int) := by omega
      have hg : r.ends[i]? = some r.ends[i] := List.getElem?_eq_getElem hi
      rw [hg]
      simp only [h1, decide_true, cond_true, at?_eq r.ends (i : Int) (by omega) h1, Option.bind_some, Int.toNat_natCast, w64_id (n := (i : Int) + 1) (by omega) (by omega), w64_id (n := ((r.pieces.length : Nat) : Int) - 1) (by omega) (by omega)]
      generalize r.ends[i] = x
      by_cases k0 : x.1 = 0
      · have : rulesWithin x.1 0 2 = true := within_iff.2 (by omega)
        have k1 : (x.1 == 1) = false := beq_f (by omega)
        simp only [this, beq_t k0, k1, cond_true, cond_false, Option.bind_some, Sum.elim_inl, Bool.not_true]
        cases rulesWithin x.2.2.1 1 64 <;> cases (x.2.1 == 0) <;> simp
      · by_cases k1 : x.1 = 1
        · have : rulesWithin x.1 0 2 = true := within_iff.2 (by omega)
          simp only [this, beq_f k0, beq_t k1, cond_true, cond_false, Option.bind_some, Sum.elim_inl, Bool.not_true]
          cases (x.2.2.1 == 0) <;> cases rulesWithin x.2.1 0 (((r.pieces.length : Nat) : Int) - 1) <;> simp
        · by_cases k2 : x.1 = 2
          · have : rulesWithin x.1 0 2 = true := within_iff.2 (by omega)
            simp only [this, beq_f k0, beq_f k1, beq_t k2, cond_true, cond_false, Option.bind_some, Sum.elim_inl, Bool.not_true]
            cases rulesWithin x.2.2.1 1 64 <;> cases rulesWithin x.2.1 0 (((r.pieces.length : Nat) : Int) - 1) <;> simp
          · have : rulesWithin x.1 0 2 = false := by
              rw [Bool.eq_false_iff]
              intro h
              have := within_iff.1 h
              omega
            simp only [this, beq_f k0, beq_f k1, beq_f k2, cond_true, cond_false, Option.bind_some, Sum.elim_inr, Bool.not_false]
            rfl
theorem check_spec (r : Rules) (hr : Rng tyRules r) : rulesCheck r = some (ruleErr r) := by
  have hname : r.name.size ≤ 9223372036854775807 := Nat.le_trans hr.1 (by decide)
  have hstart : r.start.length ≤ 9223372036854775807 := Nat.le_trans hr.2.2.2.2.1.1 (by decide)
  have hP : r.2.2.2.1.length = r.pieces.length := rfl
  have hW : r.2.1 * r.2.2.1 = r.width * r.height := rfl
  have hE : r.2.2.2.2.2.2.2.1.length = r.ends.length := rfl
  unfold rulesCheck ruleErr
  rw [name_spec r.name hname, pieces_spec r]
  simp only [Option.bind_some]
  cases nameOk r.name with
  | false => rfl
  | true =>
    simp only [Bool.not_true, cond_false, Bool.true_eq_false, if_false]
    by_cases cw : (1 ≤ r.width ∧ r.width ≤ 8) ∧ 1 ≤ r.height ∧ r.height ≤ 8
    · have e1 : ((!(rulesWithin r.2.1 1 8)) || (!(rulesWithin r.2.2.1 1 8))) = false := by
        rw [within_iff.2 cw.1, within_iff.2 cw.2]
        rfl
      have e2 : ¬ ¬ ((1 ≤ r.width ∧ r.width ≤ 8) ∧ 1 ≤ r.height ∧ r.height ≤ 8) := fun h => h cw
      simp only [e1, if_neg e2, cond_false]
      by_cases c0 : r.pieces.length = 0
      · simp only [if_pos c0]
        rfl
      · by_cases c6 : 6 < r.pieces.length
        · simp only [if_neg c0, if_pos c6]
          rfl
        · simp only [if_neg c0, if_neg c6]
          by_cases cp : firstNZ (pErr r.pieces) r.pieces.length = 0
          · have hwh : w64 (r.2.1 * r.2.2.1) = r.width * r.height := by
              have h1 : r.width * r.height ≤ 8 * 8 := Int.mul_le_mul cw.1.2 cw.2.2 (by omega) (by omega)
              have h2 : 0 ≤ r.width * r.height := Int.mul_nonneg (by omega) (by omega)
              exact w64_id (by omega) (by omega)
            rw [cp, if_neg (fun h => h rfl), hwh]
            simp only [bne_self_eq_false, cond_false]
            by_cases cs : ((r.start.length : Nat) : Int) = r.width * r.height
            · rw [bne_f cs, if_neg (fun h => h cs), cond_false]
              rw [loopNZ r.start.length (rulesCheck_L1 r) (sErr r) ((), ()) _ (fun i hi => ?_) (by unfold rulesCheck_L1; simp)]
              · rw [conditions_spec r (by omega)]
                by_cases cse : firstNZ (sErr r) r.start.length = 0
                · rw [if_pos cse, if_neg (fun h => h cse)]
                  simp only [Option.bind_some]
                  by_cases ce : endsErr r = 0
                  · rw [ce, if_neg (fun h => h rfl)]
                    simp only [bne_self_eq_false, cond_false]
                    unfold lastErr
                    exact cond_some _ _ _
                  · rw [if_pos ce, bne_t ce]
                    rfl
                · rw [if_neg cse, if_pos cse]
              · unfold rulesCheck_L1 sErr
                have h1 : (i : Int) < (r.start.length : Int) := by omega
                have h3 : (i : Int) ≥ 0 := by omega
                have hgd : r.start.getD i 0 = r.start[i] := by simp [List.getD_eq_getElem?_getD, List.getElem?_eq_getElem hi]
                simp only [h1, decide_true, cond_true, at?_eq r.start (i : Int) (by omega) h1, Option.bind_some, Int.toNat_natCast, h3, w64_id (n := (i : Int) + 1) (by omega) (by omega), w64_id (n := 2 * ((r.pieces.length : Nat) : Int)) (by omega) (by omega), hgd]
                cases rulesWithin r.start[i] 0 (2 * ((r.pieces.length : Nat) : Int)) <;> simp
            · rw [bne_t cs, if_pos cs]
              rfl
          · rw [bne_t cp, if_pos cp]
            rfl
    · have e1 : ((!(rulesWithin r.2.1 1 8)) || (!(rulesWithin r.2.2.1 1 8))) = true := by
        rw [Bool.or_eq_true, Bool.not_eq_true', Bool.not_eq_true']
        by_cases k : rulesWithin r.2.1 1 8 = true
        · right
          rw [Bool.eq_false_iff]
          intro k2
          exact cw ⟨within_iff.1 k, within_iff.1 k2⟩
        · left
          exact Bool.eq_false_iff.2 k
      rw [e1, if_pos cw]
      rfl
theorem error_spec (r : Rules) (hr : Rng tyRules r) : ref1RulesError r = some (ruleErr r) := by
  have hname : r.name.size ≤ 9223372036854775807 := Nat.le_trans hr.1 (by decide)
  have hstart : r.start.length ≤ 9223372036854775807 := Nat.le_trans hr.2.2.2.2.1.1 (by decide)
  have hpcs : ∀ p ∈ r.pieces, Rng tyPiece p := hr.2.2.2.1.2
  have hP : r.2.2.2.1.length = r.pieces.length := rfl
  have hW : r.2.1 * r.2.2.1 = r.width * r.height := rfl
  have hE : r.2.2.2.2.2.2.2.1.length = r.ends.length := rfl
  unfold ref1RulesError ruleErr
  rw [named_spec r.name hname]
  simp only [Option.bind_some, in_eq]
  cases nameOk r.name with
  | false => rfl
  | true =>
    simp only [Bool.not_true, cond_false, Bool.true_eq_false, if_false]
    by_cases cw : (1 ≤ r.width ∧ r.width ≤ 8) ∧ 1 ≤ r.height ∧ r.height ≤ 8
    · have e1 : ((!(rulesWithin r.2.1 1 8)) || (!(rulesWithin r.2.2.1 1 8))) = false := by
        rw [within_iff.2 cw.1, within_iff.2 cw.2]
        rfl
      have e2 : ¬ ¬ ((1 ≤ r.width ∧ r.width ≤ 8) ∧ 1 ≤ r.height ∧ r.height ≤ 8) := fun h => h cw
      simp only [e1, if_neg e2, cond_false]
      by_cases c0 : r.pieces.length = 0
      · have k1 : (((r.2.2.2.1.length : Nat) : Int) == 0) = true := beq_t (by omega)
        rw [k1, if_pos c0]
        rfl
      · by_cases c6 : 6 < r.pieces.length
        · have k1 : (((r.2.2.2.1.length : Nat) : Int) == 0) = false := beq_f (by omega)
          have k2 : decide (((r.2.2.2.1.length : Nat) : Int) > 6) = true := by simp only [decide_eq_true_eq]; omega
          rw [k1, k2, if_neg c0, if_pos c6]
          rfl
        · have k1 : (((r.2.2.2.1.length : Nat) : Int) == 0) = false := beq_f (by omega)
          have k2 : decide (((r.2.2.2.1.length : Nat) : Int) > 6) = false := by simp only [decide_eq_false_iff_not]; omega
          rw [k1, k2, if_neg c0, if_neg c6, cond_false, cond_false]
          rw [loopNZ r.pieces.length (ref1RulesError_L1 r) (pErr r.pieces) ((), ()) _ (fun i hi => ?_) (by unfold ref1RulesError_L1; simp)]
          · by_cases cp : firstNZ (pErr r.pieces) r.pieces.length = 0
            · have hwh : w64 (r.2.1 * r.2.2.1) = r.width * r.height := by
                have h1 : r.width * r.height ≤ 8 * 8 := Int.mul_le_mul cw.1.2 cw.2.2 (by omega) (by omega)
                have h2 : 0 ≤ r.width * r.height := Int.mul_nonneg (by omega) (by omega)
                exact w64_id (by omega) (by omega)
              rw [if_pos cp, if_neg (fun h => h cp), hwh]
              by_cases cs : ((r.start.length : Nat) : Int) = r.width * r.height
              · rw [bne_f cs, if_neg (fun h => h cs), cond_false]
                rw [loopNZ r.start.length (ref1RulesError_L2 r) (sErr r) ((), ()) _ (fun i hi => ?_) (by unfold ref1RulesError_L2; simp)]
                · by_cases cse : firstNZ (sErr r) r.start.length = 0
                  · rw [if_pos cse, if_neg (fun h => h cse)]
                    unfold endsErr
                    by_cases ce : 6 < r.ends.length
                    · have k3 : decide (((r.2.2.2.2.2.2.2.1.length : Nat) : Int) > 6) = true := by simp only [decide_eq_true_eq]; omega
                      rw [k3, if_pos ce]
                      rfl
                    · have k3 : decide (((r.2.2.2.2.2.2.2.1.length : Nat) : Int) > 6) = false := by simp only [decide_eq_false_iff_not]; omega
                      rw [k3, if_neg ce, cond_false]
                      rw [loopNZ r.ends.length (ref1RulesError_L3 r) (eErr r) ((), ()) _ (fun i hi => ?_) (by unfold ref1RulesError_L3; simp)]
                      · by_cases cz : firstNZ (eErr r) r.ends.length = 0
                        · rw [if_pos cz, if_neg (fun h => h cz)]
                          unfold lastErr
                          exact cond_some _ _ _
                        · rw [if_neg cz, if_pos cz]
                      · unfold ref1RulesError_L3 eErr
                        have h1 : (i : Int) < (r.ends.length : Int) := by omega
                        have hg : r.ends[i]? = some r.ends[i] := List.getElem?_eq_getElem hi
                        rw [hg]
                        simp only [h1, decide_true, cond_true, at?_eq r.ends (i : Int) (by omega) h1, Option.bind_some, Int.toNat_natCast, in_eq, w64_id (n := (i : Int) + 1) (by omega) (by omega), w64_id (n := ((r.pieces.length : Nat) : Int) - 1) (by omega) (by omega), cond_some]
                        generalize r.ends[i] = x
                        cases rulesWithin x.1 0 2 with
                        | false => rfl
                        | true =>
                          simp only [Bool.not_true, cond_false]
                          cases (x.1 == 1) <;> cases (x.1 == 0) <;> cases (x.2.2.1 == 0) <;> cases (x.2.1 == 0) <;> cases rulesWithin x.2.2.1 1 64 <;> cases rulesWithin x.2.1 0 (((r.pieces.length : Nat) : Int) - 1) <;> rfl
                  · rw [if_neg cse, if_pos cse]
                · unfold ref1RulesError_L2 sErr
                  have h1 : (i : Int) < (r.start.length : Int) := by omega
                  have hgd : r.start.getD i 0 = r.start[i] := by simp [List.getD_eq_getElem?_getD, List.getElem?_eq_getElem hi]
                  simp only [h1, decide_true, cond_true, at?_eq r.start (i : Int) (by omega) h1, Option.bind_some, Int.toNat_natCast, in_eq, w64_id (n := (i : Int) + 1) (by omega) (by omega), w64_id (n := 2 * ((r.pieces.length : Nat) : Int)) (by omega) (by omega), hgd]
                  cases rulesWithin r.start[i] 0 (2 * ((r.pieces.length : Nat) : Int)) <;> simp
              · rw [bne_t cs, if_pos cs]
                rfl
            · rw [if_neg cp, if_pos cp]
          · unfold ref1RulesError_L1
            have h1 : (i : Int) < (r.pieces.length : Int) := by omega
            simp only [h1, decide_true, cond_true, piece_ref r.pieces i hi (by omega) hpcs, Option.bind_some, w64_id (n := (i : Int) + 1) (by omega) (by omega)]
            by_cases ce : pErr r.pieces i = 0
            · simp [ce]
            · simp [ce, bne_t ce]
    · have e1 : ((!(rulesWithin r.2.1 1 8)) || (!(rulesWithin r.2.2.1 1 8))) = true := by
        rw [Bool.or_eq_true, Bool.not_eq_true', Bool.not_eq_true']
        by_cases k : rulesWithin r.2.1 1 8 = true
        · right
          rw [Bool.eq_false_iff]
          intro k2
          exact cw ⟨within_iff.1 k, within_iff.1 k2⟩
        · left
          exact Bool.eq_false_iff.2 k
      rw [e1, if_pos cw]
      rfl
end Go.Proofs.Ytocnfflklfeocaa
