/- Several texts in one: RulesCore, DenL, CoreV, CoreM, CoreP, CoreN, CoreO, CoreR, CoreS2, CoreA, CoreB, GameP, CoreT, GameQ, GameT, MatchA, MatchB, JoinT. -/
import Derived.Test.YtijkabgijfdpfaaGreatDoorMAE
import Derived.Test.YtijkabgijfdpfaaGreatDoorMAD
import Derived.Laws.Strings
import Derived.Lib.IndexLaws
import Derived.Lib.IndexBytes
import Derived.Lib.CountLaws
namespace Go.Proofs.YtijkabgijfdpfaaGreatDoor
open Go.Den
set_option linter.unusedVariables false
set_option linter.unusedSimpArgs false
set_option maxRecDepth 100000

abbrev Way := Int × Int × Int × Int × Unit
abbrev Piece := Int × Int × Int × (List Way) × Unit
abbrev End := Int × Int × Int × Bool × Unit
abbrev Rules := ByteArray × Int × Int × (List Piece) × (List Int) × Bool × Bool × (List End) × Int × Int × Int × Unit
abbrev Rules.name (r : Rules) : ByteArray := r.1
abbrev Rules.width (r : Rules) : Int := r.2.1
abbrev Rules.height (r : Rules) : Int := r.2.2.1
abbrev Rules.pieces (r : Rules) : List Piece := r.2.2.2.1
abbrev Rules.start (r : Rules) : List Int := r.2.2.2.2.1
abbrev Rules.falls (r : Rules) : Bool := r.2.2.2.2.2.1
abbrev Rules.keeps (r : Rules) : Bool := r.2.2.2.2.2.2.1
abbrev Rules.ends (r : Rules) : List End := r.2.2.2.2.2.2.2.1
abbrev Rules.blocked (r : Rules) : Int := r.2.2.2.2.2.2.2.2.1
abbrev Rules.quiet (r : Rules) : Int := r.2.2.2.2.2.2.2.2.2.1
abbrev Rules.repeats (r : Rules) : Int := r.2.2.2.2.2.2.2.2.2.2.1
abbrev tyWay : Ty := .st (.int .i64) (.st (.int .i64) (.st (.int .i64) (.st (.int .i64) .nil)))
abbrev tyPiece : Ty := .st (.int .u8) (.st (.int .i64) (.st (.int .i64) (.st (.sl tyWay) .nil)))
abbrev tyEnd : Ty := .st (.int .i64) (.st (.int .i64) (.st (.int .i64) (.st .bool .nil)))
abbrev qal : Ty := .st .str (.st (.int .i64) (.st (.int .i64) (.st (.sl tyPiece) (.st (.sl (.int .i64)) (.st .bool (.st .bool (.st (.sl tyEnd) (.st (.int .i64) (.st (.int .i64) (.st (.int .i64) .nil))))))))))

def nz (x : Int) : Option Int := if x = 0 then none else some x
def qec (f : Nat → Int) (n : Nat) : Int := scan (fun i => nz (f i)) 0 0 n
theorem qe9 {f : Nat → Int} {n : Nat} (h : qec f n = 0) : ∀ i, i < n → f i = 0 := by
  have key : ∀ (k i : Nat), scan (fun i => nz (f i)) 0 i k = 0 → ∀ j, i ≤ j → j < i + k → f j = 0 := by
    intro k
    induction k with
    | zero => intro i _ j h1 h2; omega
    | succ k ih =>
      intro i hs j h1 h2; unfold scan at hs; by_cases c : f i = 0
      · simp only [nz, if_pos c] at hs; rcases Nat.eq_or_lt_of_le h1 with e | e
        · rw [← e]; exact c
        · exact ih (i + 1) hs j e (by omega)
      · simp only [nz, if_neg c] at hs; exact absurd hs c
  exact fun i hi => key n 0 h i (Nat.zero_le _) (by omega)
theorem qwb {γ : Type} (n : Nat) (f : ((Int × Unit) × Unit) → Option (((Int × Unit) × Unit) ⊕ (γ ⊕ Int))) (err : Nat → Int) (u : γ) (z : Option Int)
    (h1 : ∀ i, i < n → f (((i : Int), ()), ()) = if err i = 0 then some (.inl ((((i + 1 : Nat) : Int), ()), ())) else some (.inr (.inr (err i)))) (h2 : f (((n : Int), ()), ()) = some (.inr (.inl u))) :
    Option.bind (iterW f ((0, ()), ())) (Sum.elim (fun _ => z) some) = if qec err n = 0 then z else some (qec err n) := by
  have key : ∀ k i, i + k = n → Option.bind (iterW f (((i : Int), ()), ())) (Sum.elim (fun _ => z) some) = if scan (fun i => nz (err i)) 0 i k = 0 then z else some (scan (fun i => nz (err i)) 0 i k) := by
    intro k
    induction k with
    | zero =>
      intro i hi
      have : i = n := by omega
      subst this; rw [qk h2]; rfl
    | succ k ih =>
      intro i hi; have hs := h1 i (by omega); unfold scan; by_cases c : err i = 0
      · rw [if_pos c] at hs; rw [qm hs, ih (i + 1) (by omega)]
        have : nz (err i) = none := by simp only [nz, if_pos c]
        rw [this]
      · rw [if_neg c] at hs; rw [qk hs]
        have : nz (err i) = some (err i) := by simp only [nz, if_neg c]
        simp only [this, if_neg c]; rfl
  exact key n 0 (by omega)
def ch (s : ByteArray) (i : Nat) : Nat := ((s[i]?).getD 0).toNat
theorem strAt_eq (s : ByteArray) (i : Nat) (h : i < s.size) : ∃ c : UInt8, strAt s (i : Int) = some c ∧ c.toNat = ch s i := by
  refine ⟨(s[i]?).getD 0, ?_, rfl⟩
  have h0 : decide ((0 : Int) ≤ (i : Int)) = true := by simp
  have : s[i]? = some s[i] := getElem?_pos s i h; unfold strAt; rw [h0, cond_true, Int.toNat_natCast, this]; rfl
theorem ch_lt (s : ByteArray) (i : Nat) : ch s i < 256 := UInt8.toNat_lt _
def qoQ (s : ByteArray) (i : Nat) : Bool := !(decide (65 ≤ ch s i ∧ ch s i ≤ 90) || decide (i ≠ 0 ∧ 48 ≤ ch s i ∧ ch s i ≤ 57))
def qvp (s : ByteArray) : Bool := !((List.range s.size).any (qoQ s)) && decide (1 ≤ s.size ∧ s.size ≤ 8)
theorem empty_iff (s : ByteArray) : (s.toList == (ByteArray.mk #[]).toList) = decide (s.size = 0) := by
  rw [ByteArray.toList_eq, ByteArray.toList_eq]; obtain ⟨⟨l⟩⟩ := s; rw [Bool.eq_iff_iff, beq_iff_eq, decide_eq_true_eq]; exact List.length_eq_zero_iff.symm
theorem name_spec (s : ByteArray) (hs : s.size ≤ 9223372036854775807) : qkV s = some (qvp s) := by
  unfold qkV qvp
  have hL := qam (List.range s.size) (qoQ s) (qft s) (.inr false) (.inl ((), ())) (fun i hi => by
    have hi' : i < s.size := by simpa using hi
    obtain ⟨c, h1, h2⟩ := strAt_eq s i hi'; have hlt := ch_lt s i; unfold qft
    have h3 : (i : Int) < (s.size : Int) := by omega
    have hg : ∀ b, gopt b 0 (some c) = some (bif b then c else 0) := fun b => by cases b <;> rfl
    simp only [h3, decide_true, cond_true, h1, Option.bind_some, hg, List.getElem_range, qf (n := (i : Int) + 1) (by omega) (by omega)]
    have hb : qoQ s i = !(decide (65 ≤ c.toNat ∧ c.toNat ≤ 90) || decide (i ≠ 0 ∧ 48 ≤ c.toNat ∧ c.toNat ≤ 57)) := by unfold qoQ; rw [h2]
    rw [hb]; generalize hn : c.toNat = n at *
    have e0 : ((i : Int) == 0) = decide (i = 0) := by rw [Bool.eq_iff_iff]; simp
    rw [e0]; by_cases c1 : 65 ≤ n
    · have a1 : decide ((n : Int) ≥ 65) = true := by simp only [decide_eq_true_eq]; omega
      simp only [a1, cond_true, Bool.true_and, hn]; by_cases c2 : n ≤ 90
      · have a2 : decide ((n : Int) ≤ 90) = true := by simp only [decide_eq_true_eq]; omega
        simp [a2, c1, c2]
      · have a2 : decide ((n : Int) ≤ 90) = false := by simp only [decide_eq_false_iff_not]; omega
        have a3 : decide ((n : Int) < 48) = false := by simp only [decide_eq_false_iff_not]; omega
        have a4 : decide ((n : Int) > 57) = true := by simp only [decide_eq_true_eq]; omega
        have a5 : ¬ n ≤ 57 := by omega
        by_cases c3 : i = 0
        · simp [a2, c1, c2, c3]
        · simp [a2, a3, a4, a5, c1, c2, c3, hn]
    · have a1 : decide ((n : Int) ≥ 65) = false := by simp only [decide_eq_false_iff_not]; omega
      by_cases c3 : i = 0
      · simp [a1, c1, c3]
      · by_cases c4 : 48 ≤ n
        · have a3 : decide ((n : Int) < 48) = false := by simp only [decide_eq_false_iff_not]; omega
          by_cases c5 : n ≤ 57
          · have a4 : decide ((n : Int) > 57) = false := by simp only [decide_eq_false_iff_not]; omega
            simp [a1, a3, a4, c1, c3, c4, c5, hn]
          · have a4 : decide ((n : Int) > 57) = true := by simp only [decide_eq_true_eq]; omega
            simp [a1, a3, a4, c1, c3, c4, c5, hn]
        · have a3 : decide ((n : Int) < 48) = true := by simp only [decide_eq_true_eq]; omega
          simp [a1, a3, c1, c3, c4, hn]) (by unfold qft; simp)
  rw [hL, empty_iff]
  cases (List.range s.size).any (qoQ s) with
  | true => rfl
  | false =>
    simp only [cond_false, Option.bind_some, Sum.elim_inl, Bool.not_false, Bool.true_and, Option.some.injEq]; rw [Bool.eq_iff_iff]; simp only [Bool.and_eq_true, Bool.not_eq_true', decide_eq_false_iff_not, decide_eq_true_eq]; omega
def qqt (w : Way) : Bool := ((((!(qd w.1 (-7 : Int) (7 : Int))) || (!(qd w.2.1 (-7 : Int) (7 : Int)))) || ((w.1 == (0 : Int)) && (w.2.1 == (0 : Int)))) || (!(qd w.2.2.1 (1 : Int) (7 : Int)))) || (!(qd w.2.2.2.1 (0 : Int) (2 : Int)))
def pErr (l : List Piece) (i : Nat) : Int := match l[i]? with
  | none => 0
  | some p => bif decide (p.1 < 65) || decide (p.1 > 90) then 6 else bif (l.take i).any (fun q => q.1 == p.1) then 7
    else bif (!(qd p.2.1 0 64)) || (!(qd p.2.2.1 0 ((l.length : Nat) : Int))) then 4 else bif decide (((p.2.2.2.1.length : Nat) : Int) > 16) then 2 else bif p.2.2.2.1.any qqt then 4 else 0
theorem take_len {α : Type} (l : List α) {i : Nat} (h : i ≤ l.length) : ((l.take i).drop 0).length = i := by simp; omega
theorem quw (r : Rules) : qgH r = some (if r.pieces.length = 0 then 8 else if 6 < r.pieces.length then 2 else qec (pErr r.pieces) r.pieces.length) := by
  unfold qgH; by_cases c0 : r.pieces.length = 0
  · have : (((r.pieces.length : Nat) : Int) == 0) = true := beq_t (by omega); rw [this, if_pos c0]; rfl
  · have : (((r.pieces.length : Nat) : Int) == 0) = false := beq_f (by omega); rw [this, if_neg c0, cond_false]; by_cases c1 : 6 < r.pieces.length
    · have : decide (((r.pieces.length : Nat) : Int) > 6) = true := by simp only [decide_eq_true_eq]; omega
      rw [this, if_pos c1]; rfl
    · have : decide (((r.pieces.length : Nat) : Int) > 6) = false := by simp only [decide_eq_false_iff_not]; omega
      rw [this, if_neg c1, cond_false]; rw [qwb r.pieces.length (qdN r) (pErr r.pieces) ((), ()) (some 0) (fun i hi => ?_) (by unfold qdN; simp)]
      · split
        · rename_i h; rw [h]
        · rfl
      · unfold qdN
        have h1 : (i : Int) < (r.pieces.length : Int) := by omega
        have hg : r.pieces[i]? = some r.pieces[i] := List.getElem?_eq_getElem hi
        have hb : qt 0 (i : Int) r.pieces.length = true := by unfold qt; simp only [Bool.and_eq_true, decide_eq_true_eq]; omega
        simp only [h1, decide_true, cond_true, at?_eq r.pieces (i : Int) (by omega) h1, Option.bind_some, Int.toNat_natCast, hb, qb, qf (n := (i : Int) + 1) (by omega) (by omega)]; unfold pErr; rw [hg]; generalize hp : r.pieces[i] = p; simp only
        cases hA : (decide (p.1 < 65) || decide (p.1 > 90)) with
        | true => simp
        | false =>
          have hL2 := qam ((r.pieces.take i).drop 0) (fun q => q.1 == p.1) (qdF r (((i : Int), ()), ()) p) (.inr (.inr (.inr (.inr (7 : Int))))) (.inl ((), ())) (fun j hj => by
            have hj' : j < i := by rw [take_len _ (by omega)] at hj; exact hj
            unfold qdF
            have h2 : (j : Int) < ((((r.pieces.take i).drop 0).length : Nat) : Int) := by omega
            have h3 : (j : Int) ≥ 0 := by omega
            simp only [Int.toNat_natCast, h2, decide_true, cond_true, at?_eq ((r.pieces.take i).drop 0) (j : Int) (by omega) h2, Option.bind_some, h3, qf (n := (j : Int) + 1) (by omega) (by omega)]
            rfl) (by unfold qdF; simp)
          rw [hL2]; simp only [List.drop_zero, cond_false, Option.bind_some]
          cases hB : (r.pieces.take i).any (fun q => q.1 == p.1) with
          | true => simp
          | false =>
            simp only [cond_false, Sum.elim_inl]
            cases hC : ((!(qd p.2.1 0 64)) || (!(qd p.2.2.1 0 ((r.pieces.length : Nat) : Int)))) with
            | true => simp
            | false =>
              simp only [cond_false]; by_cases cD : ((p.2.2.2.1.length : Nat) : Int) > 16
              · simp [cD]
              · have hL4 := qam p.2.2.2.1 qqt (qdL p) (.inr (.inr (.inr (.inr (4 : Int))))) (.inl ((), ())) (fun j hj => by
                  unfold qdL
                  have h2 : (j : Int) < ((p.2.2.2.1.length : Nat) : Int) := by omega
                  simp only [h2, decide_true, cond_true, at?_eq p.2.2.2.1 (j : Int) (by omega) h2, Option.bind_some, Int.toNat_natCast, qf (n := (j : Int) + 1) (by omega) (by omega)]
                  rfl) (by unfold qdL; simp)
                simp only [cD, decide_false, cond_false, hL4, Option.bind_some]
                cases p.2.2.2.1.any qqt <;> simp
def sErr (r : Rules) (i : Nat) : Int := bif qd (r.start.getD i 0) 0 (2 * ((r.pieces.length : Nat) : Int)) then 0 else 4
def eErr (r : Rules) (i : Nat) : Int := match r.ends[i]? with
  | none => 0
  | some x => bif !(qd x.1 0 2) then 1 else
    bif (!(bif x.1 == 1 then x.2.2.1 == 0 else qd x.2.2.1 1 64)) || (!(bif x.1 == 0 then x.2.1 == 0 else qd x.2.1 0 (((r.pieces.length : Nat) : Int) - 1))) then 4 else 0
def qvb (r : Rules) : Int := bif (((!(qd r.blocked (0 : Int) (2 : Int))) || (!(qd r.quiet (0 : Int) (200 : Int)))) || ((r.repeats != (0 : Int)) && (!(qd r.repeats (2 : Int) (5 : Int))))) then 4 else 0
def qmW (r : Rules) : Int := if 6 < r.ends.length then 2 else qec (eErr r) r.ends.length
def qad (r : Rules) : Int :=
  if qvp r.name = false then 6 else
  if ¬ ((1 ≤ r.width ∧ r.width ≤ 8) ∧ 1 ≤ r.height ∧ r.height ≤ 8) then 4 else
  if r.pieces.length = 0 then 8 else if 6 < r.pieces.length then 2 else
  if qec (pErr r.pieces) r.pieces.length ≠ 0 then qec (pErr r.pieces) r.pieces.length else
  if ((r.start.length : Nat) : Int) ≠ r.width * r.height then 3 else
  if qec (sErr r) r.start.length ≠ 0 then qec (sErr r) r.start.length else
  if qmW r ≠ 0 then qmW r else qvb r
theorem within_iff {n a b : Int} : qd n a b = true ↔ a ≤ n ∧ n ≤ b := by unfold qd; simp
theorem qpi (r : Rules) (hl : r.pieces.length ≤ 1000) : qbV r = some (qmW r) := by
  unfold qbV qmW; by_cases c : 6 < r.ends.length
  · have : decide (((r.ends.length : Nat) : Int) > 6) = true := by simp only [decide_eq_true_eq]; omega
    rw [this, if_pos c]; rfl
  · have : decide (((r.ends.length : Nat) : Int) > 6) = false := by simp only [decide_eq_false_iff_not]; omega
    rw [this, if_neg c, cond_false]; rw [qwb r.ends.length (qbE r) (eErr r) ((), ()) (some 0) (fun i hi => ?_) (by unfold qbE; simp)]
    · split
      · rename_i h; rw [h]
      · rfl
    · unfold qbE eErr
      have h1 : (i : Int) < (r.ends.length : Int) := by omega
      have hg : r.ends[i]? = some r.ends[i] := List.getElem?_eq_getElem hi; rw [hg]; simp only [h1, decide_true, cond_true, at?_eq r.ends (i : Int) (by omega) h1, Option.bind_some, Int.toNat_natCast, qf (n := (i : Int) + 1) (by omega) (by omega), qf (n := ((r.pieces.length : Nat) : Int) - 1) (by omega) (by omega)]; generalize r.ends[i] = x; by_cases k0 : x.1 = 0
      · have : qd x.1 0 2 = true := within_iff.2 (by omega); have k1 : (x.1 == 1) = false := beq_f (by omega); simp only [this, beq_t k0, k1, cond_true, cond_false, Option.bind_some, Sum.elim_inl, Bool.not_true]
        cases qd x.2.2.1 1 64 <;> cases (x.2.1 == 0) <;> simp
      · by_cases k1 : x.1 = 1
        · have : qd x.1 0 2 = true := within_iff.2 (by omega); simp only [this, beq_f k0, beq_t k1, cond_true, cond_false, Option.bind_some, Sum.elim_inl, Bool.not_true]
          cases (x.2.2.1 == 0) <;> cases qd x.2.1 0 (((r.pieces.length : Nat) : Int) - 1) <;> simp
        · by_cases k2 : x.1 = 2
          · have : qd x.1 0 2 = true := within_iff.2 (by omega); simp only [this, beq_f k0, beq_f k1, beq_t k2, cond_true, cond_false, Option.bind_some, Sum.elim_inl, Bool.not_true]
            cases qd x.2.2.1 1 64 <;> cases qd x.2.1 0 (((r.pieces.length : Nat) : Int) - 1) <;> simp
          · have : qd x.1 0 2 = false := by
              rw [Bool.eq_false_iff]; intro h; have := within_iff.1 h; omega
            simp only [this, beq_f k0, beq_f k1, beq_f k2, cond_true, cond_false, Option.bind_some, Sum.elim_inr, Bool.not_false]; rfl
theorem qqT (r : Rules) (hr : Rng qal r) : qgv r = some (qad r) := by
  have hname : r.name.size ≤ 9223372036854775807 := Nat.le_trans hr.1 (by decide); have hstart : r.start.length ≤ 9223372036854775807 := Nat.le_trans hr.2.2.2.2.1.1 (by decide); have hP : r.2.2.2.1.length = r.pieces.length := rfl; have hW : r.2.1 * r.2.2.1 = r.width * r.height := rfl; have hE : r.2.2.2.2.2.2.2.1.length = r.ends.length := rfl; unfold qgv qad; rw [name_spec r.name hname, quw r]; simp only [Option.bind_some]
  cases qvp r.name with
  | false => rfl
  | true =>
    simp only [Bool.not_true, cond_false, Bool.true_eq_false, if_false]; by_cases cw : (1 ≤ r.width ∧ r.width ≤ 8) ∧ 1 ≤ r.height ∧ r.height ≤ 8
    · have e1 : ((!(qd r.2.1 1 8)) || (!(qd r.2.2.1 1 8))) = false := by
        rw [within_iff.2 cw.1, within_iff.2 cw.2]; rfl
      have e2 : ¬ ¬ ((1 ≤ r.width ∧ r.width ≤ 8) ∧ 1 ≤ r.height ∧ r.height ≤ 8) := fun h => h cw; simp only [e1, if_neg e2, cond_false]; by_cases c0 : r.pieces.length = 0
      · simp only [if_pos c0]; rfl
      · by_cases c6 : 6 < r.pieces.length
        · simp only [if_neg c0, if_pos c6]; rfl
        · simp only [if_neg c0, if_neg c6]; by_cases cp : qec (pErr r.pieces) r.pieces.length = 0
          · have hwh : w64 (r.2.1 * r.2.2.1) = r.width * r.height := by
              have h1 : r.width * r.height ≤ 8 * 8 := Int.mul_le_mul cw.1.2 cw.2.2 (by omega) (by omega); have h2 : 0 ≤ r.width * r.height := Int.mul_nonneg (by omega) (by omega); exact qf (by omega) (by omega)
            rw [cp, if_neg (fun h => h rfl), hwh]; simp only [bne_self_eq_false, cond_false]; by_cases cs : ((r.start.length : Nat) : Int) = r.width * r.height
            · rw [bne_f cs, if_neg (fun h => h cs), cond_false]; rw [qwb r.start.length (qet r) (sErr r) ((), ()) _ (fun i hi => ?_) (by unfold qet; simp)]
              · rw [qpi r (by omega)]; by_cases cse : qec (sErr r) r.start.length = 0
                · rw [if_pos cse, if_neg (fun h => h cse)]; simp only [Option.bind_some]; by_cases ce : qmW r = 0
                  · rw [ce, if_neg (fun h => h rfl)]; simp only [bne_self_eq_false, cond_false]; unfold qvb; exact qaD _ _ _
                  · rw [if_pos ce, bne_t ce]; rfl
                · rw [if_neg cse, if_pos cse]
              · unfold qet sErr
                have h1 : (i : Int) < (r.start.length : Int) := by omega
                have h3 : (i : Int) ≥ 0 := by omega
                have hgd : r.start.getD i 0 = r.start[i] := by simp [List.getD_eq_getElem?_getD, List.getElem?_eq_getElem hi]
                simp only [h1, decide_true, cond_true, at?_eq r.start (i : Int) (by omega) h1, Option.bind_some, Int.toNat_natCast, h3, qf (n := (i : Int) + 1) (by omega) (by omega), qf (n := 2 * ((r.pieces.length : Nat) : Int)) (by omega) (by omega), hgd]
                cases qd r.start[i] 0 (2 * ((r.pieces.length : Nat) : Int)) <;> simp
            · rw [bne_t cs, if_pos cs]; rfl
          · rw [bne_t cp, if_pos cp]; rfl
    · have e1 : ((!(qd r.2.1 1 8)) || (!(qd r.2.2.1 1 8))) = true := by
        rw [Bool.or_eq_true, Bool.not_eq_true', Bool.not_eq_true']; by_cases k : qd r.2.1 1 8 = true
        · right; rw [Bool.eq_false_iff]; intro k2; exact cw ⟨within_iff.1 k, within_iff.1 k2⟩
        · left; exact Bool.eq_false_iff.2 k
      rw [e1, if_pos cw]; rfl
end Go.Proofs.YtijkabgijfdpfaaGreatDoor
namespace Go.Den
set_option linter.unusedVariables false
set_option linter.unusedSimpArgs false

def foldN {A : Type} (g : Nat → A → A) : Nat → A → A
  | 0, a => a
  | n + 1, a => g n (foldN g n a)
theorem qtC {A R : Type} (n : Nat) (f : ((A × Int × Unit) × Unit) → Option (((A × Int × Unit) × Unit) ⊕ R)) (g : Nat → A → A) (fin : A → R) (I : Nat → A → Prop) (a0 : A) (h0 : I 0 a0)
    (hs : ∀ i, i < n → ∀ a, I i a → f ((a, (i : Int), ()), ()) = some (.inl ((g i a, ((i : Int) + 1), ()), ())) ∧ I (i + 1) (g i a)) (he : ∀ a, I n a → f ((a, (n : Int), ()), ()) = some (.inr (fin a))) :
    iterW f ((a0, (0 : Int), ()), ()) = some (fin (foldN g n a0)) := by
  have hI : ∀ i, i ≤ n → I i (foldN g i a0) := fun i => by
    induction i with
    | zero => intro _; exact h0
    | succ i ih => intro hi; exact (hs i (by omega) _ (ih (by omega))).2
  have := qV (f := f) n (fun i => ((foldN g i a0, (i : Int), ()), ())) (fin (foldN g n a0)) (fun i hi => by
    rw [(hs i hi _ (hI i (by omega))).1]
    simp [foldN]) (he _ (hI n (Nat.le_refl _)))
  exact this
theorem qtJ {A : Type} (F : Nat → List A) : ∀ (n : Nat) (a : List A), foldN (fun i a => a ++ F i) n a = a ++ (List.range n).flatMap F
  | 0, a => by simp [foldN]
  | n + 1, a => by rw [foldN, qtJ F n, List.range_succ]; simp
theorem qi1 {A R : Type} (n B : Nat) (f : (((List A) × Int × Unit) × Unit) → Option ((((List A) × Int × Unit) × Unit) ⊕ R)) (F : Nat → List A) (fin : List A → R) (a0 : List A) (hF : ∀ i, i < n → (F i).length ≤ B)
    (hs : ∀ i, i < n → ∀ a : List A, a.length ≤ a0.length + i * B → f ((a, (i : Int), ()), ()) = some (.inl ((a ++ F i, ((i : Int) + 1), ()), ()))) (he : ∀ a, f ((a, (n : Int), ()), ()) = some (.inr (fin a))) :
    iterW f ((a0, (0 : Int), ()), ()) = some (fin (a0 ++ (List.range n).flatMap F)) := by
  rw [← qtJ]; refine qtC n f (fun i a => a ++ F i) fin (fun i a => a.length ≤ a0.length + i * B) a0 (by simp) (fun i hi a ha => ⟨hs i hi a ha, ?_⟩) (fun a _ => he a); have := hF i hi; rw [List.length_append, Nat.add_mul]; omega
theorem qbL {A C : Type} (F : C → List A) (B : Nat) : ∀ l : List C, (∀ x ∈ l, (F x).length ≤ B) → (l.flatMap F).length ≤ l.length * B
  | [], _ => by simp
  | x :: l, h => by
    have := qbL F B l (fun y hy => h y (List.mem_cons_of_mem _ hy)); have := h x List.mem_cons_self; rw [List.flatMap_cons, List.length_append, List.length_cons, Nat.add_mul]; omega
theorem foldN_all {A : Type} (xs : List A) (q : A → Bool) (b0 : Bool) : ∀ n, n ≤ xs.length → foldN (fun i b => b && ((xs[i]?).map q).getD true) n b0 = (b0 && (xs.take n).all q)
  | 0, _ => by simp [foldN]
  | n + 1, h => by
    have hn : n < xs.length := by omega
    rw [foldN, foldN_all xs q b0 n (by omega), List.getElem?_eq_getElem hn, List.take_succ_eq_append_getElem hn, List.all_append]; simp [Bool.and_assoc]
theorem qiO {A R : Type} (xs : List A) (q : A → Bool) (f : ((Int × Int × Unit) × Unit) → Option (((Int × Int × Unit) × Unit) ⊕ R)) (fin : Int → R)
    (hs : ∀ (i : Nat) (hi : i < xs.length) (c : Int), 0 ≤ c → c ≤ i → f ((c, (i : Int), ()), ()) = some (.inl (((bif q xs[i] then c + 1 else c), ((i : Int) + 1), ()), ()))) (he : ∀ c, f ((c, (xs.length : Int), ()), ()) = some (.inr (fin c))) :
    iterW f (((0 : Int), (0 : Int), ()), ()) = some (fin ((xs.countP q : Nat) : Int)) := by
  have hf : ∀ n, n ≤ xs.length → foldN (fun i (c : Int) => bif ((xs[i]?).map q).getD false then c + 1 else c) n 0 = (((xs.take n).countP q : Nat) : Int) := fun n => by
    induction n with
    | zero => intro _; simp [foldN]
    | succ n ih =>
      intro h
      have hn : n < xs.length := by omega
      rw [foldN, ih (by omega), List.getElem?_eq_getElem hn, List.take_succ_eq_append_getElem hn, List.countP_append]; simp only [Option.map_some, Option.getD_some, List.countP_cons, List.countP_nil]
      cases q xs[n] <;> simp
  have := hf xs.length (Nat.le_refl _); rw [List.take_length] at this; rw [← this]; refine qtC xs.length f _ fin (fun i c => 0 ≤ c ∧ c ≤ i) 0 (by simp) (fun i hi c hc => ⟨?_, ?_⟩) (fun b _ => he b)
  · rw [hs i hi c hc.1 hc.2, List.getElem?_eq_getElem hi]; rfl
  · cases ((xs[i]?).map q).getD false <;> simp <;> omega
end Go.Den
namespace Go.Proofs.YtijkabgijfdpfaaGreatDoor
open Go.Den
set_option linter.unusedVariables false
set_option linter.unusedSimpArgs false
set_option maxRecDepth 100000

abbrev Place := (List Int) × ((List Int) × (List Int) × Unit) × Int × Int × Unit
abbrev Place.cells (p : Place) : List Int := p.1
abbrev Place.h0 (p : Place) : List Int := p.2.1.1
abbrev Place.h1 (p : Place) : List Int := p.2.1.2.1
abbrev Place.turn (p : Place) : Int := p.2.2.1
abbrev Place.quiet (p : Place) : Int := p.2.2.2.1
theorem agree_self {α : Type} (x : Option α) : agree x x = x := by simp [agree]
theorem qP {α : Type} : ∀ (t : AgT) (x : Option α), agT t x = x
  | .l, x => rfl
  | .n a b, x => by rw [agT, qP a, qP b, agree_self]
theorem qfx (s : List Int) (h : s.length ≤ 1000000) : qJ s = some s := by
  unfold qJ; have : room (([] : List Int).length + s.length) 8 = true := qI (by simp; omega); rw [this]
  cases s with
  | nil => simp [qb, agree_self]
  | cons a l => simp [qb]
theorem concat2 (a b : List Int) (ha : a.length ≤ 1000) (hb : b.length ≤ 1000) : qcg [a, b] = some (a ++ b) := by
  have w1 : w64 (0 + ((a.length : Nat) : Int)) = (a.length : Int) := by rw [Int.zero_add]; exact qf (by omega) (by omega)
  have w2 : w64 ((a.length : Int) + ((b.length : Nat) : Int)) = ((a.length + b.length : Nat) : Int) := by rw [qf (by omega) (by omega)]; omega
  have w3 : w64 ((0 : Int) + 1) = 1 := by decide
  have w4 : w64 ((1 : Int) + 1) = 2 := by decide
  have g0 : at? [a, b] 0 = some a := rfl; have g1 : at? [a, b] 1 = some b := rfl; have l1 : iterW (qR [a, b]) (((0 : Int), (0 : Int), ()), ()) = some (((((a.length + b.length : Nat) : Int)), ()), ()) := by
    have s0 : qR [a, b] (((0 : Int), (0 : Int), ()), ()) = some (.inl ((((a.length : Nat) : Int), (1 : Int), ()), ())) := by
      unfold qR; simp only [g0, w1, w3, Option.bind_some]; rw [show decide (((a.length : Nat) : Int) < 0) = false by simp]; rfl
    have s1 : qR [a, b] ((((a.length : Nat) : Int), (1 : Int), ()), ()) = some (.inl ((((a.length + b.length : Nat) : Int), (2 : Int), ()), ())) := by
      unfold qR; simp only [g1, w2, w4, Option.bind_some]; rw [show decide (((a.length + b.length : Nat) : Int) < 0) = false by simp; omega]; rfl
    have s2 : qR [a, b] ((((a.length + b.length : Nat) : Int), (2 : Int), ()), ()) = some (.inr ((((a.length + b.length : Nat) : Int), ()), ())) := rfl; rw [qm s0, qm s1, qk s2]
  have l2 : iterW (qQ [a, b]) ((([] : List Int), (0 : Int), ()), ()) = some ((a ++ b, ()), ()) := by
    have s0 : qQ [a, b] ((([] : List Int), (0 : Int), ()), ()) = some (.inl ((a, (1 : Int), ()), ())) := by
      unfold qQ; simp only [g0, w3, Option.bind_some]; rw [qI (by simp; omega)]; rfl
    have s1 : qQ [a, b] ((a, (1 : Int), ()), ()) = some (.inl ((a ++ b, (2 : Int), ()), ())) := by
      unfold qQ; simp only [g1, w4, Option.bind_some]; rw [qI (by omega)]; rfl
    have s2 : qQ [a, b] ((a ++ b, (2 : Int), ()), ()) = some (.inr ((a ++ b, ()), ())) := rfl; rw [qm s0, qm s1, qk s2]
  unfold qcg; simp only [l1, Option.bind_some]; rw [show decide (((a.length + b.length : Nat) : Int) < 0) = false by simp; omega]
  have w5 : w64 (((a.length + b.length : Nat) : Int) - 0) = ((a.length + b.length : Nat) : Int) := by rw [Int.sub_zero]; exact qf (by omega) (by omega)
  simp only [w5, cond_false]; by_cases c : a.length + b.length = 0
  · rw [c]; simp only [Int.natCast_zero, show decide ((0 : Int) > 0) = false by decide, cond_false, Option.bind_some]; rw [l2]; rfl
  · have c1 : decide (((a.length + b.length : Nat) : Int) > 0) = true := by simp; omega
    have c2 : decide (0 < ((a.length + b.length : Nat) : Int)) = true := by simp; omega
    have c3 : room ((((a.length + b.length : Nat) : Int)).toNat) 8 = true := qI (by omega)
    have c4 : ∀ l : List Int, qt 0 0 l.length = true := fun l => by simp [qt]
    simp only [c1, c2, c3, c4, cond_true, Bool.and_self, qb, Option.bind_some, List.take_zero]; rw [l2]; rfl

def outC (r : Rules) (d : Int) : Bool := decide (d < 0) || decide (d > 2 * ((r.pieces.length : Nat) : Int))
def outH (d : Int) : Bool := decide (d < 0) || decide (d > 1000)
def outT (p : Place) : Bool := (((p.turn != 0) && (p.turn != 1)) || decide (p.quiet < 0)) || decide (p.quiet > 200)
def qgD (r : Rules) (p : Place) : Bool := p.cells.any (outC r) || ((p.h0 ++ p.h1).any outH || outT p)
def qkp (r : Rules) (p : Place) : Bool := ((((p.cells.length : Nat) : Int) != r.width * r.height) || (((p.h0.length : Nat) : Int) != ((r.pieces.length : Nat) : Int))) || (((p.h1.length : Nat) : Int) != ((r.pieces.length : Nat) : Int))
def qW (r : Rules) (p : Place) : Int := if qad r ≠ 0 then qad r else bif qkp r p then 3 else bif qgD r p then 4 else 0

structure VR0 (r : Rules) : Prop where
  w1 : 1 ≤ r.width
  w8 : r.width ≤ 8
  h1 : 1 ≤ r.height
  h8 : r.height ≤ 8
  t1 : 1 ≤ r.pieces.length
  t6 : r.pieces.length ≤ 6
  hand : ∀ q ∈ r.pieces, 0 ≤ q.2.1 ∧ q.2.1 ≤ 64
  prom : ∀ q ∈ r.pieces, 0 ≤ q.2.2.1 ∧ q.2.2.1 ≤ ((r.pieces.length : Nat) : Int)
  ways : ∀ q ∈ r.pieces, q.2.2.2.1.length ≤ 16
  way : ∀ q ∈ r.pieces, ∀ w ∈ q.2.2.2.1, (-7 ≤ w.1 ∧ w.1 ≤ 7) ∧ (-7 ≤ w.2.1 ∧ w.2.1 ≤ 7) ∧ ¬ (w.1 = 0 ∧ w.2.1 = 0) ∧ (1 ≤ w.2.2.1 ∧ w.2.2.1 ≤ 7) ∧ (0 ≤ w.2.2.2.1 ∧ w.2.2.2.1 ≤ 2)
  start : ((r.start.length : Nat) : Int) = r.width * r.height
  startC : ∀ c ∈ r.start, 0 ≤ c ∧ c ≤ 2 * ((r.pieces.length : Nat) : Int)
  ends6 : r.ends.length ≤ 6
  ends : ∀ x ∈ r.ends, (0 ≤ x.1 ∧ x.1 ≤ 2) ∧ (if x.1 = 1 then x.2.2.1 = 0 else 1 ≤ x.2.2.1 ∧ x.2.2.1 ≤ 64) ∧ (if x.1 = 0 then x.2.1 = 0 else 0 ≤ x.2.1 ∧ x.2.1 ≤ ((r.pieces.length : Nat) : Int) - 1)
  blocked : 0 ≤ r.blocked ∧ r.blocked ≤ 2
  quiet : 0 ≤ r.quiet ∧ r.quiet ≤ 200
  repeats : r.repeats = 0 ∨ (2 ≤ r.repeats ∧ r.repeats ≤ 5)
structure Valid (r : Rules) (p : Place) : Prop where
  r0 : VR0 r
  cells : ((p.cells.length : Nat) : Int) = r.width * r.height
  l0 : p.h0.length = r.pieces.length
  l1 : p.h1.length = r.pieces.length
  cell : ∀ c ∈ p.cells, 0 ≤ c ∧ c ≤ 2 * ((r.pieces.length : Nat) : Int)
  hand0 : ∀ c ∈ p.h0, 0 ≤ c ∧ c ≤ 1000
  hand1 : ∀ c ∈ p.h1, 0 ≤ c ∧ c ≤ 1000
  turn : p.turn = 0 ∨ p.turn = 1
  quiet : 0 ≤ p.quiet ∧ p.quiet ≤ 200

theorem quV {α : Type} {l : List α} {x : α} (h : x ∈ l) : ∃ i, i < l.length ∧ l[i]? = some x := by
  obtain ⟨i, hi, e⟩ := List.mem_iff_getElem.1 h; exact ⟨i, hi, by rw [List.getElem?_eq_getElem hi, e]⟩
theorem qbI {r : Rules} (h : qad r = 0) : VR0 r := by
  unfold qad at h; split at h
  · cases h
  split at h
  · cases h
  rename_i _ h2; have h2 := Decidable.not_not.1 h2; split at h
  · cases h
  rename_i h3; split at h
  · cases h
  rename_i h4; split at h
  · rename_i h5; exact absurd h h5
  rename_i h5; have h5 := qe9 (Decidable.not_not.1 h5); split at h
  · cases h
  rename_i h6; have h6 := Decidable.not_not.1 h6; split at h
  · rename_i h7; exact absurd h h7
  rename_i h7; have h7 := qe9 (Decidable.not_not.1 h7); split at h
  · rename_i h8; exact absurd h h8
  rename_i h8; have h8 := Decidable.not_not.1 h8; unfold qmW at h8; split at h8
  · cases h8
  rename_i h9; have h8 := qe9 h8; have hp : ∀ q ∈ r.pieces, (0 ≤ q.2.1 ∧ q.2.1 ≤ 64) ∧ (0 ≤ q.2.2.1 ∧ q.2.2.1 ≤ ((r.pieces.length : Nat) : Int)) ∧ q.2.2.2.1.length ≤ 16 ∧ q.2.2.2.1.any qqt = false := fun q hq => by
    obtain ⟨i, hi, e⟩ := quV hq; have := h5 i hi; unfold pErr at this; rw [e] at this; simp only at this; cases c1 : (decide (q.1 < 65) || decide (q.1 > 90))
    · cases c2 : (r.pieces.take i).any (fun q' => q'.1 == q.1)
      · cases c3 : ((!(qd q.2.1 0 64)) || (!(qd q.2.2.1 0 ((r.pieces.length : Nat) : Int))))
        · cases c4 : decide (((q.2.2.2.1.length : Nat) : Int) > 16)
          · cases c5 : q.2.2.2.1.any qqt
            · simp only [Bool.or_eq_false_iff, Bool.not_eq_false'] at c3; simp only [decide_eq_false_iff_not] at c4; exact ⟨within_iff.1 c3.1, within_iff.1 c3.2, by omega, rfl⟩
            · simp [c1, c2, c3, c4, c5] at this
          · simp [c1, c2, c3, c4] at this
        · simp [c1, c2, c3] at this
      · simp [c1, c2] at this
    · simp [c1] at this
  refine ⟨h2.1.1, h2.1.2, h2.2.1, h2.2.2, by omega, by omega, fun q hq => (hp q hq).1, fun q hq => (hp q hq).2.1, fun q hq => (hp q hq).2.2.1, fun q hq w hw => ?_, h6, fun c hc => ?_, by omega, fun x hx => ?_, ?_, ?_, ?_⟩
  · have := (hp q hq).2.2.2; rw [List.any_eq_false] at this; have := this w hw; unfold qqt at this; simp only [Bool.not_eq_true, Bool.or_eq_false_iff, Bool.not_eq_false', within_iff, Bool.and_eq_false_iff, beq_eq_false_iff_ne] at this; refine ⟨this.1.1.1.1, this.1.1.1.2, fun h => ?_, this.1.2, this.2⟩; rcases this.1.1.2 with h' | h'
    · exact h' h.1
    · exact h' h.2
  · obtain ⟨i, hi, e⟩ := quV hc; have := h7 i hi; unfold sErr at this; rw [List.getD_eq_getElem?_getD, e] at this; cases c1 : qd c 0 (2 * ((r.pieces.length : Nat) : Int))
    · simp [c1] at this
    · exact within_iff.1 c1
  · obtain ⟨i, hi, e⟩ := quV hx; have := h8 i hi; unfold eErr at this; rw [e] at this; simp only at this; cases c1 : qd x.1 0 2
    · simp [c1] at this
    · cases c2 : (!(bif x.1 == 1 then x.2.2.1 == 0 else qd x.2.2.1 1 64)) || (!(bif x.1 == 0 then x.2.1 == 0 else qd x.2.1 0 (((r.pieces.length : Nat) : Int) - 1)))
      · simp only [Bool.or_eq_false_iff, Bool.not_eq_false'] at c2; refine ⟨within_iff.1 c1, ?_, ?_⟩
        · have := c2.1; by_cases e1 : x.1 = 1
          · rw [if_pos e1]; simpa [e1] using this
          · rw [if_neg e1]; rw [beq_f e1, cond_false] at this; exact within_iff.1 this
        · have := c2.2; by_cases e1 : x.1 = 0
          · rw [if_pos e1]; simpa [e1] using this
          · rw [if_neg e1]; rw [beq_f e1, cond_false] at this; exact within_iff.1 this
      · simp [c1, c2] at this
  all_goals
    unfold qvb at h; cases c1 : (((!(qd r.blocked (0 : Int) (2 : Int))) || (!(qd r.quiet (0 : Int) (200 : Int)))) || ((r.repeats != (0 : Int)) && (!(qd r.repeats (2 : Int) (5 : Int)))))
    · simp only [Bool.or_eq_false_iff, Bool.not_eq_false', within_iff, Bool.and_eq_false_iff, bne_eq_false_iff_eq] at c1
      first
      | exact c1.1.1
      | exact c1.1.2
      | exact c1.2
    · simp [c1] at h
theorem VR0.area {r : Rules} (h : VR0 r) : 1 ≤ r.width * r.height ∧ r.width * r.height ≤ 64 := by
  have h1 : r.width * r.height ≤ 8 * 8 := Int.mul_le_mul h.w8 h.h8 (by have := h.h1; omega) (by omega); have h2 : 1 * 1 ≤ r.width * r.height := Int.mul_le_mul h.w1 h.h1 (by omega) (by have := h.w1; omega); omega
theorem qwG (r : Rules) (p : Place) (hr : VR0 r) (hn : p.1.length ≤ 9223372036854775807) : qiZ r p = some (bif qkp r p then 3 else bif qgD r p then 4 else 0) := by
  have ha := hr.area; have ht := hr.t6; unfold qiZ qkp; rw [show r.2.1 * r.2.2.1 = r.width * r.height from rfl, qf (n := r.width * r.height) (by omega) (by omega)]
  cases hb : ((((((p.1.length : Nat) : Int) != r.width * r.height) || (((p.2.1.1.length : Nat) : Int) != ((r.2.2.2.1.length : Nat) : Int))) || (((p.2.1.2.1.length : Nat) : Int) != ((r.2.2.2.1.length : Nat) : Int)))) with
  | true => rfl
  | false =>
    simp only [Bool.or_eq_false_iff, bne_eq_false_iff_eq] at hb; obtain ⟨⟨b1, b2⟩, b3⟩ := hb; have ht' : r.2.2.2.1.length ≤ 6 := ht; rw [cond_false, cond_false, concat2 _ _ (by omega) (by omega), Option.bind_some]; unfold qgD
    have hl2 : (p.2.1.1 ++ p.2.1.2.1).length ≤ 2000 := by simp; omega
    show _ = some (bif (p.1.any (outC r) || ((p.2.1.1 ++ p.2.1.2.1).any outH || outT p)) then (4 : Int) else 0); generalize p.2.1.1 ++ p.2.1.2.1 = l at hl2; have i1 : iterW (qcJ p r l) (((0 : Int), ()), ()) = some (bif p.1.any (outC r) then .inr ((true, ()), ()) else .inl ((), ())) := by
      refine qam p.1 (outC r) (qcJ p r l) (.inr ((true, ()), ())) (.inl ((), ())) (fun i hi => ?_) ?_
      · unfold qcJ; simp only [show decide ((i : Int) < ((p.1.length : Nat) : Int)) = true by simp; omega, cond_true]; rw [at?_eq _ _ (by omega) (by omega)]; simp only [Option.bind_some, Int.toNat_natCast, List.getElem?_eq_getElem hi]; rw [qf (n := (i : Int) + 1) (by omega) (by omega), show decide ((i : Int) ≥ 0) = true by simp]; rw [qf (n := (2 : Int) * ((r.2.2.2.1.length : Nat) : Int)) (by omega) (by omega)]; unfold outC; generalize (decide (p.1[i] < (0 : Int)) || decide (p.1[i] > ((2 : Int) * ((r.2.2.2.1.length : Nat) : Int)))) = q
        cases q <;> rfl
      · unfold qcJ; simp
    have i2 : iterW (qcW l p) (((0 : Int), ()), ()) = some (bif l.any outH then .inr ((true, ()), ()) else .inl ((), ())) := by
      refine qam l outH (qcW l p) (.inr ((true, ()), ())) (.inl ((), ())) (fun i hi => ?_) ?_
      · unfold qcW; simp only [show decide ((i : Int) < ((l.length : Nat) : Int)) = true by simp; omega, cond_true, Int.toNat_natCast, show inb (i : Int) l.length = true from inb_iff.2 ⟨by omega, by omega⟩, qb, show decide ((i : Int) ≥ 0) = true by simp]; rw [qf (n := (i : Int) + 1) (by omega) (by omega)]
        have e : getD' l i (0 : Int) = l[i] := by simp [getD', hi]
        have e' : outH l[i] = (decide (getD' l i (0 : Int) < (0 : Int)) || decide (getD' l i (0 : Int) > (1000 : Int))) := by rw [e]; rfl
        rw [e']; generalize (decide (getD' l i (0 : Int) < (0 : Int)) || decide (getD' l i (0 : Int) > (1000 : Int))) = q
        cases q <;> simp
      · unfold qcW; simp
    have e4 : iterW (qkL p r l) (((0 : Int), ()), ()) = _ := i1; have e6 : iterW (qk4 l p) (((0 : Int), ()), ()) = _ := i2; simp only [i1, i2, e4, e6, agree_self, Option.bind_some]; unfold outT; cases p.1.any (outC r)
    · cases l.any outH
      · simp only [cond_false, Sum.elim_inl, Option.bind_some, Bool.false_or]; exact (qaD _ _ _)
      · rfl
    · rfl
theorem qiV (r : Rules) (p : Place) (hr : Rng qal r) (hn : p.1.length ≤ 9223372036854775807) : qdy r p = some (qW r p) := by
  unfold qdy qW; rw [qqT r hr, Option.bind_some]; by_cases c : qad r = 0
  · rw [bne_f c, cond_false, if_neg (by simpa using c), qwG r p (qbI c) hn]; rfl
  · rw [bne_t c, cond_true, if_pos c]
theorem qmn {r : Rules} {p : Place} (h : qW r p = 0) : Valid r p := by
  unfold qW at h; split at h
  · rename_i c; exact absurd h c
  rename_i c; have hv := qbI (Decidable.not_not.1 c); cases c1 : qkp r p
  · rw [c1, cond_false] at h; cases c2 : qgD r p
    · unfold qkp at c1; unfold qgD outT at c2; simp only [Bool.or_eq_false_iff, bne_eq_false_iff_eq, List.any_eq_false, Bool.and_eq_false_iff, decide_eq_false_iff_not, List.mem_append, outC, outH, decide_eq_true_eq, Bool.not_eq_true] at c1 c2; obtain ⟨⟨a1, a2⟩, a3⟩ := c1; obtain ⟨b1, b2, ⟨b3, b4⟩, b5⟩ := c2; exact ⟨hv, a1, by omega, by omega, fun c hc => by have := b1 c hc; omega, fun c hc => by have := b2 c (.inl hc); omega, fun c hc => by have := b2 c (.inr hc); omega, b3, by omega⟩
    · rw [c2] at h; cases h
  · rw [c1] at h; cases h

abbrev RWay := Int × Int × Int × Int × Unit
def cellI (p : Place) (s : Int) : Int := p.cells.getD s.toNat 0
def onB (r : Rules) (x y : Int) : Bool := decide (0 ≤ x ∧ x < r.width ∧ 0 ≤ y ∧ y < r.height)
def sq (r : Rules) (x y : Int) : Int := y * r.width + x
def enemy (p : Place) (c : Int) : Bool := decide (c > 0) && ((c - 1).tmod 2 != p.turn)
def mineB (p : Place) (c : Int) : Bool := decide (c > 0) && ((c - 1).tmod 2 == p.turn)
def takes (p : Place) (w : RWay) (c : Int) : Bool := ((c == 0) && (w.2.2.2.1 != 2)) || (enemy p c && (w.2.2.2.1 != 0))
def dyOf (p : Place) (w : RWay) : Int := if p.turn = 1 then - w.2.1 else w.2.1
def wayL (r : Rules) (p : Place) (w : RWay) : Nat → Int → Int → List Int
  | 0, _, _ => []
  | n + 1, x, y => bif onB r (x + w.1) (y + dyOf p w) then (bif takes p w (cellI p (sq r (x + w.1) (y + dyOf p w))) then [sq r (x + w.1) (y + dyOf p w)] else []) ++ (bif cellI p (sq r (x + w.1) (y + dyOf p w)) == 0 then wayL r p w n (x + w.1) (y + dyOf p w) else []) else []
def wayS (r : Rules) (p : Place) (s : Int) (w : RWay) : List Int := wayL r p w w.2.2.1.toNat (s.tmod r.width) (s.tdiv r.width)

def WayOk (w : RWay) : Prop := (-7 ≤ w.1 ∧ w.1 ≤ 7) ∧ (-7 ≤ w.2.1 ∧ w.2.1 ≤ 7) ∧ ¬ (w.1 = 0 ∧ w.2.1 = 0) ∧ (1 ≤ w.2.2.1 ∧ w.2.2.1 ≤ 7) ∧ (0 ≤ w.2.2.2.1 ∧ w.2.2.2.1 ≤ 2)
theorem Valid.wayOk {r : Rules} {p : Place} (h : Valid r p) {q : Piece} (hq : q ∈ r.pieces) {w : RWay} (hw : w ∈ q.2.2.2.1) : WayOk w := h.r0.way q hq w hw
theorem dyOf_rng {p : Place} {w : RWay} (h : WayOk w) : -7 ≤ dyOf p w ∧ dyOf p w ≤ 7 := by
  unfold dyOf; obtain ⟨_, h1, _⟩ := h; split <;> omega
theorem onB_iff {r : Rules} {x y : Int} : onB r x y = true ↔ 0 ≤ x ∧ x < r.width ∧ 0 ≤ y ∧ y < r.height := by simp [onB]
theorem qsm {y W H : Int} (hW : 0 ≤ W) (h0 : 0 ≤ y) (h1 : y < H) : 0 ≤ y * W ∧ y * W ≤ W * H - W := by
  refine ⟨Int.mul_nonneg h0 hW, ?_⟩; have := Int.mul_le_mul_of_nonneg_right (show y ≤ H - 1 by omega) hW; rw [Int.sub_mul, Int.one_mul, Int.mul_comm H W] at this; exact this
theorem qvM {r : Rules} (hr : VR0 r) {x y : Int} (h : onB r x y = true) : 0 ≤ sq r x y ∧ sq r x y < r.width * r.height := by
  obtain ⟨h1, h2, h3, h4⟩ := onB_iff.1 h; have := qsm (show 0 ≤ r.width by have := hr.w1; omega) h3 h4; unfold sq; omega
theorem qkb {p : Place} {s : Int} (h0 : 0 ≤ s) (h1 : s < ((p.cells.length : Nat) : Int)) : at? p.1 s = some (cellI p s) := by
  rw [at?_eq p.1 s h0 h1]; unfold cellI; have h1' : s < ((p.1.length : Nat) : Int) := h1; rw [List.getD_eq_getElem?_getD, List.getElem?_eq_getElem (by show s.toNat < p.1.length; omega)]; rfl
theorem qvq {r : Rules} {p : Place} (h : Valid r p) (s : Int) : 0 ≤ cellI p s ∧ cellI p s ≤ 2 * ((r.pieces.length : Nat) : Int) := by
  unfold cellI; rw [List.getD_eq_getElem?_getD]
  cases e : p.cells[s.toNat]? with
  | none => simp; omega
  | some c => exact h.cell c (List.mem_of_getElem? e)
theorem qnc {r : Rules} {p : Place} (h : Valid r p) (s : Int) : 0 ≤ cellI p s ∧ cellI p s ≤ 12 := by
  have := qvq h s; have := h.r0.t6; omega
theorem qwc (r : Rules) (p : Place) (w : RWay) : ∀ (n : Nat) (x y : Int), (wayL r p w n x y).length ≤ n
  | 0, x, y => by simp [wayL]
  | n + 1, x, y => by
    unfold wayL; have := qwc r p w n (x + w.1) (y + dyOf p w); cases onB r (x + w.1) (y + dyOf p w)
    · simp
    · cases takes p w (cellI p (sq r (x + w.1) (y + dyOf p w))) <;> cases (cellI p (sq r (x + w.1) (y + dyOf p w)) == 0) <;> simp <;> omega
theorem qvz {r : Rules} {p : Place} {w : RWay} {t : Int} : ∀ {n : Nat} {x y : Int}, t ∈ wayL r p w n x y → ∃ j : Int, 1 ≤ j ∧ onB r (x + j * w.1) (y + j * dyOf p w) = true ∧ t = sq r (x + j * w.1) (y + j * dyOf p w)
  | 0, x, y, h => by simp [wayL] at h
  | n + 1, x, y, h => by
    unfold wayL at h
    cases hb : onB r (x + w.1) (y + dyOf p w) with
    | false => simp [hb] at h
    | true =>
      rw [hb, cond_true] at h; rcases List.mem_append.1 h with h | h
      · refine ⟨1, by omega, by simpa using hb, ?_⟩
        cases ht : takes p w (cellI p (sq r (x + w.1) (y + dyOf p w))) <;> simp [ht] at h
        simpa using h
      · cases hc : (cellI p (sq r (x + w.1) (y + dyOf p w)) == 0) <;> simp [hc] at h
        obtain ⟨j, h1, h2, h3⟩ := qvz h
        have e1 : x + w.1 + j * w.1 = x + (j + 1) * w.1 := by rw [Int.add_mul]; omega
        have e2 : y + dyOf p w + j * dyOf p w = y + (j + 1) * dyOf p w := by rw [Int.add_mul]; omega
        rw [e1, e2] at h2 h3; exact ⟨j + 1, by omega, h2, h3⟩
theorem qo0 {r : Rules} {p : Place} (h : VR0 r) {w : RWay} {n : Nat} {x y t : Int} (ht : t ∈ wayL r p w n x y) : 0 ≤ t ∧ t < r.width * r.height := by
  obtain ⟨j, h1, h2, h3⟩ := qvz ht; rw [h3]; exact qvM h h2
theorem qrM {r : Rules} (hr : VR0 r) {s : Int} (h0 : 0 ≤ s) (h1 : s < r.width * r.height) : (0 ≤ s.tmod r.width ∧ s.tmod r.width < r.width) ∧ 0 ≤ s.tdiv r.width ∧ s.tdiv r.width < r.height := by
  have hw := hr.w1; rw [Int.tmod_eq_emod_of_nonneg h0, Int.tdiv_eq_ediv_of_nonneg h0]; refine ⟨⟨Int.emod_nonneg _ (by omega), Int.emod_lt_of_pos _ (by omega)⟩, Int.ediv_nonneg h0 (by omega), Int.ediv_lt_of_lt_mul (by omega) (by rw [Int.mul_comm]; exact h1)⟩
theorem qwI {r : Rules} {p : Place} (h : Valid r p) {w : RWay} (hw : WayOk w) (s : Int) :
    ((((w.2.2.2.1 == (0 : Int)) && (cellI p s == (0 : Int))) || ((w.2.2.2.1 == (1 : Int)) && ((cellI p s == (0 : Int)) || ((decide (cellI p s > (0 : Int))) && (((w64 (cellI p s - (1 : Int))).tmod (2 : Int)) != p.2.2.1))))) || ((w.2.2.2.1 == (2 : Int)) && ((decide (cellI p s > (0 : Int))) && (((w64 (cellI p s - (1 : Int))).tmod (2 : Int)) != p.2.2.1)))) = takes p w (cellI p s) := by
  have hc := qnc h s; rw [qf (n := cellI p s - 1) (by omega) (by omega)]; obtain ⟨_, _, _, _, h5⟩ := hw
  have h6 : w.2.2.2.1 = 0 ∨ w.2.2.2.1 = 1 ∨ w.2.2.2.1 = 2 := by omega
  unfold takes enemy; rw [show p.turn = p.2.2.1 from rfl]; generalize hA : (cellI p s == 0) = A; have hA' : A = true → decide (cellI p s > 0) = false := fun h => by
    subst hA; rw [beq_iff_eq] at h; simp [h]
  generalize decide (cellI p s > 0) = B at hA'; generalize ((cellI p s - 1).tmod 2 != p.2.2.1) = C
  rcases h6 with h6 | h6 | h6 <;> rw [h6] <;> cases A <;> cases B <;> cases C <;> simp_all
theorem qv6 {r : Rules} {p : Place} (h : Valid r p) {w : RWay} (hw : WayOk w) : ∀ (n : Nat) (out : List Int) (x y k : Int), 0 ≤ k → k + n = w.2.2.1 → out.length ≤ k.toNat → (0 ≤ x ∧ x < r.width) → (0 ≤ y ∧ y < r.height) →
    iterW (qdw w r ((dyOf p w, ()), ()) p) ((out, x, y, k, ()), ()) = some ((out ++ wayL r p w n x y, ()), ())
  | 0, out, x, y, k, h0, hk, ho, hx, hy => by
    refine qk ?_; unfold qdw
    have : decide (k < w.2.2.1) = false := by simp; omega
    simp only [this, cond_false, wayL, List.append_nil]
  | n + 1, out, x, y, k, h0, hk, ho, hx, hy => by
    have hr := h.r0; have hd := dyOf_rng (p := p) hw; obtain ⟨hdx, _, _, hm, _⟩ := hw; have := hr.w8; have := hr.h8; have := hr.w1; have := hr.h1; have ha := hr.area
    have hlt : decide (k < w.2.2.1) = true := by simp; omega
    have wx : w64 (x + w.1) = x + w.1 := qf (by omega) (by omega); have wy : w64 (y + dyOf p w) = y + dyOf p w := qf (by omega) (by omega); have wk : w64 (k + 1) = k + 1 := qf (by omega) (by omega); have hoff : ((((decide (x + w.1 < (0 : Int))) || (decide (x + w.1 ≥ r.2.1))) || (decide (y + dyOf p w < (0 : Int)))) || (decide (y + dyOf p w ≥ r.2.2.1))) = !onB r (x + w.1) (y + dyOf p w) := by
      rw [Bool.eq_iff_iff]; simp only [Bool.or_eq_true, decide_eq_true_eq, Bool.not_eq_true', onB, decide_eq_false_iff_not]; show ((x + w.1 < 0 ∨ x + w.1 ≥ r.width) ∨ y + dyOf p w < 0) ∨ y + dyOf p w ≥ r.height ↔ _; omega
    unfold wayL
    cases hb : onB r (x + w.1) (y + dyOf p w) with
    | false =>
      refine qk ?_; unfold qdw; simp only [hlt, cond_true, wx, wy, hoff, hb, Bool.not_false, cond_false, List.append_nil]
    | true =>
      have hs := qvM hr hb; obtain ⟨b1, b2, b3, b4⟩ := onB_iff.1 hb; have hmul := qsm (show 0 ≤ r.width by omega) b3 b4; have w1 : w64 ((y + dyOf p w) * r.2.1) = (y + dyOf p w) * r.2.1 := qf (by show _ ≤ (y + dyOf p w) * r.width; omega) (by show (y + dyOf p w) * r.width ≤ _; omega); have w2 : w64 ((y + dyOf p w) * r.2.1 + (x + w.1)) = sq r (x + w.1) (y + dyOf p w) := qf (by show _ ≤ sq r (x + w.1) (y + dyOf p w); omega) (by show sq r (x + w.1) (y + dyOf p w) ≤ _; omega); have hat := qkb (p := p) hs.1 (by rw [h.cells]; exact hs.2); have hlen := h.cells
      have hstep : qdw w r ((dyOf p w, ()), ()) p ((out, x, y, k, ()), ()) = (bif cellI p (sq r (x + w.1) (y + dyOf p w)) != 0 then some (.inr ((out ++ (bif takes p w (cellI p (sq r (x + w.1) (y + dyOf p w))) then [sq r (x + w.1) (y + dyOf p w)] else []), ()), ())) else some (.inl ((out ++ (bif takes p w (cellI p (sq r (x + w.1) (y + dyOf p w))) then [sq r (x + w.1) (y + dyOf p w)] else []), x + w.1, y + dyOf p w, k + 1, ()), ()))) := by
        unfold qdw
        simp only [hlt, cond_true, wx, wy, hoff, hb, Bool.not_true, cond_false, w1, w2, wk, hat, Option.bind_some, qwI h ⟨hdx, ‹_›, ‹_›, hm, ‹_›⟩, show ∀ b, imp b true = true from fun b => by cases b <;> rfl, qb]
        have hroom : room (out.length + [sq r (x + w.1) (y + dyOf p w)].length) 8 = true := qI (by simp; omega); cases takes p w (cellI p (sq r (x + w.1) (y + dyOf p w)))
        · simp
        · simp only [cond_true, hroom, qb, Option.bind_some]
      cases hc : (cellI p (sq r (x + w.1) (y + dyOf p w)) == 0) with
      | true =>
        have hne : (cellI p (sq r (x + w.1) (y + dyOf p w)) != 0) = false := by simp only [bne, hc]; rfl
        rw [hne, cond_false] at hstep
        rw [qm hstep, qv6 h ⟨hdx, ‹_›, ‹_›, hm, ‹_›⟩ n _ (x + w.1) (y + dyOf p w) (k + 1) (by omega) (by omega) (by
          have : (bif takes p w (cellI p (sq r (x + w.1) (y + dyOf p w))) then [sq r (x + w.1) (y + dyOf p w)] else []).length ≤ 1 := by cases takes p w (cellI p (sq r (x + w.1) (y + dyOf p w))) <;> simp
          rw [List.length_append]; omega) ⟨b1, b2⟩ ⟨b3, b4⟩]
        simp [List.append_assoc]
      | false =>
        have hne : (cellI p (sq r (x + w.1) (y + dyOf p w)) != 0) = true := by simp only [bne, hc]; rfl
        rw [hne, cond_true] at hstep; rw [qk hstep]; simp
theorem way_spec {r : Rules} {p : Place} (h : Valid r p) {w : RWay} (hw : WayOk w) {s : Int} (h0 : 0 ≤ s) (h1 : s < r.width * r.height) : qon r p s w = some (wayS r p s w) := by
  have hr := h.r0; have hd := qrM hr h0 h1; have := hr.w8; have := hr.h8; have := hr.w1; have := hr.h1; obtain ⟨hdx, hdy, hnz, hm, htk⟩ := id hw; unfold qon wayS; have hq : (r.2.1 != 0) = true := bne_t (by show ¬ r.width = 0; omega); have wdy : (bif (p.2.2.1 == (1 : Int)) then some (((w64 (0 - w.2.1)), ()), ()) else some ((w.2.1, ()), ())) = some ((dyOf p w, ()), ()) := by
    unfold dyOf; by_cases e : p.turn = 1
    · rw [if_pos e, beq_t e, cond_true, qf (by omega) (by omega)]; simp
    · rw [if_neg e, beq_f e, cond_false]
  have wq : w64 (s.tdiv r.2.1) = s.tdiv r.2.1 := qf (by show _ ≤ s.tdiv r.width; omega) (by show s.tdiv r.width ≤ _; omega); rw [wdy, Option.bind_some, hq, qb, qb, wq, qv6 h hw w.2.2.1.toNat [] _ _ 0 (by omega) (by omega) (by simp) hd.1 hd.2]; simp

theorem qoy (x y : Mv) : mvLt x y = true ↔ x.1 < y.1 ∨ x.1 = y.1 ∧ (x.2.1 < y.2.1 ∨ x.2.1 = y.2.1 ∧ x.2.2.1 < y.2.2.1) := by simp [mvLt]
theorem lt_f (x y : Mv) : mvLt x y = false ↔ ¬ (x.1 < y.1 ∨ x.1 = y.1 ∧ (x.2.1 < y.2.1 ∨ x.2.1 = y.2.1 ∧ x.2.2.1 < y.2.2.1)) := by rw [← qoy, Bool.not_eq_true]
theorem mv_eq {x y : Mv} (h1 : x.1 = y.1) (h2 : x.2.1 = y.2.1) (h3 : x.2.2.1 = y.2.2.1) : x = y := by
  obtain ⟨a, b, c, ⟨⟩⟩ := x; obtain ⟨a', b', c', ⟨⟩⟩ := y; simp only at h1 h2 h3; subst h1 h2 h3; rfl
theorem mv_beq (x y : Mv) : ((x.1 == y.1) && ((x.2.1 == y.2.1) && ((x.2.2.1 == y.2.2.1) && true))) = decide (x = y) := by
  rw [Bool.eq_iff_iff]; simp only [Bool.and_eq_true, beq_iff_eq, decide_eq_true_eq, and_true]; constructor
  · rintro ⟨h1, h2, h3⟩; exact mv_eq h1 h2 h3
  · rintro rfl; exact ⟨rfl, rfl, rfl⟩

def dd1 (a : Mv) : List Mv → List Mv
  | [] => []
  | x :: xs => if x = a then dd1 a xs else x :: dd1 x xs
def dd : List Mv → List Mv
  | [] => []
  | x :: xs => x :: dd1 x xs
theorem qr5 (y : Mv) : ∀ (l : List Mv) (a : Mv), dd1 a (l ++ [y]) = dd1 a l ++ (if (a :: l).getLast (by simp) = y then [] else [y])
  | [], a => by simp only [List.nil_append, dd1, List.getLast_singleton]; by_cases h : y = a <;> simp [h, eq_comm]
  | x :: xs, a => by
    simp only [List.cons_append, dd1]; by_cases h : x = a
    · subst h; rw [if_pos rfl, if_pos rfl, qr5 y xs x]; congr 2
    · rw [if_neg h, if_neg h, qr5 y xs x, List.cons_append]; congr 2
theorem dd_snoc {l : List Mv} (hl : l ≠ []) (y : Mv) : dd (l ++ [y]) = dd l ++ (if l.getLast hl = y then [] else [y]) := by
  cases l with
  | nil => exact absurd rfl hl
  | cons x xs => simp only [List.cons_append, dd, qr5]
theorem qrN (z : Mv) : ∀ (l : List Mv) (a : Mv), z ∈ a :: dd1 a l ↔ z ∈ a :: l
  | [], a => by simp [dd1]
  | x :: xs, a => by
    simp only [dd1]; by_cases h : x = a
    · subst h; rw [if_pos rfl, qrN z xs x]; simp
    · rw [if_neg h, List.mem_cons, qrN z xs x, ← List.mem_cons]
theorem dd_mem (z : Mv) (l : List Mv) : z ∈ dd l ↔ z ∈ l := by
  cases l with
  | nil => simp [dd]
  | cons x xs => exact qrN z xs x
theorem dd1_lt : ∀ (l : List Mv) (a : Mv), (a :: l).Pairwise (fun x y => (!mvLt y x) = true) → (a :: dd1 a l).Pairwise (fun x y => mvLt x y = true)
  | [], a, h => by simp [dd1]
  | x :: xs, a, h => by
    simp only [dd1]; rw [List.pairwise_cons] at h; by_cases e : x = a
    · subst e; rw [if_pos rfl]; exact dd1_lt xs x h.2
    · rw [if_neg e, List.pairwise_cons]; refine ⟨fun z hz => ?_, dd1_lt xs x h.2⟩; have hz' := (qrN z xs x).1 hz; have h1 := h.1 x (by simp); have hax : mvLt a x = true := by
        rw [Bool.not_eq_true', lt_f] at h1; rw [qoy]; by_cases c1 : a.1 = x.1
        · by_cases c2 : a.2.1 = x.2.1
          · by_cases c3 : a.2.2.1 = x.2.2.1
            · exact absurd (mv_eq c1 c2 c3).symm e
            · omega
          · omega
        · omega
      rcases List.mem_cons.1 hz' with rfl | hz2
      · exact hax
      · have h2 := (List.pairwise_cons.1 h.2).1 z hz2; rw [Bool.not_eq_true', lt_f] at h2; rw [qoy] at hax ⊢; omega
theorem dd_lt {l : List Mv} (h : l.Pairwise (fun x y => (!mvLt y x) = true)) : (dd l).Pairwise (fun x y => mvLt x y = true) := by
  cases l with
  | nil => simp [dd]
  | cons x xs => exact dd1_lt xs x h
theorem sort_pw (l : List Mv) : (qbK l).Pairwise (fun x y => (!mvLt y x) = true) := by
  unfold qbK; apply List.pairwise_mergeSort
  · intro a b c h1 h2; rw [Bool.not_eq_true', lt_f] at *; omega
  · intro a b; rw [Bool.or_eq_true, Bool.not_eq_true', Bool.not_eq_true', lt_f, lt_f]; omega
theorem sort_mem (z : Mv) (l : List Mv) : z ∈ qbK l ↔ z ∈ l := (List.mergeSort_perm l _).mem_iff
theorem sort_len (l : List Mv) : (qbK l).length = l.length := List.length_mergeSort l
theorem lt_irrefl (x : Mv) : mvLt x x = false := by rw [lt_f]; omega
theorem qtb : ∀ {l m : List Mv}, l.Pairwise (fun x y => mvLt x y = true) → m.Pairwise (fun x y => mvLt x y = true) → (∀ z, z ∈ l ↔ z ∈ m) → l = m
  | [], [], _, _, _ => rfl
  | [], y :: m, _, _, h => by have := (h y).2 (by simp); simp at this
  | x :: l, [], _, _, h => by have := (h x).1 (by simp); simp at this
  | x :: l, y :: m, hl, hm, h => by
    rw [List.pairwise_cons] at hl hm; have e : x = y := by
      rcases List.mem_cons.1 ((h x).1 (by simp)) with e | e
      · exact e
      · rcases List.mem_cons.1 ((h y).2 (by simp)) with e2 | e2
        · exact e2.symm
        · have a := hm.1 x e; have b := hl.1 y e2; rw [qoy] at a b; omega
    subst e; congr 1; refine qtb hl.2 hm.2 fun z => ⟨fun hz => ?_, fun hz => ?_⟩
    · rcases List.mem_cons.1 ((h z).1 (by simp [hz])) with e | e
      · subst e; have := hl.1 z hz; rw [lt_irrefl] at this; cases this
      · exact e
    · rcases List.mem_cons.1 ((h z).2 (by simp [hz])) with e | e
      · subst e; have := hm.1 z hz; rw [lt_irrefl] at this; cases this
      · exact e

abbrev d0 : Mv := ((0 : Int), ((0 : Int), ((0 : Int), ())))
theorem qvL {xs : List Mv} {j : Nat} (h : j < xs.length) : xs.take (j + 1) = xs.take j ++ [getD' xs j d0] := by
  rw [List.take_succ_eq_append_getElem h]; simp [getD', h]
theorem dd_take {xs : List Mv} {j : Nat} (h : j < xs.length) (hj : 1 ≤ j) : dd (xs.take (j + 1)) = dd (xs.take j) ++ (if getD' xs (j - 1) d0 = getD' xs j d0 then [] else [getD' xs j d0]) := by
  have hne : xs.take j ≠ [] := by
    intro e; have := congrArg List.length e; rw [List.length_take] at this; simp only [List.length_nil] at this; omega
  rw [qvL h, dd_snoc hne]; have : (xs.take j).getLast hne = getD' xs (j - 1) d0 := by
    rw [List.getLast_eq_getElem]; simp only [List.getElem_take, List.length_take, getD']; rw [List.getD_eq_getElem?_getD, List.getElem?_eq_getElem (by omega)]; simp only [Option.getD_some]; congr 1; omega
  rw [this]
theorem compact5 (xs : List Mv) (k0 : Nat) (hk0 : 1 ≤ k0) (hk1 : k0 < xs.length) (hx : xs.length ≤ 1000000) (hd : dd (xs.take (k0 + 1)) = xs.take k0) :
    ∃ r, iterW (qh2 (((k0 : Int), ()), (xs, ()))) (((k0 : Int), (1 : Int), ()), (xs, ())) = some r ∧ (∃ k : Nat, r.1.1 = (k : Int) ∧ k ≤ xs.length ∧ r.2.1.length = xs.length ∧ r.2.1.take k = dd xs) := by
  refine qmY (fun x => ∃ (k k2 : Nat), x.1.1 = (k : Int) ∧ x.1.2.1 = (k2 : Int) ∧ 1 ≤ k2 ∧ k0 + k2 ≤ xs.length ∧ k0 ≤ k ∧ k + 1 ≤ k0 + k2 ∧ x.2.1.length = xs.length ∧ (∀ j, k0 + k2 ≤ j + 1 → getD' x.2.1 j d0 = getD' xs j d0) ∧ x.2.1.take k = dd (xs.take (k0 + k2))) (fun x => xs.length - x.1.2.1.toNat) _ ?_ _ ⟨k0, 1, rfl, rfl, by omega, by omega, by omega, by omega, rfl, fun _ _ => rfl, by rw [hd]⟩
  rintro ⟨⟨k, k2, ⟨⟩⟩, ys, ⟨⟩⟩ ⟨K, K2, e1, e2, h1, h2, h3, h4, h5, h6, h7⟩
  simp only at e1 e2 h5 h6 h7; subst e1 e2; unfold qh2; simp only [Int.toNat_natCast]; by_cases hlt : K2 < xs.length - k0
  · left
    have c1 : decide ((K2 : Int) < ((xs.length - k0 : Nat) : Int)) = true := by simp; omega
    have c2 : inb (K2 : Int) (xs.length - k0) = true := inb_iff.2 ⟨by omega, by omega⟩
    have w1 : w64 ((K2 : Int) - 1) = ((K2 - 1 : Nat) : Int) := by rw [qf (by omega) (by omega)]; omega
    have c3 : inb ((K2 - 1 : Nat) : Int) (xs.length - k0) = true := inb_iff.2 ⟨by omega, by omega⟩
    have w2 : w64 ((K2 : Int) + 1) = ((K2 + 1 : Nat) : Int) := by rw [qf (by omega) (by omega)]; omega
    have w3 : w64 ((K : Int) + 1) = ((K + 1 : Nat) : Int) := by rw [qf (by omega) (by omega)]; omega
    have c4 : inb (K : Int) ys.length = true := inb_iff.2 ⟨by omega, by omega⟩; have g1 : getD' ys (k0 + K2) d0 = getD' xs (k0 + K2) d0 := h6 _ (by omega); have g2 : getD' ys (k0 + (K2 - 1)) d0 = getD' xs (k0 + (K2 - 1)) d0 := h6 _ (by omega); have hdd := dd_take (xs := xs) (j := k0 + K2) (by omega) (by omega); simp only [c1, cond_true, c2, qb, w1, Int.toNat_natCast, c3, w2, w3, c4, mv_beq, g1, g2]; by_cases he : getD' xs (k0 + K2) d0 = getD' xs (k0 + (K2 - 1)) d0
    · refine ⟨(((K : Int), ((K2 + 1 : Nat) : Int), ()), (ys, ())), by simp [he], ⟨K, K2 + 1, rfl, rfl, by omega, by omega, by omega, by omega, h5, fun j hj => h6 j (by omega), ?_⟩, by simp; omega⟩; rw [show k0 + (K2 + 1) = k0 + K2 + 1 by omega, hdd, if_pos (by rw [he]; congr 1; omega), List.append_nil]; exact h7
    · refine ⟨((((K + 1 : Nat) : Int), ((K2 + 1 : Nat) : Int), ()), (ys.set K (getD' xs (k0 + K2) d0), ())), by simp [he], ⟨K + 1, K2 + 1, rfl, rfl, by omega, by omega, by omega, by omega, by simp [h5], fun j hj => ?_, ?_⟩, by simp; omega⟩
      · rw [← h6 j (by omega)]; simp only [getD']; simp only [List.getD_eq_getElem?_getD]; rw [List.getElem?_set_ne (by omega)]
      · rw [show k0 + (K2 + 1) = k0 + K2 + 1 by omega, hdd, if_neg (by intro e; apply he; rw [← e]; congr 1; omega), ← h7]; rw [List.take_succ_eq_append_getElem (by simp; omega)]; simp [List.take_set_of_le]
  · right
    have c1 : decide ((K2 : Int) < ((xs.length - k0 : Nat) : Int)) = false := by simp; omega
    refine ⟨(((K : Int), ()), (ys, ())), by simp only [c1, cond_false], K, rfl, by omega, h5, ?_⟩; rw [h7, show k0 + K2 = xs.length by omega, List.take_length]
theorem compact4 (xs : List Mv) (hx : xs.length ≤ 1000000) (h2 : 2 ≤ xs.length) :
    (Option.bind (α := ((Unit) × ((List Mv) × Unit)) ⊕ (((List Mv) × Unit) × (Unit))) (iterW qfw (((1 : Int), ()), (xs, ()))) (Sum.elim (fun x23 => some ((x23.2.1, ()), ())) some)) = some ((dd xs, ()), ()) := by
  obtain ⟨r, hr, hq⟩ := qmY (f := qfw) (fun x => ∃ k : Nat, x = (((k : Int), ()), (xs, ())) ∧ 1 ≤ k ∧ k ≤ xs.length ∧ dd (xs.take k) = xs.take k) (fun x => xs.length - x.1.1.toNat) (fun r => r = .inl ((), (xs, ())) ∧ dd xs = xs ∨ r = .inr ((dd xs, ()), ())) (by
    rintro x ⟨k, rfl, h1, h3, h4⟩
    unfold qfw; simp only [Int.toNat_natCast]; by_cases hlt : k < xs.length
    · have c1 : decide ((k : Int) < ((xs.length : Nat) : Int)) = true := by simp; omega
      have c2 : inb (k : Int) xs.length = true := inb_iff.2 ⟨by omega, by omega⟩
      have w1 : w64 ((k : Int) - 1) = ((k - 1 : Nat) : Int) := by rw [qf (by omega) (by omega)]; omega
      have c3 : inb ((k - 1 : Nat) : Int) xs.length = true := inb_iff.2 ⟨by omega, by omega⟩
      have w2 : w64 ((k : Int) + 1) = ((k + 1 : Nat) : Int) := by rw [qf (by omega) (by omega)]; omega
      have c4 : qt (k : Int) ((xs.length : Nat) : Int) xs.length = true := by simp [qt]; omega
      have hdd := dd_take hlt h1; simp only [c1, cond_true, c2, qb, w1, Int.toNat_natCast, c3, c4, mv_beq]; by_cases he : getD' xs k d0 = getD' xs (k - 1) d0
      · right; rw [if_pos he.symm, List.append_nil, h4] at hdd; obtain ⟨r, hr, K, e1, e2, e3, e4⟩ := compact5 xs k h1 hlt hx hdd; obtain ⟨⟨k', ⟨⟩⟩, ys, ⟨⟩⟩ := r; simp only at e1 e3 e4; subst e1; refine ⟨.inr ((dd xs, ()), ()), ?_, .inr rfl⟩; rw [hr]
        have c5 : qt (K : Int) ((ys.length : Nat) : Int) ys.length = true := by simp [qt]; omega
        have c6 : ∀ l : List Mv, K ≤ l.length → qt 0 (K : Int) l.length = true := fun l hl => by simp [qt]; omega
        simp only [he, decide_true, cond_true, Option.bind_some, c5, qb, Int.toNat_natCast]; rw [c6 _ (by simp; omega), qb, Option.bind_some, Sum.elim_inr, List.take_append_of_le_length (by simp; omega), List.take_take, Nat.min_self, e4]
      · left; refine ⟨((((k + 1 : Nat) : Int), ()), (xs, ())), ?_, ⟨k + 1, rfl, by omega, by omega, ?_⟩, by simp; omega⟩
        · simp only [he, decide_false, cond_false, Option.bind_some, Sum.elim_inl, w2]
        · rw [hdd, if_neg (fun e => he e.symm), h4, ← qvL hlt]
    · right
      have c1 : decide ((k : Int) < ((xs.length : Nat) : Int)) = false := by simp; omega
      refine ⟨.inl ((), (xs, ())), by simp only [c1, cond_false], .inl ⟨rfl, ?_⟩⟩
      have : k = xs.length := by omega
      rw [this, List.take_length] at h4
      exact h4) (((1 : Int), ()), (xs, ())) ⟨1, rfl, by omega, by omega, by
        cases xs with
        | nil => rfl
        | cons x l => rfl⟩
  rw [hr]; rcases hq with ⟨rfl, e⟩ | rfl
  · rw [e]; rfl
  · rfl

def qcr (p : Place) : List Int := getD' [p.2.1.1, p.2.1.2.1] (p.2.2.1).toNat []
theorem qlt {r : Rules} {p : Place} (h : Valid r p) : qcr p = if p.turn = 0 then p.h0 else p.h1 := by
  unfold qcr; rcases h.turn with e | e
  · rw [if_pos e, show p.2.2.1 = 0 from e]; rfl
  · rw [if_neg (by omega), show p.2.2.1 = 1 from e]; rfl
theorem qor {r : Rules} {p : Place} (h : Valid r p) : (qcr p).length = r.pieces.length := by
  rw [qlt h]; split
  · exact h.l0
  · exact h.l1
theorem qwh {r : Rules} {p : Place} (h : Valid r p) : ∀ c ∈ qcr p, 0 ≤ c ∧ c ≤ 1000 := by
  rw [qlt h]; split
  · exact h.hand0
  · exact h.hand1
def handI (p : Place) (k : Int) : Int := (qcr p).getD k.toNat 0
theorem at_hand {p : Place} {k : Int} (h0 : 0 ≤ k) (h1 : k < (((qcr p).length : Nat) : Int)) : at? (getD' [p.2.1.1, p.2.1.2.1] (p.2.2.1).toNat []) k = some (handI p k) := by
  show at? (qcr p) k = _; rw [at?_eq _ k h0 h1]; unfold handI; rw [List.getD_eq_getElem?_getD, List.getElem?_eq_getElem (by omega)]; rfl
def colF (p : Place) (W x0 : Int) : Nat → Bool
  | 0 => true
  | y + 1 => colF p W x0 y && (cellI p (x0 + (y : Int) * W) != 0)
def qkq (r : Rules) (p : Place) (s : Int) : Bool := colF p r.width (s.tmod r.width) (s.tdiv r.width).toNat
theorem div_eq {W s : Int} (hW : 1 ≤ W) (h0 : 0 ≤ s) : s = s.tmod W + ((s.tdiv W).toNat : Int) * W := by
  have h1 := Int.tmod_add_tdiv_mul s W
  have h2 : 0 ≤ s.tdiv W := by rw [Int.tdiv_eq_ediv_of_nonneg h0]; exact Int.ediv_nonneg h0 (by omega)
  rw [Int.toNat_of_nonneg h2]; exact h1.symm
theorem qpL {r : Rules} {p : Place} (h : Valid r p) {x0 : Int} (hx : 0 ≤ x0 ∧ x0 < r.width) : ∀ (y : Nat), (y : Int) ≤ r.height →
    (Option.bind (α := ((Unit) × (Unit)) ⊕ Bool) (iterW (qb7 p r) ((x0 + (y : Int) * r.width - r.width, ()), ())) (Sum.elim (fun x3 => some true) some)) = some (colF p r.width x0 y)
  | 0, hy => by
    rw [qk (r := .inl ((), ())) (by
      unfold qb7
      have : decide (x0 + ((0 : Nat) : Int) * r.width - r.width ≥ 0) = false := by simp; omega
      simp only [this, cond_false])]
    rfl
  | y + 1, hy => by
    have hr := h.r0; have := hr.w8; have := hr.h8; have := hr.w1; have := hr.h1; have ha := hr.area; have hb : onB r x0 (y : Int) = true := onB_iff.2 ⟨hx.1, hx.2, by omega, by omega⟩; have hs := qvM hr hb; have hm := qsm (show 0 ≤ r.width by omega) (show (0 : Int) ≤ (y : Int) by omega) (show (y : Int) < r.height by omega); have e : x0 + ((y + 1 : Nat) : Int) * r.width - r.width = x0 + (y : Int) * r.width := by
      rw [show ((y + 1 : Nat) : Int) = (y : Int) + 1 by omega, Int.add_mul]; omega
    rw [e]; have hat := qkb (p := p) (s := x0 + (y : Int) * r.width) (by omega) (by rw [h.cells]; omega)
    have hge : decide (x0 + (y : Int) * r.width ≥ 0) = true := by simp; omega
    cases hc : (cellI p (x0 + (y : Int) * r.width) == 0) with
    | true =>
      rw [qk (r := .inr false) (by
        unfold qb7
        simp only [hge, cond_true, hat, Option.bind_some, hc])]
      simp [colF, bne, hc]
    | false =>
      rw [qm (y := ((x0 + (y : Int) * r.width - r.width, ()), ())) (by
        unfold qb7; simp only [hge, cond_true, hat, Option.bind_some, hc, cond_false]
        rw [qf (n := x0 + (y : Int) * r.width - r.2.1) (by show _ ≤ x0 + (y : Int) * r.width - r.width; omega) (by show x0 + (y : Int) * r.width - r.width ≤ _; omega)]), qpL h hx y (by omega)]
      simp [colF, bne, hc]
theorem qvc {r : Rules} {p : Place} (h : Valid r p) {s : Int} (h0 : 0 ≤ s) (h1 : s < r.width * r.height) : qgY r p s = some (qkq r p s) := by
  have hr := h.r0; have := hr.w8; have := hr.h8; have := hr.w1; have := hr.h1; have ha := hr.area; have hd := qrM hr h0 h1; have e := div_eq hr.w1 h0; unfold qgY qkq; rw [qf (n := s - r.2.1) (by show _ ≤ s - r.width; omega) (by show s - r.width ≤ _; omega)]; have := qpL h hd.1 (s.tdiv r.width).toNat (by omega); rw [← e] at this; exact this
def putOk (r : Rules) (p : Place) (s : Int) : Bool := (cellI p s == 0) && (!r.falls || qkq r p s)
def qhh (r : Rules) (p : Place) (s : Nat) : List Mv := bif putOk r p (s : Int) then (List.range (qcr p).length).flatMap (fun k : Nat => bif decide (handI p (k : Int) > 0) then [((-1 : Int), ((s : Int), ((k : Int), ())))] else []) else []
theorem fm_len1 {A : Type} (n : Nat) (F : Nat → List A) (h : ∀ k, (F k).length ≤ 1) : ((List.range n).flatMap F).length ≤ n := by
  have := qbL F 1 (List.range n) (fun k _ => h k); simpa using this
theorem qmz {r : Rules} {p : Place} (h : Valid r p) (s : Nat) : (qhh r p s).length ≤ 6 := by
  unfold qhh; cases putOk r p (s : Int)
  · simp
  · rw [cond_true]; refine Nat.le_trans (fm_len1 _ _ fun k => ?_) (by rw [qor h]; exact h.r0.t6)
    cases decide (handI p (k : Int) > 0) <;> simp
theorem qba {r : Rules} {p : Place} (h : Valid r p) : p.1.length ≤ 64 := by
  have := h.cells; have := h.r0.area; have h1 : ((p.1.length : Nat) : Int) = r.width * r.height := h.cells; omega
theorem puts_spec {r : Rules} {p : Place} (h : Valid r p) : qmc r p = some ((List.range p.1.length).flatMap (qhh r p)) := by
  have hr := h.r0; have := hr.w8; have := hr.h8; have := hr.w1; have := hr.h1; have ha := hr.area; have hlen : ((p.1.length : Nat) : Int) = r.width * r.height := h.cells; have h64 := qba h
  have hh : (qcr p).length ≤ 6 := by rw [qor h]; exact hr.t6
  unfold qmc; rw [qi1 (A := Mv) p.1.length 6 (qfX p r) (qhh r p) (fun a => ((a, ()), ())) [] (fun i _ => qmz h i) (fun i hi a hal => ?_) (fun a => ?_)]
  · simp
  · unfold qfX
    have c1 : decide ((i : Int) < ((p.1.length : Nat) : Int)) = true := by simp; omega
    have hat := qkb (p := p) (s := (i : Int)) (by omega) (by show (i : Int) < ((p.1.length : Nat) : Int); omega); simp only [c1, cond_true, hat, Option.bind_some]; have hf := qvc h (s := (i : Int)) (by omega) (by omega); have hfil : (i : Int) < r.width → qkq r p (i : Int) = true := fun hlt => by
      unfold qkq; rw [Int.tdiv_eq_ediv_of_nonneg (by omega), Int.ediv_eq_zero_of_lt (by omega) hlt]; rfl
    rw [hf]
    have hg : ∀ b c : Bool, gopt b false (some c) = some (b && c) := fun b c => by cases b <;> rfl
    rw [hg, Option.bind_some]; have hcond : ((cellI p (i : Int) != (0 : Int)) || ((r.2.2.2.2.2.1 && (decide ((i : Int) ≥ r.2.1))) && (!(((r.2.2.2.2.2.1 && (decide ((i : Int) ≥ r.2.1))) && (!(cellI p (i : Int) != (0 : Int)))) && qkq r p (i : Int))))) = !putOk r p (i : Int) := by
      unfold putOk; rw [show r.2.2.2.2.2.1 = r.falls from rfl]; by_cases hlt : (i : Int) < r.width
      · rw [hfil hlt, show decide ((i : Int) ≥ r.2.1) = false by simp; exact hlt]; simp only [bne]
        cases (cellI p (i : Int) == 0) <;> cases r.falls <;> rfl
      · rw [show decide ((i : Int) ≥ r.2.1) = true by simp; show r.width ≤ (i : Int); omega]; simp only [bne]
        cases (cellI p (i : Int) == 0) <;> cases r.falls <;> cases qkq r p (i : Int) <;> rfl
    rw [hcond, qf (n := (i : Int) + 1) (by omega) (by omega)]; unfold qhh
    cases hp : putOk r p (i : Int) with
    | false => simp
    | true =>
      have hin : inb p.2.2.1 2 = true := inb_iff.2 (by have := h.turn; show 0 ≤ p.turn ∧ p.turn < ((2 : Nat) : Int); omega); simp only [Bool.not_true, cond_false, cond_true, hin, qb]
      rw [qi1 (A := Mv) (qcr p).length 1 (qfb p ((a, (i : Int), ()), ())) (fun k => bif decide (handI p (k : Int) > 0) then [((-1 : Int), ((i : Int), ((k : Int), ())))] else []) (fun a => ((a, ()), ())) a (fun k _ => by cases decide (handI p (k : Int) > 0) <;> simp) (fun k hk a2 ha2 => ?_) (fun a2 => ?_)]
      · rfl
      · unfold qfb; have c2 : decide ((k : Int) < (((getD' [p.2.1.1, p.2.1.2.1] (p.2.2.1).toNat []).length : Nat) : Int)) = true := by
          have : k < (getD' [p.2.1.1, p.2.1.2.1] (p.2.2.1).toNat []).length := hk; simp; exact this
        have hat2 := at_hand (p := p) (k := (k : Int)) (by omega) (by omega); simp only [c2, cond_true, hat2, Option.bind_some]; rw [qf (n := (k : Int) + 1) (by omega) (by omega)]; cases decide (handI p (k : Int) > 0)
        · simp
        · have hroom : room (a2.length + [((-1 : Int), ((i : Int), ((k : Int), ())))].length) 24 = true := qI (by
            simp only [List.length_singleton, List.length_nil] at *; have : i * 6 ≤ 64 * 6 := Nat.mul_le_mul_right _ (by omega)
            omega)
          simp only [cond_true, hroom, qb, Option.bind_some]
      · unfold qfb; have c2 : decide ((((qcr p).length : Nat) : Int) < (((getD' [p.2.1.1, p.2.1.2.1] (p.2.2.1).toNat []).length : Nat) : Int)) = false := by
          show decide ((((qcr p).length : Nat) : Int) < (((qcr p).length : Nat) : Int)) = false; simp
        simp only [c2, cond_false]
  · unfold qfX; simp

def lastB (r : Rules) (pl t : Int) : Bool := bif pl == 0 then t.tdiv r.width == r.height - 1 else t.tdiv r.width == 0
theorem qox {r : Rules} (hr : VR0 r) (pl : Int) {t : Int} (h0 : 0 ≤ t) (h1 : t < r.width * r.height) : qeG r pl t = some (lastB r pl t) := by
  have := hr.w8; have := hr.h8; have := hr.w1; have := hr.h1; have hd := qrM hr h0 h1; have hq : (r.2.1 != 0) = true := bne_t (by show ¬ r.width = 0; omega); have w1 : w64 (t.tdiv r.2.1) = t.tdiv r.width := qf (by show _ ≤ t.tdiv r.width; omega) (by show t.tdiv r.width ≤ _; omega); have w2 : w64 (r.2.2.1 - 1) = r.height - 1 := qf (by show _ ≤ r.height - 1; omega) (by show r.height - 1 ≤ _; omega); unfold qeG lastB; rw [hq, qb, qb, w1, w2]; exact qaD _ _ _
def qca (r : Rules) (k : Int) : Piece := r.pieces.getD k.toNat (0, 0, 0, [], ())
theorem qrY {r : Rules} {k : Int} (h0 : 0 ≤ k) (h1 : k < ((r.pieces.length : Nat) : Int)) : at? r.2.2.2.1 k = some (qca r k) ∧ qca r k ∈ r.pieces := by
  have h1' : k < ((r.2.2.2.1.length : Nat) : Int) := h1; rw [at?_eq r.2.2.2.1 k h0 h1]; unfold qca; rw [List.getD_eq_getElem?_getD, List.getElem?_eq_getElem (by show k.toNat < r.2.2.2.1.length; omega)]; exact ⟨rfl, List.getElem_mem _⟩
def qbU (c : Int) : Int := (c - 1).tdiv 2
theorem qmb {r : Rules} {p : Place} (h : Valid r p) {s : Int} (hm : cellI p s > 0) : w64 ((w64 (cellI p s - 1)).tdiv 2) = qbU (cellI p s) ∧ 0 ≤ qbU (cellI p s) ∧ qbU (cellI p s) < ((r.pieces.length : Nat) : Int) := by
  have hc := qvq h s; have ht := h.r0.t6; rw [qf (n := cellI p s - 1) (by omega) (by omega)]; unfold qbU; rw [Int.tdiv_eq_ediv_of_nonneg (by omega)]; refine ⟨qf (by omega) (by omega), by omega, by omega⟩
def becomes (r : Rules) (p : Place) (k t : Int) : Int := bif decide ((qca r k).2.2.1 > 0) && lastB r p.turn t then (qca r k).2.2.1 - 1 else k
def goAt (r : Rules) (p : Place) (s : Nat) : List Mv := bif mineB p (cellI p (s : Int)) then (qca r (qbU (cellI p (s : Int)))).2.2.2.1.flatMap (fun w => (wayS r p (s : Int) w).map fun t => ((s : Int), (t, (becomes r p (qbU (cellI p (s : Int))) t, ())))) else []
theorem qlg {A C : Type} (l : List C) (F : C → List A) (d : C) : (List.range l.length).flatMap (fun i => F (l.getD i d)) = l.flatMap F := by
  induction l with
  | nil => rfl
  | cons x l ih =>
    rw [List.length_cons, List.range_succ_eq_map, List.flatMap_cons, List.flatMap_cons, List.flatMap_map]
    have e : (fun a => F ((x :: l).getD a.succ d)) = fun i => F (l.getD i d) := by funext i; simp
    rw [e, ih]; rfl
theorem map_range {A C : Type} (l : List C) (F : C → A) (d : C) : (List.range l.length).flatMap (fun i => [F (l.getD i d)]) = l.map F := by
  rw [qlg l (fun x => [F x]) d]
  induction l with
  | nil => rfl
  | cons x l ih => rw [List.flatMap_cons, List.map_cons, ih]; rfl
theorem quF {r : Rules} {p : Place} {s : Int} {w : RWay} (hw : WayOk w) : (wayS r p s w).length ≤ 7 := by
  obtain ⟨_, _, _, h4, _⟩ := hw; exact Nat.le_trans (qwc _ _ _ _ _ _) (by omega)
theorem qvH {r : Rules} {p : Place} (h : Valid r p) (s : Nat) : (goAt r p s).length ≤ 112 := by
  unfold goAt
  cases hm : mineB p (cellI p (s : Int)) with
  | false => simp
  | true =>
    have hc : cellI p (s : Int) > 0 := by unfold mineB at hm; simp at hm; exact hm.1
    have hk := qmb h hc; have hmem := (qrY (r := r) hk.2.1 hk.2.2).2; rw [cond_true]; refine Nat.le_trans (qbL _ 7 _ fun w hw => ?_) ?_
    · rw [List.length_map]; exact quF (h.wayOk hmem hw)
    · have := h.r0.ways _ hmem; omega
def qdK (r : Rules) (p : Place) : List Mv := (List.range p.1.length).flatMap (qhh r p) ++ (List.range p.1.length).flatMap (goAt r p)
theorem list_raw {r : Rules} {p : Place} (h : Valid r p) : iterW (qdS p r) (((List.range p.1.length).flatMap (qhh r p), (0 : Int), ()), ()) = some ((qdK r p, ()), ()) := by
  have hr := h.r0; have := hr.w8; have := hr.h8; have := hr.w1; have := hr.h1; have ha := hr.area; have hlen : ((p.1.length : Nat) : Int) = r.width * r.height := h.cells; have h64 := qba h; have hpl : ((List.range p.1.length).flatMap (qhh r p)).length ≤ 64 * 6 := by
    refine Nat.le_trans (qbL _ 6 _ fun i _ => qmz h i) ?_; rw [List.length_range]; exact Nat.mul_le_mul_right _ h64
  unfold qdK; generalize (List.range p.1.length).flatMap (qhh r p) = pl at hpl; refine qi1 (A := Mv) p.1.length 112 (qdS p r) (goAt r p) (fun a => ((a, ()), ())) pl (fun i _ => qvH h i) (fun i hi a hal => ?_) (fun a => ?_)
  · have hal2 : a.length ≤ 64 * 6 + 64 * 112 := by
      have : i * 112 ≤ 64 * 112 := Nat.mul_le_mul_right _ (by omega); omega
    unfold qdS
    have c1 : decide ((i : Int) < ((p.1.length : Nat) : Int)) = true := by simp; omega
    have hat := qkb (p := p) (s := (i : Int)) (by omega) (by show (i : Int) < ((p.1.length : Nat) : Int); omega); have hc := qnc h (i : Int)
    have hi2 : (i : Int) < r.width * r.height := by omega
    simp only [c1, cond_true, hat, Option.bind_some, show ∀ b, imp b true = true from fun b => by cases b <;> rfl, qb]
    have hcond : ((cellI p (i : Int) == (0 : Int)) || (((w64 (cellI p (i : Int) - (1 : Int))).tmod (2 : Int)) != p.2.2.1)) = !mineB p (cellI p (i : Int)) := by
      rw [qf (n := cellI p (i : Int) - 1) (by omega) (by omega)]; unfold mineB; rw [show p.turn = p.2.2.1 from rfl]; by_cases hz : cellI p (i : Int) = 0
      · simp [hz]
      · rw [beq_f hz, show decide (cellI p (i : Int) > 0) = true by simp; omega]; simp [bne]
    rw [hcond, qf (n := (i : Int) + 1) (by omega) (by omega)]; unfold goAt
    cases hm : mineB p (cellI p (i : Int)) with
    | false => simp
    | true =>
      have hcp : cellI p (i : Int) > 0 := by unfold mineB at hm; simp at hm; exact hm.1
      have hk := qmb h hcp; obtain ⟨hpa, hmem⟩ := qrY (r := r) hk.2.1 hk.2.2; simp only [Bool.not_true, cond_false, hk.1, hpa, Option.bind_some, cond_true]; generalize hK : qbU (cellI p (i : Int)) = K at *; have hways := h.r0.ways _ hmem; have hWl : (qca r K).2.2.2.1.length ≤ 16 := hways; rw [qi1 (A := Mv) (qca r K).2.2.2.1.length 7 (qfs (qca r K) r p ((a, (i : Int), ()), ()) (cellI p (i : Int))) (fun j => (wayS r p (i : Int) ((qca r K).2.2.2.1.getD j (0, 0, 0, 0, ()))).map fun t => ((i : Int), (t, (becomes r p K t, ())))) (fun a => ((a, ()), ())) a (fun j hj => ?_) (fun j hj a2 ha2 => ?_) (fun a2 => ?_)]
      · rw [qlg (qca r K).2.2.2.1 (fun w => (wayS r p (i : Int) w).map fun t => ((i : Int), (t, (becomes r p K t, ())))) (0, 0, 0, 0, ())]; rfl
      · rw [List.length_map, List.getD_eq_getElem?_getD, List.getElem?_eq_getElem hj]; exact quF (h.wayOk hmem (List.getElem_mem hj))
      · have ha22 : a2.length ≤ 64 * 6 + 64 * 112 + 112 := by
          have : j * 7 ≤ 16 * 7 := Nat.mul_le_mul_right _ (by omega); omega
        unfold qfs
        have c2 : decide ((j : Int) < (((qca r K).2.2.2.1.length : Nat) : Int)) = true := by simp; omega
        have hatw : at? (qca r K).2.2.2.1 (j : Int) = some ((qca r K).2.2.2.1.getD j (0, 0, 0, 0, ())) := by
          rw [at?_eq _ _ (by omega) (by omega), List.getD_eq_getElem?_getD, List.getElem?_eq_getElem hj]; rfl
        have hwm : (qca r K).2.2.2.1.getD j (0, 0, 0, 0, ()) ∈ (qca r K).2.2.2.1 := by
          rw [List.getD_eq_getElem?_getD, List.getElem?_eq_getElem hj]; exact List.getElem_mem hj
        have hwo := h.wayOk hmem hwm; simp only [c2, cond_true, hatw, Option.bind_some]; generalize (qca r K).2.2.2.1.getD j (0, 0, 0, 0, ()) = w at *; rw [way_spec h hwo (by omega) hi2, Option.bind_some]; have hwl := quF (r := r) (p := p) (s := (i : Int)) hwo; have hwr : ∀ t ∈ wayS r p (i : Int) w, 0 ≤ t ∧ t < r.width * r.height := fun t ht => qo0 hr ht; generalize wayS r p (i : Int) w = T at *; rw [qi1 (A := Mv) T.length 1 (qfC T r (cellI p (i : Int)) p ((a, (i : Int), ()), ())) (fun t => [((i : Int), (T.getD t 0, (becomes r p K (T.getD t 0), ())))]) (fun a => ((a, ()), ())) a2 (fun _ _ => by simp) (fun t ht a3 ha3 => ?_) (fun a3 => ?_)]
        · rw [map_range T (fun t => ((i : Int), (t, (becomes r p K t, ())))) 0]; simp only [Option.bind_some]; rw [qf (n := (j : Int) + 1) (by omega) (by omega)]
        · unfold qfC
          have c3 : decide ((t : Int) < ((T.length : Nat) : Int)) = true := by simp; omega
          have c4 : inb (t : Int) T.length = true := inb_iff.2 ⟨by omega, by omega⟩; have hg : getD' T t (0 : Int) = T.getD t 0 := rfl; have htr := hwr (T.getD t 0) (by rw [List.getD_eq_getElem?_getD, List.getElem?_eq_getElem ht]; exact List.getElem_mem ht); simp only [c3, cond_true, c4, qb, hk.1, hpa, Option.bind_some, Int.toNat_natCast, hg]; generalize T.getD t 0 = tt at *; rw [qox hr p.2.2.1 htr.1 htr.2]; have hpr := h.r0.prom _ hmem; have ht6 := h.r0.t6
          have hgo : ∀ b c : Bool, gopt b false (some c) = some (b && c) := fun b c => by cases b <;> rfl
          rw [hgo, Option.bind_some, qf (n := (qca r K).2.2.1 - 1) (by omega) (by omega), qf (n := (t : Int) + 1) (by omega) (by omega)]; unfold becomes; rw [show p.turn = p.2.2.1 from rfl]; have hroom : room (a3.length + 1) 24 = true := qI (by omega)
          cases decide ((qca r K).2.2.1 > 0) <;> cases lastB r p.2.2.1 tt <;> simp [hroom, qb]
        · unfold qfC; simp
      · unfold qfs; simp
  · unfold qdS; simp
theorem raw_len {r : Rules} {p : Place} (h : Valid r p) : (qdK r p).length ≤ 10000 := by
  have h64 := qba h; unfold qdK; rw [List.length_append]; have h1 : ((List.range p.1.length).flatMap (qhh r p)).length ≤ 64 * 6 := by
    refine Nat.le_trans (qbL _ 6 _ fun i _ => qmz h i) ?_; rw [List.length_range]; exact Nat.mul_le_mul_right _ h64
  have h2 : ((List.range p.1.length).flatMap (goAt r p)).length ≤ 64 * 112 := by
    refine Nat.le_trans (qbL _ 112 _ fun i _ => qvH h i) ?_; rw [List.length_range]; exact Nat.mul_le_mul_right _ h64
  omega
theorem list_dd {r : Rules} {p : Place} (h : Valid r p) : qay r p = some (dd (qbK (qdK r p))) := by
  unfold qay; rw [puts_spec h, Option.bind_some, list_raw h, Option.bind_some]; have hl := raw_len h; have hb : Nat.blt (qdK r p).length 4611686018427387904 = true := by
    rw [Nat.blt_eq]; omega
  simp only [hb, qb]; have hs := sort_len (qdK r p); generalize qbK (qdK r p) = xs at hs; by_cases h2 : xs.length < 2
  · have c : decide (((xs.length : Nat) : Int) < 2) = true := by simp; omega
    rw [c, cond_true]; have : dd xs = xs := by
      match xs, h2 with
      | [], _ => rfl
      | [x], _ => rfl
    rw [this]; rfl
  · have c : decide (((xs.length : Nat) : Int) < 2) = false := by simp; omega
    rw [c, cond_false, compact4 xs (by omega) (by omega)]; rfl

def mvOk (r : Rules) (p : Place) (m : Mv) : Bool := decide ((-1 ≤ m.1 ∧ m.1 < ((p.1.length : Nat) : Int)) ∧ (0 ≤ m.2.1 ∧ m.2.1 < ((p.1.length : Nat) : Int)) ∧ (0 ≤ m.2.2.1 ∧ m.2.2.1 < ((r.pieces.length : Nat) : Int)))
def goOk (r : Rules) (p : Place) (m : Mv) : Bool := mineB p (cellI p m.1) && ((becomes r p (qbU (cellI p m.1)) m.2.1 == m.2.2.1) && (qca r (qbU (cellI p m.1))).2.2.2.1.any (fun w => decide (m.2.1 ∈ wayS r p m.1 w)))
def qA (r : Rules) (p : Place) (m : Mv) : Bool := mvOk r p m && (bif m.1 == -1 then decide (handI p m.2.2.1 > 0) && putOk r p m.2.1 else goOk r p m)
def at3 (r : Rules) (p : Place) (i j k : Nat) : List Mv := bif qA r p ((i : Int) - 1, ((j : Int), ((k : Int), ()))) then [((i : Int) - 1, ((j : Int), ((k : Int), ())))] else []
def at2 (r : Rules) (p : Place) (i j : Nat) : List Mv := (List.range r.2.2.2.1.length).flatMap (at3 r p i j)
def at1 (r : Rules) (p : Place) (i : Nat) : List Mv := (List.range p.1.length).flatMap (at2 r p i)
def qf5 (r : Rules) (p : Place) : List Mv := (List.range (p.1.length + 1)).flatMap (at1 r p)
theorem at3_len (r : Rules) (p : Place) (i j k : Nat) : (at3 r p i j k).length ≤ 1 := by unfold at3; cases qA r p ((i : Int) - 1, ((j : Int), ((k : Int), ()))) <;> simp
theorem at2_len {r : Rules} {p : Place} (h : Valid r p) (i j : Nat) : (at2 r p i j).length ≤ 6 := Nat.le_trans (fm_len1 _ _ (at3_len r p i j)) h.r0.t6
theorem at1_len {r : Rules} {p : Place} (h : Valid r p) (i : Nat) : (at1 r p i).length ≤ 384 := by
  refine Nat.le_trans (qbL _ 6 _ fun j _ => at2_len h i j) ?_; have := qba h; rw [List.length_range]; omega
theorem qsC (n : Nat) (F : Nat → List Mv) (h1 : ∀ i, i < n → (F i).Pairwise (fun x y => mvLt x y = true)) (h2 : ∀ i j, i < j → ∀ x ∈ F i, ∀ y ∈ F j, mvLt x y = true) : ((List.range n).flatMap F).Pairwise (fun x y => mvLt x y = true) := by
  rw [List.pairwise_flatMap]; exact ⟨fun i hi => h1 i (List.mem_range.1 hi), List.pairwise_lt_range.imp fun hij => h2 _ _ hij⟩
theorem quJ {r : Rules} {p : Place} {i j k : Nat} {x : Mv} (h : x ∈ at3 r p i j k) : x = ((i : Int) - 1, ((j : Int), ((k : Int), ()))) ∧ qA r p x = true := by
  unfold at3 at h
  cases hb : qA r p ((i : Int) - 1, ((j : Int), ((k : Int), ()))) with
  | false => simp [hb] at h
  | true =>
    rw [hb, cond_true, List.mem_singleton] at h; rw [h]; exact ⟨rfl, hb⟩
theorem qu6 {r : Rules} {p : Place} {i j : Nat} {x : Mv} (h : x ∈ at2 r p i j) : x.1 = (i : Int) - 1 ∧ x.2.1 = (j : Int) ∧ qA r p x = true := by
  obtain ⟨k, _, hk⟩ := List.mem_flatMap.1 h; obtain ⟨e, h2⟩ := quJ hk; refine ⟨by rw [e], by rw [e], h2⟩
theorem qut {r : Rules} {p : Place} {i : Nat} {x : Mv} (h : x ∈ at1 r p i) : x.1 = (i : Int) - 1 ∧ qA r p x = true := by
  obtain ⟨j, _, hj⟩ := List.mem_flatMap.1 h; obtain ⟨h1, _, h3⟩ := qu6 hj; exact ⟨h1, h3⟩
theorem qgQ {r : Rules} {p : Place} (x : Mv) : x ∈ qf5 r p ↔ qA r p x = true := by
  constructor
  · intro h; obtain ⟨i, _, hi⟩ := List.mem_flatMap.1 h; exact (qut hi).2
  · intro h
    have hok : mvOk r p x = true := by unfold qA at h; simp only [Bool.and_eq_true] at h; exact h.1
    unfold mvOk at hok; rw [decide_eq_true_eq] at hok; obtain ⟨⟨a1, a2⟩, ⟨b1, b2⟩, c1, c2⟩ := hok; have c2' : x.2.2.1 < ((r.2.2.2.1.length : Nat) : Int) := c2; have e : (((((x.1 + 1).toNat : Nat) : Int) - 1, (((x.2.1.toNat : Nat) : Int), (((x.2.2.1.toNat : Nat) : Int), ()))) : Mv) = x := mv_eq (by show (((x.1 + 1).toNat : Nat) : Int) - 1 = x.1; omega) (by show ((x.2.1.toNat : Nat) : Int) = x.2.1; omega) (by show ((x.2.2.1.toNat : Nat) : Int) = x.2.2.1; omega); refine List.mem_flatMap.2 ⟨(x.1 + 1).toNat, List.mem_range.2 (by omega), List.mem_flatMap.2 ⟨x.2.1.toNat, List.mem_range.2 (by omega), List.mem_flatMap.2 ⟨x.2.2.1.toNat, List.mem_range.2 (by omega), ?_⟩⟩⟩; unfold at3; rw [e, h, cond_true, List.mem_singleton]
theorem qwN (r : Rules) (p : Place) : (qf5 r p).Pairwise (fun x y => mvLt x y = true) := by
  refine qsC _ _ (fun i _ => qsC _ _ (fun j _ => qsC _ _ (fun k _ => ?_) fun k k' hk x hx y hy => ?_) fun j j' hj x hx y hy => ?_) fun i i' hi x hx y hy => ?_
  · unfold at3
    cases qA r p ((i : Int) - 1, ((j : Int), ((k : Int), ()))) <;> simp
  · obtain ⟨ex, _⟩ := quJ hx; obtain ⟨ey, _⟩ := quJ hy
    have e1 : x.1 = (i : Int) - 1 := by rw [ex]
    have e2 : x.2.1 = (j : Int) := by rw [ex]
    have e3 : x.2.2.1 = (k : Int) := by rw [ex]
    have f1 : y.1 = (i : Int) - 1 := by rw [ey]
    have f2 : y.2.1 = (j : Int) := by rw [ey]
    have f3 : y.2.2.1 = (k' : Int) := by rw [ey]
    rw [qoy]; omega
  · obtain ⟨e1, e2, _⟩ := qu6 hx; obtain ⟨f1, f2, _⟩ := qu6 hy; rw [qoy]; omega
  · obtain ⟨e1, _⟩ := qut hx; obtain ⟨f1, _⟩ := qut hy; rw [qoy]; omega
theorem raw_mem {r : Rules} {p : Place} (h : Valid r p) (x : Mv) : x ∈ qdK r p ↔ qA r p x = true := by
  have hr := h.r0; have hlen : ((p.1.length : Nat) : Int) = r.width * r.height := h.cells; have hh := qor h; unfold qdK; rw [List.mem_append]; constructor
  · rintro (hx | hx)
    · obtain ⟨s, hs, hx⟩ := List.mem_flatMap.1 hx; rw [List.mem_range] at hs; unfold qhh at hx
      cases hp : putOk r p (s : Int) with
      | false => simp [hp] at hx
      | true =>
        rw [hp, cond_true] at hx; obtain ⟨k, hk, hx⟩ := List.mem_flatMap.1 hx; rw [List.mem_range] at hk
        cases hd : decide (handI p (k : Int) > 0) with
        | false => simp [hd] at hx
        | true =>
          rw [hd, cond_true, List.mem_singleton] at hx; have hok : mvOk r p x = true := by
            unfold mvOk; rw [decide_eq_true_eq, hx]; simp only; omega
          unfold qA; rw [hok, Bool.true_and, hx]; simp only [beq_t rfl, cond_true, hd, hp, Bool.and_self]
    · obtain ⟨s, hs, hx⟩ := List.mem_flatMap.1 hx; rw [List.mem_range] at hs; unfold goAt at hx
      cases hm : mineB p (cellI p (s : Int)) with
      | false => simp [hm] at hx
      | true =>
        have hcp : cellI p (s : Int) > 0 := by unfold mineB at hm; simp at hm; exact hm.1
        have hk := qmb h hcp; obtain ⟨hpa, hmem⟩ := qrY (r := r) hk.2.1 hk.2.2; rw [hm, cond_true] at hx; obtain ⟨w, hw, hx⟩ := List.mem_flatMap.1 hx; obtain ⟨t, ht, hx⟩ := List.mem_map.1 hx; have htr : 0 ≤ t ∧ t < r.width * r.height := qo0 hr ht; have hpr := hr.prom _ hmem; have hbr : 0 ≤ becomes r p (qbU (cellI p (s : Int))) t ∧ becomes r p (qbU (cellI p (s : Int))) t < ((r.pieces.length : Nat) : Int) := by
          unfold becomes
          cases hb : (decide ((qca r (qbU (cellI p (s : Int)))).2.2.1 > 0) && lastB r p.turn t) with
          | false => exact hk.2
          | true =>
            simp only [Bool.and_eq_true, decide_eq_true_eq] at hb; rw [cond_true]; omega
        have hok : mvOk r p x = true := by
          unfold mvOk; rw [decide_eq_true_eq, ← hx]; simp only; omega
        unfold qA goOk; rw [hok, Bool.true_and, ← hx]; simp only; rw [beq_f (by omega), cond_false, hm, Bool.true_and, beq_t rfl, Bool.true_and, List.any_eq_true]; exact ⟨w, hw, by simpa using ht⟩
  · intro hx; unfold qA at hx; rw [Bool.and_eq_true] at hx; obtain ⟨hok, hx⟩ := hx; unfold mvOk at hok; rw [decide_eq_true_eq] at hok; obtain ⟨⟨a1, a2⟩, ⟨b1, b2⟩, c1, c2⟩ := hok; by_cases hm : x.1 = -1
    · rw [beq_t hm, cond_true, Bool.and_eq_true] at hx; left
      have e1 : ((x.2.1.toNat : Nat) : Int) = x.2.1 := by omega
      have e2 : ((x.2.2.1.toNat : Nat) : Int) = x.2.2.1 := by omega
      refine List.mem_flatMap.2 ⟨x.2.1.toNat, List.mem_range.2 (by omega), ?_⟩; unfold qhh; rw [e1, hx.2, cond_true]; refine List.mem_flatMap.2 ⟨x.2.2.1.toNat, List.mem_range.2 (by omega), ?_⟩; rw [e2, hx.1, cond_true, List.mem_singleton]; exact mv_eq hm rfl rfl
    · rw [beq_f hm, cond_false] at hx; unfold goOk at hx; simp only [Bool.and_eq_true, beq_iff_eq, List.any_eq_true, decide_eq_true_eq] at hx; obtain ⟨h1, h2, w, hw, ht⟩ := hx; right
      have e1 : ((x.1.toNat : Nat) : Int) = x.1 := by omega
      refine List.mem_flatMap.2 ⟨x.1.toNat, List.mem_range.2 (by omega), ?_⟩; unfold goAt; rw [e1, h1, cond_true]; refine List.mem_flatMap.2 ⟨w, hw, List.mem_map.2 ⟨x.2.1, ht, ?_⟩⟩; exact mv_eq rfl rfl h2
theorem qlP {r : Rules} {p : Place} (h : Valid r p) : qay r p = some (qf5 r p) := by
  rw [list_dd h]; congr 1; refine qtb (dd_lt (sort_pw _)) (qwN r p) fun z => ?_; rw [dd_mem, sort_mem, raw_mem h, qgQ]

def own (r : Rules) (p : Place) (pl x y : Int) : Bool := onB r x y && (decide (cellI p (sq r x y) > 0) && ((cellI p (sq r x y) - 1).tmod 2 == pl))
def runB (r : Rules) (p : Place) (pl : Int) (n : Nat) (x y dx dy : Int) : Bool := (List.range n).all fun i => own r p pl (x + (i : Int) * dx) (y + (i : Int) * dy)
theorem runB_cons (r : Rules) (p : Place) (pl : Int) (n : Nat) (x y dx dy : Int) : runB r p pl (n + 1) x y dx dy = (own r p pl x y && runB r p pl n (x + dx) (y + dy) dx dy) := by
  unfold runB; rw [List.range_succ_eq_map, List.all_cons, List.all_map]; have e : ((fun i : Nat => own r p pl (x + (i : Int) * dx) (y + (i : Int) * dy)) ∘ Nat.succ) = fun i : Nat => own r p pl (x + dx + (i : Int) * dx) (y + dy + (i : Int) * dy) := by
    funext i; simp only [Function.comp]
    have e1 : x + ((i.succ : Nat) : Int) * dx = x + dx + (i : Int) * dx := by rw [show ((i.succ : Nat) : Int) = (i : Int) + 1 by omega, Int.add_mul]; omega
    have e2 : y + ((i.succ : Nat) : Int) * dy = y + dy + (i : Int) * dy := by rw [show ((i.succ : Nat) : Int) = (i : Int) + 1 by omega, Int.add_mul]; omega
    rw [e1, e2]
  rw [e]; simp
theorem own_on {r : Rules} {p : Place} {pl x y : Int} (h : own r p pl x y = true) : onB r x y = true := by unfold own at h; rw [Bool.and_eq_true] at h; exact h.1
abbrev dX (d : Nat) : Int := getD' [(1 : Int), (0 : Int), (1 : Int), (1 : Int)] d 0
abbrev dY (d : Nat) : Int := getD' [(0 : Int), (1 : Int), (1 : Int), (-1 : Int)] d 0
def lineB (r : Rules) (p : Place) (pl c : Int) : Bool := (List.range p.1.length).any fun s => (List.range 4).any fun d => runB r p pl c.toNat ((s : Int).tmod r.width) ((s : Int).tdiv r.width) (dX d) (dY d)
theorem dX_rng (d : Nat) : -1 ≤ dX d ∧ dX d ≤ 1 := by
  match d with
  | 0 => decide
  | 1 => decide
  | 2 => decide
  | 3 => decide
  | n + 4 => simp [dX, getD']
theorem dY_rng (d : Nat) : -1 ≤ dY d ∧ dY d ≤ 1 := by
  match d with
  | 0 => decide
  | 1 => decide
  | 2 => decide
  | 3 => decide
  | n + 4 => simp [dY, getD']
theorem line3 {r : Rules} {p : Place} (h : Valid r p) {pl c : Int} (d : Nat) (hc : c ≤ 64) : ∀ (m : Nat) (x y n : Int), 0 ≤ n → n + m = c → (-1 ≤ x ∧ x ≤ 8) → (-1 ≤ y ∧ y ≤ 8) →
    ∃ n', iterW (qe0 c r p pl (((d : Int), ()), ())) ((x, y, n, ()), ()) = some ((n', ()), ()) ∧ (n' == c) = runB r p pl m x y (dX d) (dY d)
  | 0, x, y, n, h0, hn, hx, hy => by
    refine ⟨n, qk ?_, ?_⟩
    · unfold qe0
      have : decide (n < c) = false := by simp; omega
      simp only [this, cond_false, Option.bind_some]
    · rw [beq_t (by omega)]; rfl
  | m + 1, x, y, n, h0, hn, hx, hy => by
    have hr := h.r0; have := hr.w8; have := hr.h8; have := hr.w1; have := hr.h1; have ha := hr.area
    have hlt : decide (n < c) = true := by simp; omega
    have hoff : ((((decide (x < (0 : Int))) || (decide (x ≥ r.2.1))) || (decide (y < (0 : Int)))) || (decide (y ≥ r.2.2.1))) = !onB r x y := by
      rw [Bool.eq_iff_iff]; simp only [Bool.or_eq_true, decide_eq_true_eq, Bool.not_eq_true', onB, decide_eq_false_iff_not]; show ((x < 0 ∨ x ≥ r.width) ∨ y < 0) ∨ y ≥ r.height ↔ _; omega
    have hown : (bif (decide (n < c)) then (bif ((((decide (x < (0 : Int))) || (decide (x ≥ r.2.1))) || (decide (y < (0 : Int)))) || (decide (y ≥ r.2.2.1))) then some ((false, ()), ())
        else Option.bind (at? p.1 (w64 ((w64 (y * r.2.1)) + x))) fun d4 =>
        req (imp (decide (d4 > (0 : Int))) true) (some ((((decide (d4 > (0 : Int))) && (((w64 (d4 - (1 : Int))).tmod (2 : Int)) == pl)), ()), ())))
        else some ((false, ()), ())) = some ((own r p pl x y, ()), ()) := by
      rw [hlt, cond_true, hoff]; unfold own
      cases hb : onB r x y with
      | false => rfl
      | true =>
        have hs := qvM hr hb; obtain ⟨b1, b2, b3, b4⟩ := onB_iff.1 hb; have hmul := qsm (show 0 ≤ r.width by omega) b3 b4; have w1 : w64 (y * r.2.1) = y * r.2.1 := qf (by show _ ≤ y * r.width; omega) (by show y * r.width ≤ _; omega); have w2 : w64 (y * r.2.1 + x) = sq r x y := qf (by show _ ≤ sq r x y; omega) (by show sq r x y ≤ _; omega); have hcs := qnc h (sq r x y); rw [w1, w2, qkb (p := p) hs.1 (by rw [h.cells]; exact hs.2)]
        simp only [Bool.not_true, cond_false, Option.bind_some, show ∀ b, imp b true = true from fun b => by cases b <;> rfl, qb, Bool.true_and]
        rw [qf (n := cellI p (sq r x y) - 1) (by omega) (by omega)]
    rw [runB_cons]
    cases ho : own r p pl x y with
    | false =>
      refine ⟨n, qk ?_, ?_⟩
      · unfold qe0; rw [hown, ho]; rfl
      · rw [beq_f (by omega)]; rfl
    | true =>
      obtain ⟨b1, b2, b3, b4⟩ := onB_iff.1 (own_on ho); have r1 := dX_rng d; have r2 := dY_rng d; obtain ⟨n', e1, e2⟩ := line3 h (pl := pl) d hc m (x + dX d) (y + dY d) (n + 1) (by omega) (by omega) (by omega) (by omega); refine ⟨n', ?_, by rw [e2]; simp⟩
      rw [qm (y := ((x + dX d, y + dY d, n + 1, ()), ())) (by
        unfold qe0; rw [hown, ho]; simp only [Option.bind_some, cond_true, Int.toNat_natCast]
        rw [qf (n := x + dX d) (by omega) (by omega), qf (n := y + dY d) (by omega) (by omega), qf (n := n + 1) (by omega) (by omega)])]
      exact e1
theorem line_spec {r : Rules} {p : Place} (h : Valid r p) (pl : Int) {c : Int} (hc1 : 1 ≤ c) (hc : c ≤ 64) : qof r p pl c = some (lineB r p pl c) := by
  have hr := h.r0; have := hr.w8; have := hr.h8; have := hr.w1; have := hr.h1; have ha := hr.area; have hlen : ((p.1.length : Nat) : Int) = r.width * r.height := h.cells; have hq : (r.2.1 != 0) = true := bne_t (by show ¬ r.width = 0; omega); unfold qof
  have hL := qam (List.range p.1.length) (fun s => (List.range 4).any fun d => runB r p pl c.toNat ((s : Int).tmod r.width) ((s : Int).tdiv r.width) (dX d) (dY d)) (qgK p r c pl) (.inr true) (.inl ((), ())) (fun s hs => by
    have hs' : s < p.1.length := by simpa using hs
    have hdv := qrM hr (show (0 : Int) ≤ (s : Int) by omega) (show (s : Int) < r.width * r.height by omega)
    have hL2 := qam (List.range 4) (fun d => runB r p pl c.toNat ((s : Int).tmod r.width) ((s : Int).tdiv r.width) (dX d) (dY d)) (qgC r c p pl (((s : Int), ()), ())) (.inr (.inr (.inr (.inr true)))) (.inl ((), ())) (fun d hd => by
      have hd' : d < 4 := by simpa using hd
      have w1 : w64 ((s : Int).tdiv r.2.1) = (s : Int).tdiv r.width := qf (by show _ ≤ (s : Int).tdiv r.width; omega) (by show (s : Int).tdiv r.width ≤ _; omega); obtain ⟨n', e1, e2⟩ := line3 h (pl := pl) (c := c) d hc c.toNat ((s : Int).tmod r.width) ((s : Int).tdiv r.width) 0 (by omega) (by omega) (by omega) (by omega); unfold qgC; simp only [show decide ((d : Int) < 4) = true by simp; omega, cond_true, show inb (d : Int) 4 = true from inb_iff.2 ⟨by omega, by omega⟩, qb, hq, w1]; rw [show ((s : Int).tmod r.2.1) = (s : Int).tmod r.width from rfl, e1, Option.bind_some]; simp only [List.getElem_range]; rw [← e2, qf (n := (d : Int) + 1) (by omega) (by omega)]
      cases (n' == c) <;> rfl) (by
      unfold qgC
      rfl)
    unfold qgK; simp only [show decide ((s : Int) < ((p.1.length : Nat) : Int)) = true by simp; omega, cond_true, List.getElem_range]; rw [hL2, qf (n := (s : Int) + 1) (by omega) (by omega)]
    cases (List.range 4).any (fun d => runB r p pl c.toNat ((s : Int).tmod r.width) ((s : Int).tdiv r.width) (dX d) (dY d)) <;> rfl) (by
    unfold qgK
    simp)
  rw [hL]; unfold lineB
  cases (List.range p.1.length).any (fun s => (List.range 4).any fun d => runB r p pl c.toNat ((s : Int).tmod r.width) ((s : Int).tdiv r.width) (dX d) (dY d)) <;> rfl

def reachB (r : Rules) (p : Place) (x : End) (mover : Int) : Bool := (List.range p.1.length).any fun s => (cellI p (s : Int) == 2 * x.2.1 + mover + 1) && lastB r mover (s : Int)
def fewOf (p : Place) (x : End) (mover : Int) : Int := ((p.1.countP (fun c => c == 2 * x.2.1 + 1 - mover + 1) : Nat) : Int)
def metB (r : Rules) (p : Place) (x : End) (mover : Int) : Bool := bif x.1 == 0 then lineB r p mover x.2.2.1 else bif x.1 == 1 then reachB r p x mover else decide (fewOf p x mover < x.2.2.1)
structure EndOk (r : Rules) (x : End) : Prop where
  kind : 0 ≤ x.1 ∧ x.1 ≤ 2
  cnt : x.1 = 0 → 1 ≤ x.2.2.1 ∧ x.2.2.1 ≤ 64
  pc : 0 ≤ x.2.1 ∧ x.2.1 ≤ 6
theorem Valid.endOk {r : Rules} {p : Place} (h : Valid r p) {x : End} (hx : x ∈ r.ends) : EndOk r x := by
  obtain ⟨h1, h2, h3⟩ := h.r0.ends x hx; have ht := h.r0.t6; refine ⟨h1, fun e => ?_, ?_⟩
  · rw [if_neg (by omega)] at h2; exact h2
  · split at h3 <;> omega
theorem cell_get (p : Place) (i : Nat) (hi : i < p.1.length) : cellI p (i : Int) = p.1[i] := by
  unfold cellI; rw [List.getD_eq_getElem?_getD, Int.toNat_natCast]; simp [hi]
theorem qxb {r : Rules} {p : Place} (h : Valid r p) {x : End} (hx : EndOk r x) {mover : Int} (hm : mover = 0 ∨ mover = 1) : qmh r p x mover = some (metB r p x mover) := by
  have hr := h.r0; have ha := hr.area; have h64 := qba h; have hlen : ((p.1.length : Nat) : Int) = r.width * r.height := h.cells; have hp := hx.pc; unfold qmh metB; by_cases k0 : x.1 = 0
  · rw [beq_t k0, cond_true, cond_true, line_spec h mover (hx.cnt k0).1 (hx.cnt k0).2]; rfl
  · rw [beq_f k0, cond_false, cond_false]; by_cases k1 : x.1 = 1
    · rw [beq_t k1, cond_true, cond_true]
      have hL := qam (List.range p.1.length) (fun s => (cellI p (s : Int) == 2 * x.2.1 + mover + 1) && lastB r mover (s : Int)) (qfJ p x mover r) (.inr (.inr true)) (.inl ((), ())) (fun s hs => by
        have hs' : s < p.1.length := by simpa using hs
        unfold qfJ; simp only [show decide ((s : Int) < ((p.1.length : Nat) : Int)) = true by simp; omega, cond_true, List.getElem_range]; rw [qkb (p := p) (s := (s : Int)) (by omega) (by show (s : Int) < ((p.1.length : Nat) : Int); omega), Option.bind_some, qox hr mover (by omega) (by omega)]; rw [qf (n := 2 * x.2.1) (by omega) (by omega), qf (n := 2 * x.2.1 + mover) (by omega) (by omega), qf (n := 2 * x.2.1 + mover + 1) (by omega) (by omega), qf (n := (s : Int) + 1) (by omega) (by omega)]
        cases (cellI p (s : Int) == 2 * x.2.1 + mover + 1) <;> cases lastB r mover (s : Int) <;> rfl) (by
        unfold qfJ
        simp)
      rw [hL]; unfold reachB
      cases (List.range p.1.length).any (fun s => (cellI p (s : Int) == 2 * x.2.1 + mover + 1) && lastB r mover (s : Int)) <;> rfl
    · rw [beq_f k1, cond_false, cond_false, Option.bind_some, Sum.elim_inl]
      have hL := qiO p.1 (fun c => c == 2 * x.2.1 + 1 - mover + 1) (qfT p x mover) (fun c => ((c, ()), ())) (fun i hi c c0 ci => by
        unfold qfT; simp only [show decide ((i : Int) < ((p.1.length : Nat) : Int)) = true by simp; omega, cond_true]; rw [qkb (p := p) (s := (i : Int)) (by omega) (by show (i : Int) < ((p.1.length : Nat) : Int); omega), Option.bind_some, cell_get p i hi]; rw [qf (n := 2 * x.2.1) (by omega) (by omega), qf (n := 2 * x.2.1 + 1) (by omega) (by omega), qf (n := 2 * x.2.1 + 1 - mover) (by omega) (by omega), qf (n := 2 * x.2.1 + 1 - mover + 1) (by omega) (by omega), qf (n := (i : Int) + 1) (by omega) (by omega), qf (n := c + 1) (by omega) (by omega)]; cases (p.1[i] == 2 * x.2.1 + 1 - mover + 1) <;> rfl) (fun c => by
        unfold qfT
        simp)
      rw [hL]; rfl
def endE (r : Rules) (p : Place) (i : Nat) : Option (((Unit) × (Unit)) ⊕ Int) := match r.2.2.2.2.2.2.2.1[i]? with
  | some x => bif metB r p x (1 - p.turn) then some (.inr (bif x.2.2.2.1 then 1 + p.turn else 1 + (1 - p.turn))) else none
  | none => none
def qvP (r : Rules) (p : Place) : Int := bif r.blocked == 0 then 1 + (1 - p.turn) else bif r.blocked == 1 then 1 + p.turn else 3
def qae (r : Rules) (p : Place) : Int := match scan (endE r p) (.inl ((), ())) 0 r.2.2.2.2.2.2.2.1.length with
  | .inl _ => bif (r.quiet != 0) && decide (p.quiet ≥ r.quiet) then 3 else bif decide ((((qf5 r p).length : Nat) : Int) > 0) then 0 else qvP r p
  | .inr v => v
theorem turn_w {r : Rules} {p : Place} (h : Valid r p) : w64 ((1 : Int) - p.2.2.1) = 1 - p.turn ∧ w64 ((1 : Int) + p.2.2.1) = 1 + p.turn ∧ w64 (1 + (1 - p.turn)) = 1 + (1 - p.turn) ∧ w64 (1 + p.turn) = 1 + p.turn := by
  have ht := h.turn; refine ⟨qf (by show _ ≤ 1 - p.turn; omega) (by show 1 - p.turn ≤ _; omega), qf (by show _ ≤ 1 + p.turn; omega) (by show 1 + p.turn ≤ _; omega), qf (by omega) (by omega), qf (by omega) (by omega)⟩
theorem qkt {r : Rules} {p : Place} (h : Valid r p) : qds r p = some (qae r p) := by
  have ht := h.turn; obtain ⟨t1, t2, t3, t4⟩ := turn_w h; have h6 : r.2.2.2.2.2.2.2.1.length ≤ 6 := h.r0.ends6; unfold qds qae
  have hL := qmP r.2.2.2.2.2.2.2.1.length (qep r p) (endE r p) (.inl ((), ())) (fun i hi => by
    unfold qep endE; rw [List.getElem?_eq_getElem hi]; simp only [show decide ((i : Int) < ((r.2.2.2.2.2.2.2.1.length : Nat) : Int)) = true by simp; omega, cond_true]; rw [at?_eq r.2.2.2.2.2.2.2.1 (i : Int) (by omega) (by omega), Option.bind_some, t1]; simp only [Int.toNat_natCast]; rw [qxb h (h.endOk (List.getElem_mem hi)) (by omega), Option.bind_some]; cases metB r p r.2.2.2.2.2.2.2.1[i] (1 - p.turn)
    · simp only [cond_false]; rw [qf (n := (i : Int) + 1) (by omega) (by omega)]; rfl
    · simp only [cond_true, show decide ((i : Int) ≥ 0) = true by simp, Option.bind_some]; unfold qcN; rw [t3, show p.2.2.1 = p.turn from rfl, t4]
      cases (r.2.2.2.2.2.2.2.1[i]).2.2.2.1 <;> rfl) (by
    unfold qep
    simp)
  rw [hL, Option.bind_some]
  cases scan (endE r p) (.inl ((), ())) 0 r.2.2.2.2.2.2.2.1.length with
  | inr v => rfl
  | inl u =>
    simp only [Sum.elim_inl]; rw [show ((r.2.2.2.2.2.2.2.2.2.1 != (0 : Int)) && (decide (p.2.2.2.1 ≥ r.2.2.2.2.2.2.2.2.2.1))) = ((r.quiet != 0) && decide (p.quiet ≥ r.quiet)) from rfl]; cases ((r.quiet != 0) && decide (p.quiet ≥ r.quiet))
    · rw [cond_false, cond_false, qlP h, Option.bind_some]; cases decide ((((qf5 r p).length : Nat) : Int) > 0)
      · rw [cond_false, cond_false, t1]; unfold qvP qcN; rw [t3, show p.2.2.1 = p.turn from rfl, t4, show r.2.2.2.2.2.2.2.2.1 = r.blocked from rfl]
        cases (r.blocked == 0) <;> cases (r.blocked == 1) <;> rfl
      · rfl
    · rfl

def qpI (p : Place) (m : Mv) : Int := 2 * m.2.2.1 + p.turn + 1
def cellsA (p : Place) (m : Mv) : List Int := (bif decide (m.1 ≥ 0) then p.1.set m.1.toNat 0 else p.1).set m.2.1.toNat (qpI p m)
def handD (m : Mv) (h : List Int) : List Int := bif decide (m.1 ≥ 0) then h else h.set m.2.2.1.toNat (h.getD m.2.2.1.toNat 0 - 1)
def handK (r : Rules) (c : Int) (h : List Int) : List Int := bif decide (c > 0) && r.keeps then h.set (qbU c).toNat (if 1000 < h.getD (qbU c).toNat 0 + 1 then 1000 else h.getD (qbU c).toNat 0 + 1) else h
def handA (r : Rules) (p : Place) (m : Mv) (h : List Int) : List Int := handK r (cellI p m.2.1) (handD m h)
def qq0 (p : Place) (m : Mv) : Int := bif decide (cellI p m.2.1 > 0) || decide (m.1 < 0) then 0 else if 200 < p.quiet + 1 then 200 else p.quiet + 1
def qnb (r : Rules) (p : Place) (m : Mv) : Place := (cellsA p m, ((bif p.turn == 0 then handA r p m p.2.1.1 else p.2.1.1), (bif p.turn == 0 then p.2.1.2.1 else handA r p m p.2.1.2.1), ()), 1 - p.turn, qq0 p m, ())
theorem copy_spec {r : Rules} {p : Place} (h : Valid r p) : qe4 p = some p := by
  have h64 := qba h; have ht := h.r0.t6; have a0 : p.2.1.1.length = r.pieces.length := h.l0; have a1 : p.2.1.2.1.length = r.pieces.length := h.l1; unfold qe4; rw [qfx p.1 (by omega), qfx p.2.1.1 (by omega), qfx p.2.1.2.1 (by omega)]; simp only [Option.bind_some, agree_self]
theorem qgA {r : Rules} {p : Place} {m : Mv} (ha : qA r p m = true) : (-1 ≤ m.1 ∧ m.1 < ((p.1.length : Nat) : Int)) ∧ (0 ≤ m.2.1 ∧ m.2.1 < ((p.1.length : Nat) : Int)) ∧ (0 ≤ m.2.2.1 ∧ m.2.2.1 < ((r.pieces.length : Nat) : Int)) := by
  unfold qA mvOk at ha; rw [Bool.and_eq_true, decide_eq_true_eq] at ha; exact ha.1
theorem qkl {r : Rules} {p : Place} {m : Mv} (ha : qA r p m = true) (hm : m.1 = -1) : handI p m.2.2.1 > 0 ∧ cellI p m.2.1 = 0 := by
  unfold qA putOk at ha; rw [beq_t hm, cond_true] at ha; simp only [Bool.and_eq_true, decide_eq_true_eq, beq_iff_eq] at ha; exact ⟨ha.2.1, ha.2.2.1⟩
theorem qpy (m : Mv) (h : List Int) : (handD m h).length = h.length := by unfold handD; cases decide (m.1 ≥ 0) <;> simp
theorem qsT (r : Rules) (c : Int) (h : List Int) : (handK r c h).length = h.length := by unfold handK; cases (decide (c > 0) && r.keeps) <;> simp
theorem qoi {l : List Int} {b : Int} (hb : 0 ≤ b) (h : ∀ c ∈ l, 0 ≤ c ∧ c ≤ b) (i : Nat) : 0 ≤ l.getD i 0 ∧ l.getD i 0 ≤ b := by
  rw [List.getD_eq_getElem?_getD]
  cases e : l[i]? with
  | none => simp; exact hb
  | some c => exact h c (List.mem_of_getElem? e)
theorem qs1 {r : Rules} {p : Place} {m : Mv} (h : Valid r p) (ha : qA r p m = true) : ∀ c ∈ handD m (qcr p), 0 ≤ c ∧ c ≤ 1000 := by
  have hr := qwh h; unfold handD
  cases hd : decide (m.1 ≥ 0) with
  | true => exact hr
  | false =>
    intro c hc; rw [cond_false] at hc
    have hm : m.1 = -1 := by have := (qgA ha).1.1; simp at hd; omega
    have hp := (qkl ha hm).1; have hg := qoi (by omega) hr m.2.2.1.toNat; rcases List.mem_or_eq_of_mem_set hc with h1 | h1
    · exact hr c h1
    · unfold handI at hp; omega
theorem handK_rng {r : Rules} {c : Int} {h : List Int} (hh : ∀ x ∈ h, 0 ≤ x ∧ x ≤ 1000) : ∀ x ∈ handK r c h, 0 ≤ x ∧ x ≤ 1000 := by
  unfold handK
  cases (decide (c > 0) && r.keeps) with
  | false => exact hh
  | true =>
    intro x hx; have hg := qoi (by omega) hh (qbU c).toNat; rcases List.mem_or_eq_of_mem_set hx with h1 | h1
    · exact hh x h1
    · rw [h1]; split <;> omega
theorem qtF {r : Rules} {p : Place} {m : Mv} (hv : Valid r p) (ha : qA r p m = true) (l : List Int) (hl : l = qcr p) :
    (decide (m.1 ≥ 0) = false → inb m.2.2.1 l.length = true ∧ w64 (getD' l m.2.2.1.toNat 0 - 1) = l.getD m.2.2.1.toNat 0 - 1) ∧
    (decide (cellI p m.2.1 > 0) = true → inb (qbU (cellI p m.2.1)) (handD m l).length = true ∧ w64 (getD' (handD m l) (qbU (cellI p m.2.1)).toNat 0 + 1) = (handD m l).getD (qbU (cellI p m.2.1)).toNat 0 + 1) := by
  subst hl; have hr := qwh hv; have hl := qor hv; obtain ⟨r1, r2, r3⟩ := qgA ha; refine ⟨fun _ => ⟨inb_iff.2 ⟨r3.1, by rw [hl]; exact r3.2⟩, ?_⟩, fun hc => ⟨?_, ?_⟩⟩
  · have := qoi (by omega) hr m.2.2.1.toNat; exact qf (by show _ ≤ (qcr p).getD m.2.2.1.toNat 0 - 1; omega) (by show (qcr p).getD m.2.2.1.toNat 0 - 1 ≤ _; omega)
  · have hk := qmb hv (of_decide_eq_true hc); exact inb_iff.2 ⟨hk.2.1, by rw [qpy, hl]; exact hk.2.2⟩
  · have := qoi (by omega) (qs1 hv ha) (qbU (cellI p m.2.1)).toNat; exact qf (by show _ ≤ (handD m (qcr p)).getD (qbU (cellI p m.2.1)).toNat 0 + 1; omega) (by show (handD m (qcr p)).getD (qbU (cellI p m.2.1)).toNat 0 + 1 ≤ _; omega)
theorem qsJ {r : Rules} {p : Place} {m : Mv} (h : Valid r p) (ha : qA r p m = true) : qH r p m = some (qnb r p m) := by
  obtain ⟨r1, r2, r3⟩ := qgA ha; have ht6 := h.r0.t6; have hq := h.quiet; have htn := h.turn; have h64 := qba h; have hto : inb m.2.1 p.1.length = true := inb_iff.2 r2; have wv : w64 (w64 (w64 (2 * m.2.2.1) + p.2.2.1) + 1) = qpI p m := by
    unfold qpI; rw [show p.2.2.1 = p.turn from rfl, qf (n := 2 * m.2.2.1) (by omega) (by omega), qf (n := 2 * m.2.2.1 + p.turn) (by omega) (by omega), qf (by omega) (by omega)]
  have wq : w64 (p.2.2.2.1 + 1) = p.quiet + 1 := qf (by show _ ≤ p.quiet + 1; omega) (by show p.quiet + 1 ≤ _; omega); have wt : w64 (1 - p.2.2.1) = 1 - p.turn := (turn_w h).1; have hcell : getD' p.1 m.2.1.toNat 0 = cellI p m.2.1 := rfl; have hin : inb p.2.2.1 2 = true := inb_iff.2 (by show 0 ≤ p.turn ∧ p.turn < ((2 : Nat) : Int); omega); have wk : decide (cellI p m.2.1 > 0) = true → w64 ((w64 (cellI p m.2.1 - 1)).tdiv 2) = qbU (cellI p m.2.1) := fun hc => (qmb h (of_decide_eq_true hc)).1; have hho : qcr p = if p.turn = 0 then p.2.1.1 else p.2.1.2.1 := qlt h; have hneg : decide (m.1 < 0) = !decide (m.1 ≥ 0) := by
    rw [Bool.eq_iff_iff]; simp only [decide_eq_true_eq, Bool.not_eq_true', decide_eq_false_iff_not]; omega
  unfold qH qnb; rw [copy_spec h, Option.bind_some]; simp only [hcell, hto, qb, wv, wq, wt, hin, hneg]; rcases htn with e | e
  · have e' : p.2.2.1 = 0 := e; rw [if_pos e] at hho; obtain ⟨k1, k2⟩ := qtF h ha p.2.1.1 hho.symm; simp only [e', e, show ((0 : Int) == 0) = true from rfl, cond_true]; unfold handA cellsA qq0 handK; simp only [hneg]
    cases hd : decide (m.1 ≥ 0) with
    | true =>
      have hf : inb m.1 p.1.length = true := inb_iff.2 ⟨of_decide_eq_true hd, r1.2⟩
      have hD : handD m p.2.1.1 = p.2.1.1 := by unfold handD; rw [hd]; rfl
      rw [hD] at k2 ⊢; simp only [cond_true, hf, qb, Option.bind_some, List.length_set, hto]
      cases hc : decide (cellI p m.2.1 > 0) with
      | false => rfl
      | true =>
        obtain ⟨k3, k4⟩ := k2 hc
        cases hk : r.2.2.2.2.2.2.1 with
        | false => rw [show r.keeps = false from hk]; rfl
        | true =>
          rw [show r.keeps = true from hk]; simp only [Bool.true_and, cond_true, wk hc, k3, qb, k4, Option.bind_some]; rfl
    | false =>
      obtain ⟨k5, k6⟩ := k1 hd
      have hD : handD m p.2.1.1 = p.2.1.1.set m.2.2.1.toNat (p.2.1.1.getD m.2.2.1.toNat 0 - 1) := by unfold handD; rw [hd]; rfl
      have hz : decide (cellI p m.2.1 > 0) = false := by
        have := (qkl ha (by simp at hd; omega)).2; rw [this]; rfl
      rw [hD]; simp only [cond_false, k5, k6, qb, Option.bind_some, hz, Bool.false_and, hto]; rfl
  · have e' : p.2.2.1 = 1 := e; rw [if_neg (by omega)] at hho; obtain ⟨k1, k2⟩ := qtF h ha p.2.1.2.1 hho.symm; simp only [e', e, show ((1 : Int) == 0) = false from rfl, cond_false]; unfold handA cellsA qq0 handK; simp only [hneg]
    cases hd : decide (m.1 ≥ 0) with
    | true =>
      have hf : inb m.1 p.1.length = true := inb_iff.2 ⟨of_decide_eq_true hd, r1.2⟩
      have hD : handD m p.2.1.2.1 = p.2.1.2.1 := by unfold handD; rw [hd]; rfl
      rw [hD] at k2 ⊢; simp only [cond_true, hf, qb, Option.bind_some, List.length_set, hto]
      cases hc : decide (cellI p m.2.1 > 0) with
      | false => rfl
      | true =>
        obtain ⟨k3, k4⟩ := k2 hc
        cases hk : r.2.2.2.2.2.2.1 with
        | false => rw [show r.keeps = false from hk]; rfl
        | true =>
          rw [show r.keeps = true from hk]; simp only [Bool.true_and, cond_true, wk hc, k3, qb, k4, Option.bind_some]; rfl
    | false =>
      obtain ⟨k5, k6⟩ := k1 hd
      have hD : handD m p.2.1.2.1 = p.2.1.2.1.set m.2.2.1.toNat (p.2.1.2.1.getD m.2.2.1.toNat 0 - 1) := by unfold handD; rw [hd]; rfl
      have hz : decide (cellI p m.2.1 > 0) = false := by
        have := (qkl ha (by simp at hd; omega)).2; rw [this]; rfl
      rw [hD]; simp only [cond_false, k5, k6, qb, Option.bind_some, hz, Bool.false_and, hto]; rfl
theorem qvg {r : Rules} {p : Place} {m : Mv} (h : Valid r p) (ha : qA r p m = true) : Valid r (qnb r p m) := by
  obtain ⟨r1, r2, r3⟩ := qgA ha; have htn := h.turn; have hq := h.quiet; have hK := handK_rng (r := r) (c := cellI p m.2.1) (qs1 h ha); have hho := qlt h; refine ⟨h.r0, ?_, ?_, ?_, ?_, ?_, ?_, ?_, ?_⟩
  · show ((((bif decide (m.1 ≥ 0) then p.1.set m.1.toNat 0 else p.1).set m.2.1.toNat (qpI p m)).length : Nat) : Int) = _
    have : ((bif decide (m.1 ≥ 0) then p.1.set m.1.toNat 0 else p.1).set m.2.1.toNat (qpI p m)).length = p.1.length := by cases decide (m.1 ≥ 0) <;> simp
    rw [this]; exact h.cells
  · show (bif p.turn == 0 then handA r p m p.2.1.1 else p.2.1.1).length = _; cases (p.turn == 0)
    · exact h.l0
    · rw [cond_true]; unfold handA; rw [qsT, qpy]; exact h.l0
  · show (bif p.turn == 0 then p.2.1.2.1 else handA r p m p.2.1.2.1).length = _; cases (p.turn == 0)
    · rw [cond_false]; unfold handA; rw [qsT, qpy]; exact h.l1
    · exact h.l1
  · intro c hc; have hc : c ∈ (bif decide (m.1 ≥ 0) then p.1.set m.1.toNat 0 else p.1).set m.2.1.toNat (qpI p m) := hc; rcases List.mem_or_eq_of_mem_set hc with h1 | h1
    · cases hd : decide (m.1 ≥ 0) with
      | false => rw [hd, cond_false] at h1; exact h.cell c h1
      | true =>
        rw [hd, cond_true] at h1; rcases List.mem_or_eq_of_mem_set h1 with h2 | h2
        · exact h.cell c h2
        · have := h.r0.t1; omega
    · rw [h1]; unfold qpI; omega
  · intro c hc; have hc : c ∈ (bif p.turn == 0 then handA r p m p.2.1.1 else p.2.1.1) := hc; rcases htn with e | e
    · rw [beq_t e, cond_true] at hc; rw [if_pos e] at hho; have hc : c ∈ handK r (cellI p m.2.1) (handD m p.h0) := hc; rw [← hho] at hc; exact hK c hc
    · rw [beq_f (by omega), cond_false] at hc; exact h.hand0 c hc
  · intro c hc; have hc : c ∈ (bif p.turn == 0 then p.2.1.2.1 else handA r p m p.2.1.2.1) := hc; rcases htn with e | e
    · rw [beq_t e, cond_true] at hc; exact h.hand1 c hc
    · rw [beq_f (by omega), cond_false] at hc; rw [if_neg (by omega)] at hho; have hc : c ∈ handK r (cellI p m.2.1) (handD m p.h1) := hc; rw [← hho] at hc; exact hK c hc
  · show 1 - p.turn = 0 ∨ 1 - p.turn = 1; omega
  · show 0 ≤ qq0 p m ∧ qq0 p m ≤ 200; unfold qq0; cases (decide (cellI p m.2.1 > 0) || decide (m.1 < 0))
    · rw [cond_false]; split <;> omega
    · simp

def qks (r : Rules) : List Int := r.2.2.2.1.map fun x => x.2.1
def qaQ (r : Rules) : Place := (r.2.2.2.2.1, (qks r, qks r, ()), 0, 0, ())
theorem qvl {r : Rules} (h : VR0 r) : Valid r (qaQ r) := by
  have hh : ∀ c ∈ qks r, 0 ≤ c ∧ c ≤ 1000 := fun c hc => by
    obtain ⟨x, hx, rfl⟩ := List.mem_map.1 hc; have := h.hand x hx; omega
  have hl : (qks r).length = r.pieces.length := by unfold qks; simp
  exact ⟨h, h.start, hl, hl, h.startC, hh, hh, .inl rfl, by show (0 : Int) ≤ 0 ∧ (0 : Int) ≤ 200; omega⟩
theorem map_take {A B : Type} (l : List A) (f : A → B) (i : Nat) (hi : i < l.length) : (l.take (i + 1)).map f = (l.take i).map f ++ [f l[i]] := by
  rw [List.take_succ_eq_append_getElem hi, List.map_append]; rfl
theorem qmZ (r : Rules) (hr : Rng qal r) : qeA r = some (if qad r = 0 then (qaQ r, 0, ()) else (([], ([], [], ()), 0, 0, ()), qad r, ())) := by
  unfold qeA; rw [qqT r hr, Option.bind_some]; by_cases c : qad r = 0
  · have h := qbI c; have hs : ((r.2.2.2.2.1.length : Nat) : Int) = r.width * r.height := h.start; have ha := h.area; have ht : r.2.2.2.1.length ≤ 6 := h.t6; rw [bne_f c, cond_false, if_pos c, qfx _ (by omega), Option.bind_some]
    have hL := qV (f := qc7 r) r.2.2.2.1.length (fun i => (((i : Int), ()), ((r.2.2.2.2.1, ((r.2.2.2.1.take i).map (fun x => x.2.1), ((r.2.2.2.1.take i).map (fun x => x.2.1), ((0 : Int), ((0 : Int), ()))))), ()))) ((), ((r.2.2.2.2.1, (qks r, (qks r, ((0 : Int), ((0 : Int), ()))))), ())) (fun i hi => by
      unfold qc7; simp only [show decide ((i : Int) < ((r.2.2.2.1.length : Nat) : Int)) = true by simp; omega, cond_true]; rw [at?_eq _ _ (by omega) (by omega), Option.bind_some]; simp only [Int.toNat_natCast]; have hroom : ∀ z : Int, room (((r.2.2.2.1.take i).map (fun x => x.2.1)).length + [z].length) 8 = true := fun z => qI (by simp; omega); simp only [hroom, qb, agree_self, Option.bind_some]; rw [qf (n := (i : Int) + 1) (by omega) (by omega), map_take _ _ i hi]
      rfl) (by
      unfold qc7; simp only [show decide (((r.2.2.2.1.length : Nat) : Int) < ((r.2.2.2.1.length : Nat) : Int)) = false by simp, cond_false, List.take_length]
      rfl)
    have hL' : iterW (qc7 r) (((0 : Int), ()), ((r.2.2.2.2.1, (([] : List Int), (([] : List Int), ((0 : Int), ((0 : Int), ()))))), ())) = _ := hL; rw [hL', Option.bind_some]; rfl
  · rw [bne_t c, cond_true, if_neg c]
theorem qf9 (s : List Mv) (v : Mv) (hs : s.length ≤ 1000000000) : qw s v = some (decide (v ∈ s)) := by
  unfold qw qea
  have hL := qmP s.length (qbc s v) (fun i => if v = s.getD i d0 then some (.inr (i : Int)) else none) (.inl ((), ())) (fun i hi => by
    unfold qbc; simp only [show decide ((i : Int) < ((s.length : Nat) : Int)) = true by simp; omega, cond_true]; rw [at?_eq s _ (by omega) (by omega), Option.bind_some, qf (n := (i : Int) + 1) (by omega) (by omega)]; simp only [Int.toNat_natCast, List.getD_eq_getElem?_getD, List.getElem?_eq_getElem hi, Option.getD_some, mv_beq]; by_cases e : v = s[i]
    · simp [e]
    · simp [e]) (by unfold qbc; simp)
  rw [hL]; have key : ∀ k i, i + k = s.length → (Option.bind (Option.bind (some (scan (fun i => if v = s.getD i d0 then some (Sum.inr (i : Int)) else none) (Sum.inl ((), ())) i k)) (Sum.elim (fun _ : Unit × Unit => some (-1 : Int)) some)) fun r2 => some (decide (r2 ≥ (0 : Int)))) = some (decide (v ∈ s.drop i)) := by
    intro k
    induction k with
    | zero =>
      intro i hi; rw [show i = s.length by omega, List.drop_length]; simp [scan]
    | succ k ih =>
      intro i hi
      have hil : i < s.length := by omega
      have hmem : (v ∈ s.drop i) ↔ v = s[i] ∨ v ∈ s.drop (i + 1) := by rw [List.drop_eq_getElem_cons hil, List.mem_cons]
      unfold scan
      have hg : s.getD i d0 = s[i] := by simp [List.getD_eq_getElem?_getD, hil]
      by_cases e : v = s[i]
      · rw [decide_eq_true (hmem.2 (.inl e))]; simp only [hg, if_pos e, Option.bind_some, Sum.elim_inr]; simp
      · simp only [hg, if_neg e]; rw [ih (i + 1) (by omega)]; have h2 : (v ∈ s.drop (i + 1)) ↔ v ∈ s.drop i := ⟨fun h => hmem.2 (.inr h), fun h => (hmem.1 h).resolve_left e⟩; simp only [h2]
  have := key s.length 0 (by omega); simpa using this
theorem qka {r : Rules} {p : Place} (h : Valid r p) : (qf5 r p).length ≤ 100000 := by
  have h64 := qba h; refine Nat.le_trans (qbL _ 384 _ fun i _ => at1_len h i) ?_; rw [List.length_range]; omega

theorem rep_eta (r : Rules) : (r.1, (r.2.1, (r.2.2.1, (r.2.2.2.1, (r.2.2.2.2.1, (r.2.2.2.2.2.1, (r.2.2.2.2.2.2.1, (r.2.2.2.2.2.2.2.1, (r.2.2.2.2.2.2.2.2.1, (r.2.2.2.2.2.2.2.2.2.1, (r.2.2.2.2.2.2.2.2.2.2.1, ()))))))))))) = r := rfl
theorem pl_eta (p : Place) : (p.1, ((p.2.1.1, (p.2.1.2.1, ())), p.2.2)) = p := rfl
theorem gd_eq {A : Type} (xs : List A) (i : Nat) (hi : i < xs.length) (d : A) : getD' xs i d = xs[i] := by simp [getD', hi]
theorem ltd {A : Type} (xs : List A) (i : Nat) (hi : i < xs.length) : decide ((i : Int) < ((xs.length : Nat) : Int)) = true := by simp; omega
theorem nltd {A : Type} (xs : List A) : decide (((xs.length : Nat) : Int) < ((xs.length : Nat) : Int)) = false := by simp
theorem inbN {A : Type} (xs : List A) (i : Nat) (hi : i < xs.length) : inb (i : Int) xs.length = true := inb_iff.2 ⟨by omega, by omega⟩
theorem quB (a b : List Int) (ha : a.length ≤ 1000000000) : qa2 a b = some (decide (a = b)) := by
  unfold qa2; by_cases hl : a.length = b.length
  · have e : (((a.length : Nat) : Int) != ((b.length : Nat) : Int)) = false := bne_f (by omega); rw [e, cond_false]
    have hL := qam (List.range a.length) (fun i => a.getD i 0 != b.getD i 0) (qbB a b) (.inr false) (.inl ((), ())) (fun i hi => by
      have hi' : i < a.length := by simpa using hi
      unfold qbB; simp only [show decide ((i : Int) < ((a.length : Nat) : Int)) = true by simp; omega, cond_true, List.getElem_range]; rw [at?_eq a _ (by omega) (by omega), at?_eq b _ (by omega) (by omega), Option.bind_some, Option.bind_some, qf (n := (i : Int) + 1) (by omega) (by omega)]; simp only [Int.toNat_natCast, List.getD_eq_getElem?_getD, List.getElem?_eq_getElem hi', List.getElem?_eq_getElem (show i < b.length by omega), Option.getD_some]
      cases (a[i] != b[i]) <;> rfl) (by unfold qbB; simp)
    rw [hL]
    cases hany : (List.range a.length).any (fun i => a.getD i 0 != b.getD i 0) with
    | true =>
      rw [List.any_eq_true] at hany; obtain ⟨i, _, h⟩ := hany
      have : ¬ a = b := fun e => by subst e; simp at h
      simp [this]
    | false =>
      rw [List.any_eq_false] at hany; have : a = b := by
        apply List.ext_getElem hl; intro i h1 h2; have := hany i (List.mem_range.2 h1); simpa [List.getD_eq_getElem?_getD, h1, h2] using this
      simp [this]
  · have e : (((a.length : Nat) : Int) != ((b.length : Nat) : Int)) = true := bne_t (by omega); rw [e, cond_true]; have : ¬ a = b := fun h => hl (by rw [h]); simp [this]
def same0 (p q : Place) : Bool := ((decide (p.1 = q.1) && decide (p.2.1.1 = q.2.1.1)) && decide (p.2.1.2.1 = q.2.1.2.1)) && (p.2.2.1 == q.2.2.1)
theorem qoZ {r : Rules} {p q : Place} (h : Valid r p) : qbW p q = some (same0 p q) := by
  have h64 := qba h; have t6 := h.r0.t6; have l0 : p.2.1.1.length = r.pieces.length := h.l0; have l1 : p.2.1.2.1.length = r.pieces.length := h.l1; unfold qbW same0; rw [quB _ _ (by omega), quB _ _ (by omega), quB _ _ (by omega)]
  have hg : ∀ b c : Bool, gopt b false (some c) = some (b && c) := fun b c => by cases b <;> rfl
  simp only [hg, Option.bind_some, Option.some.injEq]
  cases decide (p.1 = q.1) <;> cases decide (p.2.1.1 = q.2.1.1) <;> cases decide (p.2.1.2.1 = q.2.1.2.1) <;> cases (p.2.2.1 == q.2.2.1) <;> rfl
theorem qwY {r : Rules} {p : Place} (h : Valid r p) : qe4 p = some p := by
  have h64 := qba h; have t6 := h.r0.t6; have l0 : p.2.1.1.length = r.pieces.length := h.l0; have l1 : p.2.1.2.1.length = r.pieces.length := h.l1; unfold qe4; simp only [agree_self]; rw [qfx _ (by omega), Option.bind_some, qfx _ (by omega), Option.bind_some, qfx _ (by omega)]; rfl
theorem qw4 (s : List (Int × Int × Int × Int × Unit)) (h : s.length ≤ 1000000) : qbe s = some s := by
  unfold qbe; have : room (([] : List (Int × Int × Int × Int × Unit)).length + s.length) 32 = true := qI (by simp; omega); rw [this]
  cases s with
  | nil => simp [qb, agree_self]
  | cons a l => simp [qb]
theorem qxe (s : List (Int × Int × Int × Bool × Unit)) (h : s.length ≤ 1000000) : qaA s = some s := by
  unfold qaA; have : room (([] : List (Int × Int × Int × Bool × Unit)).length + s.length) 32 = true := qI (by simp; omega); rw [this]
  cases s with
  | nil => simp [qb, agree_self]
  | cons a l => simp [qb]
theorem qmC {r : Rules} (h : VR0 r) : qaZ r = some r := by
  have t6 : r.2.2.2.1.length ≤ 6 := h.t6; have e6 : r.2.2.2.2.2.2.2.1.length ≤ 6 := h.ends6; have hs : ((r.2.2.2.2.1.length : Nat) : Int) = r.width * r.height := h.start; have ha := h.area; unfold qaZ; simp only [agree_self]
  have hL := qV (f := qdT r) r.2.2.2.1.length (fun i => (((i : Int), ()), ((r.1, (r.2.1, (r.2.2.1, (r.2.2.2.1.take i, r.2.2.2.2)))), ()))) ((), ((r.1, (r.2.1, (r.2.2.1, (r.2.2.2.1, r.2.2.2.2)))), ())) (fun i hi => by
    unfold qdT; simp only [show decide ((i : Int) < ((r.2.2.2.1.length : Nat) : Int)) = true by simp; omega, cond_true]; rw [at?_eq _ _ (by omega) (by omega), Option.bind_some]; simp only [Int.toNat_natCast]; rw [qw4 _ (by have : r.2.2.2.1[i].2.2.2.1.length ≤ 16 := h.ways _ (List.getElem_mem hi); omega), Option.bind_some]; have hroom : ∀ z : Piece, room ((r.2.2.2.1.take i).length + [z].length) 48 = true := fun z => qI (by simp; omega); rw [hroom, qb, qf (n := (i : Int) + 1) (by omega) (by omega), List.take_succ_eq_append_getElem hi]
    rfl) (by
    unfold qdT
    simp only [show decide (((r.2.2.2.1.length : Nat) : Int) < ((r.2.2.2.1.length : Nat) : Int)) = false by simp, cond_false, List.take_length])
  have hL' : iterW (qdT r) (((0 : Int), ()), ((r.1, (r.2.1, (r.2.2.1, (([] : List Piece), r.2.2.2.2)))), ())) = _ := hL; rw [hL', Option.bind_some, qfx _ (by omega), Option.bind_some, qxe _ (by omega)]; rfl
theorem qkM {r : Rules} {p : Place} (c : qad r = 0) (h : Valid r p) : qW r p = 0 := by
  unfold qW; rw [if_neg (by simp [c])]; have h1 : qkp r p = false := by
    unfold qkp; rw [bne_f h.cells, bne_f (by have := h.l0; omega), bne_f (by have := h.l1; omega)]; rfl
  have h2 : qgD r p = false := by
    unfold qgD; have a1 : p.cells.any (outC r) = false := by
      rw [List.any_eq_false]; intro x hx; have := h.cell x hx; simp [outC]; omega
    have a2 : (p.h0 ++ p.h1).any outH = false := by
      rw [List.any_eq_false]; intro x hx; have : 0 ≤ x ∧ x ≤ 1000 := (List.mem_append.1 hx).elim (h.hand0 x) (h.hand1 x); simp [outH]; omega
    have a3 : outT p = false := by
      have hq := h.quiet; have ht := h.turn; simp [outT]; omega
    rw [a1, a2, a3]; rfl
  rw [h1, h2]; rfl
def dP : Place := ([], (([], ([], ())), ((0 : Int), ((0 : Int), ()))))
def lastP (l : List Place) : Place := getD' l (l.length - 1) dP
def qaC (l : List Place) : Nat := l.countP fun p => same0 p (lastP l)
def qx (r : Rules) (l : List Place) : Int := bif ((qae r (lastP l) == 0) && (r.repeats != 0)) && decide (((qaC l : Nat) : Int) ≥ r.repeats) then 3 else qae r (lastP l)
structure OKG (r : Rules) (s : List Place × List Mv) : Prop where
  ok : qad r = 0
  all : ∀ p ∈ s.1, Valid r p
  len : s.1.length = s.2.length + 1
  most : s.2.length ≤ 400
theorem qvu {l : List Place} (h : 0 < l.length) : lastP l ∈ l := by
  unfold lastP; rw [gd_eq l (l.length - 1) (by omega)]; exact List.getElem_mem _
theorem OKG.last {r : Rules} {s : List Place × List Mv} (h : OKG r s) : Valid r (lastP s.1) := h.all _ (qvu (by have := h.len; omega))
def stepG (r : Rules) (s : List Place × List Mv) (m : Mv) : Int := if qx r s.1 = 0 then if qA r (lastP s.1) m = true then if s.2.length = 400 then 9 else 0 else 13 else 14
def nextG (r : Rules) (s : List Place × List Mv) (m : Mv) : List Place × List Mv := (s.1 ++ [qnb r (lastP s.1) m], s.2 ++ [m])
theorem qvf {r : Rules} {s : List Place × List Mv} {m : Mv} (h : OKG r s) (c : stepG r s m = 0) : OKG r (nextG r s m) := by
  unfold stepG at c; by_cases c1 : qx r s.1 = 0
  · rw [if_pos c1] at c; by_cases c2 : qA r (lastP s.1) m = true
    · rw [if_pos c2] at c; by_cases c3 : s.2.length = 400
      · rw [if_pos c3] at c; cases c
      · have hl := h.len; have hm := h.most; refine ⟨h.ok, fun p hp => ?_, by unfold nextG; simp; omega, by unfold nextG; simp; omega⟩; rcases List.mem_append.1 hp with hp | hp
        · exact h.all p hp
        · rw [List.mem_singleton.1 hp]; exact qvg h.last c2
    · rw [if_neg c2] at c; cases c
  · rw [if_neg c1] at c; cases c
noncomputable def cntF (L : List Place) (c i : Int) : Option (((Int × Int × Unit) × Unit) ⊕ ((Int × Unit) × Unit)) :=
  bif (decide (i < ((L.length : Nat) : Int))) then (req (inb i L.length) (Option.bind (req (inb (w64 (((L.length : Nat) : Int) - 1)) L.length) (Option.bind (qbW (getD' L i.toNat dP) (getD' L (w64 (((L.length : Nat) : Int) - 1)).toNat dP)) fun x => some ((x, ()), ()))) fun x : (Bool × Unit) × Unit =>
    Option.bind (bif x.1.1 then some ((w64 (c + 1), ()), ()) else some ((c, ()), ())) fun y : (Int × Unit) × Unit => some (Sum.inl ((y.1.1, w64 (i + 1), ()), ()))))
  else some (Sum.inr ((c, ()), ()))
theorem qmo {A : Type} {L : List A} (h0 : 0 < L.length) (h : L.length ≤ 1000000000) : w64 (((L.length : Nat) : Int) - 1) = ((L.length - 1 : Nat) : Int) := by
  rw [qf (by omega) (by omega)]; omega
abbrev Game := Rules × List Place × List Mv × Unit
theorem atP {L : List Place} (h0 : 0 < L.length) : at? L ((L.length - 1 : Nat) : Int) = some (lastP L) := by
  rw [at?_eq _ _ (by omega) (by omega)]; unfold lastP; rw [gd_eq L _ (by omega)]; simp
theorem qoA {r : Rules} {s : List Place × List Mv} (h : OKG r s) : qb8 (r, (s.1, (s.2, ()))) = some ((qaC s.1 : Nat) : Int) := by
  obtain ⟨l, ms⟩ := s; have hl : l.length = ms.length + 1 := h.len; have hm : ms.length ≤ 400 := h.most; have hw := qmo (L := l) (by omega) (by omega)
  have := qiO l (fun p => same0 p (lastP l)) (qbX (r, (l, (ms, ())))) (fun c => ((c, ()), ())) (fun i hi c hc0 hc1 => by
    unfold qbX; simp only [agree_self]; rw [ltd l i hi, cond_true, at?_eq l _ (by omega) (by omega), Option.bind_some, hw, atP (by omega), Option.bind_some]; simp only [Int.toNat_natCast]; rw [qoZ (h.all _ (List.getElem_mem hi)), Option.bind_some, Option.bind_some]; show Option.bind (bif same0 l[i] (lastP l) then _ else _) _ = _; rw [qf (n := c + 1) (by omega) (by omega), qf (n := (i : Int) + 1) (by omega) (by omega)]; cases same0 l[i] (lastP l) <;> rfl) (fun c => by
    unfold qbX; simp only
    rw [nltd, cond_false])
  unfold qb8; rw [this]; rfl
theorem qh8 {r : Rules} {s : List Place × List Mv} (h : OKG r s) : qaz (r, (s.1, (s.2, ()))) = some (qx r s.1) := by
  have hl := h.len; have hm := h.most; have hw := qmo (L := s.1) (by omega) (by omega); have hrep : r.2.2.2.2.2.2.2.2.2.2.1 = r.repeats := rfl; unfold qaz; simp only [agree_self, hw, atP (show 0 < s.1.length by omega), qkt h.last, Option.bind_some, qoA h, hrep]; unfold qx
  cases hc : ((qae r (lastP s.1) == 0) && (r.repeats != 0)) with
  | true =>
    simp only [gopt, cond_true, Option.bind_some, Bool.true_and]
    cases decide (((qaC s.1 : Nat) : Int) ≥ r.repeats) <;> rfl
  | false => rfl
theorem qat {r : Rules} {s : List Place × List Mv} (h : OKG r s) : ql (r, (s.1, (s.2, ()))) = some (lastP s.1) := by
  have hl := h.len; have hm := h.most; have hw := qmo (L := s.1) (by omega) (by omega); unfold ql; simp only [hw, atP (show 0 < s.1.length by omega), qwY h.last, Option.bind_some, pl_eta]
theorem play_spec {r : Rules} {s : List Place × List Mv} (h : OKG r s) (m : Mv) : qew (r, (s.1, (s.2, ()))) m = some (if stepG r s m = 0 then ((r, ((nextG r s m).1, ((nextG r s m).2, ()))), 0) else ((r, (s.1, (s.2, ()))), stepG r s m)) := by
  obtain ⟨l, ms⟩ := s; have hl : l.length = ms.length + 1 := h.len; have hm : ms.length ≤ 400 := h.most; have hv := h.last; simp only at hv; have hw := qmo (L := l) (by omega) (by omega); have hi := inbN l (l.length - 1) (by omega); have hla : getD' l (l.length - 1) (([], (([], ([], ())), ((0 : Int), ((0 : Int), ())))) : Place) = lastP l := rfl; have hres := qh8 h; simp only at hres; unfold qew; simp only [agree_self, hw, hi, qb, Int.toNat_natCast, hla, hres, Option.bind_some]; unfold stepG; by_cases c1 : qx r l = 0
  · rw [bne_f c1, cond_false]; simp only [if_pos c1]; rw [qlP hv, Option.bind_some, qf9 _ _ (by have := qka hv; omega), Option.bind_some, Option.bind_some]
    have hmem : decide (m ∈ qf5 r (lastP l)) = qA r (lastP l) m := by rw [Bool.eq_iff_iff, decide_eq_true_eq, qgQ]
    rw [hmem]; by_cases c2 : qA r (lastP l) m = true
    · simp only [if_pos c2]; rw [c2, Bool.not_true, cond_false]; by_cases c3 : ms.length = 400
      · rw [beq_t (by omega), cond_true]; simp only [if_pos c3]; rfl
      · rw [beq_f (by omega), cond_false, qsJ hv c2, Option.bind_some]; simp only [if_neg c3, if_true]; have hroom : ∀ z : Place, room (l.length + [z].length) 88 = true := fun z => qI (by simp; omega); have hroom2 : room (ms.length + [m].length) 24 = true := qI (by simp; omega); rw [hroom, qb, Option.bind_some]; simp only; rw [hroom2, qb]; rfl
    · simp only [if_neg c2]; rw [show qA r (lastP l) m = false by simpa using c2]; rfl
  · rw [bne_t c1, cond_true]; simp only [if_neg c1]; rfl
def runG (r : Rules) : List Mv → List Place × List Mv → (List Place × List Mv) ⊕ Int
  | [], s => .inl s
  | m :: k, s => if stepG r s m = 0 then runG r k (nextG r s m) else .inr (stepG r s m)
theorem run_ok {r : Rules} : ∀ (k : List Mv) (s s' : List Place × List Mv), OKG r s → runG r k s = .inl s' → OKG r s' ∧ s'.2 = s.2 ++ k
  | [], s, s', h, e => by cases e; exact ⟨h, by simp⟩
  | m :: k, s, s', h, e => by
    unfold runG at e; split at e
    · rename_i c; obtain ⟨a, b⟩ := run_ok k _ _ (qvf h c) e; refine ⟨a, ?_⟩; rw [b]; unfold nextG; simp
    · cases e
def flG (g : Game) : ByteArray × Int × Int × (List (Int × Int × Int × (List (Int × Int × Int × Int × Unit)) × Unit)) × (List Int) × Bool × Bool × (List (Int × Int × Int × Bool × Unit)) × Int × Int × Int × (List Place) × (List Mv) × Unit :=
  (g.1.1, (g.1.2.1, (g.1.2.2.1, (g.1.2.2.2.1, (g.1.2.2.2.2.1, (g.1.2.2.2.2.2.1, (g.1.2.2.2.2.2.2.1, (g.1.2.2.2.2.2.2.2.1, (g.1.2.2.2.2.2.2.2.2.1, (g.1.2.2.2.2.2.2.2.2.2.1, (g.1.2.2.2.2.2.2.2.2.2.2.1, (g.2.1, (g.2.2.1, ())))))))))))))
def gm (r : Rules) (s : List Place × List Mv) : Game := (r, (s.1, (s.2, ())))
theorem qpK {r : Rules} (c : qad r = 0) : OKG r ([qaQ r], []) := ⟨c, fun p hp => by rw [List.mem_singleton.1 hp]; exact qvl (qbI c), rfl, by simp⟩
def qtg (r : Rules) (l : List Mv) : (List Place × List Mv) ⊕ Int := runG r l ([qaQ r], [])

theorem all_spec (r : Rules) (p : Place) (hr : Rng qal r) (hn : p.1.length ≤ 9223372036854775807) : qoo r p = some (if qW r p = 0 then qf5 r p else [], qW r p, ()) := by
  unfold qoo; rw [qiV r p hr hn, Option.bind_some]; by_cases c : qW r p = 0
  · rw [bne_f c, cond_false, if_pos c, qlP (qmn c), c]; rfl
  · rw [bne_t c, cond_true, if_neg c]
theorem qqp (r : Rules) (p : Place) (m : Mv) (hr : Rng qal r) (hn : p.1.length ≤ 9223372036854775807) : qez r p m = some (if qW r p = 0 then qA r p m else false, qW r p, ()) := by
  unfold qez; rw [all_spec r p hr hn, Option.bind_some]; by_cases c : qW r p = 0
  · have hv := qmn c; simp only [if_pos c]; rw [qf9 _ _ (by have := qka hv; omega), Option.bind_some]; have : decide (m ∈ qf5 r p) = qA r p m := by
      rw [Bool.eq_iff_iff, decide_eq_true_eq, qgQ]
    rw [this]
  · simp only [if_neg c]; rw [qf9 _ _ (by simp)]; simp
def emptyP : Place := ([], ([], [], ()), 0, 0, ())
theorem qwA (r : Rules) (p : Place) (m : Mv) (hr : Rng qal r) (hn : p.1.length ≤ 9223372036854775807) : qcq r p m = some (if qW r p = 0 then if qA r p m = true then (qnb r p m, 0, ()) else (emptyP, 13, ()) else (emptyP, qW r p, ())) := by
  unfold qcq; rw [qqp r p m hr hn, Option.bind_some]; by_cases c : qW r p = 0
  · have hv := qmn c; simp only [if_pos c]; rw [c, show ((0 : Int) != 0) = false from rfl, cond_false]
    cases ha : qA r p m with
    | false => rfl
    | true =>
      rw [Bool.not_true, cond_false, qsJ hv ha, Option.bind_some]; rfl
  · simp only [if_neg c]; rw [bne_t c, cond_true]; rfl

theorem quH (r : Rules) (p : Place) (hr : Rng qal r) (hn : p.1.length ≤ 9223372036854775807) : qwe r p = some (if qW r p = 0 then qae r p else 0, qW r p, ()) := by
  unfold qwe; rw [qiV r p hr hn, Option.bind_some]; by_cases c : qW r p = 0
  · rw [bne_f c, cond_false, if_pos c, qkt (qmn c), c]; rfl
  · rw [bne_t c, cond_true, if_neg c]
def repRes (r : Rules) (l : List Mv) : Int × Int × Unit := if qad r = 0 then (match qtg r l with
    | .inl s => (((qaC s.1 : Nat) : Int), (0, ()))
    | .inr e => (0, (e, ()))) else (0, (qad r, ()))
theorem quU : Rng qal qj := qmH _ _ (by decide +kernel)
theorem qqz : qad qj = 0 := by decide +kernel
theorem qvy (L : List Place) (h0 : 0 < L.length) (h1 : L.length ≤ 1000000) (hv : ∀ r' : Unit, True) (i : Nat) (c : Int) : qfa L ((c, (i : Int), ()), ()) = cntF L c (i : Int) := by
  have e : qfa L ((c, (i : Int), ()), ()) = bif (decide ((i : Int) < ((L.length : Nat) : Int))) then (Option.bind (at? L (i : Int)) fun a => Option.bind (at? L (w64 (((L.length : Nat) : Int) - 1))) fun b => Option.bind (qbW a b) fun x => Option.bind (bif x then some ((w64 (c + 1), ()), ()) else some ((c, ()), ())) fun y : (Int × Unit) × Unit => some (Sum.inl ((y.1.1, w64 ((i : Int) + 1), ()), ()))) else some (Sum.inr ((c, ()), ())) := rfl; rw [e]; unfold cntF; have hw := qmo h0 (by omega); by_cases hi : i < L.length
  · rw [ltd L i hi, cond_true, cond_true, hw, inbN L i hi, inbN L _ (by omega), qb, qb]; rw [at?_eq L _ (by omega) (by omega), at?_eq L ((L.length - 1 : Nat) : Int) (by omega) (by omega), Option.bind_some, Option.bind_some]; simp only [Int.toNat_natCast]; rw [gd_eq L i hi, gd_eq L _ (by omega)]
    cases qbW L[i] (L[L.length - 1]'(by omega)) <;> rfl
  · rw [decide_eq_false (by omega), cond_false, cond_false]
theorem qpG {r : Rules} {L : List Place} (hv : ∀ p ∈ L, Valid r p) (h0 : 0 < L.length) (h1 : L.length ≤ 1000000) : qiw L = some ((qaC L : Nat) : Int) := by
  have hw := qmo h0 (by omega); unfold qiw
  have := qiO L (fun p => same0 p (lastP L)) (qfa L) (fun c => ((c, ()), ())) (fun i hi c hc0 hc1 => by
    rw [qvy L h0 h1 (fun _ => trivial)]; unfold cntF; rw [ltd L i hi, cond_true, inbN L i hi, qb, hw, inbN L _ (by omega), qb, Int.toNat_natCast, Int.toNat_natCast, gd_eq L i hi, qoZ (hv _ (List.getElem_mem hi)), Option.bind_some, Option.bind_some]; show Option.bind (bif same0 L[i] (lastP L) then _ else _) _ = _; rw [qf (n := c + 1) (by omega) (by omega), qf (n := (i : Int) + 1) (by omega) (by omega)]; cases same0 L[i] (lastP L) <;> rfl) (fun c => by
    rw [qvy L h0 h1 (fun _ => trivial)]; unfold cntF
    rw [nltd, cond_false])
  rw [this]; rfl
theorem qtB {r : Rules} {L : List Place} (c : qad r = 0) (hr : Rng qal r) (hv : ∀ p ∈ L, Valid r p) (h0 : 0 < L.length) (h1 : L.length ≤ 1000000) : qK r L = some (qx r L) := by
  have hw := qmo h0 (by omega); have hl := hv _ (qvu h0); have h64 := qba hl; have hrep := (qbI c).repeats; unfold qK; rw [hw, at?_eq L _ (by omega) (by omega), Option.bind_some]; simp only [Int.toNat_natCast]
  have hla : L[L.length - 1]'(by omega) = lastP L := by unfold lastP; rw [gd_eq L (L.length - 1) (by omega)]
  rw [hla, quH r _ hr (by omega), qkM c hl, Option.bind_some, qpG hv h0 h1]; unfold qx; simp only [if_true, beq_self_eq_true, Bool.true_and]; have hq : decide (r.2.2.2.2.2.2.2.2.2.2.1 > 0) = (r.repeats != 0) := by
    rw [Bool.eq_iff_iff]; simp only [decide_eq_true_eq, bne_iff_ne]; show r.repeats > 0 ↔ r.repeats ≠ 0; omega
  rw [hq]; show Option.bind (gopt ((qae r (lastP L) == 0) && (r.repeats != 0)) 0 (some ((qaC L : Nat) : Int))) (fun x => bif ((qae r (lastP L) == 0) && (r.repeats != 0)) && decide (x ≥ r.repeats) then some 3 else some (qae r (lastP L))) = _
  cases ((qae r (lastP L) == 0) && (r.repeats != 0)) with
  | false => rfl
  | true =>
    simp only [gopt, cond_true, Option.bind_some, Bool.true_and]
    cases decide (((qaC L : Nat) : Int) ≥ r.repeats) <;> rfl
def qlW (r : Rules) (l : List Mv) : List Place × Int × Unit := if qad r = 0 then (match qtg r l with
    | .inl s => (s.1, (0, ()))
    | .inr e => ([], (e, ()))) else ([], (qad r, ()))
theorem qug (l : List Mv) (r : Rules) (ps : List Place) (i : Int) : qcE l r ((ps, i, ()), ()) = bif (decide (i < ((l.length : Nat) : Int))) then (Option.bind (at? l i) fun m => Option.bind (qK r ps) fun x => bif (x != 0) then some (Sum.inr (Sum.inr (([] : List Place), (14, ()))))
    else req (inb (w64 (((ps.length : Nat) : Int) - 1)) ps.length) (Option.bind (qcq r (getD' ps (w64 (((ps.length : Nat) : Int) - 1)).toNat dP) m) fun z => bif (z.2.1 != 0) then some (Sum.inr (Sum.inr (([] : List Place), (13, ())))) else bif (decide (((ps.length : Nat) : Int) > 400)) then some (Sum.inr (Sum.inr (([] : List Place), (9, ()))))
      else req (room (ps.length + 1) 88) (some (Sum.inl ((ps ++ [z.1], w64 (i + 1), ()), ())))))
    else some (Sum.inr (Sum.inl ((ps, ()), ()))) := by
  unfold qcE; simp only [agree_self]
  first
  | rfl
  | cases decide (i < ((l.length : Nat) : Int)) with
    | false => rfl
    | true =>
      simp only [cond_true]; congr 1; funext m; congr 1; funext x
      cases (x != 0) with
      | true => rfl
      | false =>
        simp only [cond_false]
        cases inb (w64 (((ps.length : Nat) : Int) - 1)) ps.length with
        | false => rfl
        | true =>
          simp only [qb]; show Option.bind (Option.bind (qcq r (getD' ps (w64 (((ps.length : Nat) : Int) - 1)).toNat dP) m) _) _ = _
          cases qcq r (getD' ps (w64 (((ps.length : Nat) : Int) - 1)).toNat dP) m <;> rfl
theorem qpB {r : Rules} (hr : Rng qal r) (l : List Mv) (hlen : l.length ≤ 1000000000) : ∀ (k : Nat) (i : Nat) (s : List Place × List Mv), i + k = l.length → OKG r s → iterW (qcE l r) ((s.1, (i : Int), ()), ()) = some (match runG r (l.drop i) s with
      | .inl s' => .inl ((s'.1, ()), ())
      | .inr e => .inr (([] : List Place), (e, ())))
  | 0, i, s, hi, h => by
    have : i = l.length := by omega
    subst this; refine qk ?_; rw [qug, nltd, cond_false, List.drop_length]; rfl
  | k + 1, i, s, hi, h => by
    have hil : i < l.length := by omega
    have hl := h.len; have hm := h.most; have hv := h.last; have h64 := qba hv; have hw := qmo (L := s.1) (by omega) (by omega); have hL := qug l r s.1 (i : Int); rw [ltd l i hil, cond_true, at?_eq l _ (by omega) (by omega), Option.bind_some, qtB h.ok hr h.all (by omega) (by omega), Option.bind_some, hw, inbN s.1 _ (by omega), qb] at hL; simp only [Int.toNat_natCast] at hL; have hla : getD' s.1 (s.1.length - 1) dP = lastP s.1 := rfl; rw [hla, qwA r _ _ hr (by omega), if_pos (qkM h.ok hv), Option.bind_some] at hL; rw [List.drop_eq_getElem_cons hil]; unfold runG; by_cases c1 : qx r s.1 = 0
    · rw [bne_f c1, cond_false] at hL; by_cases c2 : qA r (lastP s.1) l[i] = true
      · rw [if_pos c2] at hL; simp only [bne_self_eq_false, cond_false] at hL; by_cases c3 : s.2.length = 400
        · have e : stepG r s l[i] = 9 := by unfold stepG; rw [if_pos c1, if_pos c2, if_pos c3]
          rw [decide_eq_true (by omega), cond_true] at hL; rw [qk hL, e, if_neg (by decide)]
        · have e : stepG r s l[i] = 0 := by unfold stepG; rw [if_pos c1, if_pos c2, if_neg c3]
          rw [decide_eq_false (by omega), cond_false, qI (n := s.1.length + 1) (by omega), qb, qf (by omega) (by omega)] at hL; rw [qm hL, if_pos e]; exact qpB hr l hlen k (i + 1) (nextG r s l[i]) (by omega) (qvf h e)
      · have e : stepG r s l[i] = 13 := by unfold stepG; rw [if_pos c1, if_neg c2]
        rw [if_neg c2] at hL; simp only [bne_t (show ¬ (13 : Int) = 0 by decide), cond_true] at hL; rw [qk hL, e, if_neg (by decide)]
    · have e : stepG r s l[i] = 14 := by unfold stepG; rw [if_neg c1]
      rw [bne_t c1, cond_true] at hL; rw [qk hL, e, if_neg (by decide)]
theorem qpd (r : Rules) (l : List Mv) (hr : Rng qal r) (hl : l.length ≤ 1000000000) : qF r l = some (qlW r l) := by
  unfold qF qlW; rw [qmZ r hr, Option.bind_some]; by_cases c : qad r = 0
  · simp only [if_pos c]; rw [show ((0 : Int) != 0) = false from rfl, cond_false]; have hP := qpB hr l hl l.length 0 ([qaQ r], []) (by omega) (qpK c); rw [List.drop_zero] at hP; have hP' : iterW (qcE l r) ((([((qaQ r).1, (((qaQ r).2.1.1, ((qaQ r).2.1.2.1, ())), (qaQ r).2.2))]), (0 : Int), ()), ()) = _ := hP; rw [hP', Option.bind_some]; unfold qtg
    cases runG r l ([qaQ r], []) <;> rfl
  · simp only [if_neg c]; rw [bne_t c, cond_true]

theorem step_0 {r : Rules} {s : List Place × List Mv} {m : Mv} (c : stepG r s m = 0) : qx r s.1 = 0 ∧ qA r (lastP s.1) m = true := by
  unfold stepG at c; split at c
  · rename_i h1; split at c
    · rename_i h2; exact ⟨h1, h2⟩
    · cases c
  · cases c
theorem gd_app2 (l : List Place) (q : Place) : getD' (l ++ [q]) l.length dP = q := by simp [getD']

abbrev CRule := List (Int × Int × Unit) × Int × Int × Unit
abbrev Clk := (Int × Int × Unit) × (Int × Int × Unit) × (Int × Int × Unit) × Int × Int × Bool × Int × Unit
def dPer : Int × Int × Unit := (0, (0, ()))
theorem qsD {A : Type} (l : List A) (i : Nat) (d : A) (h : i < l.length) : l.getD i d = l[i] := by simp [List.getD_eq_getElem?_getD, h]
theorem qsg {A : Type} (xs : List A) (i : Nat) (h : i < xs.length) : at? xs (i : Int) = some xs[i] := by
  rw [at?_eq xs _ (Int.natCast_nonneg i) (Int.ofNat_lt.2 h)]; simp only [Int.toNat_natCast]
theorem qdn (n low high : Int) : qe n low high = true ↔ low ≤ n ∧ n ≤ high := by
  unfold qe; simp only [ge_iff_le, Bool.and_eq_true, decide_eq_true_eq]
def qwa (cr : CRule) (i : Nat) : Int := if (!(qe (cr.1.getD i dPer).1 0 400) || !(qe (cr.1.getD i dPer).2.1 1 100000000)) = true then 4 else if (!(((cr.1.getD i dPer).1 == 0) == ((i : Int) == ((cr.1.length : Nat) : Int) - 1))) = true then 3 else 0
def chkC (cr : CRule) : Int := if (!(qe ((cr.1.length : Nat) : Int) 1 5)) = true then 2 else if (!(qe cr.2.1 0 100000000) || !(qe cr.2.2.1 0 100000000)) = true then 4 else qec (qwa cr) cr.1.length
theorem qke (cr : CRule) (hl : cr.1.length ≤ 9223372036854775807) : qdp cr = some (chkC cr) := by
  unfold qdp chkC
  cases (!(qe ((cr.1.length : Nat) : Int) 1 5)) with
  | true => rfl
  | false =>
  cases (!(qe cr.2.1 0 100000000) || !(qe cr.2.2.1 0 100000000)) with
  | true => rfl
  | false =>
    simp only [cond_false, Bool.false_eq_true, if_false]; rw [qwb cr.1.length (qan cr) (qwa cr) ((), ()) (some 0) (fun i hi => ?_) (by unfold qan; simp)]
    · split
      · rename_i h; rw [h]
      · rfl
    · unfold qan qwa; simp only [ltd cr.1 i hi, cond_true]; rw [qsg cr.1 i hi, Option.bind_some, qsD cr.1 i dPer hi, qf (n := (i : Int) + 1) (by omega) (by omega), qf (n := ((cr.1.length : Nat) : Int) - 1) (by omega) (by omega)]
      cases (!(qe cr.1[i].1 0 400) || !(qe cr.1[i].2.1 1 100000000)) with
      | true => simp
      | false =>
        simp only [cond_false, Bool.false_eq_true, if_false]
        cases (!((cr.1[i].1 == 0) == ((i : Int) == ((cr.1.length : Nat) : Int) - 1))) with
        | true => simp
        | false => simp
structure CROK (cr : CRule) : Prop where
  len : 1 ≤ cr.1.length ∧ cr.1.length ≤ 5
  inc : 0 ≤ cr.2.1 ∧ cr.2.1 ≤ 100000000
  del : 0 ≤ cr.2.2.1 ∧ cr.2.2.1 ≤ 100000000
  per : ∀ i (hi : i < cr.1.length), (0 ≤ cr.1[i].1 ∧ cr.1[i].1 ≤ 400) ∧ (1 ≤ cr.1[i].2.1 ∧ cr.1[i].2.1 ≤ 100000000) ∧ (cr.1[i].1 = 0 ↔ i + 1 = cr.1.length)
theorem qg2 {cr : CRule} (h : chkC cr = 0) : CROK cr := by
  unfold chkC at h; split at h
  · cases h
  · rename_i h1; split at h
    · cases h
    · rename_i h2; simp only [Bool.or_eq_true, Bool.not_eq_true', not_or, Bool.not_eq_false, qdn] at h1 h2; refine ⟨by omega, h2.1, h2.2, fun i hi => ?_⟩; have h3 := qe9 h i hi; unfold qwa at h3; rw [qsD cr.1 i dPer hi] at h3; split at h3
      · cases h3
      · rename_i h4; split at h3
        · cases h3
        · rename_i h5; simp only [Bool.or_eq_true, Bool.not_eq_true', not_or, Bool.not_eq_false, qdn] at h4; refine ⟨h4.1, h4.2, ?_⟩; simp only [Bool.not_eq_true', Bool.not_eq_false, beq_iff_eq] at h5; by_cases c : cr.1[i].1 = 0
          · rw [beq_t c] at h5; have := (beq_iff_eq.1 h5.symm)
            constructor <;> intro _ <;> omega
          · rw [beq_f c] at h5; have h6 := beq_eq_false_iff_ne.1 h5.symm; constructor
            · intro e; exact absurd e c
            · intro e; exact absurd (by omega) h6
structure VC (cr : CRule) (c : Clk) : Prop where
  turn : 0 ≤ c.2.2.2.1 ∧ c.2.2.2.1 ≤ 1
  fallen : -1 ≤ c.2.2.2.2.2.2.1 ∧ c.2.2.2.2.2.2.1 ≤ 1
  since : 0 ≤ c.2.2.2.2.1 ∧ c.2.2.2.2.1 ≤ 100000000
  p0 : 0 ≤ c.2.2.1.1 ∧ c.2.2.1.1 ≤ ((cr.1.length : Nat) : Int) - 1
  p1 : 0 ≤ c.2.2.1.2.1 ∧ c.2.2.1.2.1 ≤ ((cr.1.length : Nat) : Int) - 1
  m0 : 0 ≤ c.2.1.1 ∧ c.2.1.1 ≤ 400
  m1 : 0 ≤ c.2.1.2.1 ∧ c.2.1.2.1 ≤ 400
  l0 : 0 ≤ c.1.1 ∧ c.1.1 ≤ 100000000000
  l1 : 0 ≤ c.1.2.1 ∧ c.1.2.1 ≤ 100000000000
def vcB (cr : CRule) (c : Clk) : Bool := ((((((((qe c.2.2.2.1 0 1 && qe c.2.2.2.2.2.2.1 (-1) 1) && qe c.2.2.2.2.1 0 100000000) && qe c.2.2.1.1 0 (((cr.1.length : Nat) : Int) - 1)) && qe c.2.1.1 0 400) && qe c.1.1 0 100000000000) && qe c.2.2.1.2.1 0 (((cr.1.length : Nat) : Int) - 1)) && qe c.2.1.2.1 0 400) && qe c.1.2.1 0 100000000000)
theorem qsq (cr : CRule) (c : Clk) : vcB cr c = true ↔ VC cr c := by
  unfold vcB; simp only [Bool.and_eq_true, qdn]; constructor
  · rintro ⟨⟨⟨⟨⟨⟨⟨⟨h1, h2⟩, h3⟩, h4⟩, h5⟩, h6⟩, h7⟩, h8⟩, h9⟩
    exact ⟨h1, h2, h3, h4, h7, h5, h8, h6, h9⟩
  · rintro ⟨h1, h2, h3, h4, h7, h5, h8, h6, h9⟩
    exact ⟨⟨⟨⟨⟨⟨⟨⟨h1, h2⟩, h3⟩, h4⟩, h5⟩, h6⟩, h7⟩, h8⟩, h9⟩
theorem qgR (cr : CRule) (c : Clk) (hl : cr.1.length ≤ 9223372036854775807) : qi6 cr c = some (if chkC cr = 0 then if vcB cr c = true then 0 else 4 else chkC cr) := by
  unfold qi6; rw [qke cr hl, Option.bind_some]; by_cases c0 : chkC cr = 0
  · rw [bne_f c0, cond_false, if_pos c0]; have hw := qf (n := ((cr.1.length : Nat) : Int) - 1) (by omega) (by omega); have s0 : ∀ b : Bool, qb1 c cr ((b, (0 : Int), ()), ()) = some (.inl ((((b && qe c.2.2.1.1 0 (((cr.1.length : Nat) : Int) - 1)) && qe c.2.1.1 0 400) && qe c.1.1 0 100000000000, (1 : Int), ()), ())) := fun b => by
      unfold qb1; simp only [hw, imp, show decide ((0 : Int) < 2) = true from rfl, cond_true, show inb (0 : Int) 2 = true from rfl]; simp only [Bool.cond_self, qb]; rfl
    have s1 : ∀ b : Bool, qb1 c cr ((b, (1 : Int), ()), ()) = some (.inl ((((b && qe c.2.2.1.2.1 0 (((cr.1.length : Nat) : Int) - 1)) && qe c.2.1.2.1 0 400) && qe c.1.2.1 0 100000000000, (2 : Int), ()), ())) := fun b => by
      unfold qb1; simp only [hw, imp, show decide ((1 : Int) < 2) = true from rfl, cond_true, show inb (1 : Int) 2 = true from rfl]; simp only [Bool.cond_self, qb]; rfl
    have s2 : ∀ b : Bool, qb1 c cr ((b, (2 : Int), ()), ()) = some (.inr ((b, ()), ())) := fun b => rfl; rw [qm (s0 _), qm (s1 _), qk (s2 _), Option.bind_some]; show (bif !vcB cr c then some (4 : Int) else some 0) = _
    cases vcB cr c <;> rfl
  · rw [bne_t c0, cond_true, if_neg c0]
theorem qu8 (cr : CRule) (c : Clk) (now : Int) (h1 : -1000000000 ≤ now - c.2.2.2.2.1) (h2 : now - c.2.2.2.2.1 ≤ 1000000000) (hd : 0 ≤ cr.2.2.1 ∧ cr.2.2.1 ≤ 100000000) : qz cr c now = bif c.2.2.2.2.2.1 then 0 else max 0 (now - c.2.2.2.2.1 - cr.2.2.1) := by
  unfold qz; rw [qf (n := now - c.2.2.2.2.1) (by omega) (by omega), qf (by omega) (by omega)]; cases c.2.2.2.2.2.1
  · simp only [cond_false]
    split <;> omega
  · rfl
def leftT (c : Clk) : Int := if c.2.2.2.1 = 0 then c.1.1 else c.1.2.1
theorem look_some (cr : CRule) (c : Clk) (now : Int) (hl : cr.1.length ≤ 9223372036854775807) : ∃ c' e, qaJ cr c now = some (c', e, ()) ∧ (e = 0 ∨ c'.2.2.2.2.2.2.1 = 0) := by
  unfold qaJ; rw [qgR cr c hl, Option.bind_some]; by_cases c0 : chkC cr = 0
  · rw [if_pos c0]; by_cases cv : vcB cr c = true
    · rw [if_pos cv, show ((0 : Int) != 0) = false from rfl, cond_false]; have hv := (qsq cr c).1 cv
      cases (!(qe now c.2.2.2.2.1 100000000)) with
      | true => exact ⟨_, _, rfl, .inr rfl⟩
      | false =>
        rw [cond_false]; have hi : inb c.2.2.2.1 2 = true := inb_iff.2 ⟨hv.turn.1, by have := hv.turn.2; omega⟩
        rw [hi, show imp (decide (c.2.2.2.2.2.2.1 < 0)) true = true by unfold imp; cases decide (c.2.2.2.2.2.2.1 < 0) <;> rfl, qb, qb]
        cases (decide (c.2.2.2.2.2.2.1 < 0) && decide (qz cr c now > getD' [c.1.1, c.1.2.1] (c.2.2.2.1).toNat 0)) with
        | true => exact ⟨_, _, rfl, .inl rfl⟩
        | false => exact ⟨_, _, rfl, .inl rfl⟩
    · rw [if_neg cv]; exact ⟨_, _, rfl, .inr rfl⟩
  · rw [if_neg c0, bne_t c0, cond_true]; exact ⟨_, _, rfl, .inr rfl⟩
structure GoodC (cr : CRule) (c : Clk) (now : Int) : Prop where
  ok : chkC cr = 0
  v : VC cr c
  now0 : c.2.2.2.2.1 ≤ now
  now1 : now ≤ 100000000
  up : c.2.2.2.2.2.2.1 = -1
  run : c.2.2.2.2.2.1 = false
  used : max 0 (now - c.2.2.2.2.1 - cr.2.2.1) ≤ leftT c
theorem left_eq {cr : CRule} {c : Clk} (hv : VC cr c) : getD' [c.1.1, c.1.2.1] (c.2.2.2.1).toNat 0 = leftT c := by
  have h := hv.turn; unfold leftT; by_cases h0 : c.2.2.2.1 = 0
  · rw [if_pos h0, h0]; rfl
  · rw [if_neg h0, show c.2.2.2.1 = 1 by omega]; rfl
theorem qty {cr : CRule} {c : Clk} {now : Int} (hl : cr.1.length ≤ 9223372036854775807) (h : GoodC cr c now) : qaJ cr c now = some (c, 0, ()) := by
  unfold qaJ; have hcr := qg2 h.ok; have hs := h.v.since; have h0 := h.now0; have h1 := h.now1; rw [qgR cr c hl, Option.bind_some, if_pos h.ok, if_pos ((qsq cr c).2 h.v), show ((0 : Int) != 0) = false from rfl, cond_false, (qdn now _ _).2 ⟨h0, h1⟩, Bool.not_true, cond_false]; have hi : inb c.2.2.2.1 2 = true := inb_iff.2 ⟨h.v.turn.1, by have := h.v.turn.2; omega⟩
  rw [hi, show imp (decide (c.2.2.2.2.2.2.1 < 0)) true = true by unfold imp; cases decide (c.2.2.2.2.2.2.1 < 0) <;> rfl, qb, qb, left_eq h.v, qu8 cr c now (by omega) (by omega) hcr.del, h.run, cond_false]
  have hu := h.used; rw [show decide (max 0 (now - c.2.2.2.2.1 - cr.2.2.1) > leftT c) = false by rw [decide_eq_false_iff_not]; omega, Bool.and_false, cond_false, Option.bind_some]
theorem good_of {cr : CRule} {c c' : Clk} {now e : Int} (hl : cr.1.length ≤ 9223372036854775807) (h : qaJ cr c now = some (c', e, ())) (hf : c'.2.2.2.2.2.2.1 < 0) (hr : c.2.2.2.2.2.1 = false) : GoodC cr c now := by
  unfold qaJ at h; rw [qgR cr c hl, Option.bind_some] at h; by_cases c0 : chkC cr = 0
  · rw [if_pos c0] at h; by_cases cv : vcB cr c = true
    · rw [if_pos cv, show ((0 : Int) != 0) = false from rfl, cond_false] at h; have hv := (qsq cr c).1 cv; have hs := hv.since; have hcr := qg2 c0
      cases hw : qe now c.2.2.2.2.1 100000000 with
      | false =>
        rw [hw, Bool.not_false, cond_true] at h; cases h; exact absurd hf (by decide)
      | true =>
        obtain ⟨w0, w1⟩ := (qdn _ _ _).1 hw; rw [hw, Bool.not_true, cond_false] at h; have hi : inb c.2.2.2.1 2 = true := inb_iff.2 ⟨hv.turn.1, by have := hv.turn.2; omega⟩
        rw [hi, show imp (decide (c.2.2.2.2.2.2.1 < 0)) true = true by unfold imp; cases decide (c.2.2.2.2.2.2.1 < 0) <;> rfl, qb, qb, left_eq hv, qu8 cr c now (by omega) (by omega) hcr.del, hr, cond_false] at h
        by_cases hc : c.2.2.2.2.2.2.1 < 0
        · by_cases hu : max 0 (now - c.2.2.2.2.1 - cr.2.2.1) > leftT c
          · rw [decide_eq_true hc, decide_eq_true hu, Bool.and_self, cond_true, Option.bind_some] at h; cases h; have : c.2.2.2.1 < 0 := hf; have := hv.turn.1; omega
          · exact ⟨c0, hv, w0, w1, by have := hv.fallen.1; omega, hr, by omega⟩
        · rw [decide_eq_false hc, Bool.false_and, cond_false, Option.bind_some] at h; cases h; exact absurd hf hc
    · rw [if_neg cv] at h; cases h; exact absurd hf (by decide)
  · rw [if_neg c0, bne_t c0, cond_true] at h; cases h; exact absurd hf (by decide)
theorem qw2 {cr : CRule} {c : Clk} {now : Int} (hl : cr.1.length ≤ 9223372036854775807) (h : GoodC cr c now) : qiS cr c now false = some (c, 0, ()) := by
  unfold qiS; rw [qty hl h, Option.bind_some]; simp only [show ((0 : Int) != 0) = false from rfl, cond_false, h.up, show decide ((-1 : Int) ≥ 0) = false from rfl, h.run, show (!(false == false)) = false from rfl]
def perAt (cr : CRule) (k : Int) : Int × Int × Unit := cr.1.getD k.toNat dPer
def qfd (cr : CRule) (c : Clk) (now : Int) : Clk :=
  if c.2.2.2.1 = 0 then
    let L := min 100000000000 (c.1.1 - max 0 (now - c.2.2.2.2.1 - cr.2.2.1) + cr.2.1)
    let M := min 400 (c.2.1.1 + 1)
    if 0 < (perAt cr c.2.2.1.1).1 ∧ (perAt cr c.2.2.1.1).1 ≤ M then ((min 100000000000 (L + (perAt cr (c.2.2.1.1 + 1)).2.1), (c.1.2.1, ())), ((0, (c.2.1.2.1, ())), ((c.2.2.1.1 + 1, (c.2.2.1.2.1, ())), (1, (now, (false, (-1, ())))))))
    else ((L, (c.1.2.1, ())), ((M, (c.2.1.2.1, ())), ((c.2.2.1.1, (c.2.2.1.2.1, ())), (1, (now, (false, (-1, ())))))))
  else
    let L := min 100000000000 (c.1.2.1 - max 0 (now - c.2.2.2.2.1 - cr.2.2.1) + cr.2.1)
    let M := min 400 (c.2.1.2.1 + 1)
    if 0 < (perAt cr c.2.2.1.2.1).1 ∧ (perAt cr c.2.2.1.2.1).1 ≤ M then ((c.1.1, (min 100000000000 (L + (perAt cr (c.2.2.1.2.1 + 1)).2.1), ())), ((c.2.1.1, (0, ())), ((c.2.2.1.1, (c.2.2.1.2.1 + 1, ())), (0, (now, (false, (-1, ())))))))
    else ((c.1.1, (L, ())), ((c.2.1.1, (M, ())), ((c.2.2.1.1, (c.2.2.1.2.1, ())), (0, (now, (false, (-1, ())))))))
theorem qiG {cr : CRule} (hcr : CROK cr) {k : Int} (h0 : 0 ≤ k) (h1 : k ≤ ((cr.1.length : Nat) : Int) - 1) : at? cr.1 k = some (perAt cr k) ∧ (0 ≤ (perAt cr k).1 ∧ (perAt cr k).1 ≤ 400) ∧ (1 ≤ (perAt cr k).2.1 ∧ (perAt cr k).2.1 ≤ 100000000) ∧ (0 < (perAt cr k).1 → k + 1 ≤ ((cr.1.length : Nat) : Int) - 1) := by
  obtain ⟨n, rfl⟩ : ∃ n : Nat, k = (n : Int) := ⟨k.toNat, by omega⟩
  have hn : n < cr.1.length := by omega
  have e : perAt cr (n : Int) = cr.1[n] := by unfold perAt; rw [Int.toNat_natCast, qsD cr.1 n dPer hn]
  rw [qsg cr.1 n hn, e]; obtain ⟨p1, p2, p3⟩ := hcr.per n hn; refine ⟨rfl, p1, p2, fun h => ?_⟩
  have : ¬ (n + 1 = cr.1.length) := fun q => by rw [p3.2 q] at h; omega
  omega
theorem min_if (a b : Int) : (if a < b then a else b) = min a b := by omega
theorem left_nn {cr : CRule} {c : Clk} (hv : VC cr c) : 0 ≤ leftT c := by
  unfold leftT; have h0 := hv.l0; have h1 := hv.l1
  split <;> omega
theorem qmt {cr : CRule} {c : Clk} {now : Int} (hl : cr.1.length ≤ 9223372036854775807) (h : GoodC cr c now) : qgw cr c now = some (qfd cr c now, 0, ()) ∧ GoodC cr (qfd cr c now) now ∧ (qfd cr c now).2.2.2.1 = 1 - c.2.2.2.1 ∧ (qfd cr c now).2.2.2.2.1 = now := by
  have hcr := qg2 h.ok; have hv := h.v; have hs := hv.since; have n0 := h.now0; have n1 := h.now1; have hi := hcr.inc; have hd := hcr.del; have hu := h.used; have hlen := hcr.len; have f1 : GoodC cr (qfd cr c now) now ∧ (qfd cr c now).2.2.2.1 = 1 - c.2.2.2.1 ∧ (qfd cr c now).2.2.2.2.1 = now := by
    have ht := hv.turn; have a0 := hv.l0; have a1 := hv.l1; have b0 := hv.m0; have b1 := hv.m1; have c0 := hv.p0; have c1 := hv.p1; unfold leftT at hu; unfold qfd; by_cases t0 : c.2.2.2.1 = 0
    · rw [if_pos t0] at hu ⊢; obtain ⟨_, q1, q2, q3⟩ := qiG hcr hv.p0.1 hv.p0.2; by_cases hm : 0 < (perAt cr c.2.2.1.1).1 ∧ (perAt cr c.2.2.1.1).1 ≤ min 400 (c.2.1.1 + 1)
      · rw [if_pos hm]; have hq := q3 hm.1; obtain ⟨_, r1, r2, r3⟩ := qiG hcr (k := c.2.2.1.1 + 1) (by omega) (by omega); refine ⟨⟨h.ok, ⟨?_, ?_, ?_, ?_, ?_, ?_, ?_, ?_, ?_⟩, ?_, n1, rfl, rfl, ?_⟩, ?_, rfl⟩
        all_goals try (unfold leftT)
        all_goals simp only
        all_goals omega
      · rw [if_neg hm]; refine ⟨⟨h.ok, ⟨?_, ?_, ?_, ?_, ?_, ?_, ?_, ?_, ?_⟩, ?_, n1, rfl, rfl, ?_⟩, ?_, rfl⟩
        all_goals try (unfold leftT)
        all_goals simp only
        all_goals omega
    · rw [if_neg t0] at hu ⊢; obtain ⟨_, q1, q2, q3⟩ := qiG hcr hv.p1.1 hv.p1.2; by_cases hm : 0 < (perAt cr c.2.2.1.2.1).1 ∧ (perAt cr c.2.2.1.2.1).1 ≤ min 400 (c.2.1.2.1 + 1)
      · rw [if_pos hm]; have hq := q3 hm.1; obtain ⟨_, r1, r2, r3⟩ := qiG hcr (k := c.2.2.1.2.1 + 1) (by omega) (by omega); refine ⟨⟨h.ok, ⟨?_, ?_, ?_, ?_, ?_, ?_, ?_, ?_, ?_⟩, ?_, n1, rfl, rfl, ?_⟩, ?_, rfl⟩
        all_goals try (unfold leftT)
        all_goals simp only
        all_goals omega
      · rw [if_neg hm]; refine ⟨⟨h.ok, ⟨?_, ?_, ?_, ?_, ?_, ?_, ?_, ?_, ?_⟩, ?_, n1, rfl, rfl, ?_⟩, ?_, rfl⟩
        all_goals try (unfold leftT)
        all_goals simp only
        all_goals omega
  refine ⟨?_, f1⟩; unfold qgw; rw [qw2 hl h, Option.bind_some]; simp only [show ((0 : Int) != 0) = false from rfl, cond_false, qu8 cr c now (by omega) (by omega) hd, h.run]; obtain ⟨⟨l0, l1, u1⟩, ⟨m0, m1, u2⟩, ⟨p0, p1, u3⟩, turn, since, stopped, fallen, u4⟩ := c; have ht := hv.turn; have a0 := hv.l0; have a1 := hv.l1; have b0 := hv.m0; have b1 := hv.m1; have c0 := hv.p0; have c1 := hv.p1; have hup := h.up; have hrun := h.run; unfold leftT at hu; simp only at ht a0 a1 b0 b1 c0 c1 hup hrun hs n0 hu; by_cases t0 : turn = 0
  · subst t0; rw [if_pos rfl] at hu; obtain ⟨q0, q1, q2, q3⟩ := qiG hcr c0.1 c0.2
    have e1 : w64 (w64 (l0 - max 0 (now - since - cr.2.2.1)) + cr.2.1) = l0 - max 0 (now - since - cr.2.2.1) + cr.2.1 := by rw [qf (n := l0 - max 0 (now - since - cr.2.2.1)) (by omega) (by omega), qf (by omega) (by omega)]
    have e2 : w64 (m0 + 1) = m0 + 1 := qf (by omega) (by omega); have e3 : w64 (p0 + 1) = p0 + 1 := qf (by omega) (by omega); have g0 : ∀ a b : Int, getD' [a, b] (0 : Int).toNat 0 = a := fun a b => rfl; have i0 : inb (0 : Int) 2 = true := rfl; have b00 : ((0 : Int) == 0) = true := rfl; have b01 : ((0 : Int) == 1) = false := rfl
    have him : ∀ b : Bool, imp b true = true := fun b => by cases b <;> rfl
    simp only [g0, i0, b00, b01, cond_true, cond_false, qb, q0, Option.bind_some, e1, e2, e3, min_if, him]; unfold qfd; simp only [if_true]; by_cases hm : 0 < (perAt cr p0).1 ∧ (perAt cr p0).1 ≤ min 400 (m0 + 1)
    · have hq := q3 hm.1; obtain ⟨r0, r1, r2, r3⟩ := qiG hcr (k := p0 + 1) (by omega) (by omega)
      have hb : (decide ((perAt cr p0).1 > 0) && decide (min 400 (m0 + 1) ≥ (perAt cr p0).1)) = true := by simp only [Bool.and_eq_true, decide_eq_true_eq]; omega
      have e4 : w64 (min 100000000000 (l0 - max 0 (now - since - cr.2.2.1) + cr.2.1) + (perAt cr (p0 + 1)).2.1) = min 100000000000 (l0 - max 0 (now - since - cr.2.2.1) + cr.2.1) + (perAt cr (p0 + 1)).2.1 := qf (by omega) (by omega); rw [if_pos hm]; simp only [hb, cond_true, r0, Option.bind_some, e4]; subst hup hrun; rfl
    · have hb : (decide ((perAt cr p0).1 > 0) && decide (min 400 (m0 + 1) ≥ (perAt cr p0).1)) = false := by
        rw [Bool.eq_false_iff]; intro q; simp only [Bool.and_eq_true, decide_eq_true_eq] at q; omega
      rw [if_neg hm]; simp only [hb, cond_false, Option.bind_some]; subst hup hrun; rfl
  · obtain rfl : turn = 1 := by omega
    rw [if_neg t0] at hu; obtain ⟨q0, q1, q2, q3⟩ := qiG hcr c1.1 c1.2
    have e1 : w64 (w64 (l1 - max 0 (now - since - cr.2.2.1)) + cr.2.1) = l1 - max 0 (now - since - cr.2.2.1) + cr.2.1 := by rw [qf (n := l1 - max 0 (now - since - cr.2.2.1)) (by omega) (by omega), qf (by omega) (by omega)]
    have e2 : w64 (m1 + 1) = m1 + 1 := qf (by omega) (by omega); have e3 : w64 (p1 + 1) = p1 + 1 := qf (by omega) (by omega); have g0 : ∀ a b : Int, getD' [a, b] (1 : Int).toNat 0 = b := fun a b => rfl; have i0 : inb (1 : Int) 2 = true := rfl; have b00 : ((1 : Int) == 0) = false := rfl; have b01 : ((1 : Int) == 1) = true := rfl
    have him : ∀ b : Bool, imp b true = true := fun b => by cases b <;> rfl
    simp only [g0, i0, b00, b01, cond_true, cond_false, qb, q0, Option.bind_some, e1, e2, e3, min_if, him]; unfold qfd; simp only [show ((1 : Int) = 0) = False from by simp, if_false]; by_cases hm : 0 < (perAt cr p1).1 ∧ (perAt cr p1).1 ≤ min 400 (m1 + 1)
    · have hq := q3 hm.1; obtain ⟨r0, r1, r2, r3⟩ := qiG hcr (k := p1 + 1) (by omega) (by omega)
      have hb : (decide ((perAt cr p1).1 > 0) && decide (min 400 (m1 + 1) ≥ (perAt cr p1).1)) = true := by simp only [Bool.and_eq_true, decide_eq_true_eq]; omega
      have e4 : w64 (min 100000000000 (l1 - max 0 (now - since - cr.2.2.1) + cr.2.1) + (perAt cr (p1 + 1)).2.1) = min 100000000000 (l1 - max 0 (now - since - cr.2.2.1) + cr.2.1) + (perAt cr (p1 + 1)).2.1 := qf (by omega) (by omega); rw [if_pos hm]; simp only [hb, cond_true, r0, Option.bind_some, e4]; subst hup hrun; rfl
    · have hb : (decide ((perAt cr p1).1 > 0) && decide (min 400 (m1 + 1) ≥ (perAt cr p1).1)) = false := by
        rw [Bool.eq_false_iff]; intro q; simp only [Bool.and_eq_true, decide_eq_true_eq] at q; omega
      rw [if_neg hm]; simp only [hb, cond_false, Option.bind_some]; subst hup hrun; rfl

abbrev Offs := (Int × Int × Unit) × ((Int × Int × Unit) × (Int × Int × Unit) × Unit) × Unit
def offL (p : Int × Int × Unit) : Bool := (decide (p.1 < -1) || decide (p.1 > 400)) || (decide (p.2.1 < -1) || decide (p.2.1 > 400))
theorem ocheckL2 (p : Int × Int × Unit) : iterW (qbY ((p, (0 : Int), ()), ())) (((0 : Int), ()), ()) = some (bif offL p then .inr (.inr (.inr (.inr 4))) else .inl ((), ())) := by
  have s0 : qbY ((p, (0 : Int), ()), ()) (((0 : Int), ()), ()) = bif (decide (p.1 < -1) || decide (p.1 > 400)) then some (.inr (.inr (.inr (.inr (.inr 4))))) else some (.inl (((1 : Int), ()), ())) := rfl; have s1 : qbY ((p, (0 : Int), ()), ()) (((1 : Int), ()), ()) = bif (decide (p.2.1 < -1) || decide (p.2.1 > 400)) then some (.inr (.inr (.inr (.inr (.inr 4))))) else some (.inl (((2 : Int), ()), ())) := rfl; have s2 : qbY ((p, (0 : Int), ()), ()) (((2 : Int), ()), ()) = some (.inr (.inl ((), ()))) := rfl; unfold offL; cases h0 : (decide (p.1 < -1) || decide (p.1 > 400))
  · rw [h0, cond_false] at s0; rw [qm s0]; cases h1 : (decide (p.2.1 < -1) || decide (p.2.1 > 400))
    · rw [h1, cond_false] at s1; rw [qm s1, qk s2]; rfl
    · rw [h1, cond_true] at s1; rw [qk s1]; rfl
  · rw [h0, cond_true] at s0; rw [qk s0]; rfl
def offK (p : Int × Int × Unit) (b : Int) : Int := if offL p = true then 4 else if (decide (b < -1) || decide (b > 1)) = true then 4 else if b = 0 ∧ p.1 = -1 ∨ b = 1 ∧ p.2.1 = -1 then 3 else 0
def offE (o : Offs) : Int := if offK o.2.1.1 o.1.1 = 0 then offK o.2.1.2.1 o.1.2.1 else offK o.2.1.1 o.1.1
theorem him (b : Bool) : imp b true = true := by cases b <;> rfl
theorem quG (o : Offs) : qi0 o = some (offE o) := by
  have step : ∀ (i : Int) (p : Int × Int × Unit) (b : Int), (i = 0 ∧ p = o.2.1.1 ∧ b = o.1.1 ∨ i = 1 ∧ p = o.2.1.2.1 ∧ b = o.1.2.1) → qeq o ((i, ()), ()) = some (if offK p b = 0 then .inl ((i + 1, ()), ()) else .inr (.inr (offK p b))) := by
    intro i p b h
    have e : qeq o ((i, ()), ()) = (Option.bind (α := ((Unit) × (Unit)) ⊕ (((Int × Unit) × (Unit)) ⊕ (((Unit) × (Unit)) ⊕ Int))) (Option.bind (α := ((Unit) × (Unit)) ⊕ (((Unit) × (Unit)) ⊕ (((Int × Unit) × (Unit)) ⊕ (((Unit) × (Unit)) ⊕ Int)))) (iterW (qbY ((p, (0 : Int), ()), ())) (((0 : Int), ()), ())) (Sum.elim (fun x4 =>
        bif ((decide (b < (-1 : Int))) || (decide (b > (1 : Int)))) then some (Sum.inr (Sum.inr (Sum.inr (4 : Int))))
        else Option.bind (req (imp (decide (b ≥ (0 : Int))) true) (req (imp (decide (b ≥ (0 : Int))) (inb b 2)) (some ((((decide (b ≥ (0 : Int))) && ((getD' [p.1, p.2.1] (b.toNat) 0) == (-1 : Int))), ()), ())))) fun x5 : (Bool × Unit) × Unit =>
        bif x5.1.1 then some (Sum.inr (Sum.inr (Sum.inr (3 : Int))))
        else some (Sum.inl ((), ()))) some)) (Sum.elim (fun x6 => some (Sum.inl ((w64 (i + (1 : Int)), ()), ()))) some)) := by
      rcases h with ⟨rfl, rfl, rfl⟩ | ⟨rfl, rfl, rfl⟩
      · rfl
      · rfl
    have hi : w64 (i + 1) = i + 1 := by rcases h with ⟨rfl, _⟩ | ⟨rfl, _⟩ <;> rfl
    rw [e, ocheckL2, hi]; unfold offK; cases hL : offL p
    · simp only [cond_false, Bool.false_eq_true, if_false, Option.bind_some, Sum.elim_inl]; cases hb : (decide (b < -1) || decide (b > 1))
      · simp only [cond_false, Bool.false_eq_true, if_false]; simp only [Bool.or_eq_false_iff, decide_eq_false_iff_not] at hb; by_cases b0 : b = -1
        · subst b0; rfl
        · by_cases b1 : b = 0
          · subst b1; have hg : getD' [p.1, p.2.1] ((0 : Int).toNat) 0 = p.1 := rfl; rw [hg]; simp only [show decide ((0 : Int) ≥ 0) = true from rfl, show inb (0 : Int) 2 = true from rfl, him, qb, Option.bind_some, Bool.true_and]; by_cases q : p.1 = -1
            · rw [beq_t q]; simp [q]
            · rw [beq_f q]; simp [q]
          · obtain rfl : b = 1 := by omega
            have hg : getD' [p.1, p.2.1] ((1 : Int).toNat) 0 = p.2.1 := rfl; rw [hg]; simp only [show decide ((1 : Int) ≥ 0) = true from rfl, show inb (1 : Int) 2 = true from rfl, him, qb, Option.bind_some, Bool.true_and]; by_cases q : p.2.1 = -1
            · rw [beq_t q]; simp [q]
            · rw [beq_f q]; simp [q]
      · rfl
    · rfl
  unfold qi0 offE; have s0 := step 0 o.2.1.1 o.1.1 (.inl ⟨rfl, rfl, rfl⟩); have s1 := step 1 o.2.1.2.1 o.1.2.1 (.inr ⟨rfl, rfl, rfl⟩); have s2 : qeq o (((2 : Int), ()), ()) = some (.inr (.inl ((), ()))) := rfl; by_cases c0 : offK o.2.1.1 o.1.1 = 0
  · rw [if_pos c0] at s0 ⊢; rw [qm s0]; by_cases c1 : offK o.2.1.2.1 o.1.2.1 = 0
    · rw [if_pos c1] at s1; rw [show (0 : Int) + 1 = 1 from rfl, qm s1, show (1 : Int) + 1 = 2 from rfl, qk s2, c1]; rfl
    · rw [if_neg c1] at s1; rw [show (0 : Int) + 1 = 1 from rfl, qk s1]; rfl
  · rw [if_neg c0] at s0 ⊢; rw [qk s0]; rfl
def offEi (o : Offs) (kind player moves : Int) : Int := if offE o = 0 then if (((((kind != 0) && (kind != 1)) || ((player != 0) && (player != 1))) || decide (moves < 0)) || decide (moves > 400)) = true then 1 else 0 else offE o
theorem qfg (o : Offs) (kind player moves : Int) : qbO o kind player moves = some (offEi o kind player moves) := by
  unfold qbO offEi; rw [quG, Option.bind_some]; by_cases c : offE o = 0
  · rw [bne_f c, cond_false, if_pos c]
    cases (((((kind != 0) && (kind != 1)) || ((player != 0) && (player != 1))) || decide (moves < 0)) || decide (moves > 400)) <;> rfl
  · rw [bne_t c, cond_true, if_neg c]
theorem offEi_0 {o : Offs} {kind player moves : Int} (h : offEi o kind player moves = 0) : (kind = 0 ∨ kind = 1) ∧ (player = 0 ∨ player = 1) ∧ 0 ≤ moves ∧ moves ≤ 400 := by
  unfold offEi at h; by_cases c : offE o = 0
  · rw [if_pos c] at h; split at h
    · cases h
    · rename_i q; simp only [Bool.or_eq_true, Bool.and_eq_true, bne_iff_ne, ne_eq, decide_eq_true_eq] at q; omega
  · rw [if_neg c] at h; exact absurd h c
theorem qwW (o : Offs) (player : Int) : ∃ o' e, qeE o player = some (o', e, ()) := by
  unfold qeE; rw [qfg, Option.bind_some]; by_cases c : offEi o 0 player 0 = 0
  · rw [bne_f c, cond_false]
    cases (o.1.1 == w64 (1 - player)) <;> exact ⟨_, _, rfl⟩
  · rw [bne_t c, cond_true]; exact ⟨_, _, rfl⟩
theorem in2 {k : Int} (h : k = 0 ∨ k = 1) : inb k 2 = true := by rcases h with rfl | rfl <;> rfl
theorem qqs (o : Offs) (kind player moves : Int) : ∃ e, qhS o kind player moves = some e ∧ (e = 0 → (kind = 0 ∨ kind = 1) ∧ (player = 0 ∨ player = 1) ∧ 0 ≤ moves ∧ moves ≤ 400) := by
  unfold qhS; rw [qfg, Option.bind_some]; by_cases c : offEi o kind player moves = 0
  · have h := offEi_0 c; rw [bne_f c, cond_false, in2 h.1, qb]; cases (getD' [o.1.1, o.1.2.1] kind.toNat 0 != w64 (1 - player))
    · exact ⟨0, rfl, fun _ => h⟩
    · exact ⟨10, rfl, fun q => (by cases q)⟩
  · rw [bne_t c, cond_true]; exact ⟨_, rfl, fun q => absurd q c⟩
theorem qtn (o : Offs) (kind player moves : Int) : ∃ o' e, qcm o kind player moves = some (o', e, ()) ∧ (e = 0 → (kind = 0 ∨ kind = 1) ∧ (player = 0 ∨ player = 1) ∧ 0 ≤ moves ∧ moves ≤ 400) := by
  unfold qcm; obtain ⟨e, he, h⟩ := qqs o kind player moves; rw [he, Option.bind_some]; by_cases c : e = 0
  · rw [bne_f c, cond_false]; exact ⟨_, _, rfl, fun _ => h c⟩
  · rw [bne_t c, cond_true]; exact ⟨_, _, rfl, fun q => absurd q c⟩
theorem qrr (o : Offs) (kind player moves : Int) : ∃ o' e, qau o kind player moves = some (o', e, ()) := by
  unfold qau; obtain ⟨e, he, h⟩ := qqs o kind player moves; rw [he, Option.bind_some]; by_cases c : e = 0
  · rw [bne_f c, cond_false, in2 (h c).1, qb]; exact ⟨_, _, rfl⟩
  · rw [bne_t c, cond_true]; exact ⟨_, _, rfl⟩
def qcy (player moves : Int) : Int := if (if (if 0 > moves then 0 else moves).tmod 2 = player then (2 : Int) else 1) > moves ∨ player ≠ 0 ∧ player ≠ 1 then 0 else if (if 0 > moves then 0 else moves).tmod 2 = player then 2 else 1
theorem qmS (player moves : Int) : qcn player moves = some (qcy player moves) := by
  unfold qcn qcy qhX; by_cases c : (if (0 : Int) > moves then 0 else moves).tmod 2 = player
  · rw [beq_t c, cond_true, Option.bind_some, if_pos c]; by_cases d : (2 : Int) > moves ∨ player ≠ 0 ∧ player ≠ 1
    · rw [if_pos d, show (decide ((2 : Int) > moves) || ((player != 0) && (player != 1))) = true by simpa using d, cond_true]
    · rw [if_neg d, show (decide ((2 : Int) > moves) || ((player != 0) && (player != 1))) = false by
        rw [Bool.eq_false_iff]; intro q; exact d (by simpa using q), cond_false]
  · rw [beq_f c, cond_false, Option.bind_some, if_neg c]; by_cases d : (1 : Int) > moves ∨ player ≠ 0 ∧ player ≠ 1
    · rw [if_pos d, show (decide ((1 : Int) > moves) || ((player != 0) && (player != 1))) = true by simpa using d, cond_true]
    · rw [if_neg d, show (decide ((1 : Int) > moves) || ((player != 0) && (player != 1))) = false by
        rw [Bool.eq_false_iff]; intro q; exact d (by simpa using q), cond_false]
theorem qwT (o : Offs) (kind player moves : Int) : ∃ o' e, qcb o kind player moves = some (o', e, ()) := by
  unfold qcb; rw [qfg, Option.bind_some]; by_cases c : offEi o kind player moves = 0
  · obtain ⟨hk, hp, _, _⟩ := offEi_0 c; have i1 := in2 hk; have i2 := in2 hp; rw [bne_f c, cond_false, i1, qb]; cases decide (getD' [o.1.1, o.1.2.1] kind.toNat 0 ≥ 0)
    · rw [cond_false, i2]; simp only [qb]; have : ∃ b : Bool, (bif (kind == 0) then some ((((getD' [o.2.1.1.1, o.2.1.1.2.1] player.toNat 0) == moves, ()), ()) : (Bool × Unit) × Unit) else some ((((getD' [o.2.1.2.1.1, o.2.1.2.1.2.1] player.toNat 0) == moves, ()), ()) : (Bool × Unit) × Unit)) = some ((b, ()), ()) := by
        cases (kind == 0) <;> exact ⟨_, rfl⟩
      obtain ⟨b, hb⟩ := this; rw [hb, Option.bind_some]; cases b
      · rw [cond_false]; have : ∃ n, gopt (kind == 1) 0 (qcn player moves) = some n := by
          rw [qmS]
          cases (kind == 1) <;> exact ⟨_, rfl⟩
        obtain ⟨n, hn⟩ := this; rw [hn, Option.bind_some]; cases ((kind == 1) && (n == 0))
        · rw [cond_false]
          cases (kind == 0) <;> exact ⟨_, _, rfl⟩
        · exact ⟨_, _, rfl⟩
      · exact ⟨_, _, rfl⟩
    · exact ⟨_, _, rfl⟩
  · rw [bne_t c, cond_true]; exact ⟨_, _, rfl⟩
theorem qwB (o : Offs) (moves : Int) : ∃ o' e, qd1 o moves = some (o', e, ()) := by
  unfold qd1; rw [qfg, Option.bind_some]; by_cases c : offEi o 0 0 moves = 0
  · rw [bne_f c, cond_false]; have l2 : ∀ (i : Int), (i = 0 ∨ i = 1) → ∀ (y : Int × Int × Int × Int × Int × Int × Unit) (x4 : ((Int × Int × Unit) × Int × Unit) × Unit), ∃ z, iterW (qd7 ((i, ()), (y, ())) moves x4) (((0 : Int), ()), (y, ())) = some ((), (z, ())) := by
      intro i hi y x4; have s : ∀ (j : Int), (j = 0 ∨ j = 1) → ∀ y2, ∃ y3, qd7 ((i, ()), (y, ())) moves x4 ((j, ()), (y2, ())) = some (.inl ((j + 1, ()), (y3, ()))) := by
        intro j hj y2
        rcases hi with rfl | rfl <;> rcases hj with rfl | rfl <;> exact ⟨_, rfl⟩
      obtain ⟨y1, h1⟩ := s 0 (.inl rfl) y; obtain ⟨y2, h2⟩ := s 1 (.inr rfl) y1; refine ⟨y2, ?_⟩; rw [qm h1, show (0 : Int) + 1 = 1 from rfl, qm h2, show (1 : Int) + 1 = 2 from rfl]; exact qk rfl
    have l1 : ∀ (i : Int), (i = 0 ∨ i = 1) → ∀ y, ∃ z, qh5 moves ((i, ()), (y, ())) = some (.inl ((i + 1, ()), (z, ()))) := by
      intro i hi y; rcases hi with rfl | rfl
      · obtain ⟨z, hz⟩ := l2 0 (.inl rfl) y ((((y.2.2.1, (y.2.2.2.1, ())), (0 : Int), ())), ()); refine ⟨z, ?_⟩; show (Option.bind (Option.bind (iterW (qd7 (((0 : Int), ()), (y, ())) moves ((((y.2.2.1, (y.2.2.2.1, ())), (0 : Int), ())), ())) (((0 : Int), ()), (y, ()))) fun x7 => some ((), (x7.2.1, ()))) fun x8 => some (Sum.inl (((w64 ((0 : Int) + 1)), ()), (x8.2.1, ())))) = _; rw [hz]; rfl
      · obtain ⟨z, hz⟩ := l2 1 (.inr rfl) y (((y.2.2.2.2, (0 : Int), ())), ()); refine ⟨z, ?_⟩; show (Option.bind (Option.bind (iterW (qd7 (((1 : Int), ()), (y, ())) moves (((y.2.2.2.2, (0 : Int), ())), ())) (((0 : Int), ()), (y, ()))) fun x7 => some ((), (x7.2.1, ()))) fun x8 => some (Sum.inl (((w64 ((1 : Int) + 1)), ()), (x8.2.1, ())))) = _; rw [hz]; rfl
    obtain ⟨y1, h1⟩ := l1 0 (.inl rfl) ((-1 : Int), ((-1 : Int), (o.2.1.1.1, (o.2.1.1.2.1, o.2.1.2.1)))); obtain ⟨y2, h2⟩ := l1 1 (.inr rfl) y1; have h3 : qh5 moves (((2 : Int), ()), (y2, ())) = some (.inr ((), (y2, ()))) := rfl; rw [qm h1, show (0 : Int) + 1 = 1 from rfl, qm h2, show (1 : Int) + 1 = 2 from rfl, qk h3, Option.bind_some]; exact ⟨_, _, rfl⟩
  · rw [bne_t c, cond_true]; exact ⟨_, _, rfl⟩

theorem qwu {a b : ByteArray} (h : a.data.toList = b.data.toList) : a = b := by
  obtain ⟨⟨l⟩⟩ := a; obtain ⟨⟨k⟩⟩ := b; simp only at h; rw [h]
theorem qkY (a b : ByteArray) : (a ++ b).data.toList = a.data.toList ++ b.data.toList := by simp [ByteArray.data_append]
theorem qhR (a : ByteArray) : a.size = a.data.toList.length := by
  rw [Array.length_toList]; rfl
theorem bt_cut (s : ByteArray) (a b : Nat) : (s.extract a b).data.toList = (s.data.toList.take b).drop a := by
  rw [ByteArray.data_extract, Array.toList_extract]; rw [List.extract_eq_take_drop, List.drop_take]
def oneT (c : UInt8) : ByteArray := ByteArray.mk #[c]
def joinB (c : UInt8) (l : List ByteArray) : ByteArray := ⟨(Go.Lib.join (l.map (·.data.toList)) [c]).toArray⟩
theorem qtz (c : UInt8) : joinB c [] = ByteArray.mk #[] := rfl
theorem qpf (c : UInt8) (x : ByteArray) : joinB c [x] = x := qwu (by
  show Go.Lib.join [x.data.toList] [c] = _
  exact Go.Lib.join_one _ _)
theorem qmv (c : UInt8) (x y : ByteArray) (l : List ByteArray) : joinB c (x :: y :: l) = (x ++ oneT c) ++ joinB c (y :: l) := qwu (by
  rw [qkY, qkY]; show Go.Lib.join (x.data.toList :: y.data.toList :: l.map (·.data.toList)) [c] = (x.data.toList ++ [c]) ++ Go.Lib.join (y.data.toList :: l.map (·.data.toList)) [c]
  simp [Go.Lib.join, List.intercalate, List.intersperse])
theorem qrk (c : UInt8) (m : Nat) : ∀ l : List ByteArray, (∀ x ∈ l, x.size ≤ m) → (joinB c l).size ≤ l.length * (m + 1)
  | [], _ => by rw [qtz]; exact Nat.zero_le _
  | [x], h => by rw [qpf]; have := h x (by simp); simp; omega
  | x :: y :: l, h => by
    have ih := qrk c m (y :: l) (fun z hz => h z (List.mem_cons_of_mem _ hz)); have := h x (by simp); rw [qmv, qhR, qkY, qkY, List.length_append, List.length_append, ← qhR, ← qhR]; have : (oneT c).size = 1 := rfl; rw [this, ← qhR]; simp only [List.length_cons, Nat.add_mul] at ih ⊢; omega
theorem qw0 (c : UInt8) (l : List ByteArray) (h1 : l.length ≤ 140737488355328) (h2 : (joinB c l).size ≤ 140737488355328) : joinS l (ByteArray.mk #[c]) = some (joinB c l) := by
  unfold joinS
  have e : (Go.Lib.join (l.map (·.data.toList)) (ByteArray.mk #[c]).data.toList).length = (joinB c l).size := by rw [qhR]; rfl
  rw [e, Nat.ble_eq_true_of_le h1, Nat.ble_eq_true_of_le h2]; rfl
theorem ib_none (c : UInt8) : ∀ l : List UInt8, c ∉ l → Go.Lib.indexByte l c = -1
  | [], _ => rfl
  | b :: l, h => by
    have hb : (b == c) = false := by rw [beq_eq_false_iff_ne]; exact fun e => h (by simp [e])
    unfold Go.Lib.indexByte; rw [hb, ib_none c l (fun e => h (List.mem_cons_of_mem _ e))]; rfl
theorem qvU (c : UInt8) (r : List UInt8) : ∀ l : List UInt8, c ∉ l → Go.Lib.indexByte (l ++ c :: r) c = l.length
  | [], _ => by simp [Go.Lib.indexByte]
  | b :: l, h => by
    have hb : (b == c) = false := by rw [beq_eq_false_iff_ne]; exact fun e => h (by simp [e])
    rw [List.cons_append]; unfold Go.Lib.indexByte; rw [hb, qvU c r l (fun e => h (List.mem_cons_of_mem _ e))]
    have : ((l.length : Int) == -1) = false := by rw [beq_eq_false_iff_ne]; omega
    rw [this, if_neg (by decide), if_neg (by decide), List.length_cons]; omega
theorem qqF (s : ByteArray) (c : UInt8) : Go.Lib.indexB s (oneT c) = Go.Lib.indexByte s.data.toList c := Go.Lib.index_one s.data.toList c
theorem qqU (c : UInt8) : ∀ l : List ByteArray, l ≠ [] → (∀ x ∈ l, c ∉ x.data.toList) → Go.Lib.countB (joinB c l) (oneT c) = l.length - 1 ∧ Go.Lib.splitB (oneT c) 0 (l.length - 1) (joinB c l) = l
  | [], h, _ => absurd rfl h
  | [x], _, h => by
    rw [qpf]; exact ⟨Go.Lib.countB_miss _ _ (by rw [qqF]; exact ib_none c _ (h x (by simp))), rfl⟩
  | x :: y :: l, _, h => by
    have ih := qqU c (y :: l) (by simp) (fun z hz => h z (List.mem_cons_of_mem _ hz)); have hs : (joinB c (x :: y :: l)).data.toList = x.data.toList ++ c :: (joinB c (y :: l)).data.toList := by
      rw [qmv, qkY, qkY]; simp [oneT]
    have hi : Go.Lib.indexB (joinB c (x :: y :: l)) (oneT c) = (x.data.toList.length : Nat) := by
      rw [qqF, hs]; exact qvU c _ _ (h x (by simp))
    have hrest : (joinB c (x :: y :: l)).extract (x.data.toList.length + (oneT c).size) (joinB c (x :: y :: l)).size = joinB c (y :: l) := qwu (by
      rw [bt_cut, List.take_of_length_le (by rw [qhR]; exact Nat.le_refl _), hs]; show List.drop (x.data.toList.length + 1) _ = _; rw [← List.drop_drop, List.drop_left]
      rfl)
    have hfst : (joinB c (x :: y :: l)).extract 0 (x.data.toList.length + 0) = x := qwu (by
      rw [bt_cut, hs, Nat.add_zero, List.drop_zero, List.take_left])
    constructor
    · rw [Go.Lib.countB_hit _ (oneT c) _ (show 1 ≤ (oneT c).size from Nat.le_refl 1) hi, hrest, ih.1]; simp only [List.length_cons]; omega
    · have hl : (x :: y :: l).length - 1 = ((y :: l).length - 1) + 1 := by simp only [List.length_cons]; omega
      rw [hl, Go.Lib.splitB_hit _ _ _ _ _ hi, hrest, hfst, ih.2]
theorem qu0 (c : UInt8) (l : List ByteArray) (h0 : l ≠ []) (h1 : (joinB c l).size ≤ 4294967280) (h : ∀ x ∈ l, c ∉ x.data.toList) : qqB (joinB c l) (ByteArray.mk #[c]) = some l := by
  have := qqU c l h0 h; unfold qqB; rw [Nat.ble_eq_true_of_le h1]; show some (Go.Lib.splitB (oneT c) 0 (Go.Lib.countB (joinB c l) (oneT c)) (joinB c l)) = some l; rw [this.1, this.2]
end Go.Proofs.YtijkabgijfdpfaaGreatDoor
