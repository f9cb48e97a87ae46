/- Records: texts, names, tags. No condition of its own. -/
import Derived.Test.YticeklcmijbjfaaGreatGameQ
import Derived.Test.YticeklcmijbjfaaGreatRecordS
namespace Go.Proofs.YticeklcmijbjfaaGreat
open Go.Den
set_option linter.unusedVariables false
set_option linter.unusedSimpArgs false
set_option maxRecDepth 100000

abbrev RTag := ByteArray × ByteArray × Unit
abbrev RNode := Int × Mv × ByteArray × Unit
abbrev Rec := List RTag × ByteArray × List RNode × Int × Unit
abbrev tyTag : Ty := .st .str (.st .str .nil)
abbrev tyMv : Ty := .st (.int .i64) (.st (.int .i64) (.st (.int .i64) .nil))
abbrev tyNode : Ty := .st (.int .i64) (.st tyMv (.st .str .nil))
abbrev tyRec : Ty := .st (.sl tyTag) (.st .str (.st (.sl tyNode) (.st (.int .i64) .nil)))
theorem at_nat {A : Type} (xs : List A) (i : Nat) (h : i < xs.length) : at? xs (i : Int) = some xs[i] := by
  rw [at?_eq xs _ (Int.natCast_nonneg i) (Int.ofNat_lt.2 h)]
  simp only [Int.toNat_natCast]
def badC (w : List UInt8) (c : UInt8) : Bool := (decide (((c.toNat : Nat) : Int) < 32) || decide (((c.toNat : Nat) : Int) > 126)) || w.any (· == c)
def fineT (s w : ByteArray) : Bool := !(s.data.toList.any (badC w.data.toList))
theorem ba_len (s : ByteArray) : s.data.toList.length = s.size := by rw [Array.length_toList]; rfl
theorem strAt_list (s : ByteArray) (i : Nat) (h : i < s.data.toList.length) : strAt s (i : Int) = some s.data.toList[i] := by
  have h' : i < s.size := by rw [← ba_len]; exact h
  have h0 : decide ((0 : Int) ≤ (i : Int)) = true := by simp
  unfold strAt
  rw [h0, cond_true, Int.toNat_natCast, getElem?_pos s i h', ByteArray.getElem_eq_getElem_data, Array.getElem_toList]
theorem bo_get (s : ByteArray) (i : Nat) (h : i < s.data.toList.length) : getD' (bytesOf s) i 0 = ((s.data.toList[i].toNat : Nat) : Int) := by
  unfold getD' bytesOf
  rw [List.getD_eq_getElem?_getD, List.getElem?_map, List.getElem?_eq_getElem h]
  rfl
theorem bo_len (s : ByteArray) : (bytesOf s).length = s.data.toList.length := by unfold bytesOf; rw [List.length_map]
theorem idx_any (c : UInt8) : ∀ l : List UInt8, decide (Go.Lib.indexByte l c ≥ 0) = l.any (· == c)
  | [] => rfl
  | b :: l => by
    have ih := idx_any c l
    have hg := Go.Lib.indexByte_ge l c
    rw [List.any_cons, ← ih, show Go.Lib.indexByte (b :: l) c = if b == c then 0 else if Go.Lib.indexByte l c == -1 then -1 else Go.Lib.indexByte l c + 1 from rfl]
    by_cases h : (b == c) = true
    · rw [if_pos h, h]; rfl
    · rw [if_neg h, Bool.eq_false_iff.2 h, Bool.false_or]
      by_cases h2 : (Go.Lib.indexByte l c == -1) = true
      · have : Go.Lib.indexByte l c = -1 := by simpa using h2
        rw [if_pos h2, this]
      · have : ¬ Go.Lib.indexByte l c = -1 := by simpa using h2
        rw [if_neg h2, Bool.eq_iff_iff]
        simp only [decide_eq_true_eq]
        omega
theorem printable_spec (s w : ByteArray) (hs : s.size ≤ 9223372036854775807) : recordPrintable s w = some (fineT s w) := by
  have hl := ba_len s
  unfold recordPrintable fineT
  have hL := iterW_any s.data.toList (badC w.data.toList) (recordPrintable_L1 s w) (.inr false) (.inl ((), ())) (fun i hi => by
    unfold recordPrintable_L1
    have h3 : (i : Int) < (s.size : Int) := by omega
    have hg : ∀ b (c : UInt8), gopt b 0 (some c) = some (bif b then c else 0) := fun b c => by cases b <;> rfl
    simp only [h3, decide_true, cond_true, strAt_list s i hi, Option.bind_some, hg, w64_id (n := (i : Int) + 1) (by omega) (by omega)]
    generalize s.data.toList[i] = c
    have hx : decide (indexByteS w ((c.toNat : Nat) : Int) ≥ 0) = w.data.toList.any (· == c) := by
      unfold indexByteS
      rw [Int.toNat_natCast, ← idx_any, show (c.toNat).toUInt8 = c from UInt8.ofNat_toNat]
    unfold badC
    cases h1 : decide (((c.toNat : Nat) : Int) < 32)
    · simp only [Bool.not_false, cond_true, Bool.false_or]
      cases h2 : decide (((c.toNat : Nat) : Int) > 126)
      · simp only [Bool.not_false, cond_true, Bool.false_or, hx]
        rfl
      · simp only [Bool.true_or, cond_true]
    · simp only [Bool.true_or, cond_true]) (by
    unfold recordPrintable_L1
    rw [hl]
    simp)
  rw [hL]
  cases s.data.toList.any (badC w.data.toList) <;> rfl
theorem any_cast (w : List UInt8) (c : UInt8) : (w.map fun b => ((b.toNat : Nat) : Int)).any (fun b => ((c.toNat : Nat) : Int) == b) = w.any (· == c) := by
  rw [List.any_map]
  congr 1
  funext b
  show (((c.toNat : Nat) : Int) == ((b.toNat : Nat) : Int)) = (b == c)
  rw [Bool.eq_iff_iff]
  simp only [beq_iff_eq]
  constructor
  · intro h; exact (UInt8.toNat_inj.1 (by omega)).symm
  · intro h; rw [h]
theorem fine_spec (s w : ByteArray) (hs : s.size ≤ 140737488355328) (hw : w.size ≤ 140737488355328) : ref3Fine s w = some (fineT s w) := by
  have hl := ba_len s
  have hl2 := ba_len w
  unfold ref3Fine fineT
  rw [Nat.ble_eq_true_of_le hs, req_true]
  have hL := iterW_any s.data.toList (badC w.data.toList) (ref3Fine_L1 s w) (.inr false) (.inl ((), ())) (fun i hi => by
    unfold ref3Fine_L1
    have h3 : (i : Int) < (((bytesOf s).length : Nat) : Int) := by rw [bo_len]; omega
    have hin : inb (i : Int) (bytesOf s).length = true := inb_iff.2 ⟨by omega, h3⟩
    simp only [h3, decide_true, cond_true, hin, req_true, Nat.ble_eq_true_of_le hw, Int.toNat_natCast, bo_get s i hi]
    have hL2 := iterW_any (bytesOf w) (fun b => getD' (bytesOf s) i 0 == b) (ref3Fine_L2 w s (((i : Int), ()), ())) (.inr (.inr (.inr (.inr false)))) (.inl ((), ())) (fun j hj => by
      unfold ref3Fine_L2
      have h4 : (j : Int) < (((bytesOf w).length : Nat) : Int) := by omega
      have hj2 : inb (j : Int) (bytesOf w).length = true := inb_iff.2 ⟨by omega, h4⟩
      have hjs : j < w.data.toList.length := by rw [← bo_len]; exact hj
      simp only [h4, decide_true, cond_true, hj2, req_true, Int.toNat_natCast, w64_id (n := (j : Int) + 1) (by rw [bo_len] at hj; omega) (by rw [bo_len] at hj; omega)]
      rw [show getD' (bytesOf w) j 0 = (bytesOf w)[j] by simp [getD', hj]]
      rfl) (by unfold ref3Fine_L2; simp)
    rw [bo_get s i hi] at hL2
    rw [hL2, Option.bind_some, w64_id (n := (i : Int) + 1) (by omega) (by omega)]
    generalize s.data.toList[i] = c
    have ha : (bytesOf w).any (fun b => ((c.toNat : Nat) : Int) == b) = w.data.toList.any (· == c) := any_cast _ c
    rw [ha]
    unfold badC
    cases w.data.toList.any (· == c)
    · simp only [cond_false, Sum.elim_inl, Bool.or_false]
      cases (decide (((c.toNat : Nat) : Int) < 32) || decide (((c.toNat : Nat) : Int) > 126)) <;> rfl
    · simp only [cond_true, Sum.elim_inr, Bool.or_true, Option.bind_some]) (by
    unfold ref3Fine_L1
    rw [bo_len]
    simp)
  rw [hL]
  cases s.data.toList.any (badC w.data.toList) <;> rfl
theorem bo_ch (s : ByteArray) (i : Nat) (h : i < s.size) : getD' (bytesOf s) i 0 = ((ch s i : Nat) : Int) := by
  have h' : i < s.data.toList.length := by rw [ba_len]; exact h
  rw [bo_get s i h']
  unfold ch
  rw [getElem?_pos s i h, ByteArray.getElem_eq_getElem_data, Array.getElem_toList]
  rfl
theorem name3_spec (s : ByteArray) (hs : s.size ≤ 9223372036854775807) : ref3Name s = some (nameOk s) := by
  unfold ref3Name
  by_cases h0 : s.size = 0 ∨ 8 < s.size
  · have e : ((s.toList == (ByteArray.mk #[]).toList) || (decide (((s.size : Nat) : Int) > 8))) = true := by
      rw [empty_iff]
      simp only [Bool.or_eq_true, decide_eq_true_eq]
      omega
    have hn : nameOk s = false := by
      unfold nameOk
      rw [show decide (1 ≤ s.size ∧ s.size ≤ 8) = false by simp only [decide_eq_false_iff_not]; omega, Bool.and_false]
    rw [e, hn]
    rfl
  · have e : ((s.toList == (ByteArray.mk #[]).toList) || (decide (((s.size : Nat) : Int) > 8))) = false := by
      rw [empty_iff]
      simp only [Bool.or_eq_false_iff, decide_eq_false_iff_not]
      omega
    obtain ⟨c, hc1, hc2⟩ := strAt_eq s 0 (by omega)
    have hc1 : strAt s 0 = some c := hc1
    have hg : ∀ b (c : UInt8), gopt b 0 (some c) = some (bif b then c else 0) := fun b c => by cases b <;> rfl
    rw [e, hc1]
    simp only [hg, Bool.not_false, cond_true, Option.bind_some, Bool.false_or, hc2]
    have hd : decide (1 ≤ s.size ∧ s.size ≤ 8) = true := by simp only [decide_eq_true_eq]; omega
    by_cases h1 : 65 ≤ ch s 0 ∧ ch s 0 ≤ 90
    · have e1 : decide (((ch s 0 : Nat) : Int) < 65) = false := by simp only [decide_eq_false_iff_not]; omega
      have e2 : decide (((ch s 0 : Nat) : Int) > 90) = false := by simp only [decide_eq_false_iff_not]; omega
      simp only [e1, Bool.not_false, cond_true, hc2, e2, Bool.or_self, cond_false]
      rw [Nat.ble_eq_true_of_le (show s.size ≤ 140737488355328 by omega), req_true]
      have hL := iterW_any (List.range s.size) (nameBad s) (ref3Name_L1 s) (.inr false) (.inl ((), ())) (fun i hi => by
        have hi' : i < s.size := by simpa using hi
        unfold ref3Name_L1
        have h3 : (i : Int) < (((bytesOf s).length : Nat) : Int) := by rw [bo_len, ba_len]; omega
        have hin : inb (i : Int) (bytesOf s).length = true := inb_iff.2 ⟨by omega, h3⟩
        simp only [h3, decide_true, cond_true, hin, req_true, Int.toNat_natCast, bo_ch s i hi', List.getElem_range, w64_id (n := (i : Int) + 1) (by omega) (by omega)]
        have hb : ((decide (((ch s i : Nat) : Int) < 65) || decide (((ch s i : Nat) : Int) > 90)) && (decide (((ch s i : Nat) : Int) < 48) || decide (((ch s i : Nat) : Int) > 57))) = nameBad s i := by
          unfold nameBad
          rw [Bool.eq_iff_iff]
          simp only [Bool.and_eq_true, Bool.or_eq_true, decide_eq_true_eq, Bool.not_eq_true', Bool.or_eq_false_iff, decide_eq_false_iff_not]
          by_cases hz : i = 0
          · subst hz; omega
          · omega
        rw [hb]
        rfl) (by
        unfold ref3Name_L1
        rw [bo_len, ba_len, List.length_range]
        simp)
      rw [hL]
      unfold nameOk
      rw [hd, Bool.and_true]
      cases (List.range s.size).any (nameBad s) <;> rfl
    · have hn : nameOk s = false := by
        unfold nameOk
        have : (List.range s.size).any (nameBad s) = true := by
          rw [List.any_eq_true]
          refine ⟨0, List.mem_range.2 (by omega), ?_⟩
          unfold nameBad
          simp only [Bool.not_eq_true', Bool.or_eq_false_iff, decide_eq_false_iff_not]
          omega
        rw [this]; rfl
      rw [hn]
      cases e1 : decide (((ch s 0 : Nat) : Int) < 65)
      · simp only [decide_eq_false_iff_not] at e1
        simp only [Bool.not_false, cond_true, hc2, show decide (((ch s 0 : Nat) : Int) > 90) = true by simp only [decide_eq_true_eq]; omega, Bool.or_true]
      · simp only [Bool.true_or, cond_true]
/-! tags, comments -/
def cErr (s : ByteArray) : Int := if 60 < s.size then 2 else if fineT s (ByteArray.mk #[123, 125]) = false then 3 else 0
theorem comment_spec (s : ByteArray) (hs : s.size ≤ 9223372036854775807) : recordComment s = some (cErr s) := by
  unfold recordComment cErr
  by_cases h : 60 < s.size
  · rw [if_pos h, show decide (((s.size : Nat) : Int) > 60) = true by simp only [decide_eq_true_eq]; omega]; rfl
  · rw [if_neg h, show decide (((s.size : Nat) : Int) > 60) = false by simp only [decide_eq_false_iff_not]; omega, cond_false, printable_spec _ _ (by omega), Option.bind_some]
    cases fineT s (ByteArray.mk #[123, 125]) <;> rfl
def tErrD (pre : List RTag) (d : RTag) : Int := if nameOk d.1 = false then 6 else if 40 < d.2.1.size then 2 else if fineT d.2.1 (ByteArray.mk #[34]) = false then 3 else if pre.any (fun u => u.1.toList == d.1.toList) = true then 7 else 0
def tErr (ts : List RTag) (i : Nat) : Int := match ts[i]? with
  | none => 0
  | some d => tErrD (ts.take i) d
theorem tErr_at (ts : List RTag) (i : Nat) (h : i < ts.length) : tErr ts i = tErrD (ts.take i) ts[i] := by
  unfold tErr
  rw [List.getElem?_eq_getElem h]
theorem tags_spec (x : Rec) (hx : Rng tyRec x) : recordTags x = some (firstNZ (tErr x.1) x.1.length) := by
  have hn : x.1.length ≤ 9223372036854775807 := hx.1.1
  unfold recordTags
  have := loopNZ x.1.length (recordTags_L1 x) (tErr x.1) ((), ()) (some 0) (fun i hi => by
    have hd1 : (x.1[i]).1.size ≤ 9223372036854775807 := (hx.1.2 _ (List.getElem_mem hi)).1
    have hd2 : (x.1[i]).2.1.size ≤ 9223372036854775807 := (hx.1.2 _ (List.getElem_mem hi)).2.1
    rw [tErr_at _ _ hi]
    unfold recordTags_L1
    simp only [show decide ((i : Int) < ((x.1.length : Nat) : Int)) = true by simp; omega, cond_true]
    rw [at_nat _ _ hi, Option.bind_some]
    generalize x.1[i] = d at hd1 hd2
    unfold tErrD
    rw [name_spec _ (by omega), Option.bind_some]
    cases nameOk d.1
    · rfl
    · simp only [Bool.not_true, cond_false, if_neg (show ¬ (true = false) by decide)]
      by_cases h1 : 40 < d.2.1.size
      · rw [if_pos h1, show decide (((d.2.1.size : Nat) : Int) > 40) = true by simp only [decide_eq_true_eq]; omega]; rfl
      · rw [if_neg h1, show decide (((d.2.1.size : Nat) : Int) > 40) = false by simp only [decide_eq_false_iff_not]; omega, cond_false, printable_spec _ _ (by omega), Option.bind_some]
        cases fineT d.2.1 (ByteArray.mk #[34])
        · rfl
        · simp only [Bool.not_true, cond_false, if_neg (show ¬ (true = false) by decide)]
          rw [show boundsI 0 (i : Int) x.1.length = true by simp only [boundsI, Bool.and_eq_true, decide_eq_true_eq]; omega, req_true]
          have hl : (x.1.take i).length = i := by rw [List.length_take]; omega
          have hL := iterW_any (x.1.take i) (fun u => u.1.toList == d.1.toList) (recordTags_L2 x (((i : Int), ()), ()) d) (.inr (.inr (.inr 7))) (.inl ((), ())) (fun j hj => by
            have hj' : j < i := by rw [List.length_take] at hj; omega
            unfold recordTags_L2
            simp only [Int.toNat_natCast, List.drop_zero, hl]
            simp only [show decide ((j : Int) < ((i : Nat) : Int)) = true by simp; omega, cond_true]
            rw [at_nat _ _ hj, Option.bind_some]
            simp only [Int.toNat_natCast, show decide ((j : Int) ≥ 0) = true by simp, cond_true, w64_id (n := (j : Int) + 1) (by omega) (by omega)]
            rfl) (by
            unfold recordTags_L2
            simp only [Int.toNat_natCast, List.drop_zero, hl]
            simp)
          rw [hL, Option.bind_some, w64_id (n := (i : Int) + 1) (by omega) (by omega)]
          cases (x.1.take i).any (fun u => u.1.toList == d.1.toList) <;> rfl) (by
    unfold recordTags_L1
    simp)
  rw [this]
  split
  · rename_i h; rw [h]
  · rfl
theorem refTags_spec (x : Rec) (hx : Rng tyRec x) (z : Option Int) : Option.bind (iterW (ref3RecordFault_L1 x) ((0, ()), ())) (Sum.elim (fun _ => z) some) = if firstNZ (tErr x.1) x.1.length = 0 then z else some (firstNZ (tErr x.1) x.1.length) := by
  have hn : x.1.length ≤ 9223372036854775807 := hx.1.1
  refine loopNZ x.1.length (ref3RecordFault_L1 x) (tErr x.1) ((), ()) z (fun i hi => ?_) (by unfold ref3RecordFault_L1; simp)
  have hd1 : (x.1[i]).1.size ≤ 9223372036854775807 := (hx.1.2 _ (List.getElem_mem hi)).1
  have hd2 : (x.1[i]).2.1.size ≤ 9223372036854775807 := (hx.1.2 _ (List.getElem_mem hi)).2.1
  rw [tErr_at _ _ hi]
  unfold ref3RecordFault_L1
  simp only [show decide ((i : Int) < ((x.1.length : Nat) : Int)) = true by simp; omega, cond_true]
  rw [at_nat _ _ hi, Option.bind_some]
  generalize x.1[i] = d at hd1 hd2
  unfold tErrD
  rw [name3_spec _ (by omega), Option.bind_some]
  cases nameOk d.1
  · rfl
  · simp only [Bool.not_true, cond_false, if_neg (show ¬ (true = false) by decide)]
    by_cases h1 : 40 < d.2.1.size
    · rw [if_pos h1, show decide (((d.2.1.size : Nat) : Int) > 40) = true by simp only [decide_eq_true_eq]; omega]; rfl
    · rw [if_neg h1, show decide (((d.2.1.size : Nat) : Int) > 40) = false by simp only [decide_eq_false_iff_not]; omega, cond_false, fine_spec _ _ (by omega) (by decide), Option.bind_some]
      cases fineT d.2.1 (ByteArray.mk #[34])
      · rfl
      · simp only [Bool.not_true, cond_false, if_neg (show ¬ (true = false) by decide)]
        have hL := iterW_any (x.1.take i) (fun u => u.1.toList == d.1.toList) (ref3RecordFault_L2 (((i : Int), ()), ()) x d) (.inr (.inr (.inr (.inr 7)))) (.inl ((), ())) (fun j hj => by
          have hj' : j < i := by rw [List.length_take] at hj; omega
          unfold ref3RecordFault_L2
          simp only [show decide ((j : Int) < (i : Int)) = true by simp; omega, cond_true]
          rw [at_nat _ _ (show j < x.1.length by omega), Option.bind_some]
          simp only [Int.toNat_natCast, w64_id (n := (j : Int) + 1) (by omega) (by omega), List.getElem_take]
          rfl) (by
          unfold ref3RecordFault_L2
          simp only [List.length_take, Nat.min_eq_left (Nat.le_of_lt hi)]
          simp)
        rw [hL, Option.bind_some, w64_id (n := (i : Int) + 1) (by omega) (by omega)]
        cases (x.1.take i).any (fun u => u.1.toList == d.1.toList) <;> rfl
end Go.Proofs.YticeklcmijbjfaaGreat
