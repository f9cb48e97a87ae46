/- BitsSets: the plain law. No condition of its own. -/
import Derived.Test.YteiohidcgimjlaaDoorMAD
namespace Go.Proofs.YteiohidcgimjlaaDoor
open Go.Den
set_option linter.unusedVariables false
set_option linter.unusedSimpArgs false
set_option maxRecDepth 100000
theorem at_nat {A : Type} (l : List A) (i : Nat) (hi : i < l.length) : at? l (i : Int) = some l[i] := by
  rw [at?_eq l _ (by omega) (by omega)]
  simp
def ofStep (s : Int × Nat) (d : Int) : Int × Nat := if s.1 ≠ 0 then s else if ¬ (0 ≤ d ∧ d ≤ 63) then (4, s.2) else if s.2.testBit d.toNat = true then (7, s.2) else (0, s.2 ||| 2 ^ d.toNat)
theorem of_err : ∀ (l : List Int) (s : Int × Nat), s.1 ≠ 0 → l.foldl ofStep s = s
  | [], s, h => rfl
  | d :: l, s, h => by
    rw [List.foldl_cons, show ofStep s d = s by unfold ofStep; rw [if_pos h]]
    exact of_err l s h
theorem of_lt (s : Int × Nat) (d : Int) (h : s.2 < 18446744073709551616) : (ofStep s d).2 < 18446744073709551616 := by
  unfold ofStep
  split
  · exact h
  · split
    · exact h
    · split
      · exact h
      · exact Nat.or_lt_two_pow (n := 64) h (pow_u64 (by omega))
theorem of_loop (l : List Int) (hl : l.length ≤ 9223372036854775807) : ∀ (k i : Nat) (o : Nat), i + k = l.length → o < 18446744073709551616 →
    iterW (bitsOf_L1 l) (((o : Int), (i : Int), ()), ()) = some (if ((l.drop i).foldl ofStep (0, o)).1 = 0 then .inl ((((((l.drop i).foldl ofStep (0, o)).2 : Nat) : Int), ()), ()) else .inr (0, (((l.drop i).foldl ofStep (0, o)).1, ()))) := by
  intro k
  induction k with
  | zero =>
    intro i o hi ho
    rw [List.drop_of_length_le (by omega)]
    refine iterW_inr ?_
    unfold bitsOf_L1
    simp only [show decide ((i : Int) < ((l.length : Nat) : Int)) = false by simp only [decide_eq_false_iff_not]; omega, cond_false]
    rfl
  | succ k ih =>
    intro i o hi ho
    have hlt : i < l.length := by omega
    rw [List.drop_eq_getElem_cons hlt, List.foldl_cons]
    have hu : ∀ r, bitsOf_L1 l (((o : Int), (i : Int), ()), ()) = r → bitsOf_L1 l (((o : Int), (i : Int), ()), ()) = r := fun r h => h
    by_cases c : 0 ≤ l[i] ∧ l[i] ≤ 63
    rotate_left
    · have hs : ofStep (0, o) l[i] = (4, o) := by unfold ofStep; rw [if_neg (by simp), if_pos c]
      rw [hs, of_err _ _ (show (4 : Int) ≠ 0 by decide), if_neg (show ¬ (4 : Int) = 0 by decide)]
      refine iterW_inr ?_
      unfold bitsOf_L1
      simp only [show decide ((i : Int) < ((l.length : Nat) : Int)) = true by simp only [decide_eq_true_eq]; omega, cond_true]
      rw [at_nat l i hlt, Option.bind_some, show (decide (l[i] < 0) || decide (l[i] > 63)) = true by simp only [Bool.or_eq_true, decide_eq_true_eq]; omega, cond_true]
    · obtain ⟨d, hd⟩ : ∃ d : Nat, l[i] = (d : Int) := ⟨l[i].toNat, by omega⟩
      have hd64 : d < 64 := by omega
      have head : bitsOf_L1 l (((o : Int), (i : Int), ()), ()) = bif o.testBit d then some (.inr (.inr (0, (7, ())))) else some (.inl (((((o ||| 2 ^ d : Nat) : Int), ((i + 1 : Nat) : Int), ()), ()))) := by
        unfold bitsOf_L1
        simp only [show decide ((i : Int) < ((l.length : Nat) : Int)) = true by simp only [decide_eq_true_eq]; omega, cond_true]
        rw [at_nat l i hlt, Option.bind_some, hd, show (decide ((d : Int) < 0) || decide ((d : Int) > 63)) = false by simp only [Bool.or_eq_false_iff, decide_eq_false_iff_not]; omega, cond_false, show decide (0 ≤ (d : Int)) = true from decide_eq_true (Int.natCast_nonneg _), req_true, bit_nat ho hd64, shl_nat hd64, or_nat ho (pow_u64 hd64), w64_id (n := (i : Int) + 1) (by omega) (by omega), req_true]
        rfl
      cases hb : o.testBit d
      · have hs : ofStep (0, o) l[i] = (0, o ||| 2 ^ d) := by unfold ofStep; rw [if_neg (by simp), if_neg (fun h => h c), hd, Int.toNat_natCast]; simp [hb]
        rw [hb, cond_false] at head
        rw [hs, iterW_inl head]
        exact ih (i + 1) _ (by omega) (Nat.or_lt_two_pow (n := 64) ho (pow_u64 hd64))
      · have hs : ofStep (0, o) l[i] = (7, o) := by unfold ofStep; rw [if_neg (by simp), if_neg (fun h => h c), hd, Int.toNat_natCast]; simp [hb]
        rw [hb, cond_true] at head
        rw [hs, of_err _ _ (show (7 : Int) ≠ 0 by decide), if_neg (show ¬ (7 : Int) = 0 by decide)]
        exact iterW_inr head
def ofRun (l : List Int) : Int × Nat := l.foldl ofStep (0, 0)
theorem of_spec (l : List Int) (hl : l.length ≤ 9223372036854775807) : bitsOf l = some (if (ofRun l).1 = 0 then (((ofRun l).2 : Nat) : Int) else 0, ((ofRun l).1, ())) := by
  unfold bitsOf
  have h := of_loop l hl l.length 0 0 (by omega) (by decide)
  rw [List.drop_zero] at h
  have h' : iterW (bitsOf_L1 l) ((0, 0, ()), ()) = _ := h
  rw [h']
  unfold ofRun
  by_cases c : (l.foldl ofStep (0, 0)).1 = 0
  · rw [if_pos c, if_pos c, c]; rfl
  · rw [if_neg c, if_neg c]; rfl
/-! ### the reference's loop -/
def metOf (o : Nat) : List Int := (List.range 64).map fun k => if o.testBit k = true then 1 else 0
theorem met_len (o : Nat) : (metOf o).length = 64 := by simp [metOf]
theorem met_get (o d : Nat) (hd : d < 64) : getD' (metOf o) d 0 = if o.testBit d = true then 1 else 0 := by
  unfold getD' metOf
  rw [List.getD_eq_getElem?_getD, List.getElem?_map, List.getElem?_range hd]
  rfl
theorem met_set (o d : Nat) (hd : d < 64) (hb : o.testBit d = false) : (metOf o).set d 1 = metOf (o ||| 2 ^ d) := by
  refine List.ext_getElem (by rw [List.length_set, met_len, met_len]) fun k h1 h2 => ?_
  rw [met_len] at h2
  rw [List.getElem_set]
  unfold metOf
  simp only [List.getElem_map, List.getElem_range, Nat.testBit_or, pow_bit]
  by_cases e : d = k
  · subst e; simp
  · simp [e]
theorem add_or {o d : Nat} (ho : o < 18446744073709551616) (hd : d < 64) (hb : o.testBit d = false) : o + 2 ^ d = o ||| 2 ^ d := by
  have h := BitVec.add_eq_or_of_and_eq_zero (BitVec.ofNat 64 o) (BitVec.ofNat 64 (2 ^ d)) (by
    refine BitVec.eq_of_toNat_eq ?_
    rw [BitVec.toNat_and, BitVec.toNat_ofNat, BitVec.toNat_ofNat, Nat.mod_eq_of_lt ho, Nat.mod_eq_of_lt (pow_u64 hd), and_pow.2 hb]
    rfl)
  have h2 := congrArg BitVec.toNat h
  have hor : o ||| 2 ^ d < 2 ^ 64 := Nat.or_lt_two_pow ho (pow_u64 hd)
  rw [BitVec.toNat_add, BitVec.toNat_or, BitVec.toNat_ofNat, BitVec.toNat_ofNat, Nat.mod_eq_of_lt ho, Nat.mod_eq_of_lt (pow_u64 hd)] at h2
  have hp := pow_u64 hd
  have hlow : (o + 2 ^ d) % 2 ^ 64 = o ||| 2 ^ d := h2
  by_cases c : o + 2 ^ d < 2 ^ 64
  · rw [← hlow, Nat.mod_eq_of_lt c]
  · have e1 : (o + 2 ^ d) % 2 ^ 64 = o + 2 ^ d - 2 ^ 64 := by omega
    have e2 : o ≤ o ||| 2 ^ d := Nat.left_le_or
    omega
theorem same_ints (a b : List Int) (ha : a.length ≤ 1000000000) : ref1SameInts a b = some (decide (a = b)) := by
  unfold ref1SameInts
  by_cases hl : a.length = b.length
  · have e : (((a.length : Nat) : Int) != ((b.length : Nat) : Int)) = false := bne_f (by omega)
    rw [e, cond_false]
    have hL := iterW_any (List.range a.length) (fun i => a.getD i 0 != b.getD i 0) (ref1SameInts_L1 a b) (.inr false) (.inl ((), ())) (fun i hi => by
      have hi' : i < a.length := by simpa using hi
      unfold ref1SameInts_L1
      simp only [show decide ((i : Int) < ((a.length : Nat) : Int)) = true by simp; omega, cond_true, List.getElem_range]
      rw [at?_eq a _ (by omega) (by omega), at?_eq b _ (by omega) (by omega), Option.bind_some, Option.bind_some, w64_id (n := (i : Int) + 1) (by omega) (by omega)]
      simp only [Int.toNat_natCast, List.getD_eq_getElem?_getD, List.getElem?_eq_getElem hi', List.getElem?_eq_getElem (show i < b.length by omega), Option.getD_some]
      cases (a[i] != b[i]) <;> rfl) (by unfold ref1SameInts_L1; simp)
    rw [hL]
    cases hany : (List.range a.length).any (fun i => a.getD i 0 != b.getD i 0) with
    | true =>
      rw [List.any_eq_true] at hany
      obtain ⟨i, _, h⟩ := hany
      have : ¬ a = b := fun e => by subst e; simp at h
      simp [this]
    | false =>
      rw [List.any_eq_false] at hany
      have : a = b := by
        apply List.ext_getElem hl
        intro i h1 h2
        have := hany i (List.mem_range.2 h1)
        simpa [List.getD_eq_getElem?_getD, h1, h2] using this
      simp [this]
  · have e : (((a.length : Nat) : Int) != ((b.length : Nat) : Int)) = true := bne_t (by omega)
    rw [e, cond_true]
    have : ¬ a = b := fun h => hl (by rw [h])
    simp [this]
/-- both runs, side by side -/
def runTo (l : List Int) (i : Nat) : Int × Nat := (l.take i).foldl ofStep (0, 0)
theorem runTo_lt (l : List Int) : ∀ i, (runTo l i).2 < 18446744073709551616 := fun i => by
  unfold runTo
  have : ∀ (m : List Int) (s : Int × Nat), s.2 < 18446744073709551616 → (m.foldl ofStep s).2 < 18446744073709551616 := fun m => by
    induction m with
    | nil => exact fun s h => h
    | cons d m ih => exact fun s h => ih _ (of_lt s d h)
  exact this _ _ (by decide)
theorem runTo_succ (l : List Int) (i : Nat) (hi : i < l.length) : runTo l (i + 1) = ofStep (runTo l i) l[i] := by
  unfold runTo
  rw [List.take_succ_eq_append_getElem hi, List.foldl_append]
  rfl
theorem ref_loop (l : List Int) (hl : l.length ≤ 9223372036854775807) : iterW (law1BitsSets_L1 l) ((0, 0, 0, ()), (List.replicate 64 0, ())) = some (((ofRun l).1, (((ofRun l).2 : Nat) : Int), ()), (metOf (ofRun l).2, ())) := by
  have h := iterW_states (f := law1BitsSets_L1 l) l.length (fun i => (((runTo l i).1, (((runTo l i).2 : Nat) : Int), (i : Int), ()), (metOf (runTo l i).2, ()))) (((runTo l l.length).1, (((runTo l l.length).2 : Nat) : Int), ()), (metOf (runTo l l.length).2, ())) (fun i hi => by
    rw [runTo_succ l i hi]
    have ho := runTo_lt l i
    generalize runTo l i = s at ho
    obtain ⟨w, o⟩ := s
    unfold law1BitsSets_L1
    simp only [show decide ((i : Int) < ((l.length : Nat) : Int)) = true by simp only [decide_eq_true_eq]; omega, cond_true]
    rw [at_nat l i hi, Option.bind_some, w64_id (n := (i : Int) + 1) (by omega) (by omega)]
    generalize l[i] = d
    by_cases hw : w = 0
    rotate_left
    · have e0 : (w == 0) = false := by simpa using hw
      have hs : ofStep (w, o) d = (w, o) := by unfold ofStep; rw [if_pos hw]
      rw [hs]
      simp only [e0, Bool.false_and, cond_false, Option.bind_some, imp, req_true, Bool.not_false, Bool.true_or, Bool.or_true]
      rfl
    subst hw
    by_cases c : 0 ≤ d ∧ d ≤ 63
    rotate_left
    · have hs : ofStep (0, o) d = (4, o) := by unfold ofStep; rw [if_neg (by simp), if_pos c]
      have hin : ref1In d 0 63 = false := by
        cases e : ref1In d 0 63
        · rfl
        · unfold ref1In at e
          simp only [Bool.and_eq_true, decide_eq_true_eq] at e
          omega
      rw [hs, hin]
      rfl
    · obtain ⟨k, rfl⟩ : ∃ k : Nat, d = (k : Int) := ⟨d.toNat, by omega⟩
      have hk : k < 64 := by omega
      have hin : ref1In (k : Int) 0 63 = true := by
        unfold ref1In
        simp only [Bool.and_eq_true, decide_eq_true_eq]
        omega
      have hib : inb (k : Int) (metOf o).length = true := inb_iff.2 (by rw [met_len]; omega)
      simp only [hin, hib, Int.toNat_natCast, met_get o k hk]
      cases hb : o.testBit k
      · have hs : ofStep (0, o) (k : Int) = (0, o ||| 2 ^ k) := by unfold ofStep; rw [if_neg (by simp), if_neg (fun h => h c), Int.toNat_natCast]; simp [hb]
        rw [hs]
        simp only [Bool.false_eq_true, if_false]
        have hor : o ||| 2 ^ k < 18446744073709551616 := Nat.or_lt_two_pow (n := 64) ho (pow_u64 hk)
        have e1 : wu64 ((o : Int) + shK .shl .u64 1 (k : Int)) = ((o ||| 2 ^ k : Nat) : Int) := by
          rw [shl_nat hk, ← Int.natCast_add, add_or ho hk hb]
          exact wrap_nat hor
        have e2 : w64 ((0 : Int) + 1) = 1 := by decide
        simp only [e1, e2, met_set o k hk hb]
        rw [show decide (0 ≤ (k : Int)) = true from decide_eq_true (Int.natCast_nonneg _)]
        rfl
      · have hs : ofStep (0, o) (k : Int) = (7, o) := by unfold ofStep; rw [if_neg (by simp), if_neg (fun h => h c), Int.toNat_natCast]; simp [hb]
        rw [hs]
        simp only [if_true]
        rfl) (by
    unfold law1BitsSets_L1
    simp only [show decide (((l.length : Nat) : Int) < ((l.length : Nat) : Int)) = false by simp, cond_false])
  have e0 : (((runTo l 0).1, (((runTo l 0).2 : Nat) : Int), ((0 : Nat) : Int), ()), (metOf (runTo l 0).2, ())) = (((0 : Int), (0 : Int), (0 : Int), ()), ((List.replicate 64 0 : List Int), ())) := by
    show (((0 : Int), (0 : Int), (0 : Int), ()), (metOf 0, ())) = _
    rw [show metOf 0 = List.replicate 64 0 by decide +kernel]
  have e1 : runTo l l.length = ofRun l := by unfold runTo ofRun; rw [List.take_length]
  rw [e1] at h
  rw [← h, ← e0]
/-! ### squares -/
def sqI (B : Nat) : List Int := (sqs B).map fun n => ((n : Nat) : Int)
theorem list_spec {B : Nat} (hB : B < 18446744073709551616) : bitsListS (B : Int) = some (sqI B) := by
  rw [bitsListS_eq]
  unfold bitsListS0
  rw [show inU64 (B : Int) = true by simp only [inU64, Bool.and_eq_true, decide_eq_true_eq]; omega, cond_true, Int.toNat_natCast]
  unfold sqI
  rw [← sqF_val, List.map_map]
  rfl
theorem first_spec {B : Nat} (hB : B < 18446744073709551616) : bitsFirst (B : Int) = some (if B = 0 then (0, (8, ())) else (((Lib.ctz 64 B : Nat) : Int), (0, ()))) := by
  unfold bitsFirst
  by_cases c : B = 0
  · subst c; rfl
  · rw [show ((B : Int) == 0) = false by rw [beq_eq_false_iff_ne]; omega, cond_false, ctz64S_eq, if_neg c]
    unfold ctz64S0
    rw [show inU64 (B : Int) = true by simp only [inU64, Bool.and_eq_true, decide_eq_true_eq]; omega, cond_true, Int.toNat_natCast]
    rfl
theorem flat_filter (p : Nat → Bool) : ∀ l : List Nat, (l.flatMap fun i => if p i = true then [((i : Nat) : Int)] else []) = (l.filter p).map fun n => ((n : Nat) : Int)
  | [] => rfl
  | i :: l => by
    rw [List.flatMap_cons, flat_filter p l]
    cases h : p i <;> simp [h]
theorem squares_loop {B : Nat} (hB : B < 18446744073709551616) : iterW (law1BitsSets_L2 (B : Int)) (([], 0, ()), ()) = some ((sqI B, ()), ()) := by
  have h := iter_app 64 1 (law1BitsSets_L2 (B : Int)) (fun i => if B.testBit i = true then [((i : Nat) : Int)] else []) (fun a => ((a, ()), ())) [] (fun i hi => by
    split <;> simp) (fun i hi a ha => by
    unfold law1BitsSets_L2
    simp only [show decide ((i : Int) < 64) = true by simp only [decide_eq_true_eq]; omega, cond_true, show decide (0 ≤ (i : Int)) = true from decide_eq_true (Int.natCast_nonneg _), req_true, shl_nat hi]
    have hpos : 0 < 2 ^ i := Nat.two_pow_pos i
    rw [show (((2 ^ i : Nat) : Int) != 0) = true by rw [bne_iff_ne]; omega, req_true, w64_id (n := (i : Int) + 1) (by omega) (by omega)]
    have hd : (B : Int).tdiv ((2 ^ i : Nat) : Int) = ((B / 2 ^ i : Nat) : Int) := by
      rw [Int.tdiv_eq_ediv_of_nonneg (Int.natCast_nonneg _)]
      exact (Int.natCast_ediv _ _).symm
    have hlt : B / 2 ^ i < 18446744073709551616 := Nat.lt_of_le_of_lt (Nat.div_le_self _ _) hB
    rw [hd, show wu64 ((B / 2 ^ i : Nat) : Int) = ((B / 2 ^ i : Nat) : Int) from wrap_nat hlt, Int.tmod_eq_emod_of_nonneg (Int.natCast_nonneg _)]
    have ht : B.testBit i = decide (B / 2 ^ i % 2 = 1) := by rw [Nat.testBit_eq_decide_div_mod_eq]
    have hk : (((B / 2 ^ i : Nat) : Int) % 2 == 1) = B.testBit i := by
      rw [ht]
      by_cases c : B / 2 ^ i % 2 = 1
      · rw [decide_eq_true c, beq_iff_eq]; omega
      · rw [decide_eq_false c, beq_eq_false_iff_ne]; omega
    rw [hk]
    simp only [List.length_nil, Nat.zero_add, Nat.mul_one] at ha
    cases B.testBit i
    · simp
    · simp only [cond_true, if_true]
      rw [room_ok (by simp only [List.length_cons, List.length_nil]; omega), req_true]
      rfl) (fun a => by
    unfold law1BitsSets_L2
    rfl)
  rw [h, flat_filter]
  rfl
theorem sqs_zero : sqs 0 = [] := by decide +kernel
/-- ████ THE LAW, in plain Lean ████ -/
theorem law1BitsSets_true (l : List Int) (b : Int) (hl : Rng (.sl (.int .i64)) l) (hb : Rng (.int .u64) b) : law1BitsSets l b = some true := by
  have hb' : 0 ≤ b ∧ b ≤ 18446744073709551615 := hb
  have hlen : l.length ≤ 9223372036854775807 := by
    refine Nat.le_trans hl.1 ?_
    unfold maxLen
    decide
  obtain ⟨B, rfl⟩ : ∃ B : Nat, b = (B : Int) := ⟨b.toNat, by omega⟩
  have hB : B < 18446744073709551616 := by omega
  unfold law1BitsSets
  have d1 : bitsOf [0, 9] = some (513, (0, ())) := by
    rw [of_spec _ (by decide)]
    decide +kernel
  have d2 : bitsListS 513 = some [0, 9] := by
    have := list_spec (B := 513) (by decide)
    rw [show sqI 513 = [0, 9] by decide +kernel] at this
    exact this
  have d3 : bitsFirst 512 = some (9, (0, ())) := by
    have := first_spec (B := 512) (by decide)
    rw [show Lib.ctz 64 512 = 9 by decide +kernel] at this
    exact this
  have d4 : bitsCount 513 = 2 := by decide +kernel
  rw [d1, Option.bind_some, d4]
  rw [show ((((0 : Int) != 0) || ((513 : Int) != 513)) || ((2 : Int) != 2)) = false from rfl, cond_false, d2, Option.bind_some, same_ints _ _ (by decide), decide_eq_true rfl, Option.bind_some, Option.bind_some]
  simp only [Bool.not_true, cond_false]
  rw [d3, Option.bind_some]
  rw [show (((0 : Int) != 0) || ((9 : Int) != 9)) = false from rfl, cond_false, ref_loop l hlen, Option.bind_some, of_spec l hlen, squares_loop hB, first_spec hB, list_spec hB, count_spec hB]
  generalize ofRun l = s
  obtain ⟨w, o⟩ := s
  have hlI : (sqI B).length = (sqs B).length := by unfold sqI; rw [List.length_map]
  have hsl : (sqs B).length ≤ 64 := by
    unfold sqs
    exact Nat.le_trans (List.length_filter_le _ _) (by simp)
  have hsame : ref1SameInts (sqI B) (sqI B) = some true := by
    rw [same_ints _ _ (by omega), decide_eq_true rfl]
  by_cases c : B = 0
  · subst c
    have e0 : sqI 0 = [] := by unfold sqI; rw [sqs_zero]; rfl
    rw [sqs_zero, e0]
    by_cases hw : w = 0
    · subst hw; simp
    · have hwb : (w != 0) = true := by simpa using hw
      simp [hw, hwb]
  · have hst := sqs_step c hB
    have hI : sqI B = ((Lib.ctz 64 B : Nat) : Int) :: (sqs (clr B)).map fun n => ((n : Nat) : Int) := by unfold sqI; rw [hst]; rfl
    have hne : (((sqI B).length : Nat) : Int) ≠ 0 := by rw [hI]; simp only [List.length_cons]; omega
    have h0 : getD' (sqI B) 0 0 = ((Lib.ctz 64 B : Nat) : Int) := by rw [hI]; rfl
    have hin : inb 0 (sqI B).length = true := inb_iff.2 (by omega)
    have himp : ∀ x : Bool, imp x true = true := fun x => by cases x <;> rfl
    have hcl : ((((sqs B).length : Nat) : Int) == (((sqI B).length : Nat) : Int)) = true := by rw [hlI]; simp
    by_cases hw : w = 0
    · subst hw
      simp only [bne_self_eq_false, cond_false, Option.bind_some, if_neg c, if_true]
      rw [show ((((sqI B).length : Nat) : Int) == 0) = false by rw [beq_eq_false_iff_ne]; exact hne, cond_false, hin, himp, req_true, h0, hcl]
      simp [hsame]
    · have hwb : (w != 0) = true := by simpa using hw
      simp only [hwb, cond_true, Option.bind_some, if_neg c, if_neg hw]
      rw [show ((((sqI B).length : Nat) : Int) == 0) = false by rw [beq_eq_false_iff_ne]; exact hne, cond_false, hin, himp, req_true, h0, hcl]
      simp [hsame]
end Go.Proofs.YteiohidcgimjlaaDoor
