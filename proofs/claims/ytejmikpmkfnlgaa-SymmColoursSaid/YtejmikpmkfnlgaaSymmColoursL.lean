/- The law SymmColours, in plain Lean. No condition of its own. -/
import Derived.Test.YtejmikpmkfnlgaaSymmColoursT
import Derived.Test.YtejmikpmkfnlgaaDenF
namespace Go.Proofs.Ytejmikpmkfnlgaa
open Go.Den
set_option linter.unusedVariables false
set_option linter.unusedSimpArgs false
set_option maxRecDepth 100000

/-! ### the tables are those of the program -/
noncomputable def rowOk (w h s : Nat) (P : List Nat) : Bool := Nat.beq P.length (w * h) && (List.range (w * h)).all fun q => match ref1Moved w h s q with
  | some a => a == ((P.getD q 0 : Nat) : Int) && Nat.blt (P.getD q 0) (w * h)
  | none => false
noncomputable def rowsOk (w h : Nat) : Nat → List (List Nat) → Bool
  | _, [] => true
  | s, P :: T => rowOk w h s P && rowsOk w h (s + 1) T
theorem boards_rows : (boards.all fun b => rowsOk b.1 b.2.1 0 b.2.2.1 && Nat.beq b.2.2.1.length (bif Nat.beq b.1 b.2.1 then 8 else 4)) = true := by decide +kernel
theorem boards_all : ((List.range 9).all fun w => (List.range 9).all fun h => Nat.beq w 0 || (Nat.beq h 0 || (Nat.blt 8 (w * h) || boards.any fun b => Nat.beq b.1 w && Nat.beq b.2.1 h))) = true := by decide +kernel
theorem boards_col : (boards.all fun b => (List.range 4).all fun c => decide (symmColours_c 20 b.1 b.2.1 c = some (((b.2.2.2.getD c 0 : Nat) : Int), 0, ()))) = true := by decide +kernel
theorem rowsOk_spec {w h : Nat} : ∀ {T : List (List Nat)} {s : Nat}, rowsOk w h s T = true → ∀ i (hi : i < T.length), rowOk w h (s + i) T[i] = true
  | [], _, _, i, hi => by simp at hi
  | P :: T, s, hT, i, hi => by
    simp only [rowsOk, Bool.and_eq_true] at hT
    cases i with
    | zero => exact hT.1
    | succ i =>
      have := rowsOk_spec hT.2 i (by simpa using hi)
      rw [show s + 1 + i = s + (i + 1) by omega] at this
      simpa using this
/-! ### loops of the law -/
def I (l : List Nat) : List Int := l.map Int.ofNat
theorem I_len (l : List Nat) : (I l).length = l.length := by simp [I]
theorem I_getD (l : List Nat) (i : Nat) : getD' (I l) i 0 = ((l.getD i 0 : Nat) : Int) := by
  simp only [getD', I, List.getD_eq_getElem?_getD, List.getElem?_map]
  cases l[i]? <;> rfl
theorem I_set (l : List Nat) (i x : Nat) : (I l).set i (x : Int) = I (l.set i x) := by simp [I, List.map_set]
theorem I_rep (n : Nat) : List.replicate n (0 : Int) = I (List.replicate n 0) := by simp [I]
theorem pow_loop {w h c : Int} {n : Nat} (hn : w64 (w * h) = (n : Int)) (hn8 : n ≤ 8) (cN : Nat) (hc : c = cN) (hc3 : cN ≤ 3) : iterW (law1SymmColours_L1 w h c) ((1, 0, ()), ()) = some ((((cN ^ n : Nat) : Int), ()), ()) := by
  have hp : ∀ i, i ≤ 8 → cN ^ i ≤ 6561 := by
    intro i hi
    have h1 : cN ^ i ≤ 3 ^ i := Nat.pow_le_pow_left hc3 i
    have h2 : 3 ^ i ≤ 3 ^ 8 := Nat.pow_le_pow_right (by omega) hi
    omega
  have := iterW_states (f := law1SymmColours_L1 w h c) n (fun i => ((((cN ^ i : Nat) : Int), (i : Int), ()), ())) ((((cN ^ n : Nat) : Int), ()), ()) (fun i hi => by
    unfold law1SymmColours_L1
    have h1 : (i : Int) < (n : Int) := by omega
    have h2 := hp (i + 1) (by omega)
    have h3 : ((cN ^ i : Nat) : Int) * (cN : Int) = ((cN ^ (i + 1) : Nat) : Int) := by rw [Nat.pow_succ, Int.natCast_mul]
    simp only [hn, h1, decide_true, cond_true, hc, h3]
    rw [w64_id (n := ((cN ^ (i + 1) : Nat) : Int)) (by omega) (by omega), w64_id (n := (i : Int) + 1) (by omega) (by omega)]
    rfl) (by unfold law1SymmColours_L1; simp [hn])
  exact this
theorem dig_loop (c : Nat) (hc : 1 ≤ c) (hc3 : c ≤ 3) : ∀ (m : Nat) (pre : List Nat) (y : Nat), pre.length + m ≤ 8 → y ≤ 100000 →
    iterW (law1SymmColours_L3 c) (((pre.length : Int), (y : Int), ()), (I (pre ++ List.replicate m 0), ())) = some ((), (I (pre ++ dig c m y), ())) := by
  intro m
  induction m with
  | zero =>
    intro pre y h hy
    refine iterW_inr ?_
    unfold law1SymmColours_L3
    simp [I_len, dig]
  | succ m ih =>
    intro pre y h hy
    have hlen : (I (pre ++ List.replicate (m + 1) 0)).length = pre.length + (m + 1) := by simp [I_len]
    have hcne : ((c : Int) != 0) = true := bne_t (by omega)
    have hyc : y / c ≤ y := Nat.div_le_self _ _
    have e1 : w64 ((y : Int).tdiv (c : Int)) = ((y / c : Nat) : Int) := by
      rw [Int.tdiv_eq_ediv_of_nonneg (by omega)]
      have : (y : Int) / (c : Int) = ((y / c : Nat) : Int) := by simp
      rw [this]
      have h9 : 0 ≤ ((y / c : Nat) : Int) := Int.natCast_nonneg _
      generalize y / c = z at hyc h9 ⊢
      exact w64_id (by omega) (by omega)
    have e2 : (y : Int).tmod (c : Int) = ((y % c : Nat) : Int) := by
      rw [Int.tmod_eq_emod_of_nonneg (by omega)]
      simp
    have hset : (I (pre ++ List.replicate (m + 1) 0)).set ((pre.length : Int)).toNat ((y % c : Nat) : Int) = I ((pre ++ [y % c]) ++ List.replicate m 0) := by
      rw [Int.toNat_natCast, I_set, List.replicate_succ]
      congr 1
      simp
    have hs : law1SymmColours_L3 c (((pre.length : Int), (y : Int), ()), (I (pre ++ List.replicate (m + 1) 0), ())) = some (.inl ((((pre ++ [y % c]).length : Int), ((y / c : Nat) : Int), ()), (I ((pre ++ [y % c]) ++ List.replicate m 0), ()))) := by
      unfold law1SymmColours_L3
      have h1 : (pre.length : Int) < ((I (pre ++ List.replicate (m + 1) 0)).length : Int) := by rw [hlen]; omega
      have h2 : inb (pre.length : Int) (I (pre ++ List.replicate (m + 1) 0)).length = true := inb_iff.2 ⟨by omega, h1⟩
      simp only [h1, decide_true, cond_true, h2, req_true, hcne, e1, e2, hset, w64_id (n := (pre.length : Int) + 1) (by omega) (by omega)]
      simp
    rw [iterW_inl hs, ih (pre ++ [y % c]) (y / c) (by simp; omega) (by omega)]
    simp [dig]
theorem set_loop {w h : Int} {s : Nat} (n : Nat) (hn8 : n ≤ 8) (cells P : List Nat) (hcl : cells.length = n) (hPl : P.length = n) (b : Bool) (hP : ∀ q, q < n → ref1Moved w h s q = some ((P.getD q 0 : Nat) : Int) ∧ P.getD q 0 < n) :
    ∀ (k i : Nat) (m : List Nat), m.length = n → i + k = n → iterW (law1SymmColours_L5 ((), (I cells, ())) w h ((b, (s : Int), ()), ())) (((i : Int), ()), (I m, ())) = some ((), (I (setAll m (P.drop i) (cells.drop i)), ())) := by
  intro k
  induction k with
  | zero =>
    intro i m hm hi
    refine iterW_inr ?_
    unfold law1SymmColours_L5
    have : ¬ (i : Int) < ((I cells).length : Int) := by rw [I_len]; omega
    rw [List.drop_eq_nil_of_le (show P.length ≤ i by omega)]
    simp only [this, decide_false, cond_false, setAll]
  | succ k ih =>
    intro i m hm hi
    have h1 : (i : Int) < ((I cells).length : Int) := by rw [I_len]; omega
    obtain ⟨p1, p2⟩ := hP i (by omega)
    have hc : cells.getD i 0 = cells[i]'(by omega) := by simp [List.getD_eq_getElem?_getD, List.getElem?_eq_getElem (show i < cells.length by omega)]
    have hp : P.getD i 0 = P[i]'(by omega) := by simp [List.getD_eq_getElem?_getD, List.getElem?_eq_getElem (show i < P.length by omega)]
    have hs : law1SymmColours_L5 ((), (I cells, ())) w h ((b, (s : Int), ()), ()) (((i : Int), ()), (I m, ())) = some (.inl ((((i + 1 : Nat) : Int), ()), (I (m.set (P[i]'(by omega)) (cells[i]'(by omega))), ()))) := by
      unfold law1SymmColours_L5
      have h2 : inb (i : Int) (I cells).length = true := inb_iff.2 ⟨by omega, h1⟩
      have h3 : inb (((P.getD i 0 : Nat) : Int)) (I m).length = true := inb_iff.2 ⟨by omega, by rw [I_len, hm]; omega⟩
      simp only [h1, decide_true, cond_true, h2, req_true, p1, Option.bind_some, h3, I_getD, Int.toNat_natCast, I_set, hc, w64_id (n := (i : Int) + 1) (by omega) (by omega)]
      rw [hp]
      rfl
    rw [iterW_inl hs, ih (i + 1) _ (by simpa using hm) (by omega), List.drop_eq_getElem_cons (show i < P.length by omega), List.drop_eq_getElem_cons (show i < cells.length by omega)]
    rfl
theorem less_loop (n : Nat) (hn8 : n ≤ 8) (cells m : List Nat) (hcl : cells.length = n) (hml : m.length = n) : ∀ (k i : Nat) (b : Bool), i + k = n →
    iterW (law1SymmColours_L6 ((), (I m, ())) ((), (I cells, ()))) ((b, (i : Int), ()), ()) = some ((b && lessOk (m.drop i) (cells.drop i), ()), ()) := by
  intro k
  induction k with
  | zero =>
    intro i b hi
    refine iterW_inr ?_
    unfold law1SymmColours_L6
    have : ¬ (i : Int) < ((I m).length : Int) := by rw [I_len]; omega
    rw [List.drop_eq_nil_of_le (show m.length ≤ i by omega)]
    simp only [this, decide_false, cond_false, lessOk, Bool.and_true]
  | succ k ih =>
    intro i b hi
    have h1 : (i : Int) < ((I m).length : Int) := by rw [I_len]; omega
    have h2 : inb (i : Int) (I m).length = true := inb_iff.2 ⟨by omega, h1⟩
    have h3 : inb (i : Int) (I cells).length = true := inb_iff.2 ⟨by omega, by rw [I_len]; omega⟩
    have hc : cells.getD i 0 = cells[i]'(by omega) := by simp [List.getD_eq_getElem?_getD, List.getElem?_eq_getElem (show i < cells.length by omega)]
    have hm : m.getD i 0 = m[i]'(by omega) := by simp [List.getD_eq_getElem?_getD, List.getElem?_eq_getElem (show i < m.length by omega)]
    rw [List.drop_eq_getElem_cons (show i < m.length by omega), List.drop_eq_getElem_cons (show i < cells.length by omega)]
    have hs : law1SymmColours_L6 ((), (I m, ())) ((), (I cells, ())) ((b, (i : Int), ()), ()) = if m[i]'(by omega) = cells[i]'(by omega) then some (.inl ((b, ((i + 1 : Nat) : Int), ()), ())) else some (.inr ((b && Nat.blt (cells[i]'(by omega)) (m[i]'(by omega)), ()), ())) := by
      unfold law1SymmColours_L6
      simp only [h1, decide_true, cond_true, h2, h3, req_true, I_getD, Int.toNat_natCast, hc, hm, imp, Bool.cond_self, w64_id (n := (i : Int) + 1) (by omega) (by omega)]
      generalize m[i]'(by omega) = x
      generalize cells[i]'(by omega) = y
      by_cases e : x = y
      · subst e
        simp
      · have e1 : (((x : Nat) : Int) != (y : Int)) = true := bne_t (by omega)
        have e2 : decide ((x : Int) > (y : Int)) = Nat.blt y x := by
          rw [Bool.eq_iff_iff, decide_eq_true_eq, Nat.blt_eq]
          omega
        simp only [e1, cond_true, if_neg e, e2]
    by_cases e : m[i]'(by omega) = cells[i]'(by omega)
    · rw [if_pos e] at hs
      rw [iterW_inl hs, ih (i + 1) b (by omega)]
      simp only [lessOk, e, Nat.beq_refl, cond_true]
    · rw [if_neg e] at hs
      rw [iterW_inr hs]
      have : Nat.beq (m[i]'(by omega)) (cells[i]'(by omega)) = false := by
        rw [Bool.eq_false_iff]
        intro hh
        exact e (Nat.eq_of_beq_eq_true hh)
      simp only [lessOk, this, cond_false]
theorem setAll_len : ∀ (P cs m : List Nat), (setAll m P cs).length = m.length
  | [], _, _ => by simp [setAll]
  | p :: P, [], _ => by simp [setAll]
  | p :: P, c :: cs, m => by simp [setAll, setAll_len P cs]
theorem least_loop {w h : Int} (n : Nat) (hn8 : n ≤ 8) (cells : List Nat) (hcl : cells.length = n) (T : List (List Nat)) (hT : ref1Symmetries w h = (T.length : Int)) (hT8 : T.length ≤ 8) (hR : ∀ s (hs : s < T.length), T[s].length = n ∧ ∀ q, q < n → ref1Moved w h s q = some ((T[s].getD q 0 : Nat) : Int) ∧ T[s].getD q 0 < n) :
    ∀ (k i : Nat) (b : Bool), i + k = T.length → iterW (law1SymmColours_L4 w h ((), (I cells, ()))) ((b, (i : Int), ()), ()) = some ((b && least n cells (T.drop i), ()), ()) := by
  intro k
  induction k with
  | zero =>
    intro i b hi
    refine iterW_inr ?_
    unfold law1SymmColours_L4
    have : ¬ (i : Int) < ref1Symmetries w h := by rw [hT]; omega
    rw [List.drop_eq_nil_of_le (show T.length ≤ i by omega)]
    simp only [this, decide_false, cond_false, least, Bool.and_true]
  | succ k ih =>
    intro i b hi
    have hi' : i < T.length := by omega
    obtain ⟨r1, r2⟩ := hR i hi'
    have hset := set_loop (w := w) (h := h) (s := i) n hn8 cells T[i] hcl r1 b r2 n 0 (List.replicate n 0) (by simp) (by omega)
    have hless := less_loop n hn8 cells (setAll (List.replicate n 0) T[i] cells) hcl (by rw [setAll_len]; simp) n 0 b (by omega)
    simp only [Int.natCast_zero, List.drop_zero] at hset hless
    have hroom : room (((I cells).length : Int)).toNat 8 = true := room_ok (by rw [I_len]; omega)
    have h0 : decide (0 ≤ (((I cells).length : Nat) : Int)) = true := by simp
    have hrep : List.replicate (((I cells).length : Int)).toNat (0 : Int) = I (List.replicate n 0) := by rw [I_len, Int.toNat_natCast, hcl, I_rep]
    rw [iterW_inl (y := ((b && lessOk (setAll (List.replicate n 0) T[i] cells) cells, ((i + 1 : Nat) : Int), ()), ())), ih (i + 1) _ (by omega), List.drop_eq_getElem_cons hi']
    · simp only [least, Bool.and_assoc]
    · unfold law1SymmColours_L4
      have h1 : (i : Int) < ref1Symmetries w h := by rw [hT]; omega
      simp only [h1, decide_true, cond_true, h0, beq_self_eq_true, hroom, Bool.and_self, req_true, hrep, hset, Option.bind_some, hless, w64_id (n := (i : Int) + 1) (by omega) (by omega)]
      rfl
theorem dig_len (c : Nat) : ∀ (n x : Nat), (dig c n x).length = n
  | 0, _ => rfl
  | n + 1, x => by simp [dig, dig_len c n]
theorem sum_le (f : Nat → Nat) (hf : ∀ x, f x ≤ 1) : ∀ (m x : Nat), sumUp f x m ≤ m
  | 0, _ => Nat.le_refl _
  | m + 1, x => by
    have := sum_le f hf m (x + 1)
    have := hf x
    simp only [sumUp]
    omega
theorem want_loop {w h : Int} (n : Nat) (hn8 : n ≤ 8) (hn : w64 (w * h) = (n : Int)) (c : Nat) (hc3 : c ≤ 3) (T : List (List Nat)) (hT : ref1Symmetries w h = (T.length : Int)) (hT8 : T.length ≤ 8) (hR : ∀ s (hs : s < T.length), T[s].length = n ∧ ∀ q, q < n → ref1Moved w h s q = some ((T[s].getD q 0 : Nat) : Int) ∧ T[s].getD q 0 < n) (all : Nat) (hall : all ≤ 6561) (hpos : 0 < all → 1 ≤ c) :
    ∀ (k x v : Nat), x + k = all → v ≤ x → iterW (law1SymmColours_L2 (((all : Int), ()), ()) w h c) (((v : Int), (x : Int), ()), ()) = some ((((v + sumUp (fun x => bif least n (dig c n x) T then 1 else 0) x k : Nat) : Int), ()), ()) := by
  intro k
  induction k with
  | zero =>
    intro x v hx hv
    refine iterW_inr ?_
    unfold law1SymmColours_L2
    have : ¬ (x : Int) < (all : Int) := by omega
    simp only [this, decide_false, cond_false, sumUp, Nat.add_zero]
  | succ k ih =>
    intro x v hx hv
    have hd := dig_loop c (hpos (by omega)) hc3 n [] x (by simpa using hn8) (by omega)
    have hl := least_loop (w := w) (h := h) n hn8 (dig c n x) (dig_len c n x) T hT hT8 hR T.length 0 true (by omega)
    simp only [Int.natCast_zero, List.drop_zero, List.length_nil, List.nil_append, Bool.true_and] at hd hl
    have hroom : room n 8 = true := room_ok (by omega)
    have h0 : decide (0 ≤ (n : Int)) = true := by simp
    rw [iterW_inl (y := ((((v + (bif least n (dig c n x) T then 1 else 0) : Nat) : Int), ((x + 1 : Nat) : Int), ()), ())), ih (x + 1) _ (by omega) (by cases least n (dig c n x) T <;> simp <;> omega)]
    · simp only [sumUp, Nat.add_assoc]
    · unfold law1SymmColours_L2
      have h1 : (x : Int) < (all : Int) := by omega
      simp only [h1, decide_true, cond_true, hn, h0, beq_self_eq_true, hroom, Bool.and_self, req_true, Int.toNat_natCast, I_rep, hd, Option.bind_some, hl, w64_id (n := (x : Int) + 1) (by omega) (by omega), w64_id (n := (v : Int) + 1) (by omega) (by omega)]
      cases least n (dig c n x) T <;> simp
/-! ### the program always answers -/
noncomputable def movedOk (w h s q : Nat) : Bool := match symmTo w h s q with
  | some a => decide (0 ≤ a) && decide (a < (w : Int) * h)
  | _ => false
theorem moved_all : ((List.range 9).all fun w => w == 0 || (List.range 9).all fun h => h == 0 || (List.range (bif w == h then 8 else 4)).all fun s => (List.range (w * h)).all fun q => movedOk w h s q) = true := by decide +kernel
theorem moved_spec {w h s q : Int} (hw : 1 ≤ w ∧ w ≤ 8) (hh : 1 ≤ h ∧ h ≤ 8) (hs : 0 ≤ s ∧ s < symmCount w h) (hq : 0 ≤ q ∧ q < w * h) : ∃ a, symmTo w h s q = some a ∧ 0 ≤ a ∧ a < w * h := by
  have := moved_all
  simp only [List.all_eq_true, List.mem_range, Bool.or_eq_true] at this
  have h1 := (this w.toNat (by omega)).resolve_left (by simp; omega)
  have h2 := (h1 h.toNat (by omega)).resolve_left (by simp; omega)
  have e1 : ((w.toNat : Nat) : Int) = w := by omega
  have e2 : ((h.toNat : Nat) : Int) = h := by omega
  have e3 : ((s.toNat : Nat) : Int) = s := by omega
  have e4 : ((q.toNat : Nat) : Int) = q := by omega
  have e5 : ((w.toNat * h.toNat : Nat) : Int) = w * h := by rw [Int.natCast_mul, e1, e2]
  have h3 := h2 s.toNat (by
    unfold symmCount at hs
    by_cases e : w = h
    · subst e; simp at hs ⊢; omega
    · have : (w.toNat == h.toNat) = false := by
        have : ¬ w.toNat = h.toNat := by omega
        simpa using this
      rw [this, cond_false]
      rw [beq_f e, cond_false] at hs
      omega) q.toNat (by omega)
  unfold movedOk at h3
  rw [e1, e2, e3, e4] at h3
  match ha : symmTo w h s q with
  | some a =>
    rw [ha] at h3
    simp at h3
    exact ⟨a, rfl, h3.1, h3.2⟩
  | none => rw [ha] at h3; cases h3
theorem count_set : ∀ (l : List Bool) (i : Nat) (hi : i < l.length), l[i] = false → (l.set i true).countP (fun b => !b) < l.countP (fun b => !b)
  | b :: l, 0, hi, h => by
    simp only [List.getElem_cons_zero] at h
    subst h
    simp [List.countP_cons]
  | b :: l, i + 1, hi, h => by
    have := count_set l i (by simpa using hi) (by simpa using h)
    simp only [List.set_cons_succ, List.countP_cons]
    omega
theorem mark_loop {w h s : Int} (hw : 1 ≤ w ∧ w ≤ 8) (hh : 1 ≤ h ∧ h ≤ 8) (hs : 0 ≤ s ∧ s < symmCount w h) (i : Int) (seen : List Bool) (hi : 0 ≤ i ∧ i < w * h) (hl : (seen.length : Int) = w * h) :
    ∃ seen', iterW (symmCycles_L2 w h s) ((i, ()), (seen, ())) = some ((), (seen', ())) ∧ (seen'.length : Int) = w * h := by
  obtain ⟨r, h1, h2⟩ := iterW_meas (f := symmCycles_L2 w h s) (fun x => (0 ≤ x.1.1 ∧ x.1.1 < w * h) ∧ (x.2.1.length : Int) = w * h) (fun x => x.2.1.countP fun b => !b) (fun r => (r.2.1.length : Int) = w * h) (by
    rintro ⟨⟨k, _⟩, ⟨sn, _⟩⟩ ⟨hk, hsn⟩
    simp only at hk hsn
    unfold symmCycles_L2
    have h1 : inb k sn.length = true := inb_iff.2 (by omega)
    have hlt : k.toNat < sn.length := by omega
    obtain ⟨a, ha, ha2⟩ := moved_spec hw hh hs hk
    have hg : getD' sn k.toNat false = sn[k.toNat] := by simp [getD', List.getElem?_eq_getElem hlt]
    simp only [h1, req_true, hg, ha, Option.bind_some]
    cases hb : sn[k.toNat] with
    | true => exact .inr ⟨_, rfl, hsn⟩
    | false => exact .inl ⟨_, rfl, ⟨ha2, by simpa using hsn⟩, by simpa using count_set sn k.toNat hlt hb⟩) ((i, ()), (seen, ())) ⟨hi, hl⟩
  obtain ⟨⟨⟩, sn, ⟨⟩⟩ := r
  exact ⟨sn, h1, h2⟩
theorem wh_bound {w h : Int} (hw : 1 ≤ w ∧ w ≤ 8) (hh : 1 ≤ h ∧ h ≤ 8) : 0 ≤ w * h ∧ w * h ≤ 64 := by
  have h1 : w * h ≤ 8 * 8 := Int.mul_le_mul hw.2 hh.2 (by omega) (by omega)
  have h2 : 0 ≤ w * h := Int.mul_nonneg (by omega) (by omega)
  omega
theorem cycles_some {w h s : Int} (hw : 1 ≤ w ∧ w ≤ 8) (hh : 1 ≤ h ∧ h ≤ 8) (hs : 0 ≤ s ∧ s < symmCount w h) : ∃ n, symmCycles w h s = some n ∧ n ≤ 64 := by
  obtain ⟨b0, b1⟩ := wh_bound hw hh
  have hww : w64 (w * h) = w * h := w64_id (by omega) (by omega)
  obtain ⟨r, h1, h2⟩ := iterW_meas (f := symmCycles_L1 w h s) (fun x => (x.2.1.length : Int) = w * h ∧ (0 ≤ x.1.1 ∧ x.1.1 ≤ x.1.2.1) ∧ (0 ≤ x.1.2.1 ∧ x.1.2.1 ≤ w * h)) (fun x => (w * h - x.1.2.1).toNat) (fun r => r.1.1 ≤ 64) (by
    rintro ⟨⟨n, i, _⟩, ⟨sn, _⟩⟩ ⟨hsn, hn, hi⟩
    simp only at hsn hn hi
    unfold symmCycles_L1
    have hrl : (((List.replicate (w64 (w * h)).toNat false).length : Nat) : Int) = w * h := by rw [List.length_replicate, hww]; omega
    simp only [hrl]
    by_cases c : i < w * h
    · have h1 : inb i sn.length = true := inb_iff.2 (by omega)
      obtain ⟨sn', m1, m2⟩ := mark_loop hw hh hs i sn (by omega) hsn
      simp only [c, decide_true, cond_true, h1, req_true, m1, Option.bind_some, w64_id (n := n + 1) (by omega) (by omega), w64_id (n := i + 1) (by omega) (by omega)]
      left
      cases getD' sn i.toNat false with
      | true => exact ⟨_, rfl, ⟨hsn, by simp only; omega, by simp only; omega⟩, by simp only; omega⟩
      | false => exact ⟨_, rfl, ⟨m2, by simp only; omega, by simp only; omega⟩, by simp only; omega⟩
    · simp only [c, decide_false, cond_false]
      exact .inr ⟨_, rfl, by simp only; omega⟩) ((0, 0, ()), (List.replicate (w64 (w * h)).toNat false, ())) ⟨by simp only; rw [List.length_replicate, hww]; omega, by simp only; omega, by simp only; omega⟩
  refine ⟨r.1.1, ?_, h2⟩
  unfold symmCycles
  have hroom : room (w64 (w * h)).toNat 1 = true := room_ok (by rw [hww]; omega)
  have h0 : decide (0 ≤ w64 (w * h)) = true := by rw [hww]; simpa using b0
  simp only [h0, beq_self_eq_true, hroom, Bool.and_self, req_true, h1, Option.bind_some]
theorem power_some (r2 colours : Int) (hr : r2 ≤ 64) : ∃ r, iterW (symmColours_L2 r2 colours) ((1, 0, ()), ()) = some r ∧ (match r with | .inl _ => True | .inr q => ∃ z, q = .inr (.inr (.inr z))) := by
  refine iterW_meas (f := symmColours_L2 r2 colours) (fun x => 0 ≤ x.1.2.1 ∧ x.1.2.1 ≤ 64) (fun x => (64 - x.1.2.1).toNat) _ ?_ ((1, 0, ()), ()) ⟨by simp, by simp⟩
  rintro ⟨⟨n, i, _⟩, _⟩ ⟨h1, h2⟩
  simp only at h1 h2
  unfold symmColours_L2
  by_cases c : i < r2
  · simp only [c, decide_true, cond_true, w64_id (n := i + 1) (by omega) (by omega)]
    cases decide (w64 (n * colours) > 281474976710656) with
    | true => exact .inr ⟨_, rfl, _, rfl⟩
    | false => exact .inl ⟨_, rfl, ⟨by simp only; omega, by simp only; omega⟩, by simp only; omega⟩
  · simp only [c, decide_false, cond_false]
    exact .inr ⟨_, rfl, trivial⟩
theorem colours_some {w h colours : Int} (hw : 1 ≤ w ∧ w ≤ 8) (hh : 1 ≤ h ∧ h ≤ 8) (hc : 0 ≤ colours ∧ colours ≤ 16) (hck : symmCheck w h = 0) : ∃ r, symmColours w h colours = some r := by
  have hcnt : symmCount w h = 4 ∨ symmCount w h = 8 := by unfold symmCount; cases w == h <;> simp
  obtain ⟨r, h1, _⟩ := iterW_meas (f := symmColours_L1 w h colours) (fun x => 0 ≤ x.1.2.1 ∧ x.1.2.1 ≤ 8) (fun x => (8 - x.1.2.1).toNat) (fun r => True) (by
    rintro ⟨⟨sum, s, _⟩, _⟩ ⟨h1, h2⟩
    simp only at h1 h2
    unfold symmColours_L1
    by_cases c : s < symmCount w h
    · obtain ⟨n, hn, hn2⟩ := cycles_some hw hh ⟨h1, c⟩
      obtain ⟨r, hr, hr2⟩ := power_some n colours hn2
      simp only [c, decide_true, cond_true, hn, Option.bind_some, hr, w64_id (n := s + 1) (by omega) (by omega)]
      match r, hr2 with
      | .inl x, _ => exact .inl ⟨_, rfl, ⟨by simp only; omega, by simp only; omega⟩, by simp only; omega⟩
      | .inr q, ⟨z, hz⟩ => subst hz; exact .inr ⟨_, rfl, trivial⟩
    · simp only [c, decide_false, cond_false]
      exact .inr ⟨_, rfl, trivial⟩) ((0, 0, ()), ()) ⟨by simp, by simp⟩
  unfold symmColours
  have e1 : (decide (colours < 0) || decide (colours > 16)) = false := by simp only [Bool.or_eq_false_iff, decide_eq_false_iff_not]; omega
  have e2 : (symmCount w h != 0) = true := bne_t (by omega)
  simp only [hck, bne_self_eq_false, cond_false, e1, h1, Option.bind_some, e2, req_true]
  cases r with
  | inl x => exact ⟨_, rfl⟩
  | inr q => exact ⟨_, rfl⟩
theorem first_ok : symmColours 2 2 2 = some (6, 0, ()) := symmColours_m 20 2 2 2 _ (by decide +kernel)
theorem law1SymmColours_true (width height colours : Int) (hw : Rng (.int .i64) width) (hh : Rng (.int .i64) height) (hc : Rng (.int .i64) colours) : law1SymmColours width height colours = some true := by
  unfold law1SymmColours
  rw [first_ok]
  simp only [Option.bind_some, bne_self_eq_false, Bool.or_self, cond_false]
  by_cases hr : (1 ≤ width ∧ width ≤ 8) ∧ 1 ≤ height ∧ height ≤ 8
  · obtain ⟨hw, hh⟩ := hr
    have hck : symmCheck width height = 0 := by
      unfold symmCheck
      have : ((((decide (width < (1 : Int))) || (decide (width > (8 : Int)))) || (decide (height < (1 : Int)))) || (decide (height > (8 : Int)))) = false := by
        simp only [Bool.or_eq_false_iff, decide_eq_false_iff_not]; omega
      rw [this]; rfl
    have hsym : ref1Symmetries width height = if width = height then 8 else 4 := by
      unfold ref1Symmetries ref1In
      by_cases e : width = height
      · subst e; simp [hw]
      · simp [hw, hh, e, bne_t e]
    have hsym' : (ref1Symmetries width height == 0) = false := by rw [hsym]; split <;> rfl
    obtain ⟨b0, b1⟩ := wh_bound hw hh
    have hww : w64 (width * height) = width * height := w64_id (by omega) (by omega)
    by_cases hcc : 0 ≤ colours ∧ colours ≤ 16
    · obtain ⟨r, hr⟩ := colours_some hw hh hcc hck
      have e1 : ref1In colours 0 16 = true := by unfold ref1In; simp only [Bool.and_eq_true, decide_eq_true_eq]; omega
      simp only [hr, Option.bind_some, hsym', cond_false, e1, Bool.not_true, hww]
      by_cases hs : 8 < width * height ∨ 3 < colours
      · have : (decide (width * height > 8) || decide (colours > 3)) = true := by simpa using hs
        rw [this]
        rfl
      · have : (decide (width * height > 8) || decide (colours > 3)) = false := by simp only [Bool.or_eq_false_iff, decide_eq_false_iff_not]; omega
        rw [this, cond_false]
        -- a small board
        have ew : ((width.toNat : Nat) : Int) = width := by omega
        have eh : ((height.toNat : Nat) : Int) = height := by omega
        have ec : ((colours.toNat : Nat) : Int) = colours := by omega
        have en : ((width.toNat * height.toNat : Nat) : Int) = width * height := by rw [Int.natCast_mul, ew, eh]
        have hb := boards_all
        simp only [List.all_eq_true, List.mem_range, Bool.or_eq_true] at hb
        have hb := hb width.toNat (by omega) height.toNat (by omega)
        have z1 : ¬ Nat.beq width.toNat 0 = true := fun hz => by have := Nat.eq_of_beq_eq_true hz; omega
        have z2 : ¬ Nat.beq height.toNat 0 = true := fun hz => by have := Nat.eq_of_beq_eq_true hz; omega
        have z3 : ¬ Nat.blt 8 (width.toNat * height.toNat) = true := fun hz => by rw [Nat.blt_eq] at hz; omega
        have hb := ((hb.resolve_left z1).resolve_left z2).resolve_left z3
        simp only [List.any_eq_true, Bool.and_eq_true] at hb
        obtain ⟨⟨bw, bh, T, Ns⟩, hmem, q1, q2⟩ := hb
        have q1' : bw = width.toNat := Nat.eq_of_beq_eq_true q1
        have q2' : bh = height.toNat := Nat.eq_of_beq_eq_true q2
        clear q1 q2
        subst q1'
        subst q2'
        have hrows := boards_rows
        simp only [List.all_eq_true, Bool.and_eq_true] at hrows
        obtain ⟨k1, k2⟩ := hrows _ hmem
        have k2 := Nat.eq_of_beq_eq_true k2
        simp only at k1 k2
        have hT : ref1Symmetries width height = (T.length : Int) := by
          rw [hsym, k2]
          by_cases e : width = height
          · subst e; simp
          · have : Nat.beq width.toNat height.toNat = false := by
              rw [Bool.eq_false_iff]
              intro hz
              have := Nat.eq_of_beq_eq_true hz
              omega
            rw [this, if_neg e]
            rfl
        have hT8 : T.length ≤ 8 := by rw [k2]; cases Nat.beq width.toNat height.toNat <;> simp
        have hR : ∀ s (hs : s < T.length), T[s].length = width.toNat * height.toNat ∧ ∀ q, q < width.toNat * height.toNat → ref1Moved width height s q = some ((T[s].getD q 0 : Nat) : Int) ∧ T[s].getD q 0 < width.toNat * height.toNat := by
          intro s hs
          have hrow := rowsOk_spec k1 s hs
          simp only [rowOk, Bool.and_eq_true, List.all_eq_true, List.mem_range, Nat.zero_add] at hrow
          refine ⟨Nat.eq_of_beq_eq_true hrow.1, fun q hq => ?_⟩
          have := hrow.2 q hq
          rw [ew, eh] at this
          match hm : ref1Moved width height s q with
          | some a =>
            rw [hm] at this
            simp only [Bool.and_eq_true, beq_iff_eq, Nat.blt_eq] at this
            exact ⟨by rw [this.1], this.2⟩
          | none => rw [hm] at this; cases this
        have hn : w64 (width * height) = ((width.toNat * height.toNat : Nat) : Int) := by rw [hww, en]
        have hn8 : width.toNat * height.toNat ≤ 8 := by omega
        have hn1 : 1 ≤ width.toNat * height.toNat := Nat.mul_pos (by omega) (by omega)
        have hpow := pow_loop (w := width) (h := height) (c := colours) hn hn8 colours.toNat ec.symm (by omega)
        have hall : colours.toNat ^ (width.toNat * height.toNat) ≤ 6561 := by
          have h1 : colours.toNat ^ (width.toNat * height.toNat) ≤ 3 ^ (width.toNat * height.toNat) := Nat.pow_le_pow_left (by omega) _
          have h2 : 3 ^ (width.toNat * height.toNat) ≤ 3 ^ 8 := Nat.pow_le_pow_right (by omega) hn8
          omega
        have hwant := want_loop (w := width) (h := height) _ hn8 hn colours.toNat (by omega) T hT hT8 hR _ hall (fun hp => by
          rcases Nat.eq_zero_or_pos colours.toNat with h0 | h0
          · rw [h0, Nat.zero_pow hn1] at hp; omega
          · exact h0) (colours.toNat ^ (width.toNat * height.toNat)) 0 0 (by omega) (by omega)
        rw [ec] at hwant
        simp only [Int.natCast_zero, Nat.zero_add] at hwant
        have hbw := boards_wants _ hmem
        have hbc := boards_col
        simp only [List.all_eq_true, List.mem_range, decide_eq_true_eq] at hbc
        have hbc := hbc _ hmem colours.toNat (by omega)
        simp only at hbc hbw
        rw [ew, eh, ec] at hbc
        have hval := symmColours_m 20 width height colours _ hbc
        rw [hr] at hval
        have hval := Option.some.inj hval
        have hcase : sumUp (fun x => bif least (width.toNat * height.toNat) (dig colours.toNat (width.toNat * height.toNat) x) T then 1 else 0) 0 (colours.toNat ^ (width.toNat * height.toNat)) = Ns.getD colours.toNat 0 := by
          have : colours.toNat = 0 ∨ colours.toNat = 1 ∨ colours.toNat = 2 ∨ colours.toNat = 3 := by omega
          rcases this with e | e | e | e
          · rw [e]; exact hbw.1
          · rw [e]; exact hbw.2.1
          · rw [e]; exact hbw.2.2.1
          · rw [e]; exact hbw.2.2.2
        rw [hpow]
        simp only [Option.bind_some]
        rw [hwant, hcase, hval]
        simp
    · have e1 : ref1In colours 0 16 = false := by unfold ref1In; simp only [Bool.and_eq_false_iff, decide_eq_false_iff_not]; omega
      have e2 : (decide (colours < 0) || decide (colours > 16)) = true := by simp only [Bool.or_eq_true, decide_eq_true_eq]; omega
      have : symmColours width height colours = some (0, 1, ()) := by
        unfold symmColours
        simp [hck, e2]
      rw [this]
      simp [hsym', e1]
  · have hck : symmCheck width height = 4 := by
      unfold symmCheck
      have : ((((decide (width < (1 : Int))) || (decide (width > (8 : Int)))) || (decide (height < (1 : Int)))) || (decide (height > (8 : Int)))) = true := by
        simp only [Bool.or_eq_true, decide_eq_true_eq]; omega
      rw [this]; rfl
    have hsym : ref1Symmetries width height = 0 := by
      unfold ref1Symmetries ref1In
      have : ((!(decide (width ≥ 1) && decide (width ≤ 8))) || !(decide (height ≥ 1) && decide (height ≤ 8))) = true := by
        simp only [Bool.or_eq_true, Bool.not_eq_true', Bool.and_eq_false_iff, decide_eq_false_iff_not]; omega
      rw [this]; rfl
    unfold symmColours
    simp [hck, hsym]
end Go.Proofs.Ytejmikpmkfnlgaa
