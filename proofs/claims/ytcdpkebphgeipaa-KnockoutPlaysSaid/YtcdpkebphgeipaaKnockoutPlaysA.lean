/- The law KnockoutPlays, in plain Lean: rounds of games. No condition of its own. -/
import Derived.Test.YtcdpkebphgeipaaKnockoutPlaysT
import Derived.Test.YtcdpkebphgeipaaDenF
namespace Go.Proofs.Ytcdpkebphgeipaa
open Go.Den
set_option linter.unusedVariables false
set_option linter.unusedSimpArgs false
set_option maxRecDepth 100000

theorem agree_self {α : Type} (x : Option α) : agree x x = x := by simp [agree]
abbrev Gm := Int × Int × Int × Unit
def mx (a b : Int) : Int := if b > a then b else a
/-- a round: the winners (z: the game is not known), the results that are left, is a game not known? -/
def rnd (z : Int) : List Int → List Int → List Int × List Int × Bool
  | a :: b :: l, res => if a < 0 ∨ b < 0 then (mx a b :: (rnd z l res).1, (rnd z l res).2) else match res with
    | [] => (z :: (rnd z l []).1, (rnd z l []).2.1, true)
    | x :: res' => ((if x = 0 then b else a) :: (rnd z l res').1, (rnd z l res').2)
  | _, res => ([], res, false)
def gms (r : Int) : List Int → List Gm
  | a :: b :: l => (r, a, b, ()) :: gms r l
  | _ => []
theorem rnd_len (z : Int) : ∀ (m : Nat) (l res : List Int), l.length = 2 * m → (rnd z l res).1.length = m
  | 0, [], res, _ => by simp [rnd]
  | 0, _ :: _, res, h => by simp at h
  | m + 1, [], res, h => by simp at h
  | m + 1, [_], res, h => by simp at h; omega
  | m + 1, a :: b :: l, res, h => by
    have ih := fun res => rnd_len z m l res (by simp at h; omega)
    unfold rnd
    split
    · simp [ih]
    · cases res <;> simp [ih]
theorem gms_len (r : Int) : ∀ (m : Nat) (l : List Int), l.length = 2 * m → (gms r l).length = m
  | 0, [], _ => rfl
  | 0, _ :: _, h => by simp at h
  | m + 1, [], h => by simp at h
  | m + 1, [_], h => by simp at h; omega
  | m + 1, a :: b :: l, h => by simp [gms, gms_len r m l (by simp at h; omega)]
theorem rnd_two (z z' : Int) : ∀ (m : Nat) (l res : List Int), l.length = 2 * m → (rnd z l res).2 = (rnd z' l res).2 ∧ ((rnd z l res).2.2 = false → (rnd z l res).1 = (rnd z' l res).1)
  | 0, [], res, _ => by simp [rnd]
  | 0, _ :: _, res, h => by simp at h
  | m + 1, [], res, h => by simp at h
  | m + 1, [_], res, h => by simp at h; omega
  | m + 1, a :: b :: l, res, h => by
    have ih := fun res => rnd_two z z' m l res (by simp at h; omega)
    unfold rnd
    split
    · exact ⟨(ih res).1, fun hs => by rw [(ih res).2 hs]⟩
    · cases res with
      | nil => exact ⟨by rw [(ih []).1], fun hs => by cases hs⟩
      | cons x res' => exact ⟨(ih res').1, fun hs => by simp only; rw [(ih res').2 hs]⟩
theorem rnd_ge (z : Int) : ∀ (m : Nat) (l res : List Int), l.length = 2 * m → (∀ x ∈ l, -1 ≤ x) → (rnd z l res).2.2 = false → ∀ x ∈ (rnd z l res).1, -1 ≤ x
  | 0, [], res, _, _, _ => by simp [rnd]
  | 0, _ :: _, res, h, _, _ => by simp at h
  | m + 1, [], res, h, _, _ => by simp at h
  | m + 1, [_], res, h, _, _ => by simp at h; omega
  | m + 1, a :: b :: l, res, h, hl, hs => by
    have ha := hl a (by simp)
    have hb := hl b (by simp)
    have ih := fun res => rnd_ge z m l res (by simp at h; omega) (fun x hx => hl x (by simp [hx]))
    unfold rnd at hs ⊢
    split
    · rename_i c
      rw [if_pos c] at hs
      intro x hx
      rcases List.mem_cons.1 hx with rfl | hx
      · unfold mx; split <;> omega
      · exact ih res hs x hx
    · rename_i c
      rw [if_neg c] at hs
      cases res with
      | nil => cases hs
      | cons y res' =>
        intro x hx
        rcases List.mem_cons.1 hx with rfl | hx
        · split <;> omega
        · exact ih res' hs x hx
theorem rnd_stuck (z : Int) : ∀ (m : Nat) (l res : List Int), l.length = 2 * m → (rnd z l res).2.2 = true → z ∈ (rnd z l res).1
  | 0, [], res, _, h => by simp [rnd] at h
  | 0, _ :: _, res, h, _ => by simp at h
  | m + 1, [], res, h, _ => by simp at h
  | m + 1, [_], res, h, _ => by simp at h; omega
  | m + 1, a :: b :: l, res, h, hs => by
    have ih := fun res => rnd_stuck z m l res (by simp at h; omega)
    unfold rnd at hs ⊢
    split
    · rename_i c
      rw [if_pos c] at hs
      exact List.mem_cons_of_mem _ (ih res hs)
    · rename_i c
      rw [if_neg c] at hs
      cases res with
      | nil => exact List.mem_cons_self
      | cons y res' => exact List.mem_cons_of_mem _ (ih res' hs)
theorem rnd_res (z : Int) : ∀ (m : Nat) (l res : List Int), l.length = 2 * m → (rnd z l res).2.1.length ≤ res.length
  | 0, [], res, _ => by simp [rnd]
  | 0, _ :: _, res, h => by simp at h
  | m + 1, [], res, h => by simp at h
  | m + 1, [_], res, h => by simp at h; omega
  | m + 1, a :: b :: l, res, h => by
    have ih := fun res => rnd_res z m l res (by simp at h; omega)
    unfold rnd
    split
    · exact ih res
    · cases res with
      | nil => exact ih []
      | cons y res' => have := ih res'; simp only [List.length_cons]; omega
/-! ### the program's rounds -/
theorem drop_two {l : List Int} {i : Nat} (h : i + 1 < l.length) : l.drop i = l[i]'(by omega) :: l[i + 1] :: l.drop (i + 2) := by
  rw [List.drop_eq_getElem_cons (by omega), List.drop_eq_getElem_cons h]
theorem getD_eq {l : List Int} {i : Nat} (h : i < l.length) : getD' l i 0 = l[i] := by simp [getD', List.getD, List.getElem?_eq_getElem h]
theorem inner (l : List Int) (hl : l.length ≤ 64) (r : Int) (rs0 : List Int) (o0 : List Gm) : ∀ (k i : Nat) (res : List Int) (out : List Gm) (nxt : List Int), i + 2 * k = l.length → out.length + k ≤ 1000 → nxt.length + k ≤ 1000 → res.length ≤ 100 →
    iterW (knockoutPlay_L5 ((rs0, o0, l, r, ()), ())) ((res, out, nxt, (i : Int), ()), ()) = some (((rnd (-2) (l.drop i) res).2.1, out ++ gms r (l.drop i), nxt ++ (rnd (-2) (l.drop i) res).1, ()), ()) := by
  intro k
  induction k with
  | zero =>
    intro i res out nxt hi ho hn hr
    have : ¬ (i : Int) < (l.length : Int) := by omega
    have hd : l.drop i = [] := List.drop_eq_nil_of_le (by omega)
    rw [hd]
    refine iterW_inr ?_
    unfold knockoutPlay_L5
    simp [this, rnd, gms]
  | succ k ih =>
    intro i res out nxt hi ho hn hr
    have h1 : (i : Int) < (l.length : Int) := by omega
    have hi0 : i < l.length := by omega
    have hi1 : i + 1 < l.length := by omega
    have w1 : w64 ((i : Int) + 1) = ((i + 1 : Nat) : Int) := by rw [w64_id (by omega) (by omega)]; rfl
    have w2 : w64 ((i : Int) + 2) = ((i + 2 : Nat) : Int) := by rw [w64_id (by omega) (by omega)]; rfl
    have b1 : inb (i : Int) l.length = true := inb_iff.2 (by omega)
    have b2 : inb (((i + 1 : Nat) : Int)) l.length = true := inb_iff.2 (by omega)
    have r1 : ∀ g : Gm, room (out.length + [g].length) 24 = true := fun g => room_ok (by simp; omega)
    have r2 : ∀ g : Int, room (nxt.length + [g].length) 8 = true := fun g => room_ok (by simp; omega)
    rw [drop_two hi1]
    have hs : knockoutPlay_L5 ((rs0, o0, l, r, ()), ()) ((res, out, nxt, (i : Int), ()), ()) =
        some (.inl (((if l[i] < 0 ∨ l[i + 1] < 0 then res else res.drop 1), out ++ [(r, l[i], l[i + 1], ())], nxt ++ [if l[i] < 0 ∨ l[i + 1] < 0 then mx l[i] l[i + 1] else match res with | [] => -2 | x :: _ => if x = 0 then l[i + 1] else l[i]], ((i + 2 : Nat) : Int), ()), ())) := by
      unfold knockoutPlay_L5
      simp only [h1, decide_true, cond_true, w1, w2, b1, b2, req_true, Int.toNat_natCast, getD_eq hi0, getD_eq hi1, r1, r2]
      generalize l[i] = a
      generalize l[i + 1] = b
      by_cases c : a < 0 ∨ b < 0
      · have : (decide (a < 0) || decide (b < 0)) = true := by simpa using c
        simp only [this, cond_true, Option.bind_some, if_pos c]
        rfl
      · have : (decide (a < 0) || decide (b < 0)) = false := by simp only [Bool.or_eq_false_iff, decide_eq_false_iff_not]; omega
        simp only [this, cond_false, if_neg c]
        cases res with
        | nil => simp
        | cons x res' =>
          have e1 : ((((x :: res').length : Nat) : Int) == 0) = false := beq_f (by simp; omega)
          have e2 : boundsI 1 (((x :: res').length : Nat) : Int) (x :: res').length = true := by
            unfold boundsI
            simp only [Bool.and_eq_true, decide_eq_true_eq, List.length_cons]
            omega
          have e3 : at? (x :: res') 0 = some x := rfl
          have e4 : ((x :: res').take ((((x :: res').length : Nat) : Int)).toNat).drop 1 = res' := by
            rw [Int.toNat_natCast, List.take_length]
            rfl
          simp only [e1, cond_false, e3, Option.bind_some, e2, req_true, agree_self, e4]
          by_cases cx : x = 0
          · simp [cx]
          · simp [cx, beq_f cx]
    rw [iterW_inl hs, ih (i + 2) _ _ _ (by omega) (by simp; omega) (by simp; omega) (by split <;> (try rw [List.length_drop]) <;> omega)]
    simp only [rnd, gms, List.append_assoc, List.cons_append, List.nil_append]
    by_cases c : l[i] < 0 ∨ l[i + 1] < 0
    · simp only [if_pos c]
    · simp only [if_neg c]
      cases res with
      | nil => simp
      | cons x res' => simp
def plays : Nat → List Int → List Int → Int → List Int × List Gm × List Int × Bool
  | 0, l, res, r => (res, [], l, false)
  | j + 1, l, res, r => if (rnd (-2) l res).2.2 = true then ((rnd (-2) l res).2.1, gms r l, (rnd (-2) l res).1, true) else
    ((plays j (rnd (-2) l res).1 (rnd (-2) l res).2.1 (r + 1)).1, gms r l ++ (plays j (rnd (-2) l res).1 (rnd (-2) l res).2.1 (r + 1)).2.1, (plays j (rnd (-2) l res).1 (rnd (-2) l res).2.1 (r + 1)).2.2)
/-! ### where a number stands -/
theorem idxF_or (a : Int) : ∀ (l : List Int) (i : Nat), (a ∉ l ∧ idxF l a i = -1) ∨ (a ∈ l ∧ 0 ≤ idxF l a i)
  | [], i => .inl ⟨by simp, by simp [idxF]⟩
  | x :: l, i => by
    unfold idxF
    by_cases c : a = x
    · rw [if_pos c]; exact .inr ⟨by simp [c], by omega⟩
    · rw [if_neg c]
      rcases idxF_or a l (i + 1) with ⟨h1, h2⟩ | ⟨h1, h2⟩
      · exact .inl ⟨by simp [c, h1], h2⟩
      · exact .inr ⟨by simp [h1], h2⟩
theorem index_spec (s : List Int) (v : Int) (hl : s.length ≤ 1000) : slicesIndex_int s v = some (idxF s v 0) := by
  have key : ∀ (k i : Nat), i + k = s.length → Option.bind (iterW (slicesIndex_int_L1 s v) (((i : Int), ()), ())) (Sum.elim (fun x3 => some (-1 : Int)) some) = some (idxF (s.drop i) v i) := by
    intro k
    induction k with
    | zero =>
      intro i hi
      rw [List.drop_eq_nil_of_le (by omega), iterW_inr (r := .inl ((), ()))]
      · rfl
      · unfold slicesIndex_int_L1
        have : ¬ (i : Int) < (s.length : Int) := by omega
        simp [this]
    | succ k ih =>
      intro i hi
      have h1 : (i : Int) < (s.length : Int) := by omega
      have h2 : i < s.length := by omega
      rw [List.drop_eq_getElem_cons h2]
      have hs : slicesIndex_int_L1 s v (((i : Int), ()), ()) = if v = s[i] then some (.inr (.inr (i : Int))) else some (.inl ((((i + 1 : Nat) : Int), ()), ())) := by
        unfold slicesIndex_int_L1
        simp only [h1, decide_true, cond_true, at?_eq s (i : Int) (by omega) h1, Option.bind_some, Int.toNat_natCast, w64_id (n := (i : Int) + 1) (by omega) (by omega)]
        by_cases c : v = s[i]
        · simp [c]
        · simp [c, beq_f c]
      unfold idxF
      by_cases c : v = s[i]
      · rw [if_pos c] at hs
        rw [iterW_inr hs, if_pos c]
        rfl
      · rw [if_neg c] at hs
        rw [iterW_inl hs, if_neg c]
        exact ih (i + 1) (by omega)
  have := key s.length 0 (by omega)
  simp only [Int.natCast_zero, List.drop_zero] at this
  exact this
theorem contains_spec (s : List Int) (v : Int) (hl : s.length ≤ 1000) : slicesContains_int s v = some (decide (v ∈ s)) := by
  unfold slicesContains_int
  rw [index_spec s v hl]
  simp only [Option.bind_some, Option.some.injEq]
  rcases idxF_or v s 0 with ⟨h1, h2⟩ | ⟨h1, h2⟩
  · rw [h2]; simp [h1]
  · simp [h1, h2]
/-! ### the program -/
theorem outer : ∀ (j : Nat) (l res : List Int) (out : List Gm) (r : Nat), l.length = 2 ^ j → j ≤ 5 → r + j ≤ 10 → (∀ x ∈ l, -1 ≤ x) → out.length + l.length ≤ 500 → res.length ≤ 100 →
    iterW knockoutPlay_L4 ((res, out, l, (r : Int), ()), ()) = some (((plays j l res r).1, out ++ (plays j l res r).2.1, (plays j l res r).2.2.1, ()), ()) := by
  intro j
  induction j with
  | zero =>
    intro l res out r hl _ hr hg ho hre
    refine iterW_inr ?_
    unfold knockoutPlay_L4
    have : ¬ ((l.length : Nat) : Int) > 1 := by rw [hl]; simp
    simp [this, gopt, plays]
  | succ j ih =>
    intro l res out r hl hj hr hg ho hre
    have hp : 2 ^ (j + 1) = 2 * 2 ^ j := by rw [Nat.pow_succ]; omega
    have hb : 2 ^ j ≤ 2 ^ 4 := Nat.pow_le_pow_right (by omega) (by omega)
    have hpos : 0 < 2 ^ j := Nat.pow_pos (by omega)
    have hlen : l.length = 2 * 2 ^ j := by omega
    have hin := inner l (by omega) (r : Int) res out (2 ^ j) 0 res out [] (by omega) (by omega) (by simp; omega) hre
    simp only [Int.natCast_zero, List.drop_zero, List.nil_append] at hin
    have hc : ((l.length : Nat) : Int) > 1 := by omega
    have hnot : decide (-2 ∈ l) = false := by
      rw [decide_eq_false_iff_not]
      intro hm
      have := hg _ hm
      omega
    have hs : knockoutPlay_L4 ((res, out, l, (r : Int), ()), ()) = some (.inl (((rnd (-2) l res).2.1, out ++ gms r l, (rnd (-2) l res).1, ((r + 1 : Nat) : Int), ()), ())) := by
      unfold knockoutPlay_L4
      simp only [hc, decide_true, gopt, cond_true, contains_spec l (-2) (by omega), Option.bind_some, hnot, Bool.not_false, Bool.and_self, hin, w64_id (n := (r : Int) + 1) (by omega) (by omega)]
      rfl
    have hnl := rnd_len (-2) (2 ^ j) l res hlen
    have hgl := gms_len (r : Int) (2 ^ j) l hlen
    have hrl := rnd_res (-2) (2 ^ j) l res hlen
    rw [iterW_inl hs]
    unfold plays
    by_cases c : (rnd (-2) l res).2.2 = true
    · rw [if_pos c]
      have hst := rnd_stuck (-2) (2 ^ j) l res hlen c
      refine iterW_inr ?_
      unfold knockoutPlay_L4
      by_cases c2 : (((rnd (-2) l res).1.length : Nat) : Int) > 1
      · simp [c2, gopt, contains_spec (rnd (-2) l res).1 (-2) (by omega), hst]
      · simp [c2, gopt]
    · rw [if_neg c]
      have hge := rnd_ge (-2) (2 ^ j) l res hlen hg (Bool.eq_false_iff.2 c)
      rw [ih (rnd (-2) l res).1 (rnd (-2) l res).2.1 (out ++ gms r l) (r + 1) hnl (by omega) (by omega) hge (by rw [List.length_append, hgl, hnl]; omega) (by omega)]
      simp only [List.append_assoc]
      rfl
theorem plays_len : ∀ (j : Nat) (l res : List Int) (r : Int), l.length = 2 ^ j → (∀ x ∈ l, -1 ≤ x) → ((plays j l res r).2.2.2 = false → (plays j l res r).2.2.1.length = 1 ∧ ∀ x ∈ (plays j l res r).2.2.1, -1 ≤ x) ∧ ((plays j l res r).2.2.2 = true → -2 ∈ (plays j l res r).2.2.1) ∧ (plays j l res r).2.1.length ≤ l.length := by
  intro j
  induction j with
  | zero => intro l res r hl hg; exact ⟨fun _ => ⟨by simpa [plays] using hl, by simpa [plays] using hg⟩, fun h => (by simp [plays] at h), by simp [plays]⟩
  | succ j ih =>
    intro l res r hl hg
    have hlen : l.length = 2 * 2 ^ j := by rw [hl, Nat.pow_succ]; omega
    have hnl := rnd_len (-2) (2 ^ j) l res hlen
    have hgl := gms_len r (2 ^ j) l hlen
    unfold plays
    by_cases c : (rnd (-2) l res).2.2 = true
    · rw [if_pos c]
      exact ⟨fun h => (by cases h), fun _ => rnd_stuck (-2) (2 ^ j) l res hlen c, by simp only; omega⟩
    · rw [if_neg c]
      have hge := rnd_ge (-2) (2 ^ j) l res hlen hg (Bool.eq_false_iff.2 c)
      obtain ⟨i1, i2, i3⟩ := ih (rnd (-2) l res).1 (rnd (-2) l res).2.1 (r + 1) hnl hge
      exact ⟨i1, i2, by simp only [List.length_append]; omega⟩
def badR (x : Int) : Bool := (x != 0) && (x != 2)
theorem play_spec {n : Nat} (hn : 2 ≤ n ∧ n ≤ 32) (results : List Int) (hl : results.length ≤ 40) : knockoutPlay n results = some (if results.any badR = true then ([], 0, 4, ()) else
    let q := plays (rk n) (bracket n) results 0
    if q.1 ≠ [] then ([], 0, 2, ()) else (q.2.1, (if q.2.2.2 = true then -1 else getD' q.2.2.1 0 0), 0, ())) := by
  unfold knockoutPlay
  have hck : knockoutCheck (n : Int) = 0 := by
    unfold knockoutCheck
    have : (decide ((n : Int) < 2) || decide ((n : Int) > 32)) = false := by simp only [Bool.or_eq_false_iff, decide_eq_false_iff_not]; omega
    rw [this]; rfl
  have hL1 := iterW_any results badR (knockoutPlay_L1 results n) (.inr ([], 0, 4, ())) (.inl ((), ())) (fun i hi => by
    unfold knockoutPlay_L1
    have h1 : (i : Int) < (results.length : Int) := by omega
    have h2 : (i : Int) ≥ 0 := by omega
    simp only [h1, decide_true, cond_true, at?_eq results (i : Int) (by omega) h1, Option.bind_some, Int.toNat_natCast, h2, w64_id (n := (i : Int) + 1) (by omega) (by omega)]
    rfl) (by unfold knockoutPlay_L1; simp)
  simp only [hck, bne_self_eq_false, cond_false, hL1, Option.bind_some]
  cases hb : results.any badR with
  | true => simp
  | false =>
    obtain ⟨l1, l2⟩ := len_spec hn
    have hk := rk_bound n
    have hb2 : 2 ^ rk n ≤ 2 ^ 5 := Nat.pow_le_pow_right (by omega) hk.2
    have ho := outer (rk n) (bracket n) results [] 0 l1 hk.2 (by omega) l2 (by simp; omega) (by omega)
    simp only [Int.natCast_zero, List.nil_append] at ho
    simp only [cond_false, Sum.elim_inl, seeds_spec hn, Option.bind_some, ho, Bool.false_eq_true, if_false]
    obtain ⟨p1, p2, p3⟩ := plays_len (rk n) (bracket n) results 0 l1 l2
    generalize plays (rk n) (bracket n) results 0 = q at *
    obtain ⟨res', out, l', st⟩ := q
    simp only at p1 p2 p3 ⊢
    cases res' with
    | cons x res' =>
      have : decide ((((x :: res').length : Nat) : Int) > 0) = true := by simp only [decide_eq_true_eq, List.length_cons]; omega
      simp [this]
    | nil =>
      simp only [List.length_nil, Int.natCast_zero, Int.lt_irrefl, gt_iff_lt, decide_false, cond_false, ne_eq, not_true, if_false]
      cases st with
      | true =>
        have hm := p2 rfl
        by_cases c : ((l'.length : Nat) : Int) = 1
        · have hz : l' = [-2] := by
            have : l'.length = 1 := by omega
            obtain ⟨y, rfl⟩ := List.length_eq_one_iff.1 this
            simp at hm
            rw [hm]
          subst hz
          simp [inb, req, getD']
        · simp [beq_f c]
      | false =>
        obtain ⟨q1, q2⟩ := p1 rfl
        obtain ⟨y, rfl⟩ := List.length_eq_one_iff.1 q1
        have := q2 y (by simp)
        have h3 : ¬ (-1 : Int) > y := by omega
        simp [inb, req, getD', h3]
end Go.Proofs.Ytcdpkebphgeipaa
