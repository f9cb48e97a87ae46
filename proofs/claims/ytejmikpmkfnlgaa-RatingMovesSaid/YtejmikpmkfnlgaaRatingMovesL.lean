/- The law RatingMoves, in plain Lean. No condition of its own. -/
import Derived.Test.YtejmikpmkfnlgaaRatingMovesB
namespace Go.Proofs.Ytejmikpmkfnlgaa
open Go.Den
set_option linter.unusedVariables false
set_option linter.unusedSimpArgs false
set_option maxRecDepth 100000

abbrev Game := Int × Int × Int × Unit
/-- what is wrong with a game -/
def err (n : Nat) (g : Game) (factor : Int) : Int := if badPair n g then 3 else if g.2.2.1 < 0 ∨ 2 < g.2.2.1 then 1 else if factor < 1 ∨ 64 < factor then 4 else 0
def next (l : List Int) (g : Game) (factor : Int) : List Int := after l g.1.toNat g.2.1.toNat (change (getD' l g.1.toNat 0) (getD' l g.2.1.toNat 0) g.2.2.1 factor)
theorem game_err (l : List Int) (h0 : faultOf l = 0) (g : Game) (factor : Int) : ratingGame l g factor = some (if err l.length g factor = 0 then (next l g factor, 0, ()) else ([], err l.length g factor, ())) := by
  rw [game_spec l h0 g factor]
  unfold err next
  by_cases a : badPair l.length g
  · simp [a]
  · by_cases b : g.2.2.1 < 0 ∨ 2 < g.2.2.1
    · simp [a, b]
    · by_cases c : factor < 1 ∨ 64 < factor
      · simp [a, b, c]
      · simp only [if_neg a, if_neg b, if_neg c, if_true]
theorem err_zero {n : Nat} {g : Game} {factor : Int} (h : err n g factor = 0) : ((0 ≤ g.1 ∧ g.1 < (n : Int)) ∧ (0 ≤ g.2.1 ∧ g.2.1 < (n : Int)) ∧ g.1 ≠ g.2.1) ∧ (0 ≤ g.2.2.1 ∧ g.2.2.1 ≤ 2) ∧ (1 ≤ factor ∧ factor ≤ 64) := by
  unfold err at h
  by_cases a : badPair n g
  · rw [if_pos a] at h; cases h
  · rw [if_neg a] at h
    by_cases b : g.2.2.1 < 0 ∨ 2 < g.2.2.1
    · rw [if_pos b] at h; cases h
    · rw [if_neg b] at h
      by_cases c : factor < 1 ∨ 64 < factor
      · rw [if_pos c] at h; cases h
      · unfold badPair at a
        exact ⟨Decidable.not_not.1 a, by omega, by omega⟩
theorem next_ok {l : List Int} (h0 : faultOf l = 0) {g : Game} {factor : Int} (he : err l.length g factor = 0) : faultOf (next l g factor) = 0 ∧ (next l g factor).length = l.length := by
  obtain ⟨hl, hin⟩ := fault_zero h0
  obtain ⟨⟨g1, g2, g3⟩, hp, hf⟩ := err_zero he
  have hi : g.1.toNat < l.length := by omega
  have hj : g.2.1.toNat < l.length := by omega
  have o1 := hin _ (List.getElem_mem hi)
  have o2 := hin _ (List.getElem_mem hj)
  obtain ⟨_, c2⟩ := change_spec (first := l[g.1.toNat]) (second := l[g.2.1.toNat]) (points := g.2.2.1) (factor := factor) o1 o2 hp hf
  have o1' := o1
  have o2' := o2
  unfold ratingOut at o1' o2'
  simp only [Bool.or_eq_false_iff, decide_eq_false_iff_not] at o1' o2'
  have hcb := clamp_bound (a := l[g.1.toNat]) (b := l[g.2.1.toNat]) (d := change l[g.1.toNat] l[g.2.1.toNat] g.2.2.1 factor) (by omega) (by omega) c2
  have hlen : (next l g factor).length = l.length := by simp [next, after]
  refine ⟨?_, hlen⟩
  unfold faultOf
  rw [hlen, if_neg (by omega)]
  have : (next l g factor).any ratingOut = false := by
    rw [List.any_eq_false]
    intro x hx
    unfold next after at hx
    rw [getD_eq hi, getD_eq hj] at hx
    have hx' := List.mem_or_eq_of_mem_set hx
    have key : ∀ y, -1000000 ≤ y ∧ y ≤ 1000000 → ¬ ratingOut y = true := by
      intro y hy
      unfold ratingOut
      simp only [Bool.or_eq_true, decide_eq_true_eq]
      omega
    rcases hx' with hx' | rfl
    · rcases List.mem_or_eq_of_mem_set hx' with hx' | rfl
      · simp [hin x hx']
      · exact key _ (by omega)
    · exact key _ (by omega)
  rw [this]
  rfl
/-- all games -/
def play (factor : Int) : List Int → List Game → List Int × Int
  | l, [] => (l, 0)
  | l, g :: gs => if err l.length g factor = 0 then play factor (next l g factor) gs else ([], err l.length g factor)
theorem all_loop (games : List Game) (hg : games.length ≤ 1000) (factor : Int) : ∀ (k : Nat) (i : Nat) (l : List Int), faultOf l = 0 → i + k = games.length →
    iterW (ratingAll_L1 games factor) ((l, (i : Int), ()), ()) = some (if (play factor l (games.drop i)).2 = 0 then .inl (((play factor l (games.drop i)).1, ()), ()) else .inr ([], (play factor l (games.drop i)).2, ())) := by
  intro k
  induction k with
  | zero =>
    intro i l h0 hi
    have : games.drop i = [] := List.drop_eq_nil_of_le (by omega)
    rw [this]
    refine iterW_inr ?_
    unfold ratingAll_L1
    have hn : ¬ (i : Int) < (games.length : Int) := by omega
    simp [hn, play]
  | succ k ih =>
    intro i l h0 hi
    have hlt : i < games.length := by omega
    have h1 : (i : Int) < (games.length : Int) := by omega
    rw [List.drop_eq_getElem_cons hlt]
    have hs : ratingAll_L1 games factor ((l, (i : Int), ()), ()) = if err l.length games[i] factor = 0 then some (.inl ((next l games[i] factor, ((i + 1 : Nat) : Int), ()), ())) else some (.inr (.inr ([], err l.length games[i] factor, ()))) := by
      unfold ratingAll_L1
      simp only [h1, decide_true, cond_true, at?_eq games (i : Int) (by omega) h1, Option.bind_some, Int.toNat_natCast, game_err l h0, w64_id (n := (i : Int) + 1) (by omega) (by omega)]
      by_cases e : err l.length games[i] factor = 0
      · simp [e]
      · simp [e, bne_t e]
    by_cases e : err l.length games[i] factor = 0
    · rw [if_pos e] at hs
      rw [iterW_inl hs, ih (i + 1) _ (next_ok h0 e).1 (by omega)]
      simp only [play, if_pos e]
    · rw [if_neg e] at hs
      rw [iterW_inr hs]
      simp only [play, if_neg e]
theorem down_loop {l : List Int} {g : Game} {f i0 : Int} {a b d : Int} (hi : inb g.1 l.length = true) (hj : inb g.2.1 l.length = true) (ea : getD' l g.1.toNat 0 = a) (eb : getD' l g.2.1.toNat 0 = b)
    (ha : -1000000 ≤ a ∧ a ≤ 1000000) (hb : -1000000 ≤ b ∧ b ≤ 1000000) (hd : -6400 ≤ d ∧ d ≤ 6400) :
    iterW (law3RatingMoves_L3 g ((f, i0, ()), (l, ()))) ((d, ()), ()) = some ((if 0 < d then min d (min (1000000 - a) (b + 1000000)) else d, ()), ()) := by
  refine iterW_fun (f := law3RatingMoves_L3 g ((f, i0, ()), (l, ()))) (fun x => -6400 ≤ x.1.1 ∧ x.1.1 ≤ 6400) (fun x => x.1.1.toNat) (fun x => ((if 0 < x.1.1 then min x.1.1 (min (1000000 - a) (b + 1000000)) else x.1.1, ()), ())) ?_ ((d, ()), ()) hd
  rintro ⟨⟨x, _⟩, _⟩ ⟨h1, h2⟩
  simp only at h1 h2
  unfold law3RatingMoves_L3
  simp only [hi, hj, ea, eb, imp, Bool.cond_self, req_true, w64_id (n := a + x) (by omega) (by omega), w64_id (n := b - x) (by omega) (by omega), w64_id (n := x - 1) (by omega) (by omega)]
  by_cases c : 0 < x ∧ (1000000 < a + x ∨ b - x < -1000000)
  · have e : (decide (x > 0) && (decide (a + x > 1000000) || decide (b - x < -1000000))) = true := by simp only [Bool.and_eq_true, Bool.or_eq_true, decide_eq_true_eq]; omega
    rw [e]
    refine .inl ⟨_, rfl, ⟨by simp only; omega, by simp only; omega⟩, by simp only; omega, ?_⟩
    simp only [Prod.mk.injEq, and_true]
    omega
  · have e : (decide (x > 0) && (decide (a + x > 1000000) || decide (b - x < -1000000))) = false := by
      rw [Bool.eq_false_iff]
      simp only [ne_eq, Bool.and_eq_true, Bool.or_eq_true, decide_eq_true_eq]
      omega
    rw [e]
    refine .inr ?_
    simp only [cond_false, Option.some.injEq, Sum.inr.injEq, Prod.mk.injEq, and_true]
    omega
theorem up_loop {l : List Int} {g : Game} {f i0 : Int} {a b d : Int} (hi : inb g.1 l.length = true) (hj : inb g.2.1 l.length = true) (ea : getD' l g.1.toNat 0 = a) (eb : getD' l g.2.1.toNat 0 = b)
    (ha : -1000000 ≤ a ∧ a ≤ 1000000) (hb : -1000000 ≤ b ∧ b ≤ 1000000) (hd : -6400 ≤ d ∧ d ≤ 6400) :
    iterW (law3RatingMoves_L4 g ((f, i0, ()), (l, ()))) ((d, ()), ()) = some ((if d < 0 then max d (max (-1000000 - a) (b - 1000000)) else d, ()), ()) := by
  refine iterW_fun (f := law3RatingMoves_L4 g ((f, i0, ()), (l, ()))) (fun x => -6400 ≤ x.1.1 ∧ x.1.1 ≤ 6400) (fun x => (-x.1.1).toNat) (fun x => ((if x.1.1 < 0 then max x.1.1 (max (-1000000 - a) (b - 1000000)) else x.1.1, ()), ())) ?_ ((d, ()), ()) hd
  rintro ⟨⟨x, _⟩, _⟩ ⟨h1, h2⟩
  simp only at h1 h2
  unfold law3RatingMoves_L4
  simp only [hi, hj, ea, eb, imp, Bool.cond_self, req_true, w64_id (n := a + x) (by omega) (by omega), w64_id (n := b - x) (by omega) (by omega), w64_id (n := x + 1) (by omega) (by omega)]
  by_cases c : x < 0 ∧ (a + x < -1000000 ∨ 1000000 < b - x)
  · have e : (decide (x < 0) && (decide (a + x < -1000000) || decide (b - x > 1000000))) = true := by simp only [Bool.and_eq_true, Bool.or_eq_true, decide_eq_true_eq]; omega
    rw [e]
    refine .inl ⟨_, rfl, ⟨by simp only; omega, by simp only; omega⟩, by simp only; omega, ?_⟩
    simp only [Prod.mk.injEq, and_true]
    omega
  · have e : (decide (x < 0) && (decide (a + x < -1000000) || decide (b - x > 1000000))) = false := by
      rw [Bool.eq_false_iff]
      simp only [ne_eq, Bool.and_eq_true, Bool.or_eq_true, decide_eq_true_eq]
      omega
    rw [e]
    refine .inr ?_
    simp only [cond_false, Option.some.injEq, Sum.inr.injEq, Prod.mk.injEq, and_true]
    omega
def cutI (m : Int) (n : Nat) : Nat := ((if m < ((n : Nat) : Int) then m else ((n : Nat) : Int))).toNat
theorem err_text (n : Nat) (g : Game) (factor : Int) :
    (bif (((decide ((if g.2.1 < g.1 then g.2.1 else g.1) < (0 : Int))) || (decide ((if g.2.1 > g.1 then g.2.1 else g.1) ≥ ((n : Nat) : Int)))) || (g.1 == g.2.1)) then some (((3 : Int), ()), ())
      else Option.bind (bif ((decide (g.2.2.1 < (0 : Int))) || (decide (g.2.2.1 > (2 : Int)))) then some (((1 : Int), ()), ())
      else Option.bind (bif ((decide (factor < (1 : Int))) || (decide (factor > (64 : Int)))) then some (((4 : Int), ()), ())
      else some (((0 : Int), ()), ())) fun x20 => some ((x20.1.1, ()), ())) fun x21 => some ((x21.1.1, ()), ())) = some ((err n g factor, ()), ()) := by
  unfold err
  have e1 : (((decide ((if g.2.1 < g.1 then g.2.1 else g.1) < (0 : Int))) || (decide ((if g.2.1 > g.1 then g.2.1 else g.1) ≥ ((n : Nat) : Int)))) || (g.1 == g.2.1)) = decide (badPair n g) := by
    rw [Bool.eq_iff_iff]
    simp only [Bool.or_eq_true, decide_eq_true_eq, beq_iff_eq]
    unfold badPair
    omega
  have e2 : (decide (g.2.2.1 < (0 : Int)) || decide (g.2.2.1 > (2 : Int))) = decide (g.2.2.1 < 0 ∨ 2 < g.2.2.1) := by
    rw [Bool.eq_iff_iff]
    simp
  have e3 : (decide (factor < (1 : Int)) || decide (factor > (64 : Int))) = decide (factor < 1 ∨ 64 < factor) := by
    rw [Bool.eq_iff_iff]
    simp
  rw [e1, e2, e3]
  by_cases a : badPair n g
  · simp [a]
  · by_cases b : g.2.2.1 < 0 ∨ 2 < g.2.2.1
    · simp [a, b]
    · by_cases c : factor < 1 ∨ 64 < factor
      · simp [a, b, c]
      · simp [a, b, c]
theorem law_step (games : List Game) (factor : Int) (l : List Int) (r10 : (List Int) × Int × Unit) (now : List Int) (i : Nat) (hi : i < ((games.take (cutI 60 games.length)).drop 0).length) (hi60 : i < 60) (h0 : faultOf now = 0) (hn : now.length = ((l.take (cutI 70 l.length)).drop 0).length) :
    law3RatingMoves_L2 games factor l r10 ((0, (i : Int), ()), (now, ())) =
      if err now.length (((games.take (cutI 60 games.length)).drop 0)[i]) factor = 0 then some (.inl ((0, ((i + 1 : Nat) : Int), ()), (next now (((games.take (cutI 60 games.length)).drop 0)[i]) factor, ())))
      else some (.inr (.inr ((r10.2.1 == err now.length (((games.take (cutI 60 games.length)).drop 0)[i]) factor) && (((r10.1.length : Nat) : Int) == 0)))) := by
  unfold law3RatingMoves_L2
  rw [show ((if (60 : Int) < ((games.length : Nat) : Int) then (60 : Int) else ((games.length : Nat) : Int))).toNat = cutI 60 games.length from rfl, show ((if (70 : Int) < ((l.length : Nat) : Int) then (70 : Int) else ((l.length : Nat) : Int))).toNat = cutI 70 l.length from rfl]
  generalize (games.take (cutI 60 games.length)).drop 0 = G at hi ⊢
  generalize hN : (l.take (cutI 70 l.length)).drop 0 = L at hn ⊢
  have h1 : (i : Int) < (G.length : Int) := by omega
  simp only [h1, decide_true, cond_true, at?_eq G (i : Int) (by omega) h1, Option.bind_some, Int.toNat_natCast, game_err now h0, ← hn]
  generalize G[i] = g
  simp only [err_text now.length g factor, Option.bind_some]
  by_cases e : err now.length g factor = 0
  · obtain ⟨hl, hin⟩ := fault_zero h0
    obtain ⟨⟨g1, g2, g3⟩, hp, hf⟩ := err_zero e
    have hi' : g.1.toNat < now.length := by omega
    have hj' : g.2.1.toNat < now.length := by omega
    have o1 := hin _ (List.getElem_mem hi')
    have o2 := hin _ (List.getElem_mem hj')
    obtain ⟨c1, c2⟩ := change_spec (first := now[g.1.toNat]) (second := now[g.2.1.toNat]) (points := g.2.2.1) (factor := factor) o1 o2 hp hf
    have o1' := o1
    have o2' := o2
    unfold ratingOut at o1' o2'
    simp only [Bool.or_eq_false_iff, decide_eq_false_iff_not] at o1' o2'
    have i1 : inb g.1 now.length = true := inb_iff.2 g1
    have i2 : inb g.2.1 now.length = true := inb_iff.2 g2
    have i3 : ∀ x, inb g.2.1 (now.set g.1.toNat x).length = true := fun x => inb_iff.2 (by simpa using g2)
    have hset : ∀ x, getD' (now.set g.1.toNat x) g.2.1.toNat 0 = now[g.2.1.toNat] := fun x => by
      rw [getD_eq (by simpa using hj'), List.getElem_set_ne (by omega)]
    have hch := c2
    unfold change at hch
    have b1 := cnt_bound 42 (now[g.1.toNat] - now[g.2.1.toNat])
    have b2 := cnt_bound 42 (-(now[g.1.toNat] - now[g.2.1.toNat]))
    have hwd : w64 (factor * w64 (w64 (50 * g.2.2.1) - (50 + cnt 42 (now[g.1.toNat] - now[g.2.1.toNat]) - cnt 42 (-(now[g.1.toNat] - now[g.2.1.toNat]))))) = change now[g.1.toNat] now[g.2.1.toNat] g.2.2.1 factor := by
      rw [w64_id (n := 50 * g.2.2.1) (by omega) (by omega), w64_id (n := 50 * g.2.2.1 - _) (by omega) (by omega), w64_id (by omega) (by omega)]
      rfl
    have hcb := clamp_bound (a := now[g.1.toNat]) (b := now[g.2.1.toNat]) (d := change now[g.1.toNat] now[g.2.1.toNat] g.2.2.1 factor) (by omega) (by omega) c2
    have hx : next now g factor = (now.set g.1.toNat (now[g.1.toNat] + clamp now[g.1.toNat] now[g.2.1.toNat] (change now[g.1.toNat] now[g.2.1.toNat] g.2.2.1 factor))).set g.2.1.toNat (now[g.2.1.toNat] - clamp now[g.1.toNat] now[g.2.1.toNat] (change now[g.1.toNat] now[g.2.1.toNat] g.2.2.1 factor)) := by
      unfold next after
      rw [getD_eq hi', getD_eq hj']
    have hlen := (next_ok h0 e).2
    have hsame := same_eq (next now g factor) (by omega)
    rw [if_pos e]
    simp only [e, if_true, bne_self_eq_false, cond_false, i1, i2, req_true, getD_eq hi', getD_eq hj', w64_id (n := now[g.1.toNat] - now[g.2.1.toNat]) (by omega) (by omega), hund_spec _ (show -1099511627776 < now[g.1.toNat] - now[g.2.1.toNat] ∧ now[g.1.toNat] - now[g.2.1.toNat] < 1099511627776 by omega), Option.bind_some, c1, hwd, Bool.or_self]
    rw [down_loop i1 i2 (getD_eq hi') (getD_eq hj') (by omega) (by omega) c2]
    simp only [Option.bind_some]
    generalize hd : change now[g.1.toNat] now[g.2.1.toNat] g.2.2.1 factor = d at *
    rw [up_loop i1 i2 (getD_eq hi') (getD_eq hj') (by omega) (by omega) (by omega)]
    have hcl : (if (if 0 < d then min d (min (1000000 - now[g.1.toNat]) (now[g.2.1.toNat] + 1000000)) else d) < 0 then max (if 0 < d then min d (min (1000000 - now[g.1.toNat]) (now[g.2.1.toNat] + 1000000)) else d) (max (-1000000 - now[g.1.toNat]) (now[g.2.1.toNat] - 1000000)) else (if 0 < d then min d (min (1000000 - now[g.1.toNat]) (now[g.2.1.toNat] + 1000000)) else d)) = clamp now[g.1.toNat] now[g.2.1.toNat] d := by
      unfold clamp
      omega
    rw [hcl]
    simp only [Option.bind_some, i3, req_true, hset, w64_id (n := now[g.1.toNat] + clamp now[g.1.toNat] now[g.2.1.toNat] d) (by omega) (by omega), w64_id (n := now[g.2.1.toNat] - clamp now[g.1.toNat] now[g.2.1.toNat] d) (by omega) (by omega), ← hx, gopt, bne_self_eq_false, Bool.not_false, cond_true, hsame, Bool.not_true, Bool.or_self, cond_false, w64_id (n := (i : Int) + 1) (by omega) (by omega)]
    rfl
  · rw [if_neg e]
    simp [e, bne_t e]
theorem law_loop (games : List Game) (factor : Int) (l : List Int) (r10 : (List Int) × Int × Unit) (hG : ((games.take (cutI 60 games.length)).drop 0).length ≤ 60) : ∀ (k i : Nat) (now : List Int), faultOf now = 0 → now.length = ((l.take (cutI 70 l.length)).drop 0).length → i + k = ((games.take (cutI 60 games.length)).drop 0).length →
    r10 = ((play factor now (((games.take (cutI 60 games.length)).drop 0).drop i)).1, (play factor now (((games.take (cutI 60 games.length)).drop 0).drop i)).2, ()) →
    (∃ now', iterW (law3RatingMoves_L2 games factor l r10) ((0, (i : Int), ()), (now, ())) = some (.inl ((), (now', ()))) ∧ r10 = (now', 0, ()) ∧ now'.length ≤ 64) ∨ iterW (law3RatingMoves_L2 games factor l r10) ((0, (i : Int), ()), (now, ())) = some (.inr true) := by
  intro k
  induction k with
  | zero =>
    intro i now h0 hn hi hr
    rw [List.drop_eq_nil_of_le (by omega)] at hr
    refine .inl ⟨now, iterW_inr ?_, hr, (fault_zero h0).1.2⟩
    unfold law3RatingMoves_L2
    rw [show ((if (60 : Int) < ((games.length : Nat) : Int) then (60 : Int) else ((games.length : Nat) : Int))).toNat = cutI 60 games.length from rfl]
    have hnot : ¬ (i : Int) < ((((games.take (cutI 60 games.length)).drop 0).length : Nat) : Int) := by omega
    simp only [hnot, decide_false, cond_false]
  | succ k ih =>
    intro i now h0 hn hi hr
    have hlt : i < ((games.take (cutI 60 games.length)).drop 0).length := by omega
    have hs := law_step games factor l r10 now i hlt (by omega) h0 hn
    rw [List.drop_eq_getElem_cons hlt] at hr
    by_cases e : err now.length (((games.take (cutI 60 games.length)).drop 0)[i]) factor = 0
    · rw [if_pos e] at hs
      simp only [play, if_pos e] at hr
      rw [iterW_inl hs]
      exact ih (i + 1) _ (next_ok h0 e).1 ((next_ok h0 e).2.trans hn) (by omega) hr
    · rw [if_neg e] at hs
      simp only [play, if_neg e] at hr
      right
      rw [iterW_inr hs, hr]
      simp
theorem fault_loop (l : List Int) (hl : l.length ≤ 100) (f0 : Int) (hf : f0 = 0 ∨ f0 = 2) (raw : List Int) (hraw : (raw.take (cutI 70 raw.length)).drop 0 = l) :
    iterW (law3RatingMoves_L1 raw) ((f0, 0, ()), ()) = some ((if f0 = 0 then (bif l.any ratingOut then 4 else 0) else f0, ()), ()) := by
  have hst : ∀ i, i < l.length → law3RatingMoves_L1 raw ((if f0 = 0 then (bif (l.take i).any ratingOut then 4 else 0) else f0, (i : Int), ()), ()) = some (.inl ((if f0 = 0 then (bif (l.take (i + 1)).any ratingOut then 4 else 0) else f0, ((i + 1 : Nat) : Int), ()), ())) := by
    intro i hi
    unfold law3RatingMoves_L1
    rw [show ((if (70 : Int) < ((raw.length : Nat) : Int) then (70 : Int) else ((raw.length : Nat) : Int))).toNat = cutI 70 raw.length from rfl, hraw]
    have h1 : (i : Int) < (l.length : Int) := by omega
    simp only [h1, decide_true, cond_true, at?_eq l (i : Int) (by omega) h1, Option.bind_some, Int.toNat_natCast, w64_id (n := (i : Int) + 1) (by omega) (by omega)]
    rw [List.take_succ_eq_append_getElem hi, List.any_append]
    have ho : (decide (l[i] < -1000000) || decide (l[i] > 1000000)) = ratingOut l[i] := rfl
    rw [ho]
    rcases hf with rfl | rfl
    · cases h2 : (l.take i).any ratingOut <;> cases h3 : ratingOut l[i] <;> simp [h3]
    · simp
  have := iterW_states (f := law3RatingMoves_L1 raw) l.length (fun i => ((if f0 = 0 then (bif (l.take i).any ratingOut then 4 else 0) else f0, (i : Int), ()), ())) ((if f0 = 0 then (bif l.any ratingOut then 4 else 0) else f0, ()), ()) hst (by
    unfold law3RatingMoves_L1
    rw [show ((if (70 : Int) < ((raw.length : Nat) : Int) then (70 : Int) else ((raw.length : Nat) : Int))).toNat = cutI 70 raw.length from rfl, hraw, List.take_length]
    simp)
  have h0 : (if f0 = 0 then (bif ((l.take 0).any ratingOut) then 4 else 0) else f0) = f0 := by
    rcases hf with rfl | rfl <;> rfl
  simp only [h0, Int.natCast_zero] at this
  exact this
theorem rates : law3Rates = some true := by
  unfold law3Rates
  rw [expect_spec, expect_spec]
  decide +kernel
theorem cut_len {α : Type} (m : Nat) (l : List α) : ((l.take (cutI m l.length)).drop 0).length ≤ m ∧ ((l.take (cutI m l.length)).drop 0).length ≤ l.length := by
  simp only [List.drop_zero, List.length_take]
  unfold cutI
  split <;> omega
theorem bounds_cut (m : Nat) (n : Nat) : boundsI 0 (if (m : Int) < ((n : Nat) : Int) then (m : Int) else ((n : Nat) : Int)) n = true := by
  unfold boundsI
  simp only [Bool.and_eq_true, decide_eq_true_eq]
  split <;> omega
theorem law3RatingMoves_true (l : List Int) (games : List Game) (factor d : Int) (h1 : Rng (.sl (.int .i64)) l) (h2 : Rng (.sl (.st (.int .i64) (.st (.int .i64) (.st (.int .i64) .nil)))) games) (h3 : Rng (.int .i64) factor) (h4 : Rng (.int .i64) d) : law3RatingMoves l games factor d = some true := by
  unfold law3RatingMoves
  rw [rates]
  have hb1 := bounds_cut 70 l.length
  have hb2 := bounds_cut 60 games.length
  simp only [Int.cast_ofNat_Int] at hb1 hb2
  simp only [Option.bind_some, Bool.not_true, cond_false, hb1, hb2, req_true]
  rw [show ((if (60 : Int) < ((games.length : Nat) : Int) then (60 : Int) else ((games.length : Nat) : Int))).toNat = cutI 60 games.length from rfl, show ((if (70 : Int) < ((l.length : Nat) : Int) then (70 : Int) else ((l.length : Nat) : Int))).toNat = cutI 70 l.length from rfl]
  have hL := cut_len 70 l
  have hG := cut_len 60 games
  simp only [Int.cast_ofNat_Int] at hL hG
  -- the first two
  have hexp : ∃ x, gopt ((decide (d > -1099511627776)) && (decide (d < 1099511627776))) 0 (ratingExpect d) = some x ∧ gopt ((decide (d > -1099511627776)) && (decide (d < 1099511627776))) 0 (ref3Hundredths d) = some x := by
    by_cases c : -1099511627776 < d ∧ d < 1099511627776
    · have : (decide (d > -1099511627776) && decide (d < 1099511627776)) = true := by simp only [Bool.and_eq_true, decide_eq_true_eq]; omega
      rw [this, expect_spec, hund_spec d c]
      exact ⟨_, rfl, rfl⟩
    · have : (decide (d > -1099511627776) && decide (d < 1099511627776)) = false := by
        rw [Bool.eq_false_iff]
        simp only [ne_eq, Bool.and_eq_true, decide_eq_true_eq]
        omega
      rw [this]
      exact ⟨0, rfl, rfl⟩
  obtain ⟨x, hx1, hx2⟩ := hexp
  simp only [hx1, hx2, Option.bind_some, bne_self_eq_false, Bool.and_false, cond_false]
  -- all games
  generalize hLL : (l.take (cutI 70 l.length)).drop 0 = L at hL ⊢
  generalize hGG : (games.take (cutI 60 games.length)).drop 0 = G at hG ⊢
  have hall : ratingAll L G factor = some (if faultOf L = 0 then ((play factor L G).1, (play factor L G).2, ()) else ([], faultOf L, ())) := by
    unfold ratingAll ratingCheckAll
    rw [check_spec]
    simp only [Option.bind_some]
    have hg : ¬ ((G.length : Nat) : Int) > 256 := by omega
    by_cases c : faultOf L = 0
    · rw [if_pos c, c]
      have := all_loop G (by omega) factor G.length 0 L c (by omega)
      simp only [Int.natCast_zero, List.drop_zero] at this
      simp only [bne_self_eq_false, cond_false, hg, decide_false, Option.bind_some, clone_eq L (by omega), this]
      have hpe : (play factor L G).2 ≠ 0 → (play factor L G).1 = [] := by
        have : ∀ (G : List Game) (L : List Int), (play factor L G).2 ≠ 0 → (play factor L G).1 = [] := by
          intro G
          induction G with
          | nil => intro L h; exact absurd rfl h
          | cons g G ih =>
            intro L h
            unfold play at h ⊢
            by_cases e : err L.length g factor = 0
            · rw [if_pos e] at h ⊢; exact ih _ h
            · rw [if_neg e]
        exact this G L
      by_cases e : (play factor L G).2 = 0
      · rw [if_pos e, e]; rfl
      · rw [if_neg e, hpe e]; rfl
    · rw [if_neg c]
      simp [bne_t c]
  rw [hall]
  simp only [Option.bind_some]
  -- the fault
  have hf0 : (bif ((((L.length : Nat) : Int) == (0 : Int)) || (decide (((L.length : Nat) : Int) > (64 : Int)))) then some (((2 : Int), ()), ()) else some (((0 : Int), ()), ())) = some ((if L.length < 1 ∨ 64 < L.length then 2 else 0, ()), ()) := by
    by_cases c : L.length < 1 ∨ 64 < L.length
    · have : (((L.length : Nat) : Int) == 0 || decide (((L.length : Nat) : Int) > 64)) = true := by
        simp only [Bool.or_eq_true, beq_iff_eq, decide_eq_true_eq]; omega
      rw [this, if_pos c]; rfl
    · have : (((L.length : Nat) : Int) == 0 || decide (((L.length : Nat) : Int) > 64)) = false := by
        rw [Bool.eq_false_iff]
        simp only [ne_eq, Bool.or_eq_true, beq_iff_eq, decide_eq_true_eq]; omega
      rw [this, if_neg c]; rfl
  rw [hf0]
  simp only [Option.bind_some]
  rw [fault_loop L (by omega) _ (by split <;> simp) l hLL]
  have hfe : (if (if L.length < 1 ∨ 64 < L.length then (2 : Int) else 0) = 0 then (bif L.any ratingOut then 4 else 0) else (if L.length < 1 ∨ 64 < L.length then 2 else 0)) = faultOf L := by
    unfold faultOf
    by_cases c : L.length < 1 ∨ 64 < L.length
    · simp only [if_pos c]
      rfl
    · simp only [if_neg c, if_true]
  rw [hfe, check_spec]
  simp only [Option.bind_some, bne_self_eq_false, cond_false]
  by_cases c : faultOf L = 0
  · rw [if_pos c, c]
    have hroom : room (([] : List Int).length + L.length) 8 = true := room_ok (by simp; omega)
    simp only [bne_self_eq_false, cond_false, hroom, req_true, List.nil_append]
    rcases law_loop games factor l ((play factor L G).1, (play factor L G).2, ()) (by rw [hGG]; omega) G.length 0 L c (by rw [hLL]) (by rw [hGG]; omega) (by rw [hGG, List.drop_zero]) with ⟨now', q1, q2, q3⟩ | q1
    · simp only [Int.natCast_zero] at q1
      have e1 : (play factor L G).1 = now' := congrArg Prod.fst q2
      have e2 : (play factor L G).2 = 0 := congrArg (fun p => p.2.1) q2
      rw [q1, e1, e2]
      simp [gopt, same_eq now' (by omega)]
    · simp only [Int.natCast_zero] at q1
      rw [q1]
      rfl
  · rw [if_neg c]
    simp [bne_t c]
end Go.Proofs.Ytejmikpmkfnlgaa
