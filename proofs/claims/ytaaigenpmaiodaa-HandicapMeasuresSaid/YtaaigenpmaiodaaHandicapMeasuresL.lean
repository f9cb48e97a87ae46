/- The law HandicapMeasures in plain Lean: it is true. Conditions: numbers in range. -/
import Derived.Test.YtaaigenpmaiodaaHandA
namespace Go.Proofs.Ytaaigenpmaiodaa
open Go.Den
set_option linter.unusedVariables false
set_option linter.unusedSimpArgs false
set_option maxRecDepth 100000

/-! ### who wins -/
def beginErr (r : Rules) (depth : Int) : Int := treeErr r (beginOf r) depth
def beginScore (r : Rules) (depth : Int) : Int := scoreOf r depth.toNat (beginOf r)
def winsV (v : Int) : Int := if v > 0 then 1 else if v < 0 then 2 else 3
theorem begin_score {r : Rules} (hr : Rng tyRules r) (c : ruleErr r = 0) (depth : Int) : minimaxScore r (beginOf r) depth = some (if beginErr r depth = 0 then (beginScore r depth, (0, ())) else (0, (beginErr r depth, ()))) := by
  have h := rules_valid c
  have hs : ((r.start.length : Nat) : Int) = r.width * r.height := h.start
  have ha := h.area
  exact score_spec r (beginOf r) depth hr (by show r.start.length ≤ _; omega)
theorem wins_spec {r : Rules} (hr : Rng tyRules r) (c : ruleErr r = 0) (depth : Int) : handicapWins r depth = some (if beginErr r depth = 0 then (winsV (beginScore r depth), (0, ())) else (0, (beginErr r depth, ()))) := by
  unfold handicapWins
  rw [begin_spec r hr, if_pos c, Option.bind_some]
  simp only [bne_self_eq_false, cond_false]
  rw [show minimaxScore r ((beginOf r).1, (((beginOf r).2.1.1, ((beginOf r).2.1.2.1, ())), (beginOf r).2.2)) depth = _ from begin_score hr c depth, Option.bind_some]
  by_cases ce : beginErr r depth = 0
  · simp only [if_pos ce, bne_self_eq_false, cond_false]
    unfold winsV
    by_cases h1 : beginScore r depth > 0
    · rw [decide_eq_true h1, cond_true, if_pos h1]
    · rw [decide_eq_false h1, cond_false, if_neg h1]
      by_cases h2 : beginScore r depth < 0
      · rw [decide_eq_true h2, cond_true, if_pos h2]
      · rw [decide_eq_false h2, cond_false, if_neg h2]
  · simp only [if_neg ce]
    rw [bne_t ce, cond_true]
theorem handicaps_true : law3Handicaps = some true := by
  unfold law3Handicaps
  rw [rep_eta, wins_spec tic_rng tic_ok]
  have e1 : beginErr law3Tic 0 = 0 := by decide +kernel
  have e2 : winsV (beginScore law3Tic 0) = 3 := by decide +kernel
  rw [if_pos e1, e2]
  rfl
/-! ### the least handicap -/
/-- what stops the search at so many pieces -/
def stopK (r : Rules) (player depth : Int) (sq : List Int) (k : Nat) : Option (Int × Int × Unit) :=
  if beginErr (withS r (zs r (sq.take k))) depth = 0 then if winsV (beginScore (withS r (zs r (sq.take k))) depth) = 1 + player then none else some ((k : Int), (0, ())) else some (0, (beginErr (withS r (zs r (sq.take k))) depth, ()))
def leastFrom (r : Rules) (player depth : Int) (sq : List Int) : Nat → Nat → Int × Int × Unit
  | _, 0 => (0, (8, ()))
  | k, n + 1 => match stopK r player depth sq k with
    | some v => v
    | none => leastFrom r player depth sq (k + 1) n
theorem least_L1 (sq : List Int) (r : Rules) (player depth i : Int) : handicapLeast_L1 sq r player depth ((i, ()), ()) = bif (decide (i < (w64 (((sq.length : Nat) : Int) + 1)))) then (req (boundsI 0 i sq.length) (Option.bind (handicapWithout r player ((sq.take i.toNat).drop 0)) fun a => Option.bind (handicapWins a.1 depth) fun b => bif (b.2.1 != 0) then some (Sum.inr (Sum.inr (0, b.2))) else bif (b.1 != (w64 (1 + player))) then some (Sum.inr (Sum.inr (i, (0, ())))) else some (Sum.inl ((w64 (i + 1), ()), ()))))
  else some (Sum.inr (Sum.inl ((), ()))) := by
  unfold handicapLeast_L1
  simp only [agree_self]
  first | done | rfl
theorem least_iter {r : Rules} (hr : Rng tyRules r) (player depth : Int) (sq : List Int) (hl : sq.length ≤ 1000) (hw : woErr r player sq = 0) : ∀ (n k : Nat), k + n = sq.length + 1 →
    Option.bind (iterW (handicapLeast_L1 sq r player depth) (((k : Int), ()), ())) (Sum.elim (fun _ => some (0, (8, ()))) some) = some (leastFrom r player depth sq k n)
  | 0, k, hk => by
    have hF := least_L1 sq r player depth (k : Int)
    rw [w64_id (by omega) (by omega), decide_eq_false (by omega), cond_false] at hF
    rw [iterW_inr hF]
    rfl
  | n + 1, k, hk => by
    have hc : ruleErr r = 0 := by
      refine Decidable.byContradiction fun h => ?_
      unfold woErr at hw
      rw [if_neg h] at hw
      exact h hw
    have hpl : player = 0 ∨ player = 1 := by
      refine Decidable.byContradiction fun h => ?_
      unfold woErr at hw
      rw [if_pos hc, if_neg h] at hw
      cases hw
    have hwk : woErr r player (sq.take k) = 0 := by
      unfold woErr at hw ⊢
      rw [if_pos hc, if_pos hpl] at hw ⊢
      exact wRun_take sq [] k hw
    have hc2 := withS_ok hc (sq.take k)
    have hr2 := withS_rng hr (sq.take k)
    have hF := least_L1 sq r player depth (k : Int)
    rw [w64_id (n := ((sq.length : Nat) : Int) + 1) (by omega) (by omega), decide_eq_true (by omega), cond_true, show boundsI 0 (k : Int) sq.length = true by simp [boundsI]; omega, req_true, Int.toNat_natCast, List.drop_zero, wo_spec r player (sq.take k) hr (by simp; omega), if_pos hwk, Option.bind_some] at hF
    simp only at hF
    rw [wins_spec hr2 hc2, Option.bind_some] at hF
    unfold leastFrom stopK
    by_cases ce : beginErr (withS r (zs r (sq.take k))) depth = 0
    · rw [if_pos ce] at hF ⊢
      simp only [bne_self_eq_false, cond_false] at hF
      rw [w64_id (n := 1 + player) (by omega) (by omega)] at hF
      by_cases cw : winsV (beginScore (withS r (zs r (sq.take k))) depth) = 1 + player
      · rw [bne_f cw, cond_false, w64_id (by omega) (by omega)] at hF
        rw [if_pos cw, iterW_inl hF]
        exact least_iter hr player depth sq hl hw n (k + 1) (by omega)
      · rw [bne_t cw, cond_true] at hF
        rw [if_neg cw, iterW_inr hF]
        rfl
    · rw [if_neg ce] at hF ⊢
      simp only [bne_t ce, cond_true] at hF
      rw [iterW_inr hF]
      rfl
theorem least_spec (r : Rules) (player depth : Int) (sq : List Int) (hr : Rng tyRules r) (hl : sq.length ≤ 1000) : handicapLeast r player sq depth = some (if woErr r player sq = 0 then leastFrom r player depth sq 0 (sq.length + 1) else (0, (woErr r player sq, ()))) := by
  unfold handicapLeast
  rw [wo_spec r player sq hr (by omega), Option.bind_some]
  by_cases c : woErr r player sq = 0
  · simp only [if_pos c, bne_self_eq_false, cond_false]
    have := least_iter hr player depth sq hl c (sq.length + 1) 0 (by omega)
    exact this
  · simp only [if_neg c]
    rw [bne_t c, cond_true]
/-! ### the law -/
theorem same3 (a b : List Int) (ha : a.length ≤ 1000000000) : law3SameInts a b = some (decide (a = b)) := by
  unfold law3SameInts
  by_cases hl : a.length = b.length
  · have e : (((a.length : Nat) : Int) != ((b.length : Nat) : Int)) = false := bne_f (by omega)
    rw [e, cond_false]
    have hL := iterW_any (List.range a.length) (fun i => a.getD i 0 != b.getD i 0) (law3SameInts_L1 a b) (.inr false) (.inl ((), ())) (fun i hi => by
      have hi' : i < a.length := by simpa using hi
      unfold law3SameInts_L1
      simp only [show decide ((i : Int) < ((a.length : Nat) : Int)) = true by simp; omega, cond_true, List.getElem_range]
      rw [at?_eq a _ (by omega) (by omega), at?_eq b _ (by omega) (by omega), Option.bind_some, Option.bind_some, w64_id (n := (i : Int) + 1) (by omega) (by omega)]
      simp only [Int.toNat_natCast, List.getD_eq_getElem?_getD, List.getElem?_eq_getElem hi', List.getElem?_eq_getElem (show i < b.length by omega), Option.getD_some]
      cases (a[i] != b[i]) <;> rfl) (by unfold law3SameInts_L1; simp)
    rw [hL]
    cases hany : (List.range a.length).any (fun i => a.getD i 0 != b.getD i 0) with
    | true =>
      rw [List.any_eq_true] at hany
      obtain ⟨i, _, h⟩ := hany
      have : ¬ a = b := fun e => by subst e; simp at h
      simp [this]
    | false =>
      rw [List.any_eq_false] at hany
      have : a = b := by
        apply List.ext_getElem hl
        intro i h1 h2
        have := hany i (List.mem_range.2 h1)
        simpa [List.getD_eq_getElem?_getD, h1, h2] using this
      simp [this]
  · have e : (((a.length : Nat) : Int) != ((b.length : Nat) : Int)) = true := bne_t (by omega)
    rw [e, cond_true]
    have : ¬ a = b := fun h => hl (by rw [h])
    simp [this]
def cut3 (l : List Int) : List Int := (l.take (if (3 : Int) < ((l.length : Nat) : Int) then 3 else ((l.length : Nat) : Int)).toNat).drop 0
theorem cut3_eq (l : List Int) : cut3 l = l.take 3 := by
  unfold cut3
  rw [List.drop_zero]
  by_cases c : 3 < l.length
  · rw [if_pos (by omega)]; rfl
  · rw [if_neg (by omega), Int.toNat_natCast, List.take_length, List.take_of_length_le (by omega)]
theorem law_L1 (sq : List Int) (r : Rules) (player f i : Int) (y : List Int) : law3HandicapMeasures_L1 sq r player ((f, i, ()), (y, ())) = bif (decide (i < (((cut3 sq).length : Nat) : Int))) then (Option.bind (at? (cut3 sq) i) fun s =>
    Option.bind (bif (f != 0) then some ((f, ()), (y, ())) else Option.bind (bif ((decide (s < 0)) || (decide (s ≥ ((r.start.length : Nat) : Int)))) then some ((4, ()), (y, ())) else req (inb s y.length) (Option.bind (at? r.start s) fun d =>
      Option.bind (bif ((getD' y s.toNat 0) != d) then some ((7, ()), (y, ())) else req (inb s y.length) (req (imp (!((getD' y s.toNat 0) == 0)) (inb s y.length)) (req (imp (!((getD' y s.toNat 0) == 0)) true) (Option.bind (bif (((getD' y s.toNat 0) == 0) || (((w64 ((getD' y s.toNat 0) - 1)).tmod 2) != player)) then some ((8, ()), (y, ()))
        else req (inb s y.length) (some ((f, ()), ((y.set s.toNat 0), ())))) fun a : (Int × Unit) × (List Int × Unit) => some ((a.1.1, ()), (a.2.1, ())))))) fun a : (Int × Unit) × (List Int × Unit) => some ((a.1.1, ()), (a.2.1, ())))) fun a : (Int × Unit) × (List Int × Unit) => some ((a.1.1, ()), (a.2.1, ()))) fun a : (Int × Unit) × (List Int × Unit) => some (Sum.inl ((a.1.1, w64 (i + 1), ()), (a.2.1, ()))))
  else some (Sum.inr ((f, ()), (y, ()))) := rfl
/-- once there is a fault it stays -/
theorem law_iter1f (sq : List Int) (r : Rules) (player f : Int) (hf : ¬ f = 0) (y : List Int) : ∀ (k i : Nat), i + k = (cut3 sq).length → (cut3 sq).length ≤ 3 → iterW (law3HandicapMeasures_L1 sq r player) ((f, (i : Int), ()), (y, ())) = some ((f, ()), (y, ()))
  | 0, i, h, h3 => by
    refine iterW_inr ?_
    rw [law_L1, decide_eq_false (by omega), cond_false]
  | k + 1, i, h, h3 => by
    have hF := law_L1 sq r player f (i : Int) y
    rw [decide_eq_true (by omega), cond_true, at?_eq (cut3 sq) _ (by omega) (by omega), Option.bind_some, bne_t hf, cond_true, w64_id (n := (i : Int) + 1) (by omega) (by omega)] at hF
    simp only [Option.bind_some] at hF
    rw [iterW_inl hF]
    exact law_iter1f sq r player f hf y k (i + 1) (by omega) h3
theorem law_iter1 {r : Rules} (hv : VR0 r) (player : Int) (sq : List Int) : ∀ (k i : Nat), i + k = (cut3 sq).length → (cut3 sq).length ≤ 3 → Taken r ((cut3 sq).take i) →
    ∃ y, iterW (law3HandicapMeasures_L1 sq r player) (((0 : Int), (i : Int), ()), (zs r ((cut3 sq).take i), ())) = some ((wRun r player ((cut3 sq).take i) ((cut3 sq).drop i), ()), (y, ())) ∧ (wRun r player ((cut3 sq).take i) ((cut3 sq).drop i) = 0 → y = zs r (cut3 sq))
  | 0, i, h, h3, ht => by
    have hi : i = (cut3 sq).length := by omega
    refine ⟨zs r ((cut3 sq).take i), iterW_inr ?_, fun _ => by rw [hi, List.take_length]⟩
    rw [law_L1, decide_eq_false (by omega), cond_false, hi, List.drop_length]
    rfl
  | k + 1, i, h, h3, ht => by
    have hil : i < (cut3 sq).length := by omega
    have hsl : ((r.start.length : Nat) : Int) = r.width * r.height := hv.start
    have ha := hv.area
    have t6 := hv.t6
    have hF := law_L1 sq r player 0 (i : Int) (zs r ((cut3 sq).take i))
    rw [decide_eq_true (by omega), cond_true, at?_eq (cut3 sq) _ (by omega) (by omega), Option.bind_some] at hF
    simp only [Int.toNat_natCast] at hF
    rw [List.drop_eq_getElem_cons hil]
    unfold wRun
    rw [bne_self_eq_false, cond_false, w64_id (n := (i : Int) + 1) (by omega) (by omega)] at hF
    have fault : ∀ f : Int, ¬ f = 0 → errP r player ((cut3 sq).take i) (cut3 sq)[i] = f → law3HandicapMeasures_L1 sq r player (((0 : Int), (i : Int), ()), (zs r ((cut3 sq).take i), ())) = some (.inl ((f, (i : Int) + 1, ()), (zs r ((cut3 sq).take i), ()))) →
        ∃ y, iterW (law3HandicapMeasures_L1 sq r player) (((0 : Int), (i : Int), ()), (zs r ((cut3 sq).take i), ())) = some (((if errP r player ((cut3 sq).take i) (cut3 sq)[i] = 0 then wRun r player ((cut3 sq).take i ++ [(cut3 sq)[i]]) ((cut3 sq).drop (i + 1)) else errP r player ((cut3 sq).take i) (cut3 sq)[i]), ()), (y, ())) ∧ ((if errP r player ((cut3 sq).take i) (cut3 sq)[i] = 0 then wRun r player ((cut3 sq).take i ++ [(cut3 sq)[i]]) ((cut3 sq).drop (i + 1)) else errP r player ((cut3 sq).take i) (cut3 sq)[i]) = 0 → y = zs r (cut3 sq)) := fun f hf he hS => by
      refine ⟨zs r ((cut3 sq).take i), ?_, ?_⟩
      · rw [he, if_neg hf, iterW_inl hS]
        exact law_iter1f sq r player f hf _ k (i + 1) (by omega) h3
      · rw [he, if_neg hf]
        exact fun h => absurd h hf
    by_cases c1 : 0 ≤ (cut3 sq)[i] ∧ (cut3 sq)[i] < ((r.start.length : Nat) : Int)
    · have hsn : (cut3 sq)[i].toNat < r.start.length := by omega
      have hd : r.start.getD (cut3 sq)[i].toNat 0 = r.start[(cut3 sq)[i].toNat] := by rw [List.getD_eq_getElem?_getD, List.getElem?_eq_getElem hsn]; rfl
      have hrng := hv.startC _ (List.getElem_mem hsn)
      have hgz : getD' (zs r ((cut3 sq).take i)) (cut3 sq)[i].toNat 0 = if (cut3 sq)[i] ∈ (cut3 sq).take i then 0 else r.start[(cut3 sq)[i].toNat] := by
        have := zs_get r ((cut3 sq).take i) (fun s hs => (ht s hs).1.1) (cut3 sq)[i].toNat hsn
        rw [show (((cut3 sq)[i].toNat : Nat) : Int) = (cut3 sq)[i] by omega, hd] at this
        exact this
      have hin : inb (cut3 sq)[i] (zs r ((cut3 sq).take i)).length = true := inb_iff.2 ⟨c1.1, by rw [zs_len]; exact c1.2⟩
      have himp : ∀ b, imp b true = true := fun b => by cases b <;> rfl
      rw [show ((decide ((cut3 sq)[i] < 0)) || (decide ((cut3 sq)[i] ≥ ((r.start.length : Nat) : Int)))) = false by simp; omega, cond_false, hin, req_true, at?_eq r.start _ c1.1 c1.2, Option.bind_some] at hF
      simp only [himp, req_true] at hF
      rw [hgz] at hF
      have herr : errP r player ((cut3 sq).take i) (cut3 sq)[i] = if (cut3 sq)[i] ∈ (cut3 sq).take i then 7 else if r.start[(cut3 sq)[i].toNat] = 0 ∨ ¬ (r.start[(cut3 sq)[i].toNat] - 1).tmod 2 = player then 8 else 0 := by
        unfold errP
        rw [if_pos c1, hd]
      by_cases c2 : (cut3 sq)[i] ∈ (cut3 sq).take i
      · have hne := (ht _ c2).2
        rw [hd] at hne
        rw [if_pos c2, bne_t (fun e => hne e.symm), cond_true] at hF
        simp only [Option.bind_some] at hF
        rw [if_pos c2] at herr
        exact fault 7 (by decide) herr hF
      · rw [if_neg c2, bne_self_eq_false, cond_false] at hF
        rw [if_neg c2] at herr
        by_cases c3 : r.start[(cut3 sq)[i].toNat] = 0 ∨ ¬ (r.start[(cut3 sq)[i].toNat] - 1).tmod 2 = player
        · rw [if_pos c3] at herr
          have hb : ((r.start[(cut3 sq)[i].toNat] == 0) || (((w64 (r.start[(cut3 sq)[i].toNat] - 1)).tmod 2) != player)) = true := by
            rw [w64_id (by omega) (by omega)]
            rcases c3 with c3 | c3
            · rw [beq_t c3]; rfl
            · rw [bne_t c3, Bool.or_true]
          rw [hb, cond_true] at hF
          simp only [Option.bind_some] at hF
          exact fault 8 (by decide) herr hF
        · rw [if_neg c3] at herr
          have hb : ((r.start[(cut3 sq)[i].toNat] == 0) || (((w64 (r.start[(cut3 sq)[i].toNat] - 1)).tmod 2) != player)) = false := by
            rw [w64_id (by omega) (by omega), beq_f (fun e => c3 (.inl e)), bne_f (Decidable.not_not.1 fun e => c3 (.inr e))]
            rfl
          rw [hb, cond_false] at hF
          simp only [Option.bind_some] at hF
          rw [← zs_snoc, ← List.take_succ_eq_append_getElem hil] at hF
          have ht2 := taken_snoc ht herr
          rw [if_pos herr, iterW_inl hF]
          rw [← List.take_succ_eq_append_getElem hil] at ht2 ⊢
          exact law_iter1 hv player sq k (i + 1) (by omega) h3 ht2
    · have herr : errP r player ((cut3 sq).take i) (cut3 sq)[i] = 4 := by unfold errP; rw [if_neg c1]
      rw [show ((decide ((cut3 sq)[i] < 0)) || (decide ((cut3 sq)[i] ≥ ((r.start.length : Nat) : Int)))) = true by simp; omega, cond_true] at hF
      simp only [Option.bind_some] at hF
      exact fault 4 (by decide) herr hF
theorem law_L3 (sq : List Int) (j i : Int) (y : List Int) : law3HandicapMeasures_L3 sq ((j, ()), ()) ((i, ()), (y, ())) = bif (decide (i < (((((cut3 sq).take j.toNat).drop 0).length : Nat) : Int))) then (Option.bind (at? (((cut3 sq).take j.toNat).drop 0) i) fun s => req (inb s y.length) (some (Sum.inl ((w64 (i + 1), ()), ((y.set s.toNat 0), ())))))
  else some (Sum.inr ((), (y, ()))) := rfl
theorem law_iter3 {r : Rules} (sq : List Int) (h3 : (cut3 sq).length ≤ 3) (ht : Taken r (cut3 sq)) (j : Nat) (hj : j ≤ (cut3 sq).length) : iterW (law3HandicapMeasures_L3 sq (((j : Int), ()), ())) (((0 : Int), ()), (r.start, ())) = some ((), (zs r ((cut3 sq).take j), ())) := by
  have hl : (((cut3 sq).take ((j : Int)).toNat).drop 0) = (cut3 sq).take j := by rw [List.drop_zero, Int.toNat_natCast]
  have hlen : ((cut3 sq).take j).length = j := by rw [List.length_take]; omega
  have := iterW_states (f := law3HandicapMeasures_L3 sq (((j : Int), ()), ())) j (fun i => (((i : Int), ()), (zs r ((cut3 sq).take i), ()))) ((), (zs r ((cut3 sq).take j), ())) (fun i hi => by
    have hic : i < (cut3 sq).length := by omega
    have hm := ht _ (List.getElem_mem hic)
    rw [law_L3, hl, hlen, decide_eq_true (by omega), cond_true, at?_eq _ _ (by omega) (by rw [hlen]; omega), Option.bind_some]
    simp only [Int.toNat_natCast, List.getElem_take]
    rw [show inb (cut3 sq)[i] (zs r ((cut3 sq).take i)).length = true from inb_iff.2 ⟨hm.1.1, by rw [zs_len]; exact hm.1.2⟩, req_true, w64_id (n := (i : Int) + 1) (by omega) (by omega), List.take_succ_eq_append_getElem hic, zs_snoc]
    rfl) (by
    rw [law_L3, hl, hlen, decide_eq_false (by omega), cond_false])
  rw [List.take_zero] at this
  exact this
theorem law_L2 (sq : List Int) (r : Rules) (depth : Int) (a e : Int) (player j : Int) : law3HandicapMeasures_L2 sq r depth (a, (e, ())) player ((j, ()), ()) = bif (decide (j < (w64 ((((cut3 sq).length : Nat) : Int) + 1)))) then (Option.bind (α := ((Unit) × (Unit)) ⊕ (((Int × Unit) × (Unit)) ⊕ (((Unit) × (Unit)) ⊕ Bool))) (req (room (([] : List Int).length + r.start.length) 8) (req (boundsI 0 j (cut3 sq).length) (Option.bind (iterW (law3HandicapMeasures_L3 sq ((j, ()), ())) (((0 : Int), ()), (([] ++ r.start), ()))) fun z =>
    Option.bind (placeBegin (withS r z.2.1)) fun p => Option.bind (minimaxScore (withS r z.2.1) p.1 depth) fun v => bif (v.2.1 != 0) then some (Sum.inr (Sum.inr (Sum.inr ((e == v.2.1) && (a == 0))))) else bif ((v.1 == 0) || (!((decide (v.1 > 0)) == (player == 0)))) then some (Sum.inr (Sum.inr (Sum.inr ((e == 0) && (a == j))))) else some (Sum.inl ((), ()))))) (Sum.elim (fun _ => some (Sum.inl ((w64 (j + 1), ()), ()))) some))
  else some (Sum.inr (Sum.inl ((), ()))) := by
  unfold law3HandicapMeasures_L2
  rfl
theorem law_iter2 {r : Rules} (hr : Rng tyRules r) (hc : ruleErr r = 0) (player depth : Int) (hpl : player = 0 ∨ player = 1) (sq : List Int) (h3 : (cut3 sq).length ≤ 3) (ht : Taken r (cut3 sq)) (v : Int × Int × Unit) : ∀ (n j : Nat), j + n = (cut3 sq).length + 1 → leastFrom r player depth (cut3 sq) j n = v →
    Option.bind (iterW (law3HandicapMeasures_L2 sq r depth (v.1, (v.2.1, ())) player) (((j : Int), ()), ())) (Sum.elim (fun _ => some ((v.2.1 == 8) && (v.1 == 0))) some) = some true
  | 0, j, hj, hv => by
    have hF := law_L2 sq r depth v.1 v.2.1 player (j : Int)
    rw [w64_id (by omega) (by omega), decide_eq_false (by omega), cond_false] at hF
    rw [iterW_inr hF]
    unfold leastFrom at hv
    rw [← hv]
    rfl
  | n + 1, j, hj, hv => by
    have hvr := rules_valid hc
    have hsl : ((r.start.length : Nat) : Int) = r.width * r.height := hvr.start
    have ha := hvr.area
    have hc2 := withS_ok hc ((cut3 sq).take j)
    have hr2 := withS_rng hr ((cut3 sq).take j)
    have hF := law_L2 sq r depth v.1 v.2.1 player (j : Int)
    have hI3 := law_iter3 (r := r) sq h3 ht j (by omega)
    rw [w64_id (n := (((cut3 sq).length : Nat) : Int) + 1) (by omega) (by omega), decide_eq_true (by omega), cond_true, show room (([] : List Int).length + r.start.length) 8 = true from room_ok (by simp; omega), req_true, show boundsI 0 (j : Int) (cut3 sq).length = true by simp [boundsI]; omega, req_true, List.nil_append, hI3, Option.bind_some, begin_spec _ hr2, if_pos hc2, Option.bind_some] at hF
    simp only at hF
    rw [begin_score hr2 hc2 depth, Option.bind_some] at hF
    unfold leastFrom stopK at hv
    by_cases ce : beginErr (withS r (zs r ((cut3 sq).take j))) depth = 0
    · rw [if_pos ce] at hF hv
      simp only [bne_self_eq_false, cond_false] at hF
      have hb : ((beginScore (withS r (zs r ((cut3 sq).take j))) depth == 0) || (!((decide (beginScore (withS r (zs r ((cut3 sq).take j))) depth > 0)) == (player == 0)))) = !decide (winsV (beginScore (withS r (zs r ((cut3 sq).take j))) depth) = 1 + player) := by
        generalize beginScore (withS r (zs r ((cut3 sq).take j))) depth = w
        unfold winsV
        by_cases w1 : w > 0
        · rw [if_pos w1, decide_eq_true w1, beq_f (by omega)]
          rcases hpl with h | h <;> subst h <;> rfl
        · rw [if_neg w1, decide_eq_false w1]
          by_cases w2 : w < 0
          · rw [if_pos w2, beq_f (by omega)]
            rcases hpl with h | h <;> subst h <;> rfl
          · rw [if_neg w2, beq_t (show w = 0 by omega)]
            rcases hpl with h | h <;> subst h <;> rfl
      rw [hb] at hF
      by_cases cw : winsV (beginScore (withS r (zs r ((cut3 sq).take j))) depth) = 1 + player
      · rw [decide_eq_true cw, Bool.not_true, cond_false, Option.bind_some] at hF
        simp only [Sum.elim_inl] at hF
        rw [w64_id (by omega) (by omega)] at hF
        rw [if_pos cw] at hv
        rw [iterW_inl hF]
        exact law_iter2 hr hc player depth hpl sq h3 ht v n (j + 1) (by omega) hv
      · rw [decide_eq_false cw, Bool.not_false, cond_true, Option.bind_some] at hF
        rw [if_neg cw] at hv
        rw [iterW_inr hF, ← hv]
        simp
    · rw [if_neg ce] at hF hv
      simp only [bne_t ce, cond_true] at hF
      rw [Option.bind_some] at hF
      rw [iterW_inr hF, ← hv]
      simp
theorem wRun_taken {r : Rules} {player : Int} : ∀ (l prior : List Int), Taken r prior → wRun r player prior l = 0 → Taken r (prior ++ l)
  | [], prior, h, _ => by rw [List.append_nil]; exact h
  | s :: l, prior, h, e => by
    unfold wRun at e
    by_cases c : errP r player prior s = 0
    · rw [if_pos c] at e
      have := wRun_taken l _ (taken_snoc h c) e
      rw [List.append_assoc] at this
      exact this
    · rw [if_neg c] at e
      exact absurd e c
theorem law3HandicapMeasures_true (r : Rules) (player : Int) (squares : List Int) (depth : Int) (hr : Rng tyRules r) (hp : Rng (.int .i64) player) (hs : Rng (.sl (.int .i64)) squares) (hd : Rng (.int .i64) depth) : law3HandicapMeasures r player squares depth = some true := by
  have h3 : (cut3 squares).length ≤ 3 := by rw [cut3_eq]; simp; omega
  unfold law3HandicapMeasures
  rw [handicaps_true, Option.bind_some, Bool.not_true, cond_false]
  have hb : boundsI 0 (if (3 : Int) < ((squares.length : Nat) : Int) then 3 else ((squares.length : Nat) : Int)) squares.length = true := by
    by_cases c : 3 < squares.length
    · rw [if_pos (by omega)]; simp [boundsI]; omega
    · rw [if_neg (by omega)]; simp [boundsI]
  rw [hb, req_true]
  cases hgd : (law3Great r || decide (depth > 3)) with
  | true => rfl
  | false =>
    have hgr : law3Great r = false := by rw [Bool.or_eq_false_iff] at hgd; exact hgd.1
    have h20 : r.2.2.2.2.1.length ≤ 20 := by
      have : decide (((r.2.2.2.2.1.length : Nat) : Int) > 20) = false := hgr
      rw [decide_eq_false_iff_not] at this
      omega
    rw [cond_false]
    have e1 := wo_spec r player (cut3 squares) hr (by omega)
    have e2 := least_spec r player depth (cut3 squares) hr (by omega)
    have e1' : handicapWithout r player ((squares.take (if (3 : Int) < ((squares.length : Nat) : Int) then 3 else ((squares.length : Nat) : Int)).toNat).drop 0) = _ := e1
    have e2' : handicapLeast r player ((squares.take (if (3 : Int) < ((squares.length : Nat) : Int) then 3 else ((squares.length : Nat) : Int)).toNat).drop 0) depth = _ := e2
    rw [e1', Option.bind_some, e2', Option.bind_some, check_spec r hr, Option.bind_some]
    have hroom : room (([] : List Int).length + r.2.2.2.2.1.length) 8 = true := room_ok (by simp; omega)
    rw [hroom]
    simp only [req_true, List.nil_append]
    by_cases c : ruleErr r = 0
    · have hv := rules_valid c
      by_cases cp : player = 0 ∨ player = 1
      · have hx : ((((ruleErr r == 0) && (player != 0)) && (player != 1))) = false := by
          rcases cp with h | h <;> subst h <;> simp
        rw [hx, cond_false, Option.bind_some]
        simp only
        obtain ⟨y, hy1, hy2⟩ := law_iter1 hv player squares (cut3 squares).length 0 (by omega) h3 (by rw [List.take_zero]; exact fun s hs => by cases hs)
        rw [List.take_zero, List.drop_zero] at hy1 hy2
        have hy1' : iterW (law3HandicapMeasures_L1 squares r player) ((ruleErr r, (0 : Int), ()), (r.2.2.2.2.1, ())) = some ((wRun r player [] (cut3 squares), ()), (y, ())) := by rw [c]; exact hy1
        rw [hy1', Option.bind_some]
        have hwo : woErr r player (cut3 squares) = wRun r player [] (cut3 squares) := by unfold woErr; rw [if_pos c, if_pos cp]
        rw [hwo]
        by_cases cw : wRun r player [] (cut3 squares) = 0
        · have hty := hy2 cw
          have ht := wRun_taken (cut3 squares) [] (fun s hs => by cases hs) cw
          rw [List.nil_append] at ht
          simp only [cw, if_true, bne_self_eq_false, cond_false, Bool.not_false]
          have hsm : law3SameInts (withS r (zs r (cut3 squares))).2.2.2.2.1 y = some true := by
            rw [same3 _ _ (by show (zs r (cut3 squares)).length ≤ _; rw [zs_len]; show r.2.2.2.2.1.length ≤ _; omega), hty]
            show some (decide (zs r (cut3 squares) = zs r (cut3 squares))) = _
            rw [decide_eq_true rfl]
          simp only [gopt, cond_true]
          rw [hsm, Option.bind_some]
          have hnm : ((withS r (zs r (cut3 squares))).1.toList == r.1.toList) = true := beq_self_eq_true _
          rw [hnm]
          simp only [Bool.not_true, Bool.or_self, cond_false]
          exact law_iter2 hr c player depth cp squares h3 ht _ ((cut3 squares).length + 1) 0 (by omega) rfl
        · simp only [if_neg cw]
          rw [bne_t cw, cond_true]
          simp [zR, w64]
          decide
      · have hx : ((((ruleErr r == 0) && (player != 0)) && (player != 1))) = true := by
          rw [not_or] at cp
          rw [c, bne_t cp.1, bne_t cp.2]
          rfl
        rw [hx, cond_true, Option.bind_some]
        simp only
        have hy := law_iter1f squares r player 1 (by decide) r.2.2.2.2.1 (cut3 squares).length 0 (by omega) h3
        have hy' : iterW (law3HandicapMeasures_L1 squares r player) (((1 : Int), (0 : Int), ()), (r.2.2.2.2.1, ())) = _ := hy
        rw [hy', Option.bind_some]
        have hwo : woErr r player (cut3 squares) = 1 := by unfold woErr; rw [if_pos c, if_neg cp]
        rw [hwo]
        rfl
    · have hx : ((((ruleErr r == 0) && (player != 0)) && (player != 1))) = false := by rw [beq_f c]; rfl
      rw [hx, cond_false, Option.bind_some]
      simp only
      have hy := law_iter1f squares r player (ruleErr r) c r.2.2.2.2.1 (cut3 squares).length 0 (by omega) h3
      have hy' : iterW (law3HandicapMeasures_L1 squares r player) ((ruleErr r, (0 : Int), ()), (r.2.2.2.2.1, ())) = _ := hy
      rw [hy', Option.bind_some]
      have hwo : woErr r player (cut3 squares) = ruleErr r := by unfold woErr; rw [if_neg c]
      rw [hwo]
      simp only [if_neg c]
      rw [bne_t c, cond_true]
      simp [zR, w64]
      decide
end Go.Proofs.Ytaaigenpmaiodaa
