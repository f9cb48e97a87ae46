/- The law PlainRuns in plain Lean: it is true. Conditions: numbers in range. -/
import Derived.Test.YtpajmeljfpolcaaPlainRunsS
import Derived.Test.YtpajmeljfpolcaaGameP
namespace Go.Proofs.Ytpajmeljfpolcaa
open Go.Den
set_option linter.unusedVariables false
set_option linter.unusedSimpArgs false
set_option maxRecDepth 100000

abbrev FlB := List Int × List Int × List Int × Int × Int × Unit
theorem begin_L2_0 (r : Rules) (y : FlB) (i : Int) (a h0 h1 : List Int) (z : Int × Int × Unit) : ref1Begin_L2 r (((0 : Int), ()), (y, ())) ((i, ()), ((a, (h0, (h1, z))), ())) = bif (decide (i < ((r.2.2.2.1.length : Nat) : Int))) then (Option.bind (at? r.2.2.2.1 i) fun d => req (room (h0.length + [d.2.1].length) 8) (some (Sum.inl ((w64 (i + 1), ()), ((a, (h0 ++ [d.2.1], (h1, z))), ())))))
    else some (Sum.inr ((), ((a, (h0, (h1, z))), ()))) := by
  unfold ref1Begin_L2
  cases decide (i < ((r.2.2.2.1.length : Nat) : Int)) with
  | false => rfl
  | true =>
    simp only [cond_true]
    cases at? r.2.2.2.1 i with
    | none => rfl
    | some d =>
      simp only [Option.bind_some, show inb (0 : Int) 2 = true from rfl, req_true, beq_self_eq_true, cond_true]
      cases room (h0.length + [d.2.1].length) 8 <;> rfl
theorem begin_L2_1 (r : Rules) (y : FlB) (i : Int) (a h0 h1 : List Int) (z : Int × Int × Unit) : ref1Begin_L2 r (((1 : Int), ()), (y, ())) ((i, ()), ((a, (h0, (h1, z))), ())) = bif (decide (i < ((r.2.2.2.1.length : Nat) : Int))) then (Option.bind (at? r.2.2.2.1 i) fun d => req (room (h1.length + [d.2.1].length) 8) (some (Sum.inl ((w64 (i + 1), ()), ((a, (h0, (h1 ++ [d.2.1], z))), ())))))
    else some (Sum.inr ((), ((a, (h0, (h1, z))), ()))) := by
  unfold ref1Begin_L2
  cases decide (i < ((r.2.2.2.1.length : Nat) : Int)) with
  | false => rfl
  | true =>
    simp only [cond_true]
    cases at? r.2.2.2.1 i with
    | none => rfl
    | some d =>
      simp only [Option.bind_some, show inb (1 : Int) 2 = true from rfl, req_true, show ((1 : Int) == 0) = false from rfl, cond_false]
      cases room (h1.length + [d.2.1].length) 8 <;> rfl
theorem hands_take (r : Rules) (i : Nat) (hi : i < r.2.2.2.1.length) : (r.2.2.2.1.take (i + 1)).map (fun x => x.2.1) = (r.2.2.2.1.take i).map (fun x => x.2.1) ++ [r.2.2.2.1[i].2.1] := by
  rw [List.take_succ_eq_append_getElem hi, List.map_append]; rfl
theorem refBegin_spec {r : Rules} (h : VR0 r) : ref1Begin r = some (beginOf r) := by
  have t6 : r.2.2.2.1.length ≤ 6 := h.t6
  have hs : ((r.2.2.2.2.1.length : Nat) : Int) = r.width * r.height := h.start
  have ha := h.area
  have i0 : ∀ (y : FlB) (a h1 : List Int) (z : Int × Int × Unit), iterW (ref1Begin_L2 r (((0 : Int), ()), (y, ()))) (((0 : Int), ()), ((a, ([], (h1, z))), ())) = some ((), ((a, (handsOf r, (h1, z))), ())) := fun y a h1 z => by
    have := iterW_states (f := ref1Begin_L2 r (((0 : Int), ()), (y, ()))) r.2.2.2.1.length (fun i => (((i : Int), ()), ((a, ((r.2.2.2.1.take i).map (fun x => x.2.1), (h1, z))), ()))) ((), ((a, (handsOf r, (h1, z))), ())) (fun i hi => by
      have hroom : ∀ v : Int, room (((r.2.2.2.1.take i).map (fun x => x.2.1)).length + [v].length) 8 = true := fun v => room_ok (by simp; omega)
      rw [begin_L2_0, ltd _ i hi, cond_true, at?_eq _ _ (by omega) (by omega), Option.bind_some, hroom, req_true, w64_id (n := (i : Int) + 1) (by omega) (by omega), hands_take r i hi]
      rfl) (by rw [begin_L2_0, nltd, cond_false, List.take_length]; rfl)
    exact this
  have i1 : ∀ (y : FlB) (a h0 : List Int) (z : Int × Int × Unit), iterW (ref1Begin_L2 r (((1 : Int), ()), (y, ()))) (((0 : Int), ()), ((a, (h0, ([], z))), ())) = some ((), ((a, (h0, (handsOf r, z))), ())) := fun y a h0 z => by
    have := iterW_states (f := ref1Begin_L2 r (((1 : Int), ()), (y, ()))) r.2.2.2.1.length (fun i => (((i : Int), ()), ((a, (h0, ((r.2.2.2.1.take i).map (fun x => x.2.1), z))), ()))) ((), ((a, (h0, (handsOf r, z))), ())) (fun i hi => by
      have hroom : ∀ v : Int, room (((r.2.2.2.1.take i).map (fun x => x.2.1)).length + [v].length) 8 = true := fun v => room_ok (by simp; omega)
      rw [begin_L2_1, ltd _ i hi, cond_true, at?_eq _ _ (by omega) (by omega), Option.bind_some, hroom, req_true, w64_id (n := (i : Int) + 1) (by omega) (by omega), hands_take r i hi]
      rfl) (by rw [begin_L2_1, nltd, cond_false, List.take_length]; rfl)
    exact this
  have hF : ∀ (i : Int) (y : FlB), ref1Begin_L1 r ((i, ()), (y, ())) = bif (decide (i < 2)) then (Option.bind (iterW (ref1Begin_L2 r ((i, ()), (y, ()))) (((0 : Int), ()), (y, ()))) fun x => some (Sum.inl ((w64 (i + 1), ()), (x.2.1, ())))) else some (Sum.inr ((), (y, ()))) := fun i y => by
    unfold ref1Begin_L1
    cases decide (i < 2) with
    | false => rfl
    | true =>
      simp only [cond_true]
      show Option.bind (Option.bind (iterW (ref1Begin_L2 r ((i, ()), (y, ()))) (((0 : Int), ()), (y, ()))) _) _ = _
      cases iterW (ref1Begin_L2 r ((i, ()), (y, ()))) (((0 : Int), ()), (y, ())) <;> rfl
  unfold ref1Begin
  have hroom : room (([] : List Int).length + r.2.2.2.2.1.length) 8 = true := room_ok (by simp; omega)
  rw [hroom, req_true, List.nil_append]
  have e0 := hF 0 (r.2.2.2.2.1, ([], ([], (0, (0, ())))))
  rw [i0, Option.bind_some, show decide ((0 : Int) < 2) = true from rfl, cond_true] at e0
  have e1 := hF 1 (r.2.2.2.2.1, (handsOf r, ([], (0, (0, ())))))
  rw [i1, Option.bind_some, show decide ((1 : Int) < 2) = true from rfl, cond_true] at e1
  have e2 := hF 2 (r.2.2.2.2.1, (handsOf r, (handsOf r, (0, (0, ())))))
  rw [show decide ((2 : Int) < 2) = false from rfl, cond_false] at e2
  have : iterW (ref1Begin_L1 r) (((0 : Int), ()), ((r.2.2.2.2.1, (([] : List Int), (([] : List Int), ((0 : Int), ((0 : Int), ()))))), ())) = some ((), ((r.2.2.2.2.1, (handsOf r, (handsOf r, (0, (0, ()))))), ())) := by
    rw [iterW_inl e0]
    show iterW (ref1Begin_L1 r) (((1 : Int), ()), ((r.2.2.2.2.1, (handsOf r, ([], (0, (0, ()))))), ())) = _
    rw [iterW_inl e1]
    exact iterW_inr e2
  rw [this]
  rfl
/-! ### the law's counts -/
theorem samer_spec {r : Rules} {p q : Place} (hp : Valid r p) : ref1SamePlace (p.1, ((p.2.1.1, (p.2.1.2.1, ())), (p.2.2.1, (q.2.2.2.1, ())))) q = some (same0 p q) := by
  have h64 := area_len hp
  have t6 := hp.r0.t6
  have l0 : p.2.1.1.length = r.pieces.length := hp.l0
  have l1 : p.2.1.2.1.length = r.pieces.length := hp.l1
  rw [same_place _ _ (by simp only; omega) (by simp only; omega) (by simp only; omega)]
  congr 1
  unfold same0
  rw [Bool.eq_iff_iff]
  simp only [decide_eq_true_eq, Bool.and_eq_true, beq_iff_eq]
  obtain ⟨a, ⟨b, c, ⟨⟩⟩, d, e, ⟨⟩⟩ := p
  obtain ⟨a', ⟨b', c', ⟨⟩⟩, d', e', ⟨⟩⟩ := q
  simp only [Prod.mk.injEq, and_true]
  constructor
  · rintro ⟨h1, ⟨h2, h3⟩, h4⟩; exact ⟨⟨⟨h1, h2⟩, h3⟩, h4⟩
  · rintro ⟨⟨⟨h1, h2⟩, h3⟩, h4⟩; exact ⟨h1, ⟨h2, h3⟩, h4⟩
noncomputable def cntR (L : List Place) (c i : Int) : Option (((Int × Int × Unit) × Unit) ⊕ ((Int × Unit) × Unit)) :=
  bif (decide (i < ((L.length : Nat) : Int))) then (req (inb i L.length) (Option.bind (ref1SamePlace ((getD' L i.toNat dP).1, (((getD' L i.toNat dP).2.1.1, ((getD' L i.toNat dP).2.1.2.1, ())), ((getD' L i.toNat dP).2.2.1, ((getD' L (w64 (((L.length : Nat) : Int) - 1)).toNat dP).2.2.2.1, ())))) (getD' L (w64 (((L.length : Nat) : Int) - 1)).toNat dP)) fun x : Bool =>
    Option.bind (bif x then some ((w64 (c + 1), ()), ()) else some ((c, ()), ())) fun y : (Int × Unit) × Unit => some (Sum.inl ((y.1.1, w64 (i + 1), ()), ()))))
  else some (Sum.inr ((c, ()), ()))
theorem cntR_loop {r : Rules} {L : List Place} (hv : ∀ p ∈ L, Valid r p) (h0 : 0 < L.length) (h1 : L.length ≤ 1000000) (f : ((Int × Int × Unit) × Unit) → Option (((Int × Int × Unit) × Unit) ⊕ ((Int × Unit) × Unit)))
    (hf : ∀ c i, f ((c, i, ()), ()) = cntR L c i) : iterW f (((0 : Int), (0 : Int), ()), ()) = some ((((timesOf L : Nat) : Int), ()), ()) := by
  have hw := w_last h0 (by omega)
  have := iter_count L (fun p => same0 p (lastP L)) f (fun c => ((c, ()), ())) (fun i hi c hc0 hc1 => by
    rw [hf]
    unfold cntR
    rw [ltd L i hi, cond_true, inbN L i hi, req_true, hw, Int.toNat_natCast, Int.toNat_natCast, gd_eq L i hi, samer_spec (hv _ (List.getElem_mem hi)), Option.bind_some]
    show Option.bind (bif same0 L[i] (lastP L) then _ else _) _ = _
    rw [w64_id (n := c + 1) (by omega) (by omega), w64_id (n := (i : Int) + 1) (by omega) (by omega)]
    cases same0 L[i] (lastP L) <;> rfl) (fun c => by
    rw [hf]
    unfold cntR
    rw [nltd, cond_false])
  rw [this]
  rfl
theorem law_L2 (u : Int × Unit) (L : List Place) (c i : Int) : law1PlainRuns_L2 (u, ((L, ()), ())) ((c, i, ()), ()) = cntR L c i := rfl
theorem law_L3 (u : Unit) (L : List Place) (c i : Int) : law1PlainRuns_L3 (u, ((L, ()), ())) ((c, i, ()), ()) = cntR L c i := rfl
theorem law_L1 (l : List Mv) (r : Rules) (x : Place × Int × Int × Unit) (i : Int) (L : List Place) : law1PlainRuns_L1 l r x ((i, ()), ((L, ()), ())) = bif (decide (i < ((((l.take (if 24 < ((l.length : Nat) : Int) then 24 else ((l.length : Nat) : Int)).toNat).drop 0).length : Nat) : Int))) then (Option.bind (at? ((l.take (if 24 < ((l.length : Nat) : Int) then 24 else ((l.length : Nat) : Int)).toNat).drop 0) i) fun m =>
    req (inb (w64 (((L.length : Nat) : Int) - 1)) L.length) (Option.bind (req (inb (w64 (((L.length : Nat) : Int) - 1)) L.length) (Option.bind (ref1Result r (getD' L (w64 (((L.length : Nat) : Int) - 1)).toNat dP)) fun a => Option.bind (iterW (law1PlainRuns_L2 ((i, ()), ((L, ()), ()))) (((0 : Int), (0 : Int), ()), ())) fun b =>
      bif (((a == 0) && (decide (r.repeats > 0))) && (decide (b.1.1 ≥ r.repeats))) then some ((true, ()), ()) else some (((a != 0), ()), ()))) fun x16 : (Bool × Unit) × Unit =>
      Option.bind (bif x16.1.1 then some ((14, ()), ()) else Option.bind (ref1Allowed r (getD' L (w64 (((L.length : Nat) : Int) - 1)).toNat dP) m) fun c => Option.bind (bif (!c) then some ((13, ()), ()) else some ((0, ()), ())) fun d : (Int × Unit) × Unit => some ((d.1.1, ()), ())) fun x19 : (Int × Unit) × Unit =>
      bif (x19.1.1 != 0) then some (Sum.inr (Sum.inr (((x.2.2.1 == x19.1.1) && (x.2.1 == 0)) && (((x.1.1.length : Nat) : Int) == 0))))
      else Option.bind (Option.bind (ref1After r (getD' L (w64 (((L.length : Nat) : Int) - 1)).toNat dP) m) fun z => req (room (L.length + 1) 88) (some ((), ((L ++ [z], ()), ())))) fun y : Unit × ((List Place × Unit) × Unit) => some (Sum.inl ((w64 (i + 1), ()), ((y.2.1.1, ()), ())))))
    else some (Sum.inr (Sum.inl ((), ((L, ()), ())))) := by
  unfold law1PlainRuns_L1
  simp only [agree_self]
  rfl
def badX (x : Place × Int × Int × Unit) (e : Int) : Bool := ((x.2.2.1 == e) && (x.2.1 == 0)) && (((x.1.1.length : Nat) : Int) == 0)
theorem law_iter {r : Rules} (hr : Rng tyRules r) (l k : List Mv) (hk : (l.take (if 24 < ((l.length : Nat) : Int) then 24 else ((l.length : Nat) : Int)).toNat).drop 0 = k) (hk24 : k.length ≤ 24) (x : Place × Int × Int × Unit) : ∀ (n : Nat) (i : Nat) (s : List Place × List Mv), i + n = k.length → s.2.length + n ≤ 24 → OKG r s →
    iterW (law1PlainRuns_L1 l r x) (((i : Int), ()), ((s.1, ()), ())) = some (match runG r (k.drop i) s with
      | .inl s' => .inl ((), ((s'.1, ()), ()))
      | .inr e => .inr (badX x e))
  | 0, i, s, hi, h24, h => by
    have : i = k.length := by omega
    subst this
    refine iterW_inr ?_
    rw [law_L1, hk, nltd, cond_false, List.drop_length]
    rfl
  | n + 1, i, s, hi, h24, h => by
    have hil : i < k.length := by omega
    have hl := h.len
    have hv := h.last
    have hrep := (rules_valid h.ok).repeats
    have hw := w_last (L := s.1) (by omega) (by omega)
    have hL := law_L1 l r x (i : Int) s.1
    have hla : getD' s.1 (s.1.length - 1) dP = lastP s.1 := rfl
    rw [hk, ltd k i hil, cond_true, at?_eq k _ (by omega) (by omega), Option.bind_some, hw, inbN s.1 _ (by omega), req_true, req_true] at hL
    simp only [Int.toNat_natCast, hla] at hL
    rw [refResult_spec hv, Option.bind_some, cntR_loop h.all (by omega) (by omega) _ (law_L2 ((i : Int), ()) s.1), Option.bind_some] at hL
    have hR : (bif (((resultOf r (lastP s.1) == 0) && (decide (r.repeats > 0))) && (decide (((timesOf s.1 : Nat) : Int) ≥ r.repeats))) then some ((true, ()), ()) else some (((resultOf r (lastP s.1) != 0), ()), ())) = some ((decide (¬ gameRes r s.1 = 0), ()), ()) := by
      have hq : decide (r.repeats > 0) = (r.repeats != 0) := by
        rw [Bool.eq_iff_iff]; simp; omega
      rw [hq]
      unfold gameRes
      cases hc : (((resultOf r (lastP s.1) == 0) && (r.repeats != 0)) && (decide (((timesOf s.1 : Nat) : Int) ≥ r.repeats))) with
      | true => rfl
      | false =>
        simp only [cond_false]
        by_cases h0 : resultOf r (lastP s.1) = 0 <;> simp [h0]
    simp only at hL
    rw [hR, Option.bind_some] at hL
    rw [List.drop_eq_getElem_cons hil]
    unfold runG
    by_cases c1 : gameRes r s.1 = 0
    · rw [decide_eq_false (by simp [c1]), cond_false, allowed_spec hv, Option.bind_some] at hL
      by_cases c2 : allowedB r (lastP s.1) k[i] = true
      · have e : stepG r s k[i] = 0 := by unfold stepG; rw [if_pos c1, if_pos c2, if_neg (by omega)]
        rw [c2, Bool.not_true, cond_false, Option.bind_some, Option.bind_some] at hL
        simp only [bne_self_eq_false, cond_false] at hL
        rw [refAfter_spec hv c2, Option.bind_some, room_ok (n := s.1.length + 1) (by omega), req_true, Option.bind_some, w64_id (by omega) (by omega)] at hL
        rw [iterW_inl hL, if_pos e]
        exact law_iter hr l k hk hk24 x n (i + 1) (nextG r s k[i]) (by omega) (by unfold nextG; simp; omega) (next_ok h e)
      · have e : stepG r s k[i] = 13 := by unfold stepG; rw [if_pos c1, if_neg c2]
        rw [show allowedB r (lastP s.1) k[i] = false by simpa using c2, Bool.not_false, cond_true, Option.bind_some, Option.bind_some] at hL
        simp only [bne_t (show ¬ (13 : Int) = 0 by decide), cond_true] at hL
        rw [iterW_inr hL, e, if_neg (by decide)]
        rfl
    · have e : stepG r s k[i] = 14 := by unfold stepG; rw [if_neg c1]
      rw [decide_eq_true c1, cond_true, Option.bind_some] at hL
      simp only [bne_t (show ¬ (14 : Int) = 0 by decide), cond_true] at hL
      rw [iterW_inr hL, e, if_neg (by decide)]
      rfl
theorem eta_r (r : Rules) : (r.1, (r.2.1, (r.2.2.1, (r.2.2.2.1, (r.2.2.2.2.1, (r.2.2.2.2.2.1, (r.2.2.2.2.2.2.1, (r.2.2.2.2.2.2.2.1, (r.2.2.2.2.2.2.2.2.1, (r.2.2.2.2.2.2.2.2.2.1, (r.2.2.2.2.2.2.2.2.2.2.1, ()))))))))))) = r := rfl
theorem three_rng : Rng tyRules law1Three := rngB_ok _ _ (by decide +kernel)
theorem three_run : ((((runRes law1Three [(law1Put 0), (law1Put 3), (law1Put 1), (law1Put 4), (law1Put 2)]).2.2.1 != 0) || ((runRes law1Three [(law1Put 0), (law1Put 3), (law1Put 1), (law1Put 4), (law1Put 2)]).2.1 != 1)) || ((((runRes law1Three [(law1Put 0), (law1Put 3), (law1Put 1), (law1Put 4), (law1Put 2)]).1.1.length : Nat) : Int) != 9)) = false := by decide +kernel
theorem cut24 (l : List Mv) : (l.take (if 24 < ((l.length : Nat) : Int) then 24 else ((l.length : Nat) : Int)).toNat).drop 0 = l.take 24 := by
  rw [List.drop_zero]
  by_cases c : 24 < l.length
  · rw [if_pos (by omega)]; rfl
  · rw [if_neg (by omega), Int.toNat_natCast, List.take_length, List.take_of_length_le (by omega)]
theorem law1PlainRuns_true (r : Rules) (l : List Mv) (hr : Rng tyRules r) (hl : Rng (.sl (.st (.int .i64) (.st (.int .i64) (.st (.int .i64) .nil)))) l) : law1PlainRuns r l = some true := by
  have hlen : l.length ≤ 9223372036854775807 := hl.1
  unfold law1PlainRuns
  rw [eta_r, run_spec law1Three _ three_rng (by simp), Option.bind_some, three_run, cond_false]
  have hb : boundsI 0 (if 24 < ((l.length : Nat) : Int) then 24 else ((l.length : Nat) : Int)) l.length = true := by
    simp only [boundsI]
    by_cases c : 24 < l.length
    · rw [if_pos (by omega)]; simp; omega
    · rw [if_neg (by omega)]; simp
  rw [hb, req_true, cut24]
  have hk := cut24 l
  generalize hkk : l.take 24 = k at hk ⊢
  have hk24 : k.length ≤ 24 := by rw [← hkk]; simp; omega
  rw [run_spec r k hr (by omega), Option.bind_some, error_spec r hr, Option.bind_some]
  by_cases c : ruleErr r = 0
  · rw [bne_f c, cond_false]
    cases decide (((r.2.2.2.2.1.length : Nat) : Int) > 20) with
    | true => rfl
    | false =>
      rw [cond_false, refBegin_spec (rules_valid c), Option.bind_some]
      have hI := law_iter hr l k hk hk24 (runRes r k) k.length 0 ([beginOf r], []) (by omega) (by simp; omega) (begin_okG c)
      rw [List.drop_zero] at hI
      have hI' : iterW (law1PlainRuns_L1 l r (runRes r k)) (((0 : Int), ()), ((([((beginOf r).1, (((beginOf r).2.1.1, ((beginOf r).2.1.2.1, ())), (beginOf r).2.2))]), ()), ())) = _ := hI
      rw [hI', Option.bind_some]
      unfold runRes gameOf
      simp only [if_pos c]
      cases hg : runG r k ([beginOf r], []) with
      | inr e =>
        simp only [Sum.elim_inr]
        unfold badX
        simp [dP]
      | inl s =>
        have hok := (run_ok k _ _ (begin_okG c) hg).1
        have hv := hok.last
        have hl1 := hok.len
        have hm := hok.most
        have hrep := (rules_valid c).repeats
        have hw := w_last (L := s.1) (by omega) (by omega)
        have hla : getD' s.1 (s.1.length - 1) dP = lastP s.1 := rfl
        have hla' : getD' s.1 (s.1.length - 1) (([], (([], ([], ())), ((0 : Int), ((0 : Int), ())))) : Place) = lastP s.1 := rfl
        simp only [Sum.elim_inl, beq_self_eq_true, cond_true, hw, inbN s.1 (s.1.length - 1) (by omega), req_true, Int.toNat_natCast, hla']
        rw [refResult_spec hv]
        simp only [Option.bind_some]
        rw [cntR_loop hok.all (by omega) (by omega) _ (law_L3 () s.1)]
        simp only [Option.bind_some]
        have h64 := area_len hv
        have t6 := hv.r0.t6
        have l0 : (lastP s.1).2.1.1.length = r.pieces.length := hv.l0
        have l1 : (lastP s.1).2.1.2.1.length = r.pieces.length := hv.l1
        have hsame : ref1SamePlace ((lastP s.1).1, (((lastP s.1).2.1.1, ((lastP s.1).2.1.2.1, ())), (lastP s.1).2.2)) (lastP s.1) = some true := by
          have := same_place (lastP s.1) (lastP s.1) (by omega) (by omega) (by omega)
          rw [decide_eq_true rfl] at this
          exact this
        rw [hsame]
        have hq : decide (r.2.2.2.2.2.2.2.2.2.2.1 > 0) = (r.repeats != 0) := by
          rw [Bool.eq_iff_iff]
          simp only [decide_eq_true_eq, bne_iff_ne]
          show r.repeats > 0 ↔ r.repeats ≠ 0
          omega
        rw [hq]
        have himp : ∀ b, imp b true = true := fun b => by cases b <;> rfl
        have hgr : gameRes r s.1 = bif ((resultOf r (lastP s.1) == 0) && (r.repeats != 0)) && decide (((timesOf s.1 : Nat) : Int) ≥ r.2.2.2.2.2.2.2.2.2.2.1) then 3 else resultOf r (lastP s.1) := rfl
        rw [hgr]
        cases ((resultOf r (lastP s.1) == 0) && (r.repeats != 0)) && decide (((timesOf s.1 : Nat) : Int) ≥ r.2.2.2.2.2.2.2.2.2.2.1) with
        | true => simp [himp, req_true]
        | false => simp [himp, req_true]
  · rw [bne_t c, cond_true]
    unfold runRes
    rw [if_neg c]
    simp [dP]
end Go.Proofs.Ytpajmeljfpolcaa
