/- Comparisons, beginnings, and what the exported functions of moves give. No condition of its own. -/
import Derived.Test.YtocnfflklfeocaaCoreA
namespace Go.Proofs.Ytocnfflklfeocaa
open Go.Den
set_option linter.unusedVariables false
set_option linter.unusedSimpArgs false
set_option maxRecDepth 100000

theorem same_ints (a b : List Int) (ha : a.length ≤ 1000000000) : ref1SameInts a b = some (decide (a = b)) := by
  unfold ref1SameInts
  by_cases hl : a.length = b.length
  · have e : (((a.length : Nat) : Int) != ((b.length : Nat) : Int)) = false := bne_f (by omega)
    rw [e, cond_false]
    have hL := iterW_any (List.range a.length) (fun i => a.getD i 0 != b.getD i 0) (ref1SameInts_L1 a b) (.inr false) (.inl ((), ())) (fun i hi => by
      have hi' : i < a.length := by simpa using hi
      unfold ref1SameInts_L1
      simp only [show decide ((i : Int) < ((a.length : Nat) : Int)) = true by simp; omega, cond_true, List.getElem_range]
      rw [at?_eq a _ (by omega) (by omega), at?_eq b _ (by omega) (by omega), Option.bind_some, Option.bind_some, w64_id (n := (i : Int) + 1) (by omega) (by omega)]
      simp only [Int.toNat_natCast, List.getD_eq_getElem?_getD, List.getElem?_eq_getElem hi', List.getElem?_eq_getElem (show i < b.length by omega), Option.getD_some]
      cases (a[i] != b[i]) <;> rfl) (by unfold ref1SameInts_L1; simp)
    rw [hL]
    cases hany : (List.range a.length).any (fun i => a.getD i 0 != b.getD i 0) with
    | true =>
      rw [List.any_eq_true] at hany
      obtain ⟨i, _, h⟩ := hany
      have : ¬ a = b := fun e => by subst e; simp at h
      simp [this]
    | false =>
      rw [List.any_eq_false] at hany
      have : a = b := by
        apply List.ext_getElem hl
        intro i h1 h2
        have := hany i (List.mem_range.2 h1)
        simpa [List.getD_eq_getElem?_getD, h1, h2] using this
      simp [this]
  · have e : (((a.length : Nat) : Int) != ((b.length : Nat) : Int)) = true := bne_t (by omega)
    rw [e, cond_true]
    have : ¬ a = b := fun h => hl (by rw [h])
    simp [this]
theorem same_moves (a b : List Mv) (ha : a.length ≤ 1000000000) : ref1SameMoves a b = some (decide (a = b)) := by
  unfold ref1SameMoves
  by_cases hl : a.length = b.length
  · have e : (((a.length : Nat) : Int) != ((b.length : Nat) : Int)) = false := bne_f (by omega)
    rw [e, cond_false]
    have hL := iterW_any (List.range a.length) (fun i => !decide (a.getD i d0 = b.getD i d0)) (ref1SameMoves_L1 a b) (.inr false) (.inl ((), ())) (fun i hi => by
      have hi' : i < a.length := by simpa using hi
      unfold ref1SameMoves_L1
      simp only [show decide ((i : Int) < ((a.length : Nat) : Int)) = true by simp; omega, cond_true, List.getElem_range]
      rw [at?_eq a _ (by omega) (by omega), at?_eq b _ (by omega) (by omega), Option.bind_some, Option.bind_some, w64_id (n := (i : Int) + 1) (by omega) (by omega)]
      simp only [Int.toNat_natCast, List.getD_eq_getElem?_getD, List.getElem?_eq_getElem hi', List.getElem?_eq_getElem (show i < b.length by omega), Option.getD_some, mv_beq]
      cases decide (a[i] = b[i]) <;> rfl) (by unfold ref1SameMoves_L1; simp)
    rw [hL]
    cases hany : (List.range a.length).any (fun i => !decide (a.getD i d0 = b.getD i d0)) with
    | true =>
      rw [List.any_eq_true] at hany
      obtain ⟨i, _, h⟩ := hany
      have : ¬ a = b := fun e => by subst e; simp at h
      simp [this]
    | false =>
      rw [List.any_eq_false] at hany
      have : a = b := by
        apply List.ext_getElem hl
        intro i h1 h2
        have := hany i (List.mem_range.2 h1)
        simpa [List.getD_eq_getElem?_getD, h1, h2] using this
      simp [this]
  · have e : (((a.length : Nat) : Int) != ((b.length : Nat) : Int)) = true := bne_t (by omega)
    rw [e, cond_true]
    have : ¬ a = b := fun h => hl (by rw [h])
    simp [this]
theorem place_eta (p q : Place) (h1 : p.1 = q.1) (h2 : p.2.1.1 = q.2.1.1) (h3 : p.2.1.2.1 = q.2.1.2.1) (h4 : p.2.2.1 = q.2.2.1) (h5 : p.2.2.2.1 = q.2.2.2.1) : p = q := by
  obtain ⟨a, ⟨b, c, ⟨⟩⟩, d, e, ⟨⟩⟩ := p
  obtain ⟨a', ⟨b', c', ⟨⟩⟩, d', e', ⟨⟩⟩ := q
  simp only at h1 h2 h3 h4 h5
  subst h1 h2 h3 h4 h5
  rfl
theorem same_place (p q : Place) (h1 : p.1.length ≤ 1000000000) (h2 : p.2.1.1.length ≤ 1000000000) (h3 : p.2.1.2.1.length ≤ 1000000000) : ref1SamePlace p q = some (decide (p = q)) := by
  unfold ref1SamePlace
  rw [same_ints _ _ h1, same_ints _ _ h2, same_ints _ _ h3]
  have hg : ∀ b c : Bool, gopt b false (some c) = some (b && c) := fun b c => by cases b <;> rfl
  simp only [hg, Option.bind_some, Option.some.injEq]
  rw [Bool.eq_iff_iff]
  simp only [Bool.and_eq_true, beq_iff_eq, decide_eq_true_eq]
  constructor
  · rintro h
    exact place_eta p q h.1.1.2.2 h.1.2.2 h.2.2 h.1.1.1.1 h.1.1.1.2
  · rintro rfl
    simp
def handsOf (r : Rules) : List Int := r.2.2.2.1.map fun x => x.2.1
def beginOf (r : Rules) : Place := (r.2.2.2.2.1, (handsOf r, handsOf r, ()), 0, 0, ())
theorem begin_valid {r : Rules} (h : VR0 r) : Valid r (beginOf r) := by
  have hh : ∀ c ∈ handsOf r, 0 ≤ c ∧ c ≤ 1000 := fun c hc => by
    obtain ⟨x, hx, rfl⟩ := List.mem_map.1 hc
    have := h.hand x hx
    omega
  have hl : (handsOf r).length = r.pieces.length := by unfold handsOf; simp
  exact ⟨h, h.start, hl, hl, h.startC, hh, hh, .inl rfl, by show (0 : Int) ≤ 0 ∧ (0 : Int) ≤ 200; omega⟩
theorem map_take {A B : Type} (l : List A) (f : A → B) (i : Nat) (hi : i < l.length) : (l.take (i + 1)).map f = (l.take i).map f ++ [f l[i]] := by
  rw [List.take_succ_eq_append_getElem hi, List.map_append]; rfl
theorem begin_spec (r : Rules) (hr : Rng tyRules r) : placeBegin r = some (if ruleErr r = 0 then (beginOf r, 0, ()) else (([], ([], [], ()), 0, 0, ()), ruleErr r, ())) := by
  unfold placeBegin
  rw [check_spec r hr, Option.bind_some]
  by_cases c : ruleErr r = 0
  · have h := rules_valid c
    have hs : ((r.2.2.2.2.1.length : Nat) : Int) = r.width * r.height := h.start
    have ha := h.area
    have ht : r.2.2.2.1.length ≤ 6 := h.t6
    rw [bne_f c, cond_false, if_pos c, clone_ok _ (by omega), Option.bind_some]
    have hL := iterW_states (f := placeBegin_L1 r) r.2.2.2.1.length (fun i => (((i : Int), ()), ((r.2.2.2.2.1, ((r.2.2.2.1.take i).map (fun x => x.2.1), ((r.2.2.2.1.take i).map (fun x => x.2.1), ((0 : Int), ((0 : Int), ()))))), ()))) ((), ((r.2.2.2.2.1, (handsOf r, (handsOf r, ((0 : Int), ((0 : Int), ()))))), ())) (fun i hi => by
      unfold placeBegin_L1
      simp only [show decide ((i : Int) < ((r.2.2.2.1.length : Nat) : Int)) = true by simp; omega, cond_true]
      rw [at?_eq _ _ (by omega) (by omega), Option.bind_some]
      simp only [Int.toNat_natCast]
      have hroom : ∀ z : Int, room (((r.2.2.2.1.take i).map (fun x => x.2.1)).length + [z].length) 8 = true := fun z => room_ok (by simp; omega)
      simp only [hroom, req_true, agree_self, Option.bind_some]
      rw [w64_id (n := (i : Int) + 1) (by omega) (by omega), map_take _ _ i hi]
      rfl) (by
      unfold placeBegin_L1
      simp only [show decide (((r.2.2.2.1.length : Nat) : Int) < ((r.2.2.2.1.length : Nat) : Int)) = false by simp, cond_false, List.take_length]
      rfl)
    have hL' : iterW (placeBegin_L1 r) (((0 : Int), ()), ((r.2.2.2.2.1, (([] : List Int), (([] : List Int), ((0 : Int), ((0 : Int), ()))))), ())) = _ := hL
    rw [hL', Option.bind_some]
    rfl
  · rw [bne_t c, cond_true, if_neg c]
theorem index_spec (s : List Mv) (v : Mv) (hs : s.length ≤ 1000000000) : slicesContains_Move s v = some (decide (v ∈ s)) := by
  unfold slicesContains_Move slicesIndex_Move
  have hL := iterW_scan s.length (slicesIndex_Move_L1 s v) (fun i => if v = s.getD i d0 then some (.inr (i : Int)) else none) (.inl ((), ())) (fun i hi => by
    unfold slicesIndex_Move_L1
    simp only [show decide ((i : Int) < ((s.length : Nat) : Int)) = true by simp; omega, cond_true]
    rw [at?_eq s _ (by omega) (by omega), Option.bind_some, w64_id (n := (i : Int) + 1) (by omega) (by omega)]
    simp only [Int.toNat_natCast, List.getD_eq_getElem?_getD, List.getElem?_eq_getElem hi, Option.getD_some, mv_beq]
    by_cases e : v = s[i]
    · simp [e]
    · simp [e]) (by unfold slicesIndex_Move_L1; simp)
  rw [hL]
  have key : ∀ k i, i + k = s.length → (Option.bind (Option.bind (some (scan (fun i => if v = s.getD i d0 then some (Sum.inr (i : Int)) else none) (Sum.inl ((), ())) i k)) (Sum.elim (fun _ : Unit × Unit => some (-1 : Int)) some)) fun r2 => some (decide (r2 ≥ (0 : Int)))) = some (decide (v ∈ s.drop i)) := by
    intro k
    induction k with
    | zero =>
      intro i hi
      rw [show i = s.length by omega, List.drop_length]
      simp [scan]
    | succ k ih =>
      intro i hi
      have hil : i < s.length := by omega
      have hmem : (v ∈ s.drop i) ↔ v = s[i] ∨ v ∈ s.drop (i + 1) := by rw [List.drop_eq_getElem_cons hil, List.mem_cons]
      unfold scan
      have hg : s.getD i d0 = s[i] := by simp [List.getD_eq_getElem?_getD, hil]
      by_cases e : v = s[i]
      · rw [decide_eq_true (hmem.2 (.inl e))]
        simp only [hg, if_pos e, Option.bind_some, Sum.elim_inr]
        simp
      · simp only [hg, if_neg e]
        rw [ih (i + 1) (by omega)]
        have h2 : (v ∈ s.drop (i + 1)) ↔ v ∈ s.drop i := ⟨fun h => hmem.2 (.inr h), fun h => (hmem.1 h).resolve_left e⟩
        simp only [h2]
  have := key s.length 0 (by omega)
  simpa using this
theorem movesOf_len {r : Rules} {p : Place} (h : Valid r p) : (movesOf r p).length ≤ 100000 := by
  have h64 := area_len h
  refine Nat.le_trans (flatMap_len _ 384 _ fun i _ => at1_len h i) ?_
  rw [List.length_range]
  omega
end Go.Proofs.Ytocnfflklfeocaa
