/- The beginning of a game, where no move is made. No condition of its own. -/
import Derived.Test.YtjikbbjjnndcbaaDoorCoreV
namespace Go.Proofs.YtjikbbjjnndcbaaDoor
open Go.Den
set_option linter.unusedVariables false
set_option linter.unusedSimpArgs false
set_option maxRecDepth 100000
theorem ltd {A : Type} (xs : List A) (i : Nat) (hi : i < xs.length) : decide ((i : Int) < ((xs.length : Nat) : Int)) = true := by simp; omega
theorem nltd {A : Type} (xs : List A) : decide (((xs.length : Nat) : Int) < ((xs.length : Nat) : Int)) = false := by simp
theorem same_ints (a b : List Int) (ha : a.length ≤ 1000000000) : ref1SameInts a b = some (decide (a = b)) := by
  unfold ref1SameInts
  by_cases hl : a.length = b.length
  · have e : (((a.length : Nat) : Int) != ((b.length : Nat) : Int)) = false := bne_f (by omega)
    rw [e, cond_false]
    have hL := iterW_any (List.range a.length) (fun i => a.getD i 0 != b.getD i 0) (ref1SameInts_L1 a b) (.inr false) (.inl ((), ())) (fun i hi => by
      have hi' : i < a.length := by simpa using hi
      unfold ref1SameInts_L1
      simp only [show decide ((i : Int) < ((a.length : Nat) : Int)) = true by simp; omega, cond_true, List.getElem_range]
      rw [at?_eq a _ (by omega) (by omega), at?_eq b _ (by omega) (by omega), Option.bind_some, Option.bind_some, w64_id (n := (i : Int) + 1) (by omega) (by omega)]
      simp only [Int.toNat_natCast, List.getD_eq_getElem?_getD, List.getElem?_eq_getElem hi', List.getElem?_eq_getElem (show i < b.length by omega), Option.getD_some]
      cases (a[i] != b[i]) <;> rfl) (by unfold ref1SameInts_L1; simp)
    rw [hL]
    cases hany : (List.range a.length).any (fun i => a.getD i 0 != b.getD i 0) with
    | true =>
      rw [List.any_eq_true] at hany
      obtain ⟨i, _, h⟩ := hany
      have : ¬ a = b := fun e => by subst e; simp at h
      simp [this]
    | false =>
      rw [List.any_eq_false] at hany
      have : a = b := by
        apply List.ext_getElem hl
        intro i h1 h2
        have := hany i (List.mem_range.2 h1)
        simpa [List.getD_eq_getElem?_getD, h1, h2] using this
      simp [this]
  · have e : (((a.length : Nat) : Int) != ((b.length : Nat) : Int)) = true := bne_t (by omega)
    rw [e, cond_true]
    have : ¬ a = b := fun h => hl (by rw [h])
    simp [this]
theorem place_eta (p q : Place) (h1 : p.1 = q.1) (h2 : p.2.1.1 = q.2.1.1) (h3 : p.2.1.2.1 = q.2.1.2.1) (h4 : p.2.2.1 = q.2.2.1) (h5 : p.2.2.2.1 = q.2.2.2.1) : p = q := by
  obtain ⟨a, ⟨b, c, ⟨⟩⟩, d, e, ⟨⟩⟩ := p
  obtain ⟨a', ⟨b', c', ⟨⟩⟩, d', e', ⟨⟩⟩ := q
  simp only at h1 h2 h3 h4 h5
  subst h1 h2 h3 h4 h5
  rfl
theorem same_place (p q : Place) (h1 : p.1.length ≤ 1000000000) (h2 : p.2.1.1.length ≤ 1000000000) (h3 : p.2.1.2.1.length ≤ 1000000000) : ref1SamePlace p q = some (decide (p = q)) := by
  unfold ref1SamePlace
  rw [same_ints _ _ h1, same_ints _ _ h2, same_ints _ _ h3]
  have hg : ∀ b c : Bool, gopt b false (some c) = some (b && c) := fun b c => by cases b <;> rfl
  simp only [hg, Option.bind_some, Option.some.injEq]
  rw [Bool.eq_iff_iff]
  simp only [Bool.and_eq_true, beq_iff_eq, decide_eq_true_eq]
  constructor
  · rintro h
    exact place_eta p q h.1.1.2.2 h.1.2.2 h.2.2 h.1.1.1.1 h.1.1.1.2
  · rintro rfl
    simp
def handsOf (r : Rules) : List Int := r.2.2.2.1.map fun x => x.2.1
def beginOf (r : Rules) : Place := (r.2.2.2.2.1, (handsOf r, handsOf r, ()), 0, 0, ())
theorem begin_valid {r : Rules} (h : VR0 r) : Valid r (beginOf r) := by
  have hh : ∀ c ∈ handsOf r, 0 ≤ c ∧ c ≤ 1000 := fun c hc => by
    obtain ⟨x, hx, rfl⟩ := List.mem_map.1 hc
    have := h.hand x hx
    omega
  have hl : (handsOf r).length = r.pieces.length := by unfold handsOf; simp
  exact ⟨h, h.start, hl, hl, h.startC, hh, hh, .inl rfl, by show (0 : Int) ≤ 0 ∧ (0 : Int) ≤ 200; omega⟩
theorem map_take {A B : Type} (l : List A) (f : A → B) (i : Nat) (hi : i < l.length) : (l.take (i + 1)).map f = (l.take i).map f ++ [f l[i]] := by
  rw [List.take_succ_eq_append_getElem hi, List.map_append]; rfl
theorem begin_spec (r : Rules) (hr : Rng tyRules r) : placeBegin r = some (if ruleErr r = 0 then (beginOf r, 0, ()) else (([], ([], [], ()), 0, 0, ()), ruleErr r, ())) := by
  unfold placeBegin
  rw [check_spec r hr, Option.bind_some]
  by_cases c : ruleErr r = 0
  · have h := rules_valid c
    have hs : ((r.2.2.2.2.1.length : Nat) : Int) = r.width * r.height := h.start
    have ha := h.area
    have ht : r.2.2.2.1.length ≤ 6 := h.t6
    rw [bne_f c, cond_false, if_pos c, clone_ok _ (by omega), Option.bind_some]
    have hL := iterW_states (f := placeBegin_L1 r) r.2.2.2.1.length (fun i => (((i : Int), ()), ((r.2.2.2.2.1, ((r.2.2.2.1.take i).map (fun x => x.2.1), ((r.2.2.2.1.take i).map (fun x => x.2.1), ((0 : Int), ((0 : Int), ()))))), ()))) ((), ((r.2.2.2.2.1, (handsOf r, (handsOf r, ((0 : Int), ((0 : Int), ()))))), ())) (fun i hi => by
      unfold placeBegin_L1
      simp only [show decide ((i : Int) < ((r.2.2.2.1.length : Nat) : Int)) = true by simp; omega, cond_true]
      rw [at?_eq _ _ (by omega) (by omega), Option.bind_some]
      simp only [Int.toNat_natCast]
      have hroom : ∀ z : Int, room (((r.2.2.2.1.take i).map (fun x => x.2.1)).length + [z].length) 8 = true := fun z => room_ok (by simp; omega)
      simp only [hroom, req_true, agree_self, Option.bind_some]
      rw [w64_id (n := (i : Int) + 1) (by omega) (by omega), map_take _ _ i hi]
      rfl) (by
      unfold placeBegin_L1
      simp only [show decide (((r.2.2.2.1.length : Nat) : Int) < ((r.2.2.2.1.length : Nat) : Int)) = false by simp, cond_false, List.take_length]
      rfl)
    have hL' : iterW (placeBegin_L1 r) (((0 : Int), ()), ((r.2.2.2.2.1, (([] : List Int), (([] : List Int), ((0 : Int), ((0 : Int), ()))))), ())) = _ := hL
    rw [hL', Option.bind_some]
    rfl
  · rw [bne_t c, cond_true, if_neg c]
abbrev FlB := List Int × List Int × List Int × Int × Int × Unit
theorem begin_L2_0 (r : Rules) (y : FlB) (i : Int) (a h0 h1 : List Int) (z : Int × Int × Unit) : ref1Begin_L2 r (((0 : Int), ()), (y, ())) ((i, ()), ((a, (h0, (h1, z))), ())) = bif (decide (i < ((r.2.2.2.1.length : Nat) : Int))) then (Option.bind (at? r.2.2.2.1 i) fun d => req (room (h0.length + [d.2.1].length) 8) (some (Sum.inl ((w64 (i + 1), ()), ((a, (h0 ++ [d.2.1], (h1, z))), ())))))
    else some (Sum.inr ((), ((a, (h0, (h1, z))), ()))) := by
  unfold ref1Begin_L2
  cases decide (i < ((r.2.2.2.1.length : Nat) : Int)) with
  | false => rfl
  | true =>
    simp only [cond_true]
    cases at? r.2.2.2.1 i with
    | none => rfl
    | some d =>
      simp only [Option.bind_some, show inb (0 : Int) 2 = true from rfl, req_true, beq_self_eq_true, cond_true]
      cases room (h0.length + [d.2.1].length) 8 <;> rfl
theorem begin_L2_1 (r : Rules) (y : FlB) (i : Int) (a h0 h1 : List Int) (z : Int × Int × Unit) : ref1Begin_L2 r (((1 : Int), ()), (y, ())) ((i, ()), ((a, (h0, (h1, z))), ())) = bif (decide (i < ((r.2.2.2.1.length : Nat) : Int))) then (Option.bind (at? r.2.2.2.1 i) fun d => req (room (h1.length + [d.2.1].length) 8) (some (Sum.inl ((w64 (i + 1), ()), ((a, (h0, (h1 ++ [d.2.1], z))), ())))))
    else some (Sum.inr ((), ((a, (h0, (h1, z))), ()))) := by
  unfold ref1Begin_L2
  cases decide (i < ((r.2.2.2.1.length : Nat) : Int)) with
  | false => rfl
  | true =>
    simp only [cond_true]
    cases at? r.2.2.2.1 i with
    | none => rfl
    | some d =>
      simp only [Option.bind_some, show inb (1 : Int) 2 = true from rfl, req_true, show ((1 : Int) == 0) = false from rfl, cond_false]
      cases room (h1.length + [d.2.1].length) 8 <;> rfl
theorem hands_take (r : Rules) (i : Nat) (hi : i < r.2.2.2.1.length) : (r.2.2.2.1.take (i + 1)).map (fun x => x.2.1) = (r.2.2.2.1.take i).map (fun x => x.2.1) ++ [r.2.2.2.1[i].2.1] := by
  rw [List.take_succ_eq_append_getElem hi, List.map_append]; rfl
theorem refBegin_spec {r : Rules} (h : VR0 r) : ref1Begin r = some (beginOf r) := by
  have t6 : r.2.2.2.1.length ≤ 6 := h.t6
  have hs : ((r.2.2.2.2.1.length : Nat) : Int) = r.width * r.height := h.start
  have ha := h.area
  have i0 : ∀ (y : FlB) (a h1 : List Int) (z : Int × Int × Unit), iterW (ref1Begin_L2 r (((0 : Int), ()), (y, ()))) (((0 : Int), ()), ((a, ([], (h1, z))), ())) = some ((), ((a, (handsOf r, (h1, z))), ())) := fun y a h1 z => by
    have := iterW_states (f := ref1Begin_L2 r (((0 : Int), ()), (y, ()))) r.2.2.2.1.length (fun i => (((i : Int), ()), ((a, ((r.2.2.2.1.take i).map (fun x => x.2.1), (h1, z))), ()))) ((), ((a, (handsOf r, (h1, z))), ())) (fun i hi => by
      have hroom : ∀ v : Int, room (((r.2.2.2.1.take i).map (fun x => x.2.1)).length + [v].length) 8 = true := fun v => room_ok (by simp; omega)
      rw [begin_L2_0, ltd _ i hi, cond_true, at?_eq _ _ (by omega) (by omega), Option.bind_some, hroom, req_true, w64_id (n := (i : Int) + 1) (by omega) (by omega), hands_take r i hi]
      rfl) (by rw [begin_L2_0, nltd, cond_false, List.take_length]; rfl)
    exact this
  have i1 : ∀ (y : FlB) (a h0 : List Int) (z : Int × Int × Unit), iterW (ref1Begin_L2 r (((1 : Int), ()), (y, ()))) (((0 : Int), ()), ((a, (h0, ([], z))), ())) = some ((), ((a, (h0, (handsOf r, z))), ())) := fun y a h0 z => by
    have := iterW_states (f := ref1Begin_L2 r (((1 : Int), ()), (y, ()))) r.2.2.2.1.length (fun i => (((i : Int), ()), ((a, (h0, ((r.2.2.2.1.take i).map (fun x => x.2.1), z))), ()))) ((), ((a, (h0, (handsOf r, z))), ())) (fun i hi => by
      have hroom : ∀ v : Int, room (((r.2.2.2.1.take i).map (fun x => x.2.1)).length + [v].length) 8 = true := fun v => room_ok (by simp; omega)
      rw [begin_L2_1, ltd _ i hi, cond_true, at?_eq _ _ (by omega) (by omega), Option.bind_some, hroom, req_true, w64_id (n := (i : Int) + 1) (by omega) (by omega), hands_take r i hi]
      rfl) (by rw [begin_L2_1, nltd, cond_false, List.take_length]; rfl)
    exact this
  have hF : ∀ (i : Int) (y : FlB), ref1Begin_L1 r ((i, ()), (y, ())) = bif (decide (i < 2)) then (Option.bind (iterW (ref1Begin_L2 r ((i, ()), (y, ()))) (((0 : Int), ()), (y, ()))) fun x => some (Sum.inl ((w64 (i + 1), ()), (x.2.1, ())))) else some (Sum.inr ((), (y, ()))) := fun i y => by
    unfold ref1Begin_L1
    cases decide (i < 2) with
    | false => rfl
    | true =>
      simp only [cond_true]
      show Option.bind (Option.bind (iterW (ref1Begin_L2 r ((i, ()), (y, ()))) (((0 : Int), ()), (y, ()))) _) _ = _
      cases iterW (ref1Begin_L2 r ((i, ()), (y, ()))) (((0 : Int), ()), (y, ())) <;> rfl
  unfold ref1Begin
  have hroom : room (([] : List Int).length + r.2.2.2.2.1.length) 8 = true := room_ok (by simp; omega)
  rw [hroom, req_true, List.nil_append]
  have e0 := hF 0 (r.2.2.2.2.1, ([], ([], (0, (0, ())))))
  rw [i0, Option.bind_some, show decide ((0 : Int) < 2) = true from rfl, cond_true] at e0
  have e1 := hF 1 (r.2.2.2.2.1, (handsOf r, ([], (0, (0, ())))))
  rw [i1, Option.bind_some, show decide ((1 : Int) < 2) = true from rfl, cond_true] at e1
  have e2 := hF 2 (r.2.2.2.2.1, (handsOf r, (handsOf r, (0, (0, ())))))
  rw [show decide ((2 : Int) < 2) = false from rfl, cond_false] at e2
  have : iterW (ref1Begin_L1 r) (((0 : Int), ()), ((r.2.2.2.2.1, (([] : List Int), (([] : List Int), ((0 : Int), ((0 : Int), ()))))), ())) = some ((), ((r.2.2.2.2.1, (handsOf r, (handsOf r, (0, (0, ()))))), ())) := by
    rw [iterW_inl e0]
    show iterW (ref1Begin_L1 r) (((1 : Int), ()), ((r.2.2.2.2.1, (handsOf r, ([], (0, (0, ()))))), ())) = _
    rw [iterW_inl e1]
    exact iterW_inr e2
  rw [this]
  rfl
/-! ### the law's counts -/
end Go.Proofs.YtjikbbjjnndcbaaDoor
