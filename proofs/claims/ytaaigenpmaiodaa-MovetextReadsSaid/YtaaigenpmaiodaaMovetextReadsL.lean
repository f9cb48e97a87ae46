/- The law MovetextReads in plain Lean: it is true. Conditions: numbers in range. -/
import Derived.Test.YtaaigenpmaiodaaMovetextReadsS
import Derived.Test.YtaaigenpmaiodaaTextU
namespace Go.Proofs.Ytaaigenpmaiodaa
open Go.Den
set_option linter.unusedVariables false
set_option linter.unusedSimpArgs false
set_option maxRecDepth 100000

theorem list_L1 (l : List Mv) (e : Int) (r : Rules) (p : Place) (acc : List ByteArray) (i : Int) : movetextList_L1 (l, (e, ())) r p ((acc, i, ()), ()) = bif (decide (i < ((l.length : Nat) : Int))) then (req (inb i l.length) (Option.bind (movetextOf r p l (getD' l i.toNat d0)) fun t => req (room (acc.length + 1) 16) (some (Sum.inl ((acc ++ [t], w64 (i + 1), ()), ())))))
  else some (Sum.inr ((acc, ()), ())) := rfl
theorem flat1 {A B : Type} (f : A → B) (l : List A) (d : A) : (List.range l.length).flatMap (fun i => [f (getD' l i d)]) = l.map f := by
  induction l with
  | nil => rfl
  | cons x l ih =>
    rw [List.length_cons, List.range_succ_eq_map, List.flatMap_cons, List.flatMap_map]
    rw [List.map_cons, ← ih]
    rfl
theorem tlist_spec (r : Rules) (p : Place) (hL : Letters r) (hr : Rng tyRules r) (hn : p.1.length ≤ 9223372036854775807) : movetextList r p = some (if placeErr r p = 0 then ((movesOf r p).map (moveT r p), (0, ())) else ([], (placeErr r p, ()))) := by
  unfold movetextList
  rw [all_spec r p hr hn, Option.bind_some]
  by_cases c : placeErr r p = 0
  · have hv := valid_of c
    have hlen := movesOf_len hv
    simp only [c, if_true]
    rw [show ((0 : Int) != 0) = false from rfl, cond_false]
    have hof : ∀ i (hi : i < (movesOf r p).length), movetextOf r p (movesOf r p) (movesOf r p)[i] = some (moveT r p (movesOf r p)[i]) := fun i hi => of_spec hL hv ((movesOf_mem _).1 (List.getElem_mem hi))
    generalize movesOf r p = l at hlen hof ⊢
    have hI := iter_app l.length 1 (movetextList_L1 (l, (0, ())) r p) (fun i => [moveT r p (getD' l i d0)]) (fun a => ((a, ()), ())) [] (fun _ _ => by simp) (fun i hi a ha => by
      rw [list_L1, ltd l i hi, cond_true, inbN l i hi, req_true]
      simp only [Int.toNat_natCast]
      rw [gd_eq l i hi, hof i hi, Option.bind_some, room_ok (n := a.length + 1) (by simp at ha; omega), req_true, w64_id (n := (i : Int) + 1) (by omega) (by omega)]) (fun a => by
      rw [list_L1, nltd, cond_false])
    rw [hI, Option.bind_some, List.nil_append, flat1 (moveT r p) l d0]
  · simp only [if_neg c]
    rw [bne_t c, cond_true]
theorem read_L1 (l : List Mv) (e : Int) (r : Rules) (p : Place) (s : ByteArray) (i : Int) : movetextRead_L1 (l, (e, ())) r p s ((i, ()), ()) = bif (decide (i < ((l.length : Nat) : Int))) then (req (inb i l.length) (Option.bind (movetextOf r p l (getD' l i.toNat d0)) fun t => bif (t.toList == s.toList) then (Option.map Sum.inr (Option.map Sum.inr (bif (decide (i < 0)) then some (d0, (13, ())) else req (inb i l.length) (some (getD' l i.toNat d0, (0, ())))))) else some (Sum.inl ((w64 (i + 1), ()), ()))))
  else some (Sum.inr (Sum.inl ((), ()))) := rfl
/-- the move with a text -/
def readOf (r : Rules) (p : Place) (s : ByteArray) : Mv × Int × Unit := match (movesOf r p).find? (fun m => (moveT r p m).toList == s.toList) with
  | some m => (m, (0, ()))
  | none => (d0, (13, ()))
theorem read_spec (r : Rules) (p : Place) (s : ByteArray) (hL : Letters r) (hr : Rng tyRules r) (hn : p.1.length ≤ 9223372036854775807) : movetextRead r p s = some (if placeErr r p = 0 then readOf r p s else (d0, (placeErr r p, ()))) := by
  unfold movetextRead readOf
  rw [all_spec r p hr hn, Option.bind_some]
  by_cases c : placeErr r p = 0
  · have hv := valid_of c
    have hlen := movesOf_len hv
    simp only [c, if_true]
    rw [show ((0 : Int) != 0) = false from rfl, cond_false]
    have hof : ∀ i (hi : i < (movesOf r p).length), movetextOf r p (movesOf r p) (movesOf r p)[i] = some (moveT r p (movesOf r p)[i]) := fun i hi => of_spec hL hv ((movesOf_mem _).1 (List.getElem_mem hi))
    generalize movesOf r p = l at hlen hof ⊢
    have key : ∀ k i, i + k = l.length → iterW (movetextRead_L1 (l, (0, ())) r p s) (((i : Int), ()), ()) = some (match (l.drop i).find? (fun m => (moveT r p m).toList == s.toList) with
      | some m => .inr (m, (0, ()))
      | none => .inl ((), ())) := by
      intro k
      induction k with
      | zero =>
        intro i hi
        have : i = l.length := by omega
        subst this
        refine iterW_inr ?_
        rw [read_L1, nltd, cond_false, List.drop_length]
        rfl
      | succ k ih =>
        intro i hi
        have hil : i < l.length := by omega
        have hF := read_L1 l 0 r p s (i : Int)
        rw [ltd l i hil, cond_true, inbN l i hil, req_true, req_true] at hF
        simp only [Int.toNat_natCast] at hF
        rw [gd_eq l i hil, hof i hil, Option.bind_some, decide_eq_false (show ¬ (i : Int) < 0 by omega), cond_false, w64_id (n := (i : Int) + 1) (by omega) (by omega)] at hF
        rw [List.drop_eq_getElem_cons hil]
        cases hc : ((moveT r p l[i]).toList == s.toList) with
        | true =>
          rw [hc] at hF
          rw [iterW_inr hF, List.find?_cons, hc]
        | false =>
          rw [hc] at hF
          rw [iterW_inl hF, List.find?_cons, hc]
          exact ih (i + 1) (by omega)
    have k0 := key l.length 0 (by omega)
    rw [List.drop_zero] at k0
    have k0' : iterW (movetextRead_L1 (l, (0, ())) r p s) (((0 : Int), ()), ()) = _ := k0
    rw [k0', Option.bind_some]
    cases l.find? (fun m => (moveT r p m).toList == s.toList) <;> rfl
  · simp only [if_neg c]
    rw [bne_t c, cond_true]
theorem law_L1 (l : List Mv) (e : Int) (r : Rules) (p : Place) (ts : List ByteArray) (e2 : Int) (s : ByteArray) (f i : Int) (w : Mv) : law3MovetextReads_L1 (l, (e, ())) r p (ts, (e2, ())) s ((f, i, ()), (w, ())) = bif (decide (i < ((l.length : Nat) : Int))) then (req (inb i l.length) (Option.bind (ref3MoveText r p (getD' l i.toNat d0)) fun t => req (inb i ts.length) (bif (!(t.toList == (getD' ts i.toNat ByteArray.empty).toList)) then some (Sum.inr (Sum.inr false))
    else Option.bind (bif (t.toList == s.toList) then some ((0, ()), (getD' l i.toNat d0, ())) else some ((f, ()), (w, ()))) fun x : (Int × Unit) × (Mv × Unit) => some (Sum.inl ((x.1.1, w64 (i + 1), ()), (x.2.1, ()))))))
  else some (Sum.inr (Sum.inl ((f, ()), (w, ())))) := rfl
theorem law3MovetextReads_true (r : Rules) (p : Place) (s : ByteArray) (hr : Rng tyRules r) (hp : Rng tyPlace p) (hs : Rng .str s) : law3MovetextReads r p s = some true := by
  have hn : p.1.length ≤ 9223372036854775807 := hp.1.1
  have hL := letters_of hr
  unfold law3MovetextReads
  rw [writes_true, Option.bind_some, Bool.not_true, cond_false]
  cases law3Great r with
  | true => rfl
  | false =>
    rw [cond_false, tlist_spec r p hL hr hn, read_spec r p s hL hr hn, all_spec r p hr hn]
    simp only [Option.bind_some]
    by_cases c : placeErr r p = 0
    · have hv := valid_of c
      have hr0 : ruleErr r = 0 := by
        refine Decidable.byContradiction fun h => ?_
        unfold placeErr at c
        rw [if_pos h] at c
        exact h c
      have hl := lets_of hr0
      have hlen := movesOf_len hv
      simp only [c, if_true]
      rw [show ((0 : Int) != 0) = false from rfl, cond_false, List.length_map, bne_self_eq_false, Bool.or_self, cond_false]
      have hof : ∀ i (hi : i < (movesOf r p).length), ref3MoveText r p (movesOf r p)[i] = some (moveT r p (movesOf r p)[i]) := fun i hi => rtext_spec hL hr hv c ((movesOf_mem _).1 (List.getElem_mem hi))
      have hinj : ∀ i j (hi : i < (movesOf r p).length) (hj : j < (movesOf r p).length), moveT r p (movesOf r p)[i] = moveT r p (movesOf r p)[j] → (movesOf r p)[i] = (movesOf r p)[j] := fun i j hi hj e => text_inj hl hv ((movesOf_mem _).1 (List.getElem_mem hi)) ((movesOf_mem _).1 (List.getElem_mem hj)) e
      unfold readOf
      generalize movesOf r p = l at hlen hof hinj ⊢
      -- what has been found so far
      have hL1 := iterW_states (f := law3MovetextReads_L1 (l, (0, ())) r p (l.map (moveT r p), (0, ())) s) l.length
        (fun i => (((match (l.take i).find? (fun m => (moveT r p m).toList == s.toList) with | some m => ((m, (0, ())) : Mv × Int × Unit) | none => (d0, (13, ()))).2.1, (i : Int), ()), ((match (l.take i).find? (fun m => (moveT r p m).toList == s.toList) with | some m => ((m, (0, ())) : Mv × Int × Unit) | none => (d0, (13, ()))).1, ())))
        (.inl (((match l.find? (fun m => (moveT r p m).toList == s.toList) with | some m => ((m, (0, ())) : Mv × Int × Unit) | none => (d0, (13, ()))).2.1, ()), ((match l.find? (fun m => (moveT r p m).toList == s.toList) with | some m => ((m, (0, ())) : Mv × Int × Unit) | none => (d0, (13, ()))).1, ()))) (fun i hi => by
          have hi2 : i < (l.map (moveT r p)).length := by rw [List.length_map]; exact hi
          rw [law_L1, ltd l i hi, cond_true, inbN l i hi, req_true, inbN _ i hi2]
          simp only [Int.toNat_natCast]
          rw [gd_eq l i hi, gd_eq _ i hi2, List.getElem_map, hof i hi, Option.bind_some, req_true, beq_self_eq_true, Bool.not_true, cond_false, w64_id (n := (i : Int) + 1) (by omega) (by omega), List.take_succ_eq_append_getElem hi, List.find?_append]
          cases hc : ((moveT r p l[i]).toList == s.toList) with
          | false =>
            rw [show [l[i]].find? (fun m => (moveT r p m).toList == s.toList) = none by simp [hc], Option.or_none]
            rfl
          | true =>
            cases hq : (l.take i).find? (fun m => (moveT r p m).toList == s.toList) with
            | none =>
              rw [show [l[i]].find? (fun m => (moveT r p m).toList == s.toList) = some l[i] by simp [hc]]
              rfl
            | some m =>
              have h1 := List.find?_some hq
              have h2 := List.mem_of_find?_eq_some hq
              obtain ⟨j, hj, e⟩ := List.mem_iff_getElem.1 h2
              have hjl : j < l.length := by rw [List.length_take] at hj; omega
              rw [List.getElem_take] at e
              have : m = l[i] := by
                rw [← e]
                refine hinj j i hjl hi (bytes_inj ?_)
                rw [e]
                simp only [beq_iff_eq] at h1 hc
                rw [h1, hc]
              rw [this]
              rfl) (by
          rw [law_L1, nltd, cond_false, List.take_length])
      have hL1' : iterW (law3MovetextReads_L1 (l, (0, ())) r p (l.map (moveT r p), (0, ())) s) (((13 : Int), (0 : Int), ()), (d0, ())) = _ := hL1
      rw [show (((0 : Int), ((0 : Int), ((0 : Int), ()))) : Mv) = d0 from rfl, hL1', Option.bind_some]
      simp
    · simp only [if_neg c]
      rw [bne_t c, cond_true]
      simp [d0]
end Go.Proofs.Ytaaigenpmaiodaa
