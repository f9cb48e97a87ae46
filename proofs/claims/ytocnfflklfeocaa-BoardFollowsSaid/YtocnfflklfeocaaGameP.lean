/- Games by the rules, in plain Lean: what Play, Run and Repeats compute. No condition of its own. -/
import Derived.Test.YtocnfflklfeocaaGameS
import Derived.Test.YtocnfflklfeocaaCoreB
namespace Go.Proofs.Ytocnfflklfeocaa
open Go.Den
set_option linter.unusedVariables false
set_option linter.unusedSimpArgs false
set_option maxRecDepth 100000

theorem rep_eta (r : Rules) : (r.1, (r.2.1, (r.2.2.1, (r.2.2.2.1, (r.2.2.2.2.1, (r.2.2.2.2.2.1, (r.2.2.2.2.2.2.1, (r.2.2.2.2.2.2.2.1, (r.2.2.2.2.2.2.2.2.1, (r.2.2.2.2.2.2.2.2.2.1, (r.2.2.2.2.2.2.2.2.2.2.1, ()))))))))))) = r := rfl
theorem pl_eta (p : Place) : (p.1, ((p.2.1.1, (p.2.1.2.1, ())), p.2.2)) = p := rfl
theorem gd_eq {A : Type} (xs : List A) (i : Nat) (hi : i < xs.length) (d : A) : getD' xs i d = xs[i] := by simp [getD', hi]
theorem ltd {A : Type} (xs : List A) (i : Nat) (hi : i < xs.length) : decide ((i : Int) < ((xs.length : Nat) : Int)) = true := by simp; omega
theorem nltd {A : Type} (xs : List A) : decide (((xs.length : Nat) : Int) < ((xs.length : Nat) : Int)) = false := by simp
theorem inbN {A : Type} (xs : List A) (i : Nat) (hi : i < xs.length) : inb (i : Int) xs.length = true := inb_iff.2 ⟨by omega, by omega⟩
theorem eq_ints (a b : List Int) (ha : a.length ≤ 1000000000) : slicesEqual_int a b = some (decide (a = b)) := by
  unfold slicesEqual_int
  by_cases hl : a.length = b.length
  · have e : (((a.length : Nat) : Int) != ((b.length : Nat) : Int)) = false := bne_f (by omega)
    rw [e, cond_false]
    have hL := iterW_any (List.range a.length) (fun i => a.getD i 0 != b.getD i 0) (slicesEqual_int_L1 a b) (.inr false) (.inl ((), ())) (fun i hi => by
      have hi' : i < a.length := by simpa using hi
      unfold slicesEqual_int_L1
      simp only [show decide ((i : Int) < ((a.length : Nat) : Int)) = true by simp; omega, cond_true, List.getElem_range]
      rw [at?_eq a _ (by omega) (by omega), at?_eq b _ (by omega) (by omega), Option.bind_some, Option.bind_some, w64_id (n := (i : Int) + 1) (by omega) (by omega)]
      simp only [Int.toNat_natCast, List.getD_eq_getElem?_getD, List.getElem?_eq_getElem hi', List.getElem?_eq_getElem (show i < b.length by omega), Option.getD_some]
      cases (a[i] != b[i]) <;> rfl) (by unfold slicesEqual_int_L1; simp)
    rw [hL]
    cases hany : (List.range a.length).any (fun i => a.getD i 0 != b.getD i 0) with
    | true =>
      rw [List.any_eq_true] at hany
      obtain ⟨i, _, h⟩ := hany
      have : ¬ a = b := fun e => by subst e; simp at h
      simp [this]
    | false =>
      rw [List.any_eq_false] at hany
      have : a = b := by
        apply List.ext_getElem hl
        intro i h1 h2
        have := hany i (List.mem_range.2 h1)
        simpa [List.getD_eq_getElem?_getD, h1, h2] using this
      simp [this]
  · have e : (((a.length : Nat) : Int) != ((b.length : Nat) : Int)) = true := bne_t (by omega)
    rw [e, cond_true]
    have : ¬ a = b := fun h => hl (by rw [h])
    simp [this]
/-- the same position, but for Quiet -/
def same0 (p q : Place) : Bool := ((decide (p.1 = q.1) && decide (p.2.1.1 = q.2.1.1)) && decide (p.2.1.2.1 = q.2.1.2.1)) && (p.2.2.1 == q.2.2.1)
theorem same_spec {r : Rules} {p q : Place} (h : Valid r p) : placeSame p q = some (same0 p q) := by
  have h64 := area_len h
  have t6 := h.r0.t6
  have l0 : p.2.1.1.length = r.pieces.length := h.l0
  have l1 : p.2.1.2.1.length = r.pieces.length := h.l1
  unfold placeSame same0
  rw [eq_ints _ _ (by omega), eq_ints _ _ (by omega), eq_ints _ _ (by omega)]
  have hg : ∀ b c : Bool, gopt b false (some c) = some (b && c) := fun b c => by cases b <;> rfl
  simp only [hg, Option.bind_some, Option.some.injEq]
  cases decide (p.1 = q.1) <;> cases decide (p.2.1.1 = q.2.1.1) <;> cases decide (p.2.1.2.1 = q.2.1.2.1) <;> cases (p.2.2.1 == q.2.2.1) <;> rfl
theorem pcopy_spec {r : Rules} {p : Place} (h : Valid r p) : placeCopy p = some p := by
  have h64 := area_len h
  have t6 := h.r0.t6
  have l0 : p.2.1.1.length = r.pieces.length := h.l0
  have l1 : p.2.1.2.1.length = r.pieces.length := h.l1
  unfold placeCopy
  simp only [agree_self]
  rw [clone_ok _ (by omega), Option.bind_some, clone_ok _ (by omega), Option.bind_some, clone_ok _ (by omega)]
  rfl
theorem clone_ways (s : List (Int × Int × Int × Int × Unit)) (h : s.length ≤ 1000000) : slicesClone_RuleWay s = some s := by
  unfold slicesClone_RuleWay
  have : room (([] : List (Int × Int × Int × Int × Unit)).length + s.length) 32 = true := room_ok (by simp; omega)
  rw [this]
  cases s with
  | nil => simp [req_true, agree_self]
  | cons a l => simp [req_true]
theorem clone_ends (s : List (Int × Int × Int × Bool × Unit)) (h : s.length ≤ 1000000) : slicesClone_RuleEnd s = some s := by
  unfold slicesClone_RuleEnd
  have : room (([] : List (Int × Int × Int × Bool × Unit)).length + s.length) 32 = true := room_ok (by simp; omega)
  rw [this]
  cases s with
  | nil => simp [req_true, agree_self]
  | cons a l => simp [req_true]
theorem rcopy_spec {r : Rules} (h : VR0 r) : rulesCopy r = some r := by
  have t6 : r.2.2.2.1.length ≤ 6 := h.t6
  have e6 : r.2.2.2.2.2.2.2.1.length ≤ 6 := h.ends6
  have hs : ((r.2.2.2.2.1.length : Nat) : Int) = r.width * r.height := h.start
  have ha := h.area
  unfold rulesCopy
  simp only [agree_self]
  have hL := iterW_states (f := rulesCopy_L1 r) r.2.2.2.1.length (fun i => (((i : Int), ()), ((r.1, (r.2.1, (r.2.2.1, (r.2.2.2.1.take i, r.2.2.2.2)))), ()))) ((), ((r.1, (r.2.1, (r.2.2.1, (r.2.2.2.1, r.2.2.2.2)))), ())) (fun i hi => by
    unfold rulesCopy_L1
    simp only [show decide ((i : Int) < ((r.2.2.2.1.length : Nat) : Int)) = true by simp; omega, cond_true]
    rw [at?_eq _ _ (by omega) (by omega), Option.bind_some]
    simp only [Int.toNat_natCast]
    rw [clone_ways _ (by have : r.2.2.2.1[i].2.2.2.1.length ≤ 16 := h.ways _ (List.getElem_mem hi); omega), Option.bind_some]
    have hroom : ∀ z : Piece, room ((r.2.2.2.1.take i).length + [z].length) 48 = true := fun z => room_ok (by simp; omega)
    rw [hroom, req_true, w64_id (n := (i : Int) + 1) (by omega) (by omega), List.take_succ_eq_append_getElem hi]
    rfl) (by
    unfold rulesCopy_L1
    simp only [show decide (((r.2.2.2.1.length : Nat) : Int) < ((r.2.2.2.1.length : Nat) : Int)) = false by simp, cond_false, List.take_length])
  have hL' : iterW (rulesCopy_L1 r) (((0 : Int), ()), ((r.1, (r.2.1, (r.2.2.1, (([] : List Piece), r.2.2.2.2)))), ())) = _ := hL
  rw [hL', Option.bind_some, clone_ok _ (by omega), Option.bind_some, clone_ends _ (by omega)]
  rfl
theorem valid_ok {r : Rules} {p : Place} (c : ruleErr r = 0) (h : Valid r p) : placeErr r p = 0 := by
  unfold placeErr
  rw [if_neg (by simp [c])]
  have h1 : formBad r p = false := by
    unfold formBad
    rw [bne_f h.cells, bne_f (by have := h.l0; omega), bne_f (by have := h.l1; omega)]
    rfl
  have h2 : placeBad r p = false := by
    unfold placeBad
    have a1 : p.cells.any (outC r) = false := by
      rw [List.any_eq_false]
      intro x hx
      have := h.cell x hx
      simp [outC]; omega
    have a2 : (p.h0 ++ p.h1).any outH = false := by
      rw [List.any_eq_false]
      intro x hx
      have : 0 ≤ x ∧ x ≤ 1000 := (List.mem_append.1 hx).elim (h.hand0 x) (h.hand1 x)
      simp [outH]; omega
    have a3 : outT p = false := by
      have hq := h.quiet
      have ht := h.turn
      simp [outT]; omega
    rw [a1, a2, a3]
    rfl
  rw [h1, h2]
  rfl
/-! ### games -/
def dP : Place := ([], (([], ([], ())), ((0 : Int), ((0 : Int), ()))))
def lastP (l : List Place) : Place := getD' l (l.length - 1) dP
/-- how often the last position occurs -/
def timesOf (l : List Place) : Nat := l.countP fun p => same0 p (lastP l)
/-- the result of a game -/
def gameRes (r : Rules) (l : List Place) : Int := bif ((resultOf r (lastP l) == 0) && (r.repeats != 0)) && decide (((timesOf l : Nat) : Int) ≥ r.repeats) then 3 else resultOf r (lastP l)
structure OKG (r : Rules) (s : List Place × List Mv) : Prop where
  ok : ruleErr r = 0
  all : ∀ p ∈ s.1, Valid r p
  len : s.1.length = s.2.length + 1
  most : s.2.length ≤ 400
theorem last_mem {l : List Place} (h : 0 < l.length) : lastP l ∈ l := by
  unfold lastP
  rw [gd_eq l (l.length - 1) (by omega)]
  exact List.getElem_mem _
theorem OKG.last {r : Rules} {s : List Place × List Mv} (h : OKG r s) : Valid r (lastP s.1) := h.all _ (last_mem (by have := h.len; omega))
/-- one more move: its error -/
def stepG (r : Rules) (s : List Place × List Mv) (m : Mv) : Int := if gameRes r s.1 = 0 then if allowedB r (lastP s.1) m = true then if s.2.length = 400 then 9 else 0 else 13 else 14
def nextG (r : Rules) (s : List Place × List Mv) (m : Mv) : List Place × List Mv := (s.1 ++ [afterOf r (lastP s.1) m], s.2 ++ [m])
theorem next_ok {r : Rules} {s : List Place × List Mv} {m : Mv} (h : OKG r s) (c : stepG r s m = 0) : OKG r (nextG r s m) := by
  unfold stepG at c
  by_cases c1 : gameRes r s.1 = 0
  · rw [if_pos c1] at c
    by_cases c2 : allowedB r (lastP s.1) m = true
    · rw [if_pos c2] at c
      by_cases c3 : s.2.length = 400
      · rw [if_pos c3] at c; cases c
      · have hl := h.len
        have hm := h.most
        refine ⟨h.ok, fun p hp => ?_, by unfold nextG; simp; omega, by unfold nextG; simp; omega⟩
        rcases List.mem_append.1 hp with hp | hp
        · exact h.all p hp
        · rw [List.mem_singleton.1 hp]; exact after_valid h.last c2
    · rw [if_neg c2] at c; cases c
  · rw [if_neg c1] at c; cases c
/-- a round of a loop that counts how often the last position occurs -/
noncomputable def cntF (L : List Place) (c i : Int) : Option (((Int × Int × Unit) × Unit) ⊕ ((Int × Unit) × Unit)) :=
  bif (decide (i < ((L.length : Nat) : Int))) then (req (inb i L.length) (Option.bind (req (inb (w64 (((L.length : Nat) : Int) - 1)) L.length) (Option.bind (placeSame (getD' L i.toNat dP) (getD' L (w64 (((L.length : Nat) : Int) - 1)).toNat dP)) fun x => some ((x, ()), ()))) fun x : (Bool × Unit) × Unit =>
    Option.bind (bif x.1.1 then some ((w64 (c + 1), ()), ()) else some ((c, ()), ())) fun y : (Int × Unit) × Unit => some (Sum.inl ((y.1.1, w64 (i + 1), ()), ()))))
  else some (Sum.inr ((c, ()), ()))
theorem w_last {A : Type} {L : List A} (h0 : 0 < L.length) (h : L.length ≤ 1000000000) : w64 (((L.length : Nat) : Int) - 1) = ((L.length - 1 : Nat) : Int) := by
  rw [w64_id (by omega) (by omega)]; omega
theorem cnt_loop {r : Rules} {L : List Place} (hv : ∀ p ∈ L, Valid r p) (h0 : 0 < L.length) (h1 : L.length ≤ 1000000) (f : ((Int × Int × Unit) × Unit) → Option (((Int × Int × Unit) × Unit) ⊕ ((Int × Unit) × Unit)))
    (hf : ∀ c i, f ((c, i, ()), ()) = cntF L c i) : iterW f (((0 : Int), (0 : Int), ()), ()) = some ((((timesOf L : Nat) : Int), ()), ()) := by
  have hw := w_last h0 (by omega)
  have := iter_count L (fun p => same0 p (lastP L)) f (fun c => ((c, ()), ())) (fun i hi c hc0 hc1 => by
    rw [hf]
    unfold cntF
    rw [ltd L i hi, cond_true, inbN L i hi, req_true, hw, inbN L _ (by omega), req_true, Int.toNat_natCast, Int.toNat_natCast, gd_eq L i hi, same_spec (hv _ (List.getElem_mem hi)), Option.bind_some, Option.bind_some]
    show Option.bind (bif same0 L[i] (lastP L) then _ else _) _ = _
    rw [w64_id (n := c + 1) (by omega) (by omega), w64_id (n := (i : Int) + 1) (by omega) (by omega)]
    cases same0 L[i] (lastP L) <;> rfl) (fun c => by
    rw [hf]
    unfold cntF
    rw [nltd, cond_false])
  rw [this]
  rfl
abbrev Game := Rules × List Place × List Mv × Unit
theorem play_cnt (r : Rules) (l : List Place) (ms : List Mv) (c i : Int) : plainGamePlay_L1 (r, (l, (ms, ()))) ((c, i, ()), ()) = cntF l c i := by
  unfold plainGamePlay_L1 cntF
  simp only [agree_self]
  rfl
theorem play_spec {r : Rules} {s : List Place × List Mv} (h : OKG r s) (m : Mv) : plainGamePlay (r, (s.1, (s.2, ()))) m = some (if stepG r s m = 0 then ((r, ((nextG r s m).1, ((nextG r s m).2, ()))), 0) else ((r, (s.1, (s.2, ()))), stepG r s m)) := by
  obtain ⟨l, ms⟩ := s
  have hl : l.length = ms.length + 1 := h.len
  have hm : ms.length ≤ 400 := h.most
  have hv := h.last
  simp only at hv
  have hw := w_last (L := l) (by omega) (by omega)
  have hi := inbN l (l.length - 1) (by omega)
  have hcnt := cnt_loop (L := l) h.all (by omega) (by omega) (plainGamePlay_L1 (r, (l, (ms, ())))) (play_cnt r l ms)
  have hla : getD' l (l.length - 1) (([], (([], ([], ())), ((0 : Int), ((0 : Int), ())))) : Place) = lastP l := rfl
  unfold plainGamePlay
  simp only [agree_self, hw, hi, req_true, Int.toNat_natCast, hla, hcnt, Option.bind_some]
  rw [result_spec hv]
  simp only [Option.bind_some]
  have hrep : r.2.2.2.2.2.2.2.2.2.2.1 = r.repeats := rfl
  rw [hrep]
  have hR : (Option.bind (bif ((resultOf r (lastP l) == (0 : Int)) && (r.repeats != (0 : Int))) then some ((decide (((timesOf l : Nat) : Int) ≥ r.repeats), ()), ()) else some ((false, ()), ())) fun x16 : (Bool × Unit) × Unit => bif x16.1.1 then some ((true, ()), ()) else some (((resultOf r (lastP l) != (0 : Int)), ()), ())) = some ((decide (¬ gameRes r l = 0), ()), ()) := by
    unfold gameRes
    cases hc : ((resultOf r (lastP l) == 0) && (r.repeats != 0)) with
    | true =>
      have h0 : resultOf r (lastP l) = 0 := by simp at hc; exact hc.1
      simp only [cond_true, Option.bind_some, Bool.true_and]
      cases decide (((timesOf l : Nat) : Int) ≥ r.repeats) <;> simp [h0]
    | false =>
      simp only [cond_false, Option.bind_some, Bool.false_and]
      by_cases h0 : resultOf r (lastP l) = 0 <;> simp [h0]
  rw [hR, Option.bind_some]
  unfold stepG
  by_cases c1 : gameRes r l = 0
  · rw [decide_eq_false (by simp [c1]), cond_false]
    simp only [if_pos c1]
    rw [list_spec hv, Option.bind_some, index_spec _ _ (by have := movesOf_len hv; omega), Option.bind_some, Option.bind_some]
    have hmem : decide (m ∈ movesOf r (lastP l)) = allowedB r (lastP l) m := by rw [Bool.eq_iff_iff, decide_eq_true_eq, movesOf_mem]
    rw [hmem]
    by_cases c2 : allowedB r (lastP l) m = true
    · simp only [if_pos c2]
      rw [c2, Bool.not_true, cond_false]
      by_cases c3 : ms.length = 400
      · rw [beq_t (by omega), cond_true]
        simp only [if_pos c3]
        rfl
      · rw [beq_f (by omega), cond_false, make_spec hv c2, Option.bind_some]
        simp only [if_neg c3, if_true]
        have hroom : ∀ z : Place, room (l.length + [z].length) 88 = true := fun z => room_ok (by simp; omega)
        have hroom2 : room (ms.length + [m].length) 24 = true := room_ok (by simp; omega)
        rw [hroom, req_true, Option.bind_some]
        simp only
        rw [hroom2, req_true]
        rfl
    · simp only [if_neg c2]
      rw [show allowedB r (lastP l) m = false by simpa using c2]
      rfl
  · rw [decide_eq_true c1, cond_true]
    simp only [if_neg c1]
    rfl
/-- moves, one after the other -/
def runG (r : Rules) : List Mv → List Place × List Mv → (List Place × List Mv) ⊕ Int
  | [], s => .inl s
  | m :: k, s => if stepG r s m = 0 then runG r k (nextG r s m) else .inr (stepG r s m)
theorem run_ok {r : Rules} : ∀ (k : List Mv) (s s' : List Place × List Mv), OKG r s → runG r k s = .inl s' → OKG r s' ∧ s'.2 = s.2 ++ k
  | [], s, s', h, e => by cases e; exact ⟨h, by simp⟩
  | m :: k, s, s', h, e => by
    unfold runG at e
    split at e
    · rename_i c
      obtain ⟨a, b⟩ := run_ok k _ _ (next_ok h c) e
      refine ⟨a, ?_⟩
      rw [b]
      unfold nextG
      simp
    · cases e
def flG (g : Game) : ByteArray × Int × Int × (List (Int × Int × Int × (List (Int × Int × Int × Int × Unit)) × Unit)) × (List Int) × Bool × Bool × (List (Int × Int × Int × Bool × Unit)) × Int × Int × Int × (List Place) × (List Mv) × Unit :=
  (g.1.1, (g.1.2.1, (g.1.2.2.1, (g.1.2.2.2.1, (g.1.2.2.2.2.1, (g.1.2.2.2.2.2.1, (g.1.2.2.2.2.2.2.1, (g.1.2.2.2.2.2.2.2.1, (g.1.2.2.2.2.2.2.2.2.1, (g.1.2.2.2.2.2.2.2.2.2.1, (g.1.2.2.2.2.2.2.2.2.2.2.1, (g.2.1, (g.2.2.1, ())))))))))))))
def gm (r : Rules) (s : List Place × List Mv) : Game := (r, (s.1, (s.2, ())))
/-- a loop over moves that plays them -/
theorem play_loop {r : Rules} {T R : Type} (l : List Mv) (hlen : l.length ≤ 1000000000) (f : T → Option (T ⊕ R)) (st : Int → Game → T) (bad : Int → R) (fin : List Place × List Mv → R)
    (hf : ∀ i s, f (st i (gm r s)) = bif (decide (i < ((l.length : Nat) : Int))) then (Option.bind (at? l i) fun m => Option.bind (plainGamePlay (r, (s.1, (s.2, ()))) m) fun x => bif (x.2 != 0) then some (.inr (bad x.2)) else some (.inl (st (w64 (i + 1)) x.1))) else some (.inr (fin s))) :
    ∀ (k : Nat) (i : Nat) (s : List Place × List Mv), i + k = l.length → OKG r s → iterW f (st (i : Int) (gm r s)) = some (match runG r (l.drop i) s with
      | .inl s' => fin s'
      | .inr e => bad e)
  | 0, i, s, hi, h => by
    have : i = l.length := by omega
    subst this
    refine iterW_inr ?_
    rw [hf, nltd, cond_false, List.drop_length]
    rfl
  | k + 1, i, s, hi, h => by
    have hil : i < l.length := by omega
    have hL := hf (i : Int) s
    rw [ltd l i hil, cond_true, at?_eq l _ (by omega) (by omega), Option.bind_some, play_spec h, Option.bind_some] at hL
    simp only [Int.toNat_natCast] at hL
    rw [List.drop_eq_getElem_cons hil]
    unfold runG
    by_cases c : stepG r s l[i] = 0
    · rw [if_pos c] at hL
      simp only [bne_self_eq_false, cond_false] at hL
      rw [w64_id (by omega) (by omega)] at hL
      rw [iterW_inl hL, if_pos c]
      exact play_loop l hlen f st bad fin hf k (i + 1) _ (by omega) (next_ok h c)
    · rw [if_neg c] at hL
      simp only [bne_t c, cond_true] at hL
      rw [iterW_inr hL, if_neg c]
theorem begin_okG {r : Rules} (c : ruleErr r = 0) : OKG r ([beginOf r], []) := ⟨c, fun p hp => by rw [List.mem_singleton.1 hp]; exact begin_valid (rules_valid c), rfl, by simp⟩
/-- a game out of the moves of its beginning -/
def gameOf (r : Rules) (l : List Mv) : (List Place × List Mv) ⊕ Int := runG r l ([beginOf r], [])
abbrev FlP := List Int × List Int × List Int × Int × Int × Unit
def flp (p : Place) : FlP := (p.1, (p.2.1.1, (p.2.1.2.1, p.2.2)))
def runRes (r : Rules) (l : List Mv) : Place × Int × Int × Unit := if ruleErr r = 0 then (match gameOf r l with
    | .inl s => (lastP s.1, (gameRes r s.1, (0, ())))
    | .inr e => (dP, (0, (e, ())))) else (dP, (0, (ruleErr r, ())))
theorem run_cnt (u : Unit) (p : FlP) (r : Rules) (s : List Place × List Mv) (c i : Int) : plainRun_L3 (u, (p, (flG (gm r s), ()))) ((c, i, ()), ()) = cntF s.1 c i := by
  unfold plainRun_L3 cntF
  simp only [agree_self]
  rfl
theorem run_spec (r : Rules) (l : List Mv) (hr : Rng tyRules r) (hl : l.length ≤ 1000000000) : plainRun r l = some (runRes r l) := by
  unfold plainRun runRes
  rw [begin_spec r hr, Option.bind_some]
  by_cases c : ruleErr r = 0
  · simp only [if_pos c]
    rw [show ((0 : Int) != 0) = false from rfl, cond_false]
    simp only [agree_self]
    rw [rcopy_spec (rules_valid c), Option.bind_some]
    have hP := play_loop (r := r) l hl (plainRun_L2 l) (fun i g => ((i, ()), (flp dP, (flG g, ())))) (fun e => .inr (dP, (0, (e, ())))) (fun s => .inl ((), (flp dP, (flG (gm r s), ()))))
      (fun i s => by rfl) l.length 0 ([beginOf r], []) (by omega) (begin_okG c)
    rw [List.drop_zero] at hP
    have hP' : iterW (plainRun_L2 l) (((0 : Int), ()), ((([] : List Int), (([] : List Int), (([] : List Int), ((0 : Int), ((0 : Int), ()))))), (r.1, (r.2.1, (r.2.2.1, (r.2.2.2.1, (r.2.2.2.2.1, (r.2.2.2.2.2.1, (r.2.2.2.2.2.2.1, (r.2.2.2.2.2.2.2.1, (r.2.2.2.2.2.2.2.2.1, (r.2.2.2.2.2.2.2.2.2.1, (r.2.2.2.2.2.2.2.2.2.2.1, ([((beginOf r).1, (((beginOf r).2.1.1, ((beginOf r).2.1.2.1, ())), (beginOf r).2.2))], (([] : List Mv), ()))))))))))))), ())) = _ := hP
    try simp only [Option.bind_some, bne_self_eq_false, cond_false]
    rw [hP', Option.bind_some]
    unfold gameOf
    cases hg : runG r l ([beginOf r], []) with
    | inr e => rfl
    | inl s =>
      have hok := (run_ok l _ _ (begin_okG c) hg).1
      have hv := hok.last
      have hlen := hok.len
      have hm := hok.most
      simp only [Sum.elim_inl]
      have hw := w_last (L := s.1) (by omega) (by omega)
      have hi := inbN s.1 (s.1.length - 1) (by omega)
      have hcnt := cnt_loop (L := s.1) hok.all (by omega) (by omega) (plainRun_L3 ((), (flp dP, (flG (gm r s), ())))) (run_cnt () (flp dP) r s)
      have hla : getD' s.1 (s.1.length - 1) (([], (([], ([], ())), ((0 : Int), ((0 : Int), ())))) : Place) = lastP s.1 := rfl
      have hfl : (flG (gm r s)).2.2.2.2.2.2.2.2.2.2.2.1 = s.1 := rfl
      have hfr : (flG (gm r s)).2.2.2.2.2.2.2.2.2.2.1 = r.repeats := rfl
      simp only [hfl, hfr, hw, hi, req_true, Int.toNat_natCast, hla, hcnt, Option.bind_some]
      rw [pcopy_spec hv, Option.bind_some]
      rw [show endsResult ((flG (gm r s)).1, ((flG (gm r s)).2.1, ((flG (gm r s)).2.2.1, ((flG (gm r s)).2.2.2.1, ((flG (gm r s)).2.2.2.2.1, ((flG (gm r s)).2.2.2.2.2.1, ((flG (gm r s)).2.2.2.2.2.2.1, ((flG (gm r s)).2.2.2.2.2.2.2.1, ((flG (gm r s)).2.2.2.2.2.2.2.2.1, ((flG (gm r s)).2.2.2.2.2.2.2.2.2.1, (r.repeats, ()))))))))))) (lastP s.1) = some (resultOf r (lastP s.1)) from result_spec hv]
      simp only [Option.bind_some]
      unfold gameRes
      cases hc : ((resultOf r (lastP s.1) == 0) && (r.repeats != 0)) with
      | true =>
        simp only [cond_true, Option.bind_some, Bool.true_and]
        cases decide (((timesOf s.1 : Nat) : Int) ≥ r.repeats) <;> rfl
      | false => rfl
  · simp only [if_neg c]
    rw [bne_t c, cond_true, cond_true]
    rfl
end Go.Proofs.Ytocnfflklfeocaa
