/- Handicaps: rules without pieces. No condition of its own. -/
import Derived.Test.YtaaigenpmaiodaaHandicapMeasuresS
import Derived.Test.YtaaigenpmaiodaaSearchR
import Derived.Test.YtaaigenpmaiodaaGameQ
namespace Go.Proofs.Ytaaigenpmaiodaa
open Go.Den
set_option linter.unusedVariables false
set_option linter.unusedSimpArgs false
set_option maxRecDepth 100000

/-- rules with another beginning -/
def withS (r : Rules) (c : List Int) : Rules := (r.1, (r.2.1, (r.2.2.1, (r.2.2.2.1, (c, r.2.2.2.2.2)))))
/-- a beginning without the pieces of some squares -/
def zs (r : Rules) (l : List Int) : List Int := l.foldl (fun y s => y.set s.toNat 0) r.start
theorem zs_snoc (r : Rules) (l : List Int) (s : Int) : zs r (l ++ [s]) = (zs r l).set s.toNat 0 := by unfold zs; rw [List.foldl_append]; rfl
theorem zs_len (r : Rules) (l : List Int) : (zs r l).length = r.start.length := by
  have : ∀ (l : List Int) (y : List Int), (l.foldl (fun y s => y.set s.toNat 0) y).length = y.length := by
    intro l
    induction l with
    | nil => intro y; rfl
    | cons s l ih => intro y; rw [List.foldl_cons, ih, List.length_set]
  exact this l r.start
theorem zs_get (r : Rules) : ∀ (l : List Int), (∀ s ∈ l, 0 ≤ s) → ∀ i, i < r.start.length → (zs r l).getD i 0 = if ((i : Nat) : Int) ∈ l then 0 else r.start.getD i 0 := by
  have : ∀ (l : List Int) (y : List Int), (∀ s ∈ l, 0 ≤ s) → ∀ i, i < y.length → (l.foldl (fun y s => y.set s.toNat 0) y).getD i 0 = if ((i : Nat) : Int) ∈ l then 0 else y.getD i 0 := by
    intro l
    induction l with
    | nil => intro y h i hi; simp
    | cons s l ih =>
      intro y h i hi
      have hs := h s List.mem_cons_self
      rw [List.foldl_cons, ih (y.set s.toNat 0) (fun t ht => h t (List.mem_cons_of_mem _ ht)) i (by rw [List.length_set]; exact hi)]
      by_cases c : ((i : Nat) : Int) ∈ l
      · rw [if_pos c, if_pos (List.mem_cons_of_mem _ c)]
      · rw [if_neg c]
        by_cases e : s = ((i : Nat) : Int)
        · have : s.toNat = i := by omega
          rw [if_pos (by rw [e]; exact List.mem_cons_self), this]
          simp [List.getD_eq_getElem?_getD, hi]
        · rw [if_neg (fun hm => by rcases List.mem_cons.1 hm with h1 | h1; exact e h1.symm; exact c h1)]
          have : ¬ s.toNat = i := by omega
          simp [List.getD_eq_getElem?_getD, List.getElem?_set, this]
  exact fun l h i hi => this l r.start h i hi
theorem zs_mem {r : Rules} {l : List Int} {c : Int} (h : c ∈ zs r l) : c = 0 ∨ c ∈ r.start := by
  have : ∀ (l : List Int) (y : List Int) (c : Int), c ∈ l.foldl (fun y s => y.set s.toNat 0) y → c = 0 ∨ c ∈ y := by
    intro l
    induction l with
    | nil => intro y c h; exact .inr h
    | cons s l ih =>
      intro y c h
      rw [List.foldl_cons] at h
      rcases ih _ c h with h | h
      · exact .inl h
      · rcases List.mem_or_eq_of_mem_set h with h | h
        · exact .inr h
        · exact .inl h
  exact this l r.start c h
theorem withS_ok {r : Rules} (h : ruleErr r = 0) (l : List Int) : ruleErr (withS r (zs r l)) = 0 := by
  have hv := rules_valid h
  have hs : ((r.start.length : Nat) : Int) = r.width * r.height := hv.start
  have hz : firstNZ (sErr (withS r (zs r l))) (zs r l).length = 0 := by
    have : firstNZ (sErr (withS r (zs r l))) (zs r l).length = firstNZ (fun _ => 0) (zs r l).length := firstNZ_congr fun i hi => by
      unfold sErr
      have hm : (zs r l).getD i 0 ∈ zs r l := by
        rw [List.getD_eq_getElem?_getD, List.getElem?_eq_getElem hi]
        exact List.getElem_mem hi
      have hw : rulesWithin ((withS r (zs r l)).start.getD i 0) 0 (2 * (((withS r (zs r l)).pieces.length : Nat) : Int)) = true := within_iff.2 (by
        show 0 ≤ (zs r l).getD i 0 ∧ (zs r l).getD i 0 ≤ 2 * ((r.pieces.length : Nat) : Int)
        rcases zs_mem hm with e | e
        · rw [e]; omega
        · exact hv.startC _ e)
      rw [hw]
      rfl
    rw [this]
    have : ∀ n i : Nat, scan (fun i => nz ((fun _ : Nat => (0 : Int)) i)) 0 i n = 0 := by
      intro n
      induction n with
      | zero => intro i; rfl
      | succ n ih => intro i; unfold scan; simp [nz]; simpa [nz] using ih (i + 1)
    exact this _ 0
  have e1 : endsErr (withS r (zs r l)) = endsErr r := rfl
  have e2 : lastErr (withS r (zs r l)) = lastErr r := rfl
  unfold ruleErr at h ⊢
  split at h
  · cases h
  rename_i a1
  split at h
  · cases h
  rename_i a2
  split at h
  · cases h
  rename_i a3
  split at h
  · cases h
  rename_i a4
  split at h
  · rename_i a5; exact absurd h a5
  rename_i a5
  split at h
  · cases h
  rename_i a6
  split at h
  · rename_i a7; exact absurd h a7
  rename_i a7
  have b1 : ¬ nameOk (withS r (zs r l)).name = false := a1
  have b2 : ¬ ¬ ((1 ≤ (withS r (zs r l)).width ∧ (withS r (zs r l)).width ≤ 8) ∧ 1 ≤ (withS r (zs r l)).height ∧ (withS r (zs r l)).height ≤ 8) := a2
  have b3 : ¬ (withS r (zs r l)).pieces.length = 0 := a3
  have b4 : ¬ 6 < (withS r (zs r l)).pieces.length := a4
  have b5 : ¬ firstNZ (pErr (withS r (zs r l)).pieces) (withS r (zs r l)).pieces.length ≠ 0 := a5
  have b6 : ¬ (((withS r (zs r l)).start.length : Nat) : Int) ≠ (withS r (zs r l)).width * (withS r (zs r l)).height := fun hn => hn (by show (((zs r l).length : Nat) : Int) = r.width * r.height; rw [zs_len]; exact hs)
  have b7 : ¬ firstNZ (sErr (withS r (zs r l))) (withS r (zs r l)).start.length ≠ 0 := fun hn => hn hz
  rw [if_neg b1, if_neg b2, if_neg b3, if_neg b4, if_neg b5, if_neg b6, if_neg b7, e1, e2]
  exact h
theorem withS_rng {r : Rules} (hr : Rng tyRules r) (l : List Int) : Rng tyRules (withS r (zs r l)) := by
  have h5 := hr.2.2.2.2.1
  refine ⟨hr.1, hr.2.1, hr.2.2.1, hr.2.2.2.1, ⟨?_, fun c hc => ?_⟩, hr.2.2.2.2.2⟩
  · show (zs r l).length ≤ _
    rw [zs_len]
    exact h5.1
  · rcases zs_mem hc with e | e
    · rw [e]
      show IntKind.i64.min ≤ 0 ∧ 0 ≤ IntKind.i64.max
      decide
    · exact h5.2 c e
/-! ### taking pieces away -/
/-- the error of a square, behind others -/
def errP (r : Rules) (player : Int) (prior : List Int) (s : Int) : Int := if 0 ≤ s ∧ s < ((r.start.length : Nat) : Int) then if s ∈ prior then 7 else if r.start.getD s.toNat 0 = 0 ∨ ¬ (r.start.getD s.toNat 0 - 1).tmod 2 = player then 8 else 0 else 4
def wRun (r : Rules) (player : Int) : List Int → List Int → Int
  | _, [] => 0
  | prior, s :: k => if errP r player prior s = 0 then wRun r player (prior ++ [s]) k else errP r player prior s
theorem errP_0 {r : Rules} {player : Int} {prior : List Int} {s : Int} (h : errP r player prior s = 0) : (0 ≤ s ∧ s < ((r.start.length : Nat) : Int)) ∧ ¬ s ∈ prior ∧ ¬ r.start.getD s.toNat 0 = 0 := by
  unfold errP at h
  split at h
  · rename_i h1
    split at h
    · cases h
    · rename_i h2
      split at h
      · cases h
      · rename_i h3; exact ⟨h1, h2, fun e => h3 (.inl e)⟩
  · cases h
/-- squares whose pieces have been taken -/
def Taken (r : Rules) (l : List Int) : Prop := ∀ s ∈ l, (0 ≤ s ∧ s < ((r.start.length : Nat) : Int)) ∧ ¬ r.start.getD s.toNat 0 = 0
theorem taken_snoc {r : Rules} {player : Int} {prior : List Int} {s : Int} (ht : Taken r prior) (h : errP r player prior s = 0) : Taken r (prior ++ [s]) := fun t hm => by
  have := errP_0 h
  rcases List.mem_append.1 hm with hm | hm
  · exact ht t hm
  · rw [List.mem_singleton.1 hm]; exact ⟨this.1, this.2.2⟩
theorem contains_ints (s : List Int) (v : Int) (hs : s.length ≤ 1000000000) : slicesContains_int s v = some (decide (v ∈ s)) := by
  unfold slicesContains_int slicesIndex_int
  have hL := iterW_scan s.length (slicesIndex_int_L1 s v) (fun i => if v = s.getD i 0 then some (.inr (i : Int)) else none) (.inl ((), ())) (fun i hi => by
    unfold slicesIndex_int_L1
    simp only [show decide ((i : Int) < ((s.length : Nat) : Int)) = true by simp; omega, cond_true]
    rw [at?_eq s _ (by omega) (by omega), Option.bind_some, w64_id (n := (i : Int) + 1) (by omega) (by omega)]
    simp only [Int.toNat_natCast, List.getD_eq_getElem?_getD, List.getElem?_eq_getElem hi, Option.getD_some]
    by_cases e : v = s[i]
    · simp [e]
    · simp [e, beq_f e]) (by unfold slicesIndex_int_L1; simp)
  rw [hL]
  have key : ∀ k i, i + k = s.length → (Option.bind (Option.bind (some (scan (fun i => if v = s.getD i 0 then some (Sum.inr (i : Int)) else none) (Sum.inl ((), ())) i k)) (Sum.elim (fun _ : Unit × Unit => some (-1 : Int)) some)) fun r2 => some (decide (r2 ≥ (0 : Int)))) = some (decide (v ∈ s.drop i)) := by
    intro k
    induction k with
    | zero =>
      intro i hi
      rw [show i = s.length by omega, List.drop_length]
      simp [scan]
    | succ k ih =>
      intro i hi
      have hil : i < s.length := by omega
      have hmem : (v ∈ s.drop i) ↔ v = s[i] ∨ v ∈ s.drop (i + 1) := by rw [List.drop_eq_getElem_cons hil, List.mem_cons]
      unfold scan
      have hg : s.getD i 0 = s[i] := by simp [List.getD_eq_getElem?_getD, hil]
      by_cases e : v = s[i]
      · rw [decide_eq_true (hmem.2 (.inl e))]
        simp only [hg, if_pos e, Option.bind_some, Sum.elim_inr]
        simp
      · simp only [hg, if_neg e]
        rw [ih (i + 1) (by omega)]
        have h2 : (v ∈ s.drop (i + 1)) ↔ v ∈ s.drop i := ⟨fun h => hmem.2 (.inr h), fun h => (hmem.1 h).resolve_left e⟩
        simp only [h2]
  have := key s.length 0 (by omega)
  simpa using this
theorem rcopyO_spec {r : Rules} (h : VR0 r) : rulesCopyO r = some r := by
  have t6 : r.2.2.2.1.length ≤ 6 := h.t6
  have e6 : r.2.2.2.2.2.2.2.1.length ≤ 6 := h.ends6
  have hs : ((r.2.2.2.2.1.length : Nat) : Int) = r.width * r.height := h.start
  have ha := h.area
  unfold rulesCopyO
  simp only [agree_self]
  have hL := iterW_states (f := rulesCopyO_L1 r) r.2.2.2.1.length (fun i => (((i : Int), ()), ((r.1, (r.2.1, (r.2.2.1, (r.2.2.2.1.take i, r.2.2.2.2)))), ()))) ((), ((r.1, (r.2.1, (r.2.2.1, (r.2.2.2.1, r.2.2.2.2)))), ())) (fun i hi => by
    unfold rulesCopyO_L1
    simp only [show decide ((i : Int) < ((r.2.2.2.1.length : Nat) : Int)) = true by simp; omega, cond_true]
    rw [at?_eq _ _ (by omega) (by omega), Option.bind_some]
    simp only [Int.toNat_natCast]
    rw [clone_ways _ (by have : r.2.2.2.1[i].2.2.2.1.length ≤ 16 := h.ways _ (List.getElem_mem hi); omega), Option.bind_some]
    have hroom : ∀ z : Piece, room ((r.2.2.2.1.take i).length + [z].length) 48 = true := fun z => room_ok (by simp; omega)
    rw [hroom, req_true, w64_id (n := (i : Int) + 1) (by omega) (by omega), List.take_succ_eq_append_getElem hi]
    rfl) (by
    unfold rulesCopyO_L1
    simp only [show decide (((r.2.2.2.1.length : Nat) : Int) < ((r.2.2.2.1.length : Nat) : Int)) = false by simp, cond_false, List.take_length])
  have hL' : iterW (rulesCopyO_L1 r) (((0 : Int), ()), ((r.1, (r.2.1, (r.2.2.1, (([] : List Piece), r.2.2.2.2)))), ())) = _ := hL
  rw [hL', Option.bind_some, clone_ok _ (by omega), Option.bind_some, clone_ends _ (by omega)]
  rfl
def zR : Rules := ((ByteArray.mk #[]), ((0 : Int), ((0 : Int), (([] : List Piece), (([] : List Int), (false, (false, (([] : List End), ((0 : Int), ((0 : Int), ((0 : Int), ())))))))))))
theorem wo_L1 (sq : List Int) (r : Rules) (player i : Int) (z : Rules) (y : List Int) : handicapWithout_L1 sq r player ((i, ()), (z, (y, ()))) = bif (decide (i < ((sq.length : Nat) : Int))) then (Option.bind (at? sq i) fun s => bif ((decide (s < 0)) || (decide (s ≥ ((r.start.length : Nat) : Int)))) then some (Sum.inr (Sum.inr (zR, (4, ())))) else
    req (boundsI 0 i sq.length) (Option.bind (slicesContains_int ((sq.take i.toNat).drop 0) s) fun c => bif c then some (Sum.inr (Sum.inr (zR, (7, ())))) else Option.bind (at? r.start s) fun d => Option.bind (gat (!(d == 0)) 0 r.start s) fun d' => req (imp (!(d == 0)) true) (bif ((d == 0) || (((w64 (d' - 1)).tmod 2) != player)) then some (Sum.inr (Sum.inr (zR, (8, ()))))
      else req (inb s y.length) (some (Sum.inl ((w64 (i + 1), ()), (z, ((y.set s.toNat 0), ()))))))))
  else some (Sum.inr (Sum.inl ((), (z, (y, ()))))) := rfl
theorem wo_iter {r : Rules} (hv : VR0 r) (player : Int) (sq : List Int) (hl : sq.length ≤ 1000000) (z : Rules) : ∀ (k i : Nat), i + k = sq.length → Taken r (sq.take i) →
    iterW (handicapWithout_L1 sq r player) (((i : Int), ()), (z, (zs r (sq.take i), ()))) = some (if wRun r player (sq.take i) (sq.drop i) = 0 then .inl ((), (z, (zs r sq, ()))) else .inr (zR, (wRun r player (sq.take i) (sq.drop i), ())))
  | 0, i, hi, ht => by
    have : i = sq.length := by omega
    subst this
    refine iterW_inr ?_
    rw [wo_L1, decide_eq_false (by omega), cond_false, List.drop_length, List.take_length]
    rfl
  | k + 1, i, hi, ht => by
    have hil : i < sq.length := by omega
    have hsl : ((r.start.length : Nat) : Int) = r.width * r.height := hv.start
    have ha := hv.area
    have hF := wo_L1 sq r player (i : Int) z (zs r (sq.take i))
    rw [decide_eq_true (by omega), cond_true, at?_eq sq _ (by omega) (by omega), Option.bind_some] at hF
    simp only [Int.toNat_natCast] at hF
    rw [List.drop_eq_getElem_cons hil]
    unfold wRun
    have herr : errP r player (sq.take i) sq[i] = if 0 ≤ sq[i] ∧ sq[i] < ((r.start.length : Nat) : Int) then if sq[i] ∈ sq.take i then 7 else if r.start.getD sq[i].toNat 0 = 0 ∨ ¬ (r.start.getD sq[i].toNat 0 - 1).tmod 2 = player then 8 else 0 else 4 := rfl
    by_cases c1 : 0 ≤ sq[i] ∧ sq[i] < ((r.start.length : Nat) : Int)
    · rw [show ((decide (sq[i] < 0)) || (decide (sq[i] ≥ ((r.start.length : Nat) : Int)))) = false by simp; omega, cond_false, show boundsI 0 (i : Int) sq.length = true by simp [boundsI]; omega, req_true, List.drop_zero, contains_ints _ _ (by simp; omega), Option.bind_some] at hF
      rw [if_pos c1] at herr
      by_cases c2 : sq[i] ∈ sq.take i
      · rw [decide_eq_true c2, cond_true] at hF
        rw [if_pos c2] at herr
        rw [iterW_inr hF, herr]
        simp
      · rw [decide_eq_false c2, cond_false] at hF
        rw [if_neg c2] at herr
        have hsn : sq[i].toNat < r.start.length := by omega
        have hd : r.start.getD sq[i].toNat 0 = r.start[sq[i].toNat] := by rw [List.getD_eq_getElem?_getD, List.getElem?_eq_getElem hsn]; rfl
        have hrng := hv.startC _ (List.getElem_mem hsn)
        have t6 := hv.t6
        have himp : ∀ b, imp b true = true := fun b => by cases b <;> rfl
        rw [at?_eq r.start _ c1.1 c1.2, Option.bind_some] at hF
        simp only [himp, req_true] at hF
        rw [hd] at herr
        by_cases c3 : r.start[sq[i].toNat] = 0 ∨ ¬ (r.start[sq[i].toNat] - 1).tmod 2 = player
        · rw [if_pos c3] at herr
          have hb : ((r.start[sq[i].toNat] == 0) || (((w64 (r.start[sq[i].toNat] - 1)).tmod 2) != player)) = true := by
            rw [w64_id (by omega) (by omega)]
            rcases c3 with c3 | c3
            · rw [beq_t c3]; rfl
            · rw [bne_t c3, Bool.or_true]
          by_cases c4 : r.start[sq[i].toNat] = 0
          · rw [beq_t c4, Bool.not_true] at hF
            simp only [gat, cond_false, Option.bind_some, Bool.true_or, cond_true] at hF
            rw [iterW_inr hF, herr]
            simp
          · rw [beq_f c4, Bool.not_false] at hF
            simp only [gat, cond_true] at hF
            rw [at?_eq r.start _ c1.1 c1.2, Option.bind_some] at hF
            rw [beq_f c4] at hb
            rw [hb, cond_true] at hF
            rw [iterW_inr hF, herr]
            simp
        · rw [if_neg c3] at herr
          have c4 : ¬ r.start[sq[i].toNat] = 0 := fun e => c3 (.inl e)
          have c5 : (r.start[sq[i].toNat] - 1).tmod 2 = player := Decidable.not_not.1 fun e => c3 (.inr e)
          rw [beq_f c4, Bool.not_false] at hF
          simp only [gat, cond_true] at hF
          rw [at?_eq r.start _ c1.1 c1.2, Option.bind_some, w64_id (n := r.start[sq[i].toNat] - 1) (by omega) (by omega), bne_f c5, Bool.or_false, cond_false, show inb sq[i] (zs r (sq.take i)).length = true from inb_iff.2 ⟨c1.1, by rw [zs_len]; exact c1.2⟩, req_true, w64_id (n := (i : Int) + 1) (by omega) (by omega), ← zs_snoc, ← List.take_succ_eq_append_getElem hil] at hF
          rw [iterW_inl hF, if_pos herr]
          have ht2 := taken_snoc ht herr
          rw [← List.take_succ_eq_append_getElem hil] at ht2 ⊢
          exact wo_iter hv player sq hl z k (i + 1) (by omega) ht2
    · rw [show ((decide (sq[i] < 0)) || (decide (sq[i] ≥ ((r.start.length : Nat) : Int)))) = true by simp; omega, cond_true] at hF
      rw [if_neg c1] at herr
      rw [iterW_inr hF, herr]
      simp
def woErr (r : Rules) (player : Int) (sq : List Int) : Int := if ruleErr r = 0 then if player = 0 ∨ player = 1 then wRun r player [] sq else 1 else ruleErr r
theorem wo_spec (r : Rules) (player : Int) (sq : List Int) (hr : Rng tyRules r) (hl : sq.length ≤ 1000000) : handicapWithout r player sq = some (if woErr r player sq = 0 then (withS r (zs r sq), (0, ())) else (zR, (woErr r player sq, ()))) := by
  unfold handicapWithout woErr
  rw [check_spec r hr, Option.bind_some]
  by_cases c : ruleErr r = 0
  · have hv := rules_valid c
    rw [bne_f c, cond_false]
    simp only [if_pos c]
    by_cases cp : player = 0 ∨ player = 1
    · rw [show ((player != 0) && (player != 1)) = false by rcases cp with h | h <;> subst h <;> rfl, cond_false]
      simp only [if_pos cp]
      rw [rcopyO_spec hv, Option.bind_some]
      have hI := wo_iter hv player sq hl zR sq.length 0 (by omega) (by rw [List.take_zero]; exact fun s hs => by cases hs)
      rw [List.take_zero, List.drop_zero] at hI
      have hI' : iterW (handicapWithout_L1 sq r player) (((0 : Int), ()), (zR, (r.start, ()))) = _ := hI
      show Option.bind (iterW (handicapWithout_L1 sq r player) (((0 : Int), ()), (zR, (r.start, ())))) _ = _
      rw [hI', Option.bind_some]
      by_cases cw : wRun r player [] sq = 0
      · rw [if_pos cw, if_pos cw]; rfl
      · rw [if_neg cw, if_neg cw]; rfl
    · rw [show ((player != 0) && (player != 1)) = true by rw [not_or] at cp; simp [cp], cond_true]
      simp only [if_neg cp]
      rfl
  · rw [bne_t c, cond_true]
    simp only [if_neg c]
    rfl
theorem wRun_take {r : Rules} {player : Int} : ∀ (l prior : List Int) (k : Nat), wRun r player prior l = 0 → wRun r player prior (l.take k) = 0
  | [], prior, k, h => by simp [wRun]
  | s :: l, prior, 0, h => rfl
  | s :: l, prior, k + 1, h => by
    rw [List.take_succ_cons]
    unfold wRun at h ⊢
    by_cases c : errP r player prior s = 0
    · rw [if_pos c] at h ⊢
      exact wRun_take l _ k h
    · rw [if_neg c] at h
      exact absurd h c
end Go.Proofs.Ytaaigenpmaiodaa
