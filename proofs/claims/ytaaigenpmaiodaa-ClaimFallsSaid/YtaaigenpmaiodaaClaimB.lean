/- Which conditions let a player still win, as the program computes it, in plain Lean. No condition of its own. -/
import Derived.Test.YtaaigenpmaiodaaClaimFallsS
import Derived.Test.YtaaigenpmaiodaaClaimA
namespace Go.Proofs.Ytaaigenpmaiodaa
open Go.Den
set_option linter.unusedVariables false
set_option linter.unusedSimpArgs false
set_option maxRecDepth 100000

def ownB (pl c : Int) : Bool := decide (c > 0) && ((w64 (c - 1)).tmod 2 == pl)
def kc (c : Int) : Nat := ((c - 1) / 2).toNat
theorem kc_eq {c : Int} (h : 0 < c) (h' : c ≤ 12) : w64 ((w64 (c - 1)).tdiv 2) = ((kc c : Nat) : Int) := by
  unfold kc
  rw [w64_id (n := c - 1) (by omega) (by omega), Int.tdiv_eq_ediv_of_nonneg (by omega), w64_id (by omega) (by omega)]
  omega
theorem mine_pos {pl c : Int} (h : ownB pl c = true) : 0 < c := by
  unfold ownB at h
  rw [Bool.and_eq_true, decide_eq_true_eq] at h
  exact h.1
def handP (p : Place) (pl : Int) : List Int := getD' [p.2.1.1, p.2.1.2.1] pl.toNat []
def hk (p : Place) (pl : Int) (k : Nat) : Int := getD' (handP p pl) k 0
def nN (p : Place) (pl : Int) (n : Nat) : Int := ((p.1.countP (ownB pl) : Nat) : Int) + sumN (hk p pl) n
def typesN (p : Place) (pl : Int) (n : Nat) : List Nat := (p.1.filter (ownB pl)).map kc ++ (List.range n).filter (fun k => decide (hk p pl k > 0))
def typesL (p : Place) (pl : Int) (n : Nat) : List Int := (typesN p pl n).map fun k : Nat => (k : Int)
theorem handP_len {r : Rules} {p : Place} (hv : Valid r p) {pl : Int} (hpl : pl = 0 ∨ pl = 1) : (handP p pl).length = r.pieces.length := by
  rcases hpl with h | h
  · subst h; exact hv.l0
  · subst h; exact hv.l1
theorem hk_rng {r : Rules} {p : Place} (hv : Valid r p) {pl : Int} (hpl : pl = 0 ∨ pl = 1) (k : Nat) : 0 ≤ hk p pl k ∧ hk p pl k ≤ 1000 := by
  unfold hk
  by_cases c : k < (handP p pl).length
  · rw [gd_eq _ k c]
    rcases hpl with h | h
    · subst h; exact hv.hand0 _ (List.getElem_mem (l := p.2.1.1) (by exact c))
    · subst h; exact hv.hand1 _ (List.getElem_mem (l := p.2.1.2.1) (by exact c))
  · simp [getD', List.getElem?_eq_none (Nat.not_lt.1 c)]
theorem cells_len {r : Rules} {p : Place} (hv : Valid r p) : p.1.length ≤ 64 := by
  have h1 := hv.cells
  have h2 := hv.r0.area
  have h3 : ((p.1.length : Nat) : Int) = r.width * r.height := h1
  omega
theorem cell12 {r : Rules} {p : Place} (hv : Valid r p) {c : Int} (hc : c ∈ p.1) : 0 ≤ c ∧ c ≤ 2 * ((r.pieces.length : Nat) : Int) ∧ c ≤ 12 := by
  have h1 := hv.cell c hc
  have h2 := hv.r0.t6
  omega
theorem himp (b : Bool) : imp b true = true := by cases b <;> rfl
theorem take_le {A : Type} (q : A → Bool) (l : List A) (i : Nat) : ((l.take i).filter q).length ≤ i := Nat.le_trans (List.length_filter_le _ _) (by simp; omega)
theorem types_spec {r : Rules} {p : Place} (hv : Valid r p) {pl : Int} (hpl : pl = 0 ∨ pl = 1) : claimTypes p pl = some (typesL p pl r.pieces.length, (nN p pl r.pieces.length, ())) := by
  have hc64 := cells_len hv
  have ht6 := hv.r0.t6
  have hH := handP_len hv hpl
  have h1 : iterW (claimTypes_L1 p pl) ((([] : List Int), (0 : Int), (0 : Int), ()), ()) = some ((((p.1.filter (ownB pl)).map (fun c => ((kc c : Nat) : Int))), (((p.1.countP (ownB pl) : Nat) : Int)), ()), ()) := by
    have := iterW_states (f := claimTypes_L1 p pl) p.1.length (fun i => ((((p.1.take i).filter (ownB pl)).map (fun c => ((kc c : Nat) : Int)), (((p.1.take i).countP (ownB pl) : Nat) : Int), (i : Int), ()), ())) ((((p.1.filter (ownB pl)).map (fun c => ((kc c : Nat) : Int))), (((p.1.countP (ownB pl) : Nat) : Int)), ()), ()) (fun i hi => by
      have hm : p.1[i] ∈ p.1 := List.getElem_mem _
      have h12 := cell12 hv hm
      have hcl : (p.1.take i).countP (ownB pl) ≤ i := by rw [List.countP_eq_length_filter]; exact take_le _ _ _
      unfold claimTypes_L1
      simp only [ltd p.1 i hi, cond_true]
      rw [at?_eq _ _ (by omega) (by omega)]
      simp only [Option.bind_some, Int.toNat_natCast, himp, req_true]
      rw [show (decide (p.1[i] > 0) && ((w64 (p.1[i] - 1)).tmod 2 == pl)) = ownB pl p.1[i] from rfl, List.take_succ_eq_append_getElem hi, List.filter_append, List.map_append, List.countP_append]
      rw [w64_id (n := (i : Int) + 1) (by omega) (by omega)]
      cases hq : ownB pl p.1[i] with
      | true =>
        have hp0 := mine_pos hq
        rw [kc_eq hp0 h12.2.2, w64_id (n := (((p.1.take i).countP (ownB pl) : Nat) : Int) + 1) (by omega) (by omega), cond_true]
        rw [room_ok (by rw [List.length_map]; have := take_le (ownB pl) p.1 i; simp only [List.length_singleton]; omega), req_true]
        simp [hq]
      | false =>
        simp [hq]) (by
      unfold claimTypes_L1
      simp only [nltd, cond_false, List.take_length])
    exact this
  have h2 : iterW (claimTypes_L2 p pl) ((((p.1.filter (ownB pl)).map (fun c => ((kc c : Nat) : Int))), (((p.1.countP (ownB pl) : Nat) : Int)), (0 : Int), ()), ()) = some ((typesL p pl r.pieces.length, nN p pl r.pieces.length, ()), ()) := by
    have hcp : p.1.countP (ownB pl) ≤ 64 := Nat.le_trans List.countP_le_length hc64
    have hfl : (p.1.filter (ownB pl)).length ≤ 64 := Nat.le_trans (List.length_filter_le _ _) hc64
    have := iterW_states (f := claimTypes_L2 p pl) r.pieces.length (fun i => ((typesL p pl i, nN p pl i, (i : Int), ()), ())) ((typesL p pl r.pieces.length, nN p pl r.pieces.length, ()), ()) (fun i hi => by
      have hk1 := hk_rng hv hpl i
      have hs := sumN_rng (hk p pl) 1000 i (fun j _ => hk_rng hv hpl j)
      unfold claimTypes_L2
      simp only [show getD' [p.2.1.1, p.2.1.2.1] pl.toNat [] = handP p pl from rfl]
      simp only [ltd (handP p pl) i (by omega), cond_true]
      rw [at?_eq _ _ (by omega) (by omega)]
      simp only [Option.bind_some, Int.toNat_natCast]
      rw [show (handP p pl)[i]'(by omega) = hk p pl i from (gd_eq _ i (by omega) 0).symm]
      rw [w64_id (n := (i : Int) + 1) (by omega) (by omega)]
      have e1 : nN p pl (i + 1) = nN p pl i + hk p pl i := by unfold nN; rw [sumN]; omega
      have hn : 0 ≤ nN p pl i ∧ nN p pl i ≤ 6064 := by unfold nN; omega
      have e2 : typesL p pl (i + 1) = bif decide (hk p pl i > 0) then typesL p pl i ++ [(i : Int)] else typesL p pl i := by
        unfold typesL typesN
        rw [List.range_succ, List.filter_append]
        cases hq : decide (hk p pl i > 0) <;> simp [hq]
      rw [e1, e2]
      cases hq : decide (hk p pl i > 0) with
      | true =>
        have hl : (typesL p pl i).length ≤ 100 := by
          unfold typesL typesN
          rw [List.length_map, List.length_append, List.length_map]
          have : ((List.range i).filter (fun k => decide (hk p pl k > 0))).length ≤ (List.range i).length := List.length_filter_le _ _
          rw [List.length_range] at this
          omega
        rw [cond_true, room_ok (by simp only [List.length_singleton]; omega), req_true, w64_id (n := nN p pl i + hk p pl i) (by omega) (by omega)]
        rfl
      | false =>
        have hz : hk p pl i = 0 := by rw [decide_eq_false_iff_not] at hq; omega
        rw [hz, Int.add_zero]
        rfl) (by
      unfold claimTypes_L2
      simp only [show getD' [p.2.1.1, p.2.1.2.1] pl.toNat [] = handP p pl from rfl]
      rw [show ((r.pieces.length : Nat) : Int) = (((handP p pl).length : Nat) : Int) by rw [hH], nltd, cond_false])
    have e0 : typesL p pl 0 = (p.1.filter (ownB pl)).map (fun c => ((kc c : Nat) : Int)) := by
      unfold typesL typesN
      simp
    have e1 : nN p pl 0 = ((p.1.countP (ownB pl) : Nat) : Int) := by unfold nN; simp [sumN]
    rw [← e0, ← e1]
    exact this
  unfold claimTypes
  rw [h1, Option.bind_some, show inb pl 2 = true from inb_iff.2 (by omega), req_true, h2, Option.bind_some]
theorem types_lt {r : Rules} {p : Place} (hv : Valid r p) {pl : Int} {k : Nat} (hk' : k ∈ typesN p pl r.pieces.length) : k < r.pieces.length := by
  unfold typesN at hk'
  rcases List.mem_append.1 hk' with h | h
  · obtain ⟨c, hc, e⟩ := List.mem_map.1 h
    obtain ⟨h1, h2⟩ := List.mem_filter.1 hc
    have h3 := cell12 hv h1
    have h4 := mine_pos h2
    rw [← e]
    unfold kc
    omega
  · exact List.mem_range.1 (List.mem_filter.1 h).1
theorem types_iff {p : Place} {pl : Int} {n : Nat} (q : Nat → Bool) : (typesN p pl n).any q = true ↔ ∃ k, q k = true ∧ ((∃ c ∈ p.1, ownB pl c = true ∧ kc c = k) ∨ (k < n ∧ hk p pl k > 0)) := by
  rw [List.any_eq_true]
  constructor
  · rintro ⟨k, hk1, hq⟩
    refine ⟨k, hq, ?_⟩
    rcases List.mem_append.1 hk1 with h | h
    · obtain ⟨c, hc, e⟩ := List.mem_map.1 h
      obtain ⟨h1, h2⟩ := List.mem_filter.1 hc
      exact .inl ⟨c, h1, h2, e⟩
    · obtain ⟨h1, h2⟩ := List.mem_filter.1 h
      exact .inr ⟨List.mem_range.1 h1, by simpa using h2⟩
  · rintro ⟨k, hq, h⟩
    refine ⟨k, List.mem_append.2 ?_, hq⟩
    rcases h with ⟨c, h1, h2, h3⟩ | ⟨h1, h2⟩
    · exact .inl (List.mem_map.2 ⟨c, List.mem_filter.2 ⟨h1, h2⟩, h3⟩)
    · exact .inr (List.mem_filter.2 ⟨List.mem_range.2 h1, by simpa using h2⟩)

def dQ : Piece := (0, 0, 0, [], ())
def pieceN (r : Rules) (k : Nat) : Piece := getD' r.pieces k dQ
def prN (r : Rules) (k : Nat) : Nat := (pieceN r k).2.2.1.toNat
theorem piece_mem (r : Rules) {k : Nat} (h : k < r.pieces.length) : pieceN r k ∈ r.pieces := by unfold pieceN; rw [gd_eq _ k h]; exact List.getElem_mem _
theorem piece_at (r : Rules) {k : Nat} (h : k < r.pieces.length) : at? r.2.2.2.1 (k : Int) = some (pieceN r k) := by
  rw [at?_eq _ _ (by omega) (by show (k : Int) < ((r.pieces.length : Nat) : Int); omega)]
  unfold pieceN
  rw [gd_eq _ k h]
  rfl
theorem pr_le {r : Rules} (hv : VR0 r) : ∀ k, k < r.pieces.length → prN r k ≤ r.pieces.length := fun k h => by
  have := hv.prom _ (piece_mem r h)
  unfold prN
  omega
theorem becomes_go {r : Rules} (hv : VR0 r) (g : Nat) : ∀ m i k : Nat, i + m = r.pieces.length + 1 → k < r.pieces.length → Option.bind (α := ((Unit) × (Unit)) ⊕ Bool) (iterW (claimBecomes_L1 r (g : Int)) (((k : Int), (i : Int), ()), ())) (Sum.elim (fun x4 => some false) some) = some (bec (prN r) g m k) := by
  have ht6 := hv.t6
  have hw : w64 (((r.2.2.2.1.length : Nat) : Int) + 1) = ((r.pieces.length : Nat) : Int) + 1 := w64_id (by show _ ≤ ((r.pieces.length : Nat) : Int) + 1; omega) (by show ((r.pieces.length : Nat) : Int) + 1 ≤ _; omega)
  intro m
  induction m with
  | zero =>
    intro i k hi hk
    rw [iterW_inr (r := .inl ((), ())) (by
      unfold claimBecomes_L1
      simp only
      rw [hw, decide_eq_false (by omega)]
      rfl)]
    rfl
  | succ m ih =>
    intro i k hi hk
    have hp := hv.prom _ (piece_mem r hk)
    by_cases e : k = g
    · rw [iterW_inr (r := .inr true) (by
        unfold claimBecomes_L1
        simp only
        rw [hw, decide_eq_true (by omega), cond_true, beq_t (by omega), cond_true])]
      unfold bec
      rw [beq_t e]
      rfl
    · by_cases c : (pieceN r k).2.2.1 = 0
      · rw [iterW_inr (r := .inr false) (by
          unfold claimBecomes_L1
          simp only
          rw [hw, decide_eq_true (by omega), cond_true, beq_f (by omega), cond_false, piece_at r hk, Option.bind_some, beq_t c, cond_true])]
        unfold bec
        rw [beq_f e, decide_eq_false (show ¬ 0 < prN r k by unfold prN; omega)]
        rfl
      · have e2 : w64 ((pieceN r k).2.2.1 - 1) = ((prN r k - 1 : Nat) : Int) := by
          unfold prN
          rw [w64_id (by omega) (by omega)]
          omega
        have hlt : prN r k - 1 < r.pieces.length := by unfold prN; omega
        rw [iterW_inl (y := ((((prN r k - 1 : Nat) : Int), ((i + 1 : Nat) : Int), ()), ())) (by
          unfold claimBecomes_L1
          simp only
          rw [hw, decide_eq_true (by omega), cond_true, beq_f (by omega), cond_false, piece_at r hk, Option.bind_some, beq_f c, cond_false, Option.bind_some, e2, w64_id (n := (i : Int) + 1) (by omega) (by omega)]
          rfl), ih (i + 1) (prN r k - 1) (by omega) hlt]
        conv => rhs; unfold bec
        rw [beq_f e, decide_eq_true (show 0 < prN r k by unfold prN; omega)]
        rfl
theorem becomes_spec {r : Rules} (hv : VR0 r) (g k : Nat) (hk : k < r.pieces.length) : claimBecomes r (k : Int) (g : Int) = some (bec (prN r) g (r.pieces.length + 1) k) := becomes_go hv g _ 0 k (by omega) hk

theorem takes_loop (q : Piece) (hq : q.2.2.2.1.length ≤ 16) (i : Nat) : iterW (claimAble_L3 q (((i : Int), ()), ())) (((0 : Int), ()), ()) = some (bif q.2.2.2.1.any (fun w => w.2.2.2.1 != 0) then .inr (.inr (.inr ((true, ()), ()))) else .inl ((), ())) := by
  refine iterW_any (β := ((Unit) × (Unit)) ⊕ (((Int × Unit) × (Unit)) ⊕ (((Unit) × (Unit)) ⊕ ((Bool × Unit) × (Unit))))) q.2.2.2.1 (fun w => w.2.2.2.1 != 0) _ (.inr (.inr (.inr ((true, ()), ())))) (.inl ((), ())) (fun j hj => ?_) ?_
  · unfold claimAble_L3
    simp only
    rw [ltd _ j hj, cond_true, at?_eq _ _ (by omega) (by omega), Option.bind_some, decide_eq_true (show (j : Int) ≥ 0 by omega), decide_eq_true (show (i : Int) ≥ 0 by omega), w64_id (n := (j : Int) + 1) (by omega) (by omega)]
    simp only [Int.toNat_natCast]
    cases (q.2.2.2.1[j].2.2.2.1 != 0) <;> rfl
  · unfold claimAble_L3
    simp only
    rw [nltd]
    rfl
def takesK (r : Rules) (k : Nat) : Bool := (pieceN r k).2.2.2.1.any fun w => w.2.2.2.1 != 0
def ableX (r : Rules) (p : Place) (pl : Int) (x : End) : Bool := (x.2.2.2.1 || (x.1 == 2)) || ((((x.1 == 0) && decide (nN p pl r.pieces.length ≥ x.2.2.1)) || ((x.1 == 1) && (typesN p pl r.pieces.length).any (bec (prN r) x.2.1.toNat (r.pieces.length + 1)))) || (r.keeps && (typesN p pl r.pieces.length).any (takesK r)))
theorem able_spec {r : Rules} {p : Place} (hv : Valid r p) {pl : Int} (hpl : pl = 0 ∨ pl = 1) {x : End} (hx : x ∈ r.ends) : claimAble r p x pl = some (ableX r p pl x) := by
  have hE := hv.r0.ends x hx
  have ht1 := hv.r0.t1
  have ht6 := hv.r0.t6
  have hx1 : 0 ≤ x.2.1 := by
    have := hE.2.2
    split at this <;> omega
  have hg : x.2.1 = ((x.2.1.toNat : Nat) : Int) := by omega
  have hTl : (typesN p pl r.pieces.length).length ≤ 100 := by
    have hfl : (p.1.filter (ownB pl)).length ≤ 64 := Nat.le_trans (List.length_filter_le _ _) (cells_len hv)
    have : ((List.range r.pieces.length).filter (fun k => decide (hk p pl k > 0))).length ≤ (List.range r.pieces.length).length := List.length_filter_le _ _
    rw [List.length_range] at this
    unfold typesN
    rw [List.length_append, List.length_map]
    omega
  have hlen : (typesL p pl r.pieces.length).length = (typesN p pl r.pieces.length).length := List.length_map _
  have hget : ∀ i (hi : i < (typesN p pl r.pieces.length).length), getD' (typesL p pl r.pieces.length) i 0 = (((typesN p pl r.pieces.length)[i] : Nat) : Int) := fun i hi => by
    rw [gd_eq _ i (by omega)]
    unfold typesL
    rw [List.getElem_map]
  have i1 : iterW (claimAble_L1 (typesL p pl r.pieces.length, (nN p pl r.pieces.length, ())) r x) (((0 : Int), ()), ()) = some (bif (typesN p pl r.pieces.length).any (bec (prN r) x.2.1.toNat (r.pieces.length + 1)) then .inr ((true, ()), ()) else .inl ((), ())) := by
    refine iterW_any (β := ((Unit) × (Unit)) ⊕ ((Bool × Unit) × (Unit))) (typesN p pl r.pieces.length) _ _ (.inr ((true, ()), ())) (.inl ((), ())) (fun i hi => ?_) ?_
    · unfold claimAble_L1
      simp only
      rw [decide_eq_true (show (i : Int) < (((typesL p pl r.pieces.length).length : Nat) : Int) by omega), cond_true, inbN _ i (by omega), req_true, Int.toNat_natCast, hget i hi, hg, becomes_spec hv.r0 _ _ (types_lt hv (List.getElem_mem _)), Option.bind_some, decide_eq_true (show (i : Int) ≥ 0 by omega), w64_id (n := (i : Int) + 1) (by omega) (by omega)]
      rfl
    · unfold claimAble_L1
      simp only
      rw [decide_eq_false (by omega)]
      rfl
  have i2 : iterW (claimAble_L2 (typesL p pl r.pieces.length, (nN p pl r.pieces.length, ())) r) (((0 : Int), ()), ()) = some (bif (typesN p pl r.pieces.length).any (takesK r) then .inr ((true, ()), ()) else .inl ((), ())) := by
    refine iterW_any (β := ((Unit) × (Unit)) ⊕ ((Bool × Unit) × (Unit))) (typesN p pl r.pieces.length) _ _ (.inr ((true, ()), ())) (.inl ((), ())) (fun i hi => ?_) ?_
    · have hlt := types_lt hv (List.getElem_mem hi)
      have hwl := hv.r0.ways _ (piece_mem r hlt)
      unfold claimAble_L2
      simp only
      rw [decide_eq_true (show (i : Int) < (((typesL p pl r.pieces.length).length : Nat) : Int) by omega), cond_true, inbN _ i (by omega), req_true, Int.toNat_natCast, hget i hi, piece_at r hlt, Option.bind_some, w64_id (n := (i : Int) + 1) (by omega) (by omega)]
      rw [takes_loop _ hwl i]
      show _ = bif (pieceN r (typesN p pl r.pieces.length)[i]).2.2.2.1.any (fun w => w.2.2.2.1 != 0) then _ else _
      cases (pieceN r (typesN p pl r.pieces.length)[i]).2.2.2.1.any (fun w => w.2.2.2.1 != 0) <;> rfl
    · unfold claimAble_L2
      simp only
      rw [decide_eq_false (by omega)]
      rfl
  unfold claimAble
  rw [types_spec hv hpl, Option.bind_some, i1, i2]
  unfold ableX
  show _ = some (_ || (_ || (r.2.2.2.2.2.2.1 && _)))
  cases (x.2.2.2.1 || (x.1 == 2)) with
  | true => rfl
  | false =>
    cases ((x.1 == 0) && decide (nN p pl r.pieces.length ≥ x.2.2.1)) with
    | true => rfl
    | false =>
      cases (x.1 == 1) <;> cases (typesN p pl r.pieces.length).any (bec (prN r) x.2.1.toNat (r.pieces.length + 1)) <;> cases r.2.2.2.2.2.2.1 <;> cases (typesN p pl r.pieces.length).any (takesK r) <;> rfl
def ableR (r : Rules) (p : Place) (pl : Int) : Bool := (r.blocked != 2) || r.ends.any (ableX r p pl)
theorem ablei_spec (r : Rules) (p : Place) (pl : Int) (hr : Rng tyRules r) (hn : p.1.length ≤ 9223372036854775807) : claimAble_i r p pl = some (if placeErr r p = 0 then if pl = 0 ∨ pl = 1 then (ableR r p pl, (0, ())) else (false, (1, ())) else (false, (placeErr r p, ()))) := by
  unfold claimAble_i
  rw [place_spec r p hr hn, Option.bind_some]
  by_cases c : placeErr r p = 0
  · have hv := valid_of c
    have h6 := hv.r0.ends6
    rw [bne_f c, cond_false, if_pos c]
    by_cases cp : pl = 0 ∨ pl = 1
    · rw [if_pos cp, show ((pl != 0) && (pl != 1)) = false by rcases cp with h | h <;> subst h <;> rfl, cond_false]
      have i1 : iterW (claimAble_i_L1 r p pl) (((0 : Int), ()), ()) = some (bif r.ends.any (ableX r p pl) then .inr ((true, (0 : Int), ()), ()) else .inl ((), ())) := by
        refine iterW_any (β := ((Unit) × (Unit)) ⊕ ((Bool × Int × Unit) × (Unit))) r.ends _ _ (.inr ((true, (0 : Int), ()), ())) (.inl ((), ())) (fun i hi => ?_) ?_
        · have hi' : i < r.2.2.2.2.2.2.2.1.length := hi
          unfold claimAble_i_L1
          simp only
          rw [ltd _ i hi', cond_true, at?_eq _ _ (by omega) (by omega), Option.bind_some]
          simp only [Int.toNat_natCast]
          rw [able_spec hv cp (x := r.2.2.2.2.2.2.2.1[i]) (List.getElem_mem (l := r.ends) hi), Option.bind_some, decide_eq_true (show (i : Int) ≥ 0 by omega), w64_id (n := (i : Int) + 1) (by omega) (by omega)]
          rfl
        · unfold claimAble_i_L1
          simp only
          rw [show decide (((r.ends.length : Nat) : Int) < ((r.2.2.2.2.2.2.2.1.length : Nat) : Int)) = false from nltd r.ends]
          rfl
      rw [i1]
      unfold ableR
      show _ = some ((r.2.2.2.2.2.2.2.2.1 != 2) || _, _)
      cases (r.2.2.2.2.2.2.2.2.1 != 2) <;> cases r.ends.any (ableX r p pl) <;> rfl
    · rw [if_neg cp, show ((pl != 0) && (pl != 1)) = true by rw [bne_t (by omega), bne_t (by omega)]; rfl]
      rfl
  · rw [bne_t c, if_neg c]
    rfl
end Go.Proofs.Ytaaigenpmaiodaa
