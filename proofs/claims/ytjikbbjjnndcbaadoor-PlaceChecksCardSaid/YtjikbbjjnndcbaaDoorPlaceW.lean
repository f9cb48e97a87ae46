/- Texts of positions: rows and hands. No condition of its own. -/
import Derived.Test.YtjikbbjjnndcbaaDoorPlaceN
namespace Go.Proofs.YtjikbbjjnndcbaaDoor
open Go.Den
set_option linter.unusedVariables false
set_option linter.unusedSimpArgs false
set_option maxRecDepth 100000

def pieceL (r : Rules) (k : Nat) : Int := ((r.pieces[k]?).map (·.1)).getD 65
/-- the letter of a cell's number -/
def cellN (r : Rules) (c : Int) : Int := bif (c.tmod 2 == 0) then pieceL r ((c - 1).toNat / 2) + 32 else pieceL r ((c - 1).toNat / 2)
def cellT (r : Rules) (c : Int) : ByteArray := one (cellN r c).toNat
def gapT (s : ByteArray × Int) : ByteArray := bif decide (s.2 > 0) then s.1 ++ dec s.2 else s.1
def stepT (r : Rules) (s : ByteArray × Int) (c : Int) : ByteArray × Int := bif (c == 0) then (s.1, s.2 + 1) else (gapT s ++ cellT r c, 0)
def foldT (r : Rules) (cells : List Int) (s : ByteArray) : ByteArray × Int := cells.foldl (stepT r) (s, 0)
def rowT (r : Rules) (cells : List Int) : ByteArray := gapT (foldT r cells e0T)

theorem capsL {r : Rules} (hC : Caps r) (k : Nat) : 65 ≤ pieceL r k ∧ pieceL r k ≤ 90 := by
  unfold pieceL
  cases h : r.pieces[k]? with
  | none => decide
  | some q => exact hC q (List.mem_of_getElem? h)
theorem cellN_rng {r : Rules} (hC : Caps r) (c : Int) : 0 ≤ cellN r c ∧ cellN r c < 128 := by
  have := capsL hC ((c - 1).toNat / 2)
  unfold cellN
  cases (c.tmod 2 == 0) <;> simp only [cond_true, cond_false] <;> omega
theorem gap_pre (a b : ByteArray) (g : Int) : gapT (a ++ b, g) = a ++ gapT (b, g) := by
  unfold gapT
  cases decide (g > 0)
  · rfl
  · simp only [cond_true, ba_asc]
theorem step_pre (r : Rules) (a b : ByteArray) (g c : Int) : stepT r (a ++ b, g) c = (a ++ (stepT r (b, g) c).1, (stepT r (b, g) c).2) := by
  unfold stepT
  cases (c == 0)
  · simp only [cond_false, gap_pre, ba_asc]
  · rfl
theorem foldl_pre (r : Rules) (a : ByteArray) : ∀ (cells : List Int) (b : ByteArray) (g : Int), cells.foldl (stepT r) (a ++ b, g) = (a ++ (cells.foldl (stepT r) (b, g)).1, (cells.foldl (stepT r) (b, g)).2)
  | [], b, g => rfl
  | c :: cells, b, g => by
    rw [List.foldl_cons, List.foldl_cons, step_pre]
    exact foldl_pre r a cells _ _
theorem fold_pre (r : Rules) (cells : List Int) (a : ByteArray) : foldT r cells a = (a ++ (foldT r cells e0T).1, (foldT r cells e0T).2) := by
  have := foldl_pre r a cells e0T 0
  rwa [show a ++ e0T = a from ba_ext (by rw [ba_app]; simp)] at this
theorem gap_fold (r : Rules) (cells : List Int) (a : ByteArray) : gapT (foldT r cells a) = a ++ rowT r cells := by
  rw [fold_pre, gap_pre]
  rfl
/-- bounds -/
theorem gap_size {s : ByteArray × Int} (h0 : 0 ≤ s.2) (h1 : s.2 ≤ 1000) : (gapT s).size ≤ s.1.size + 4 := by
  unfold gapT
  cases h : decide (s.2 > 0)
  · simp only [cond_false]; omega
  · simp only [cond_true, size_app]
    have := dec_le h0 h1
    omega
theorem fold_bnd (r : Rules) : ∀ (cells : List Int) (b : ByteArray) (g : Int), 0 ≤ g → g + ((cells.length : Nat) : Int) ≤ 1000 → 0 ≤ (cells.foldl (stepT r) (b, g)).2 ∧ (cells.foldl (stepT r) (b, g)).2 ≤ g + ((cells.length : Nat) : Int) ∧ (cells.foldl (stepT r) (b, g)).1.size ≤ b.size + 5 * cells.length
  | [], b, g, h0, h1 => by simp only [List.foldl_nil, List.length_nil]; omega
  | c :: cells, b, g, h0, h1 => by
    rw [List.foldl_cons]
    simp only [List.length_cons] at h1 ⊢
    cases h : (c == 0)
    · have e : stepT r (b, g) c = (gapT (b, g) ++ cellT r c, 0) := by unfold stepT; rw [h]; rfl
      rw [e]
      have h2 := fold_bnd r cells (gapT (b, g) ++ cellT r c) 0 (by omega) (by omega)
      have h3 := gap_size (s := (b, g)) h0 (by simp only; omega)
      rw [size_app, show (cellT r c).size = 1 from rfl] at h2
      simp only at h3
      omega
    · have e : stepT r (b, g) c = (b, g + 1) := by unfold stepT; rw [h]; rfl
      rw [e]
      have h2 := fold_bnd r cells b (g + 1) (by omega) (by omega)
      omega
theorem foldT_bnd (r : Rules) (cells : List Int) (b : ByteArray) (h : cells.length ≤ 900) : 0 ≤ (foldT r cells b).2 ∧ (foldT r cells b).2 ≤ 900 ∧ (foldT r cells b).1.size ≤ b.size + 5 * cells.length := by
  have := fold_bnd r cells b 0 (by omega) (by omega)
  unfold foldT
  omega
theorem rowT_size (r : Rules) (cells : List Int) (h : cells.length ≤ 900) : (rowT r cells).size ≤ 5 * cells.length + 4 := by
  have h1 := foldT_bnd r cells e0T h
  have h2 := gap_size (s := foldT r cells e0T) h1.1 (by omega)
  have : e0T.size = 0 := rfl
  unfold rowT
  omega
/-- a row says something -/
theorem fold_pos (r : Rules) : ∀ (cells : List Int) (b : ByteArray) (g : Int), 0 ≤ g → g + ((cells.length : Nat) : Int) ≤ 1000 → 1 ≤ b.size ∨ 1 ≤ g ∨ 1 ≤ cells.length → 1 ≤ (cells.foldl (stepT r) (b, g)).1.size ∨ 1 ≤ (cells.foldl (stepT r) (b, g)).2
  | [], b, g, h0, h1, h => by simpa using h
  | c :: cells, b, g, h0, h1, h => by
    rw [List.foldl_cons]
    simp only [List.length_cons] at h1
    cases h : (c == 0)
    · have e : stepT r (b, g) c = (gapT (b, g) ++ cellT r c, 0) := by unfold stepT; rw [h]; rfl
      rw [e]
      exact fold_pos r cells _ 0 (by omega) (by omega) (.inl (by rw [size_app, show (cellT r c).size = 1 from rfl]; omega))
    · have e : stepT r (b, g) c = (b, g + 1) := by unfold stepT; rw [h]; rfl
      rw [e]
      exact fold_pos r cells b (g + 1) (by omega) (by omega) (.inr (.inl (by omega)))
theorem rowT_pos (r : Rules) (cells : List Int) (h : cells.length ≤ 900) (h1 : 1 ≤ cells.length) : 1 ≤ (rowT r cells).size := by
  have h2 := foldT_bnd r cells e0T h
  have h3 := fold_pos r cells e0T 0 (by omega) (by omega) (.inr (.inr h1))
  unfold rowT gapT
  unfold foldT at h2 ⊢
  cases hd : decide ((List.foldl (stepT r) (e0T, 0) cells).2 > 0)
  · simp only [cond_false]
    simp only [decide_eq_false_iff_not] at hd
    omega
  · simp only [cond_true, size_app]
    have := dec_le (n := (List.foldl (stepT r) (e0T, 0) cells).2) h2.1 (by omega)
    omega
theorem fold_take (r : Rules) (cells : List Int) (a : ByteArray) {i : Nat} (hi : i < cells.length) : foldT r (cells.take (i + 1)) a = stepT r (foldT r (cells.take i) a) cells[i] := by
  unfold foldT
  rw [List.take_succ_eq_append_getElem hi, List.foldl_append]
  rfl
theorem at_pieceL {r : Rules} {k : Int} (h0 : 0 ≤ k) (h1 : k < ((r.pieces.length : Nat) : Int)) : ∃ q, at? r.2.2.2.1 k = some q ∧ q.1 = pieceL r k.toNat := by
  have hl : k.toNat < r.pieces.length := by omega
  refine ⟨r.pieces[k.toNat], at?_eq _ _ h0 h1, ?_⟩
  unfold pieceL
  rw [List.getElem?_eq_getElem hl]
  rfl
/-- place.row -/
theorem placeRow_spec {r : Rules} (hC : Caps r) (ht : r.pieces.length ≤ 6) (cells : List Int) (hl : cells.length ≤ 64) (hc : ∀ c ∈ cells, 0 ≤ c ∧ c ≤ 2 * ((r.pieces.length : Nat) : Int)) : placeRow r cells = some (rowT r cells) := by
  unfold placeRow
  have hL := iterW_states (f := placeRow_L1 cells r) cells.length (fun i => (((i : Int), ()), (((foldT r (cells.take i) e0T).1, ()), ((foldT r (cells.take i) e0T).2, ()), ())))
    ((), (((foldT r cells e0T).1, ()), ((foldT r cells e0T).2, ()), ())) (fun i hi => by
      have hb := foldT_bnd r (cells.take i) e0T (by rw [List.length_take]; omega)
      have hlt : (cells.take i).length ≤ 64 := by rw [List.length_take]; omega
      have he : e0T.size = 0 := rfl
      have hci := hc _ (List.getElem_mem hi)
      rw [fold_take r cells e0T hi]
      generalize foldT r (cells.take i) e0T = s at hb
      unfold placeRow_L1
      simp only [show decide ((i : Int) < ((cells.length : Nat) : Int)) = true by simp; omega, cond_true]
      rw [at?_eq _ _ (by omega) (by omega), Option.bind_some]
      simp only [Int.toNat_natCast]
      rw [w64_id (n := (i : Int) + 1) (by omega) (by omega)]
      generalize cells[i] = c at hci
      unfold stepT
      cases h0 : (c == 0)
      · simp only [beq_eq_false_iff_ne] at h0
        simp only [cond_false]
        have hg := gap_size hb.1 (by omega)
        have e1 : (bif decide (s.2 > 0) then (Option.bind (itoaS s.2) fun r3 => req (strRoom s.1 r3) (some ((), (((s.1 ++ r3), ()), ())))) else some ((), ((s.1, ()), ()))) = some ((), ((gapT s, ()), ())) := by
          unfold gapT
          cases decide (s.2 > 0)
          · rfl
          · have := dec_le hb.1 (by omega)
            simp only [cond_true]
            rw [itoa_spec hb.1 (by omega), Option.bind_some, sroomT (by omega) (by omega), req_true]
        rw [e1, Option.bind_some]
        have hdm := Int.mul_tdiv_add_tmod (c - 1) 2
        have hm0 : 0 ≤ (c - 1).tmod 2 := Int.tmod_nonneg _ (by omega)
        have hm1 : (c - 1).tmod 2 < 2 := Int.tmod_lt_of_pos _ (by omega)
        rw [w64_id (n := c - 1) (by omega) (by omega), w64_id (n := (c - 1).tdiv 2) (by omega) (by omega)]
        obtain ⟨q, e2, e3⟩ := at_pieceL (r := r) (k := (c - 1).tdiv 2) (by omega) (by omega)
        rw [e2, Option.bind_some, e3]
        have hk : ((c - 1).tdiv 2).toNat = (c - 1).toNat / 2 := by omega
        rw [hk]
        have hcap := capsL hC ((c - 1).toNat / 2)
        have e4 : (bif (c.tmod 2 == 0) then some (((wu8 (pieceL r ((c - 1).toNat / 2) + 32)), ()), ()) else some ((pieceL r ((c - 1).toNat / 2), ()), ())) = some ((cellN r c, ()), ()) := by
          unfold cellN
          cases (c.tmod 2 == 0)
          · rfl
          · simp only [cond_true]
            rw [show wu8 (pieceL r ((c - 1).toNat / 2) + 32) = pieceL r ((c - 1).toNat / 2) + 32 by rw [wu8, IntKind.wrap_u8]; omega]
        rw [e4, Option.bind_some]
        have hn := cellN_rng hC c
        simp only []
        rw [enc_one hn.1 hn.2, sroomT (by omega) (by rw [one_size]; omega), req_true]
        rfl
      · simp only [cond_true, Option.bind_some]
        rw [w64_id (n := s.2 + 1) (by omega) (by omega)]
        push_cast
        rfl) (by
    unfold placeRow_L1
    simp only [show decide (((cells.length : Nat) : Int) < ((cells.length : Nat) : Int)) = false by simp, cond_false, List.take_length])
  have hL' : iterW (placeRow_L1 cells r) (((0 : Int), ()), (((ByteArray.mk #[]), ()), ((0 : Int), ()), ())) = _ := hL
  have hb := foldT_bnd r cells e0T (by omega)
  have he : e0T.size = 0 := rfl
  rw [hL', Option.bind_some]
  unfold rowT gapT
  generalize foldT r cells e0T = s at hb
  simp only []
  cases decide (s.2 > 0)
  · rfl
  · have := dec_le hb.1 (by omega)
    simp only [cond_true]
    rw [itoa_spec hb.1 (by omega), Option.bind_some, sroomT (by omega) (by omega), req_true]
    rfl

/-! hands -/
def handS (r : Rules) (l : List Int) (i : Nat) (s : ByteArray) : ByteArray := bif decide (l.getD i 0 > 0) then s ++ (one (pieceL r i).toNat ++ dec (l.getD i 0)) else s
def handF (r : Rules) (l : List Int) : ByteArray := foldN (handS r l) l.length e0T
def handT (r : Rules) (l : List Int) : ByteArray := bif decide ((handF r l).size = 0) then ByteArray.mk #[45] else handF r l
theorem handS_size {r : Rules} {l : List Int} (hl : ∀ c ∈ l, 0 ≤ c ∧ c ≤ 1000) {i : Nat} (hi : i < l.length) {s : ByteArray} (h : s.size ≤ 5 * i) : (handS r l i s).size ≤ 5 * (i + 1) := by
  unfold handS
  have hx : l.getD i 0 = l[i] := by simp [List.getD_eq_getElem?_getD, hi]
  have := dec_le (hl _ (List.getElem_mem hi)).1 (hl _ (List.getElem_mem hi)).2
  rw [hx]
  cases decide (l[i] > 0)
  · simp only [cond_false]; omega
  · simp only [cond_true, size_app, one_size]; omega
theorem handF_size {r : Rules} {l : List Int} (hl : ∀ c ∈ l, 0 ≤ c ∧ c ≤ 1000) : (handF r l).size ≤ 5 * l.length := by
  unfold handF
  have : ∀ n, n ≤ l.length → (foldN (handS r l) n e0T).size ≤ 5 * n := fun n => by
    induction n with
    | zero => intro _; exact Nat.le_refl _
    | succ n ih => intro hn; exact handS_size hl (by omega) (ih (by omega))
  exact this _ (Nat.le_refl _)
theorem handT_size {r : Rules} {l : List Int} (hl : ∀ c ∈ l, 0 ≤ c ∧ c ≤ 1000) : (handT r l).size ≤ 5 * l.length + 1 := by
  have := handF_size (r := r) hl
  unfold handT
  cases decide ((handF r l).size = 0)
  · simp only [cond_false]; omega
  · simp only [cond_true]
    show 1 ≤ _
    omega
theorem placeHand_spec {r : Rules} (hC : Caps r) (ht : r.pieces.length ≤ 6) (l : List Int) (hl : l.length = r.pieces.length) (hr : ∀ c ∈ l, 0 ≤ c ∧ c ≤ 1000) : placeHand r l = some (handT r l) := by
  unfold placeHand
  have hL := iter_fold l.length (placeHand_L1 l r) (handS r l) (fun s => ((s, ()), ())) (fun i s => s.size ≤ 5 * i) e0T (Nat.le_refl _) (fun i hi s hs => by
      refine ⟨?_, handS_size hr hi hs⟩
      unfold placeHand_L1 handS
      simp only [show decide ((i : Int) < ((l.length : Nat) : Int)) = true by simp; omega, cond_true]
      rw [at?_eq _ _ (by omega) (by omega), Option.bind_some]
      simp only [Int.toNat_natCast]
      have hx : l.getD i 0 = l[i] := by simp [List.getD_eq_getElem?_getD, hi]
      have hd := hr _ (List.getElem_mem hi)
      rw [hx, w64_id (n := (i : Int) + 1) (by omega) (by omega)]
      cases decide (l[i] > 0)
      · rfl
      · simp only [cond_true]
        obtain ⟨q, e2, e3⟩ := at_pieceL (r := r) (k := (i : Int)) (by omega) (by omega)
        have hcap := capsL hC i
        have hds := dec_le hd.1 hd.2
        rw [e2, Option.bind_some, e3, itoa_spec hd.1 hd.2, Option.bind_some]
        simp only [Int.toNat_natCast]
        rw [enc_one (by omega) (by omega), sroomT (by rw [one_size]; omega) (by omega), req_true, sroomT (by omega) (by rw [size_app, one_size]; omega), req_true]
        rfl) (fun s hs => by
      unfold placeHand_L1
      simp only [show decide (((l.length : Nat) : Int) < ((l.length : Nat) : Int)) = false by simp, cond_false])
  have hL' : iterW (placeHand_L1 l r) (((ByteArray.mk #[]), (0 : Int), ()), ()) = _ := hL
  rw [hL', Option.bind_some]
  simp only [empty_iff]
  unfold handT handF
  cases decide ((foldN (handS r l) l.length e0T).size = 0) <;> rfl
end Go.Proofs.YtjikbbjjnndcbaaDoor
