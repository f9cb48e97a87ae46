/- Keys of positions, as the program and the reference compute them. No condition of its own. -/
import Derived.Test.YtocnfflklfeocaaCoreB
namespace Go.Proofs.Ytocnfflklfeocaa
open Go.Den
set_option linter.unusedVariables false
set_option linter.unusedSimpArgs false
set_option maxRecDepth 100000

theorem wu_eq (n : Int) : wu64 n = n % 18446744073709551616 := by
  simp [wu64, IntKind.wrap, IntKind.signed, IntKind.bits]
theorem shr_eq (a : Int) (h0 : 0 ≤ a) (h1 : a < 18446744073709551616) (k : Nat) (hk : k ≤ 64) (c : Int) (hc : c = 2 ^ k) (hc1 : 1 ≤ c) : shK .shr .u64 a (k : Int) = wu64 (a.tdiv c) := by
  have e : shK .shr .u64 a (k : Int) = a.fdiv c := by
    unfold shK
    rw [hc, Int.toNat_natCast, show min k (IntKind.bits .u64) = k from Nat.min_eq_left hk]
  rw [e, wu_eq, Int.fdiv_eq_ediv_of_nonneg _ (by omega), Int.tdiv_eq_ediv_of_nonneg h0]
  have h2 := Int.ediv_nonneg h0 (show 0 ≤ c by omega)
  have h3 : a / c ≤ a := Int.ediv_le_self _ h0
  rw [Int.emod_eq_of_lt h2 (by omega)]
theorem wu_rng (n : Int) : 0 ≤ wu64 n ∧ wu64 n < 18446744073709551616 := by rw [wu_eq]; omega
theorem mix_eq (n : Int) : zobMix n = ref1Mixed n := by
  unfold zobMix ref1Mixed
  have e1 : wu64 (wu64 (wu64 n + 1) * 11400714819323198485) = wu64 (wu64 (wu64 n * 11400714819323198485) + 11400714819323198485) := by
    simp only [wu_eq]
    omega
  rw [e1]
  have s : ∀ a, shK .shr .u64 (wu64 a) (30 : Int) = wu64 ((wu64 a).tdiv 1073741824) := fun a => shr_eq _ (wu_rng a).1 (wu_rng a).2 30 (by omega) _ (by decide) (by omega)
  have s2 : ∀ a, shK .shr .u64 (wu64 a) (27 : Int) = wu64 ((wu64 a).tdiv 134217728) := fun a => shr_eq _ (wu_rng a).1 (wu_rng a).2 27 (by omega) _ (by decide) (by omega)
  have s3 : ∀ a, shK .shr .u64 (wu64 a) (31 : Int) = wu64 ((wu64 a).tdiv 2147483648) := fun a => shr_eq _ (wu_rng a).1 (wu_rng a).2 31 (by omega) _ (by decide) (by omega)
  simp only [s, s2, s3]
def k1 (p : Place) (i : Nat) (a : Int) : Int := bif p.1.getD i 0 != 0 then wu64 (a + zobMix (16 * (i : Int) + p.1.getD i 0)) else a
def k2 (o : Int) (l : List Int) (i : Nat) (a : Int) : Int := wu64 (a + wu64 (zobMix (2000 + 8 * o + (i : Int)) * wu64 (l.getD i 0)))
/-- the key of a position -/
def keyOf (p : Place) : Int := bif p.turn == 1 then wu64 (foldN (k2 1 p.2.1.2.1) p.2.1.2.1.length (foldN (k2 0 p.2.1.1) p.2.1.1.length (foldN (k1 p) p.1.length 0)) + zobMix 3000) else foldN (k2 1 p.2.1.2.1) p.2.1.2.1.length (foldN (k2 0 p.2.1.1) p.2.1.1.length (foldN (k1 p) p.1.length 0))
abbrev R64 (a : Int) : Prop := 0 ≤ a ∧ a < 18446744073709551616
theorem k1_rng {p : Place} {i : Nat} {a : Int} (h : R64 a) : R64 (k1 p i a) := by
  unfold k1
  cases (p.1.getD i 0 != 0)
  · exact h
  · exact wu_rng _
theorem fold_rng {g : Nat → Int → Int} (hg : ∀ i a, R64 a → R64 (g i a)) : ∀ (n : Nat) (a : Int), R64 a → R64 (foldN g n a)
  | 0, a, h => h
  | n + 1, a, h => hg n _ (fold_rng hg n a h)
theorem key1 {r : Rules} {p : Place} (h : Valid r p) : iterW (zobOf_L1 p) (((0 : Int), (0 : Int), ()), ()) = some ((foldN (k1 p) p.1.length 0, ()), ()) := by
  have h64 := area_len h
  refine iter_fold p.1.length (zobOf_L1 p) (k1 p) (fun a => ((a, ()), ())) (fun _ _ => True) 0 trivial (fun i hi a _ => ⟨?_, trivial⟩) (fun a _ => ?_)
  · unfold zobOf_L1
    have hc := cell_small h (i : Int)
    simp only [show decide ((i : Int) < ((p.1.length : Nat) : Int)) = true by simp; omega, cond_true]
    rw [at_cell (p := p) (s := (i : Int)) (by omega) (by show (i : Int) < ((p.1.length : Nat) : Int); omega), Option.bind_some, w64_id (n := 16 * (i : Int)) (by omega) (by omega), w64_id (n := 16 * (i : Int) + cellI p (i : Int)) (by omega) (by omega), w64_id (n := (i : Int) + 1) (by omega) (by omega)]
    unfold k1
    rw [show p.1.getD i 0 = cellI p (i : Int) from rfl]
    cases (cellI p (i : Int) != 0) <;> rfl
  · unfold zobOf_L1; simp
theorem rkey1 {r : Rules} {p : Place} (h : Valid r p) : iterW (ref1Key_L1 p) (((0 : Int), (0 : Int), ()), ()) = some ((foldN (k1 p) p.1.length 0, ()), ()) := by
  have h64 := area_len h
  refine iter_fold p.1.length (ref1Key_L1 p) (k1 p) (fun a => ((a, ()), ())) (fun _ _ => True) 0 trivial (fun i hi a _ => ⟨?_, trivial⟩) (fun a _ => ?_)
  · unfold ref1Key_L1
    have hc := cell_small h (i : Int)
    simp only [show decide ((i : Int) < ((p.1.length : Nat) : Int)) = true by simp; omega, cond_true]
    rw [at_cell (p := p) (s := (i : Int)) (by omega) (by show (i : Int) < ((p.1.length : Nat) : Int); omega), Option.bind_some, Option.bind_some, w64_id (n := (i : Int) * 16) (by omega) (by omega), w64_id (n := (i : Int) * 16 + cellI p (i : Int)) (by omega) (by omega), w64_id (n := (i : Int) + 1) (by omega) (by omega), ← mix_eq]
    unfold k1
    rw [show p.1.getD i 0 = cellI p (i : Int) from rfl, show (i : Int) * 16 = 16 * (i : Int) by omega]
    by_cases hz : cellI p (i : Int) = 0
    · simp [hz]
    · rw [bne_t hz, show decide (cellI p (i : Int) > 0) = true by simp; omega]; rfl
  · unfold ref1Key_L1; simp
theorem key3 {p : Place} (o : Nat) (ho : o < 2) (l : List Int) (hl : l = getD' [p.2.1.1, p.2.1.2.1] o []) (h6 : l.length ≤ 6) (a0 b0 : Int) : iterW (zobOf_L3 p ((b0, (o : Int), ()), ())) ((a0, (0 : Int), ()), ()) = some ((foldN (k2 (o : Int) l) l.length a0, ()), ()) := by
  refine iter_fold l.length (zobOf_L3 p ((b0, (o : Int), ()), ())) (k2 (o : Int) l) (fun a => ((a, ()), ())) (fun _ _ => True) a0 trivial (fun i hi a _ => ⟨?_, trivial⟩) (fun a _ => ?_)
  · unfold zobOf_L3
    simp only [Int.toNat_natCast, ← hl]
    simp only [show decide ((i : Int) < ((l.length : Nat) : Int)) = true by simp; omega, cond_true]
    rw [at?_eq l _ (by omega) (by omega), Option.bind_some, w64_id (n := 8 * (o : Int)) (by omega) (by omega), w64_id (n := 2000 + 8 * (o : Int)) (by omega) (by omega), w64_id (n := 2000 + 8 * (o : Int) + (i : Int)) (by omega) (by omega), w64_id (n := (i : Int) + 1) (by omega) (by omega)]
    unfold k2
    simp only [Int.toNat_natCast, List.getD_eq_getElem?_getD, List.getElem?_eq_getElem hi, Option.getD_some]
  · unfold zobOf_L3
    simp only [Int.toNat_natCast, ← hl]
    simp
theorem rkey4 (d : Int) (h0 : 0 ≤ d) (h1 : d ≤ 1000) (x6 x7 : (Int × Int × Unit) × Unit) (M : Int) (hM : ref1Mixed (w64 ((w64 ((w64 (x6.1.2.1 * (8 : Int))) + x7.1.2.1)) + (2000 : Int))) = M) (a0 : Int) (ha : R64 a0) : iterW (ref1Key_L4 d x6 x7) ((a0, (0 : Int), ()), ()) = some ((wu64 (a0 + wu64 (M * wu64 d)), ()), ()) := by
  have hf : ∀ n : Nat, foldN (fun _ a => wu64 (a + M)) n a0 = (a0 + M * (n : Int)) % 18446744073709551616 := fun n => by
    induction n with
    | zero => simp only [foldN]; rw [Int.ofNat_zero, Int.mul_zero]; omega
    | succ n ih =>
      simp only [foldN]
      rw [ih, wu_eq, show ((n + 1 : Nat) : Int) = (n : Int) + 1 by omega, Int.mul_add, Int.mul_one]
      omega
  have e : wu64 (a0 + wu64 (M * wu64 d)) = foldN (fun _ a => wu64 (a + M)) d.toNat a0 := by
    rw [hf, wu_eq, wu_eq, wu_eq, Int.toNat_of_nonneg h0, show d % 18446744073709551616 = d by omega]
    omega
  rw [e]
  have hd : ((d.toNat : Nat) : Int) = d := by omega
  refine iter_fold d.toNat (ref1Key_L4 d x6 x7) (fun _ a => wu64 (a + M)) (fun a => ((a, ()), ())) (fun _ _ => True) a0 trivial (fun i hi a _ => ⟨?_, trivial⟩) (fun a _ => ?_)
  · unfold ref1Key_L4
    simp only [show decide ((i : Int) < d) = true by simp; omega, cond_true, hM]
    rw [w64_id (n := (i : Int) + 1) (by omega) (by omega)]
  · unfold ref1Key_L4
    simp only [show decide (((d.toNat : Nat) : Int) < d) = false by simp; omega, cond_false]
theorem k2_rng {o : Int} {l : List Int} (i : Nat) (a : Int) (h : R64 a) : R64 (k2 o l i a) := wu_rng _
theorem rkey3 {p : Place} (o : Nat) (ho : o < 2) (l : List Int) (hl : l = getD' [p.2.1.1, p.2.1.2.1] o []) (h6 : l.length ≤ 6) (hr : ∀ c ∈ l, 0 ≤ c ∧ c ≤ 1000) (a0 b0 : Int) (ha : R64 a0) : iterW (ref1Key_L3 p ((b0, (o : Int), ()), ())) ((a0, (0 : Int), ()), ()) = some ((foldN (k2 (o : Int) l) l.length a0, ()), ()) := by
  refine iter_fold l.length (ref1Key_L3 p ((b0, (o : Int), ()), ())) (k2 (o : Int) l) (fun a => ((a, ()), ())) (fun _ a => R64 a) a0 ha (fun i hi a hra => ⟨?_, k2_rng i a hra⟩) (fun a _ => ?_)
  · unfold ref1Key_L3
    simp only [Int.toNat_natCast, ← hl]
    simp only [show decide ((i : Int) < ((l.length : Nat) : Int)) = true by simp; omega, cond_true]
    have hm := hr l[i] (List.getElem_mem hi)
    rw [at?_eq l _ (by omega) (by omega), Option.bind_some]
    simp only [Int.toNat_natCast]
    rw [rkey4 l[i] hm.1 hm.2 _ _ (zobMix (2000 + 8 * (o : Int) + (i : Int))) (by
      simp only
      rw [w64_id (n := (o : Int) * 8) (by omega) (by omega), w64_id (n := (o : Int) * 8 + (i : Int)) (by omega) (by omega), w64_id (n := (o : Int) * 8 + (i : Int) + 2000) (by omega) (by omega), mix_eq]
      congr 1; omega) a hra]
    simp only [Option.bind_some]
    rw [w64_id (n := (i : Int) + 1) (by omega) (by omega)]
    unfold k2
    simp only [List.getD_eq_getElem?_getD, List.getElem?_eq_getElem hi, Option.getD_some]
  · unfold ref1Key_L3
    simp only [Int.toNat_natCast, ← hl]
    simp
theorem key_spec {r : Rules} {p : Place} (h : Valid r p) : zobOf p = some (keyOf p) := by
  have ht := h.r0.t6
  have a0 : p.2.1.1.length = r.pieces.length := h.l0
  have a1 : p.2.1.2.1.length = r.pieces.length := h.l1
  unfold zobOf keyOf
  rw [key1 h, Option.bind_some]
  generalize foldN (k1 p) p.1.length 0 = a
  have hL : iterW (zobOf_L2 p) ((a, (0 : Int), ()), ()) = some ((foldN (k2 1 p.2.1.2.1) p.2.1.2.1.length (foldN (k2 0 p.2.1.1) p.2.1.1.length a), ()), ()) := by
    rw [iterW_inl (y := ((foldN (k2 0 p.2.1.1) p.2.1.1.length a, (1 : Int), ()), ())) (by
      unfold zobOf_L2
      have := key3 (p := p) 0 (by omega) p.2.1.1 rfl (by omega) a a
      simp only [show decide ((0 : Int) < 2) = true from rfl, cond_true, show inb (0 : Int) 2 = true from rfl, req_true]
      rw [show iterW (zobOf_L3 p ((a, (0 : Int), ()), ())) ((a, (0 : Int), ()), ()) = _ from this]
      rfl)]
    rw [iterW_inl (y := ((foldN (k2 1 p.2.1.2.1) p.2.1.2.1.length (foldN (k2 0 p.2.1.1) p.2.1.1.length a), (2 : Int), ()), ())) (by
      unfold zobOf_L2
      have := key3 (p := p) 1 (by omega) p.2.1.2.1 rfl (by omega) (foldN (k2 0 p.2.1.1) p.2.1.1.length a) (foldN (k2 0 p.2.1.1) p.2.1.1.length a)
      simp only [show decide ((1 : Int) < 2) = true from rfl, cond_true, show inb (1 : Int) 2 = true from rfl, req_true]
      rw [show iterW (zobOf_L3 p ((foldN (k2 0 p.2.1.1) p.2.1.1.length a, (1 : Int), ()), ())) ((foldN (k2 0 p.2.1.1) p.2.1.1.length a, (0 : Int), ()), ()) = _ from this]
      rfl)]
    exact iterW_inr rfl
  simp only
  rw [hL, Option.bind_some, show (p.2.2.1 == (1 : Int)) = (p.turn == 1) from rfl]
  cases (p.turn == 1) <;> rfl
theorem rkey_spec {r : Rules} {p : Place} (h : Valid r p) : ref1Key p = some (keyOf p) := by
  have ht := h.r0.t6
  have a0 : p.2.1.1.length = r.pieces.length := h.l0
  have a1 : p.2.1.2.1.length = r.pieces.length := h.l1
  unfold ref1Key keyOf
  rw [rkey1 h, Option.bind_some]
  have hra : R64 (foldN (k1 p) p.1.length 0) := fold_rng (fun i a => k1_rng) _ _ (by unfold R64; omega)
  generalize foldN (k1 p) p.1.length 0 = a at hra
  have hrb : R64 (foldN (k2 0 p.2.1.1) p.2.1.1.length a) := fold_rng (fun i a => k2_rng i a) _ _ hra
  have hL : iterW (ref1Key_L2 p) ((a, (0 : Int), ()), ()) = some ((foldN (k2 1 p.2.1.2.1) p.2.1.2.1.length (foldN (k2 0 p.2.1.1) p.2.1.1.length a), ()), ()) := by
    rw [iterW_inl (y := ((foldN (k2 0 p.2.1.1) p.2.1.1.length a, (1 : Int), ()), ())) (by
      unfold ref1Key_L2
      have := rkey3 (p := p) 0 (by omega) p.2.1.1 rfl (by omega) h.hand0 a a hra
      simp only [show decide ((0 : Int) < 2) = true from rfl, cond_true, show inb (0 : Int) 2 = true from rfl, req_true]
      rw [show iterW (ref1Key_L3 p ((a, (0 : Int), ()), ())) ((a, (0 : Int), ()), ()) = _ from this]
      rfl)]
    rw [iterW_inl (y := ((foldN (k2 1 p.2.1.2.1) p.2.1.2.1.length (foldN (k2 0 p.2.1.1) p.2.1.1.length a), (2 : Int), ()), ())) (by
      unfold ref1Key_L2
      have := rkey3 (p := p) 1 (by omega) p.2.1.2.1 rfl (by omega) h.hand1 (foldN (k2 0 p.2.1.1) p.2.1.1.length a) (foldN (k2 0 p.2.1.1) p.2.1.1.length a) hrb
      simp only [show decide ((1 : Int) < 2) = true from rfl, cond_true, show inb (1 : Int) 2 = true from rfl, req_true]
      rw [show iterW (ref1Key_L3 p ((foldN (k2 0 p.2.1.1) p.2.1.1.length a, (1 : Int), ()), ())) ((foldN (k2 0 p.2.1.1) p.2.1.1.length a, (0 : Int), ()), ()) = _ from this]
      rfl)]
    exact iterW_inr rfl
  simp only
  rw [hL, Option.bind_some, show (p.2.2.1 == (1 : Int)) = (p.turn == 1) from rfl, ← mix_eq]
  cases (p.turn == 1) <;> rfl
end Go.Proofs.Ytocnfflklfeocaa
