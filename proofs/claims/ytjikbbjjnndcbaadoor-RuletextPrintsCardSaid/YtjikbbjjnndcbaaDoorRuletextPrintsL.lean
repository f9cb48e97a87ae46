/- RuletextPrints: the plain law. No condition of its own. -/
import Derived.Test.YtjikbbjjnndcbaaDoorRuleU
import Derived.Test.YtjikbbjjnndcbaaDoorRuletextPrintsS
import Derived.Test.YtjikbbjjnndcbaaDoorDenQ
namespace Go.Proofs.YtjikbbjjnndcbaaDoor
open Go.Den
set_option linter.unusedVariables false
set_option linter.unusedSimpArgs false
set_option maxRecDepth 100000

def letN (r : Rules) (k : Nat) : Int := ((r.pieces[k]?).map (·.1)).getD 65
def letT (r : Rules) (n : Int) : ByteArray := bif (n == 0) then ByteArray.mk #[45] else one (letN r (n - 1).toNat).toNat
def takeT (n : Int) : ByteArray := getD' [(ByteArray.mk #[110, 101, 118, 101, 114]), (ByteArray.mk #[109, 97, 121]), (ByteArray.mk #[109, 117, 115, 116])] n.toNat ByteArray.empty
def blockT (n : Int) : ByteArray := getD' [(ByteArray.mk #[108, 111, 115, 101, 115]), (ByteArray.mk #[119, 105, 110, 115]), (ByteArray.mk #[100, 114, 97, 119, 115])] n.toNat ByteArray.empty
def wLine (w : Way) : ByteArray := (((((((ByteArray.mk #[119, 97, 121, 32]) ++ dec w.1) ++ (ByteArray.mk #[32])) ++ dec w.2.1) ++ (ByteArray.mk #[32])) ++ dec w.2.2.1) ++ (ByteArray.mk #[32])) ++ takeT w.2.2.2.1
def pLine (r : Rules) (q : Piece) : ByteArray := (((((ByteArray.mk #[112, 105, 101, 99, 101, 32]) ++ one q.1.toNat) ++ (ByteArray.mk #[32])) ++ dec q.2.1) ++ (ByteArray.mk #[32])) ++ letT r q.2.2.1
def pLines (r : Rules) (q : Piece) : List ByteArray := [pLine r q] ++ q.2.2.2.1.flatMap fun w => [wLine w]
def cellB (r : Rules) (c : Int) : Int := bif (c == 0) then 46 else bif (c.tmod 2 == 0) then letN r ((c - 1).toNat / 2) + 32 else letN r ((c - 1).toNat / 2)
def rowB (r : Rules) (y : Int) (x : Nat) : Int := cellB r (r.start.getD (y * r.width + (x : Int)).toNat 0)
def rowLine (r : Rules) (y : Int) : ByteArray := (ByteArray.mk #[114, 111, 119, 32]) ++ bigT (fun x => one (rowB r y x).toNat) r.width.toNat
def howT (b : Bool) : ByteArray := bif b then (ByteArray.mk #[32, 108, 111, 115, 101, 115]) else (ByteArray.mk #[32, 119, 105, 110, 115])
def eLine (r : Rules) (x : End) : ByteArray :=
  bif (x.1 == 0) then ((ByteArray.mk #[101, 110, 100, 32, 108, 105, 110, 101, 32]) ++ dec x.2.2.1) ++ howT x.2.2.2.1
  else bif (x.1 == 1) then ((ByteArray.mk #[101, 110, 100, 32, 114, 101, 97, 99, 104, 32]) ++ one (letN r x.2.1.toNat).toNat) ++ howT x.2.2.2.1
  else ((((ByteArray.mk #[101, 110, 100, 32, 116, 97, 107, 101, 32]) ++ one (letN r x.2.1.toNat).toNat) ++ (ByteArray.mk #[32])) ++ dec x.2.2.1) ++ howT x.2.2.2.1
def gLine (r : Rules) : ByteArray := (((((ByteArray.mk #[103, 97, 109, 101, 32]) ++ r.name) ++ (ByteArray.mk #[32])) ++ dec r.width) ++ (ByteArray.mk #[32])) ++ dec r.height
def rowsL (r : Rules) : List ByteArray := (List.range r.height.toNat).flatMap fun (i : Nat) => [rowLine r (r.height - 1 - (i : Int))]
def flagL (b : Bool) (t : ByteArray) : List ByteArray := bif b then [t] else []
def lastL (r : Rules) : List ByteArray := [(ByteArray.mk #[98, 108, 111, 99, 107, 101, 100, 32]) ++ blockT r.blocked, (ByteArray.mk #[113, 117, 105, 101, 116, 32]) ++ dec r.quiet, (ByteArray.mk #[114, 101, 112, 101, 97, 116, 32]) ++ dec r.repeats]
def preL (r : Rules) : List ByteArray := (((([gLine r] ++ r.pieces.flatMap (pLines r)) ++ rowsL r) ++ flagL r.falls (ByteArray.mk #[102, 97, 108, 108, 115])) ++ flagL r.keeps (ByteArray.mk #[107, 101, 101, 112, 115])) ++ r.ends.flatMap fun x => [eLine r x]
def textR (r : Rules) : ByteArray := catT (preL r ++ lastL r)

theorem rcapsL {r : Rules} (hC : Caps r) (k : Nat) : 65 ≤ letN r k ∧ letN r k ≤ 90 := by
  unfold letN
  cases h : r.pieces[k]? with
  | none => decide
  | some q => exact hC q (List.mem_of_getElem? h)
theorem at_letN {r : Rules} {k : Int} (h0 : 0 ≤ k) (h1 : k < ((r.pieces.length : Nat) : Int)) : ∃ q, at? r.2.2.2.1 k = some q ∧ q.1 = letN r k.toNat := by
  have hl : k.toNat < r.pieces.length := by omega
  refine ⟨r.pieces[k.toNat], at?_eq _ _ h0 h1, ?_⟩
  unfold letN
  rw [List.getElem?_eq_getElem hl]
  rfl
theorem getD'_size (a b c : ByteArray) (ha : a.size ≤ 5) (hb : b.size ≤ 5) (hc : c.size ≤ 5) (n : Nat) : (getD' [a, b, c] n ByteArray.empty).size ≤ 5 := by
  match n with
  | 0 => exact ha
  | 1 => exact hb
  | 2 => exact hc
  | k + 3 => exact Nat.zero_le _
theorem takeT_size (n : Int) : (takeT n).size ≤ 5 := getD'_size _ _ _ (by decide) (by decide) (by decide) _
theorem blockT_size (n : Int) : (blockT n).size ≤ 5 := getD'_size _ _ _ (by decide) (by decide) (by decide) _
theorem letT_size (r : Rules) (n : Int) : (letT r n).size = 1 := by
  unfold letT
  cases (n == 0) <;> rfl
theorem letter_spec {r : Rules} (hC : Caps r) {n : Int} (h0 : 0 ≤ n) (h1 : n ≤ ((r.pieces.length : Nat) : Int)) (h6 : r.pieces.length ≤ 6) : ruletextLetter r n = some (letT r n) := by
  unfold ruletextLetter letT
  cases h : (n == 0)
  · simp only [beq_eq_false_iff_ne] at h
    simp only [cond_false]
    rw [w64_id (by omega) (by omega)]
    obtain ⟨q, e1, e2⟩ := at_letN (r := r) (k := n - 1) (by omega) (by omega)
    have := rcapsL hC (n - 1).toNat
    rw [e1, Option.bind_some, e2, enc_one (by omega) (by omega)]
  · rfl
abbrev WayOK (w : Way) : Prop := (-7 ≤ w.1 ∧ w.1 ≤ 7) ∧ (-7 ≤ w.2.1 ∧ w.2.1 ≤ 7) ∧ ¬ (w.1 = 0 ∧ w.2.1 = 0) ∧ (1 ≤ w.2.2.1 ∧ w.2.2.1 ≤ 7) ∧ (0 ≤ w.2.2.2.1 ∧ w.2.2.2.1 ≤ 2)
theorem wLine_size {w : Way} (h : WayOK w) : (wLine w).size ≤ 30 := by
  obtain ⟨⟨a1, a2⟩, ⟨b1, b2⟩, _, ⟨c1, c2⟩, d1, d2⟩ := h
  have s1 := dec_any (n := w.1) (by omega) (by omega)
  have s2 := dec_any (n := w.2.1) (by omega) (by omega)
  have s3 := dec_any (n := w.2.2.1) (by omega) (by omega)
  have s4 := takeT_size w.2.2.2.1
  unfold wLine
  simp only [size_app, sz_mk, List.size_toArray, List.length_cons, List.length_nil]
  omega
/-! the program -/
theorem printL2_spec (q : Piece) (a0 : List ByteArray) (h0 : a0.length ≤ 1000) (hl : q.2.2.2.1.length ≤ 16) (hw : ∀ w ∈ q.2.2.2.1, WayOK w) :
    iterW (ruletextPrint_L2 q) ((a0, (0 : Int), ()), ()) = some ((a0 ++ q.2.2.2.1.flatMap fun w => [wLine w], ()), ()) := by
  refine iter_list q.2.2.2.1 1 (ruletextPrint_L2 q) (fun w => [wLine w]) (fun a => ((a, ()), ())) a0 (fun _ _ => Nat.le_refl _) (fun i hi a ha => ?_) (fun a => ?_)
  · have hwi := hw _ (List.getElem_mem hi)
    have e : ∀ n : Int, getD' [(ruletextTakes).1, ((ruletextTakes).2).1, (((ruletextTakes).2).2).1] n.toNat ByteArray.empty = takeT n := fun _ => rfl
    unfold ruletextPrint_L2
    simp only [show decide ((i : Int) < ((q.2.2.2.1.length : Nat) : Int)) = true by simp; omega, cond_true]
    rw [at?_eq _ _ (Int.natCast_nonneg i) (Int.ofNat_lt.2 hi), Option.bind_some]
    simp only [Int.toNat_natCast, e]
    rw [w64_id (n := (i : Int) + 1) (by omega) (by omega)]
    generalize q.2.2.2.1[i] = w at hwi
    obtain ⟨⟨a1, a2⟩, ⟨b1, b2⟩, _, ⟨c1, c2⟩, d1, d2⟩ := hwi
    have s1 := dec_any (n := w.1) (by omega) (by omega)
    have s2 := dec_any (n := w.2.1) (by omega) (by omega)
    have s3 := dec_any (n := w.2.2.1) (by omega) (by omega)
    have s4 := takeT_size w.2.2.2.1
    rw [itoa_any (n := w.1) (by omega) (by omega), itoa_any (n := w.2.1) (by omega) (by omega), itoa_any (n := w.2.2.1) (by omega) (by omega)]
    simp only [Option.bind_some]
    simp (disch := (first | omega | (simp only [size_app, sz_mk, List.size_toArray, List.length_cons, List.length_nil]; omega))) only [sroomT, req_true]
    rw [show inb w.2.2.2.1 3 = true from inb_iff.2 (by omega), req_true, room_ok (by simp only [List.length_cons, List.length_nil]; omega), req_true]
    rfl
  · unfold ruletextPrint_L2
    simp only [show decide (((q.2.2.2.1.length : Nat) : Int) < ((q.2.2.2.1.length : Nat) : Int)) = false by simp, cond_false]
theorem pLines_len (r : Rules) {q : Piece} (h : q.2.2.2.1.length ≤ 16) : (pLines r q).length ≤ 17 := by
  unfold pLines
  have := flatMap_len (fun w => [wLine w]) 1 q.2.2.2.1 (fun _ _ => Nat.le_refl _)
  simp only [List.length_append, List.length_cons, List.length_nil]
  omega
theorem printL1_spec {r : Rules} (hC : Caps r) (hv : VR0 r) (a0 : List ByteArray) (h0 : a0.length ≤ 10) :
    iterW (ruletextPrint_L1 r) ((a0, (0 : Int), ()), ()) = some ((a0 ++ r.pieces.flatMap (pLines r), ()), ()) := by
  have h6 := hv.t6
  refine iter_list r.pieces 17 (ruletextPrint_L1 r) (pLines r) (fun a => ((a, ()), ())) a0 (fun q hq => pLines_len r (hv.ways q hq)) (fun i hi a ha => ?_) (fun a => ?_)
  · have hm := List.getElem_mem hi
    have hh := hv.hand _ hm
    have hp := hv.prom _ hm
    have hws := hv.ways _ hm
    have hw := hv.way _ hm
    have hi6 : i ≤ 5 := by omega
    unfold ruletextPrint_L1
    simp only [show decide ((i : Int) < ((r.pieces.length : Nat) : Int)) = true by simp; omega, cond_true]
    rw [at?_eq _ _ (Int.natCast_nonneg i) (Int.ofNat_lt.2 hi), Option.bind_some]
    simp only [Int.toNat_natCast]
    rw [w64_id (n := (i : Int) + 1) (by omega) (by omega), letter_spec hC (n := (i : Int) + 1) (by omega) (by omega) h6]
    have hlet : letT r ((i : Int) + 1) = one (r.pieces[i]).1.toNat := by
      unfold letT letN
      rw [beq_f (by omega), cond_false, show ((i : Int) + 1 - 1).toNat = i by omega, List.getElem?_eq_getElem hi]
      rfl
    rw [hlet]
    generalize r.pieces[i] = q at hh hp hws hw
    have s1 := dec_any (n := q.2.1) (by omega) (by omega)
    have s2 := letT_size r q.2.2.1
    have s3 : (one q.1.toNat).size = 1 := rfl
    rw [itoa_any (n := q.2.1) (by omega) (by omega), letter_spec hC (n := q.2.2.1) hp.1 hp.2 h6]
    simp only [Option.bind_some]
    simp (disch := (first | omega | (simp only [size_app, sz_mk, List.size_toArray, List.length_cons, List.length_nil]; omega))) only [sroomT, req_true]
    rw [room_ok (by simp only [List.length_cons, List.length_nil]; omega), req_true]
    have := printL2_spec q (a ++ [pLine r q]) (by rw [List.length_append, List.length_cons, List.length_nil]; omega) hws hw
    unfold pLine at this
    rw [this]
    unfold pLines pLine
    simp only [Option.bind_some, List.append_assoc]
  · unfold ruletextPrint_L1
    simp only [show decide (((r.pieces.length : Nat) : Int) < ((r.pieces.length : Nat) : Int)) = false by simp, cond_false]
theorem cell_idx {r : Rules} {c : Int} (h0 : 0 ≤ c) (h1 : c ≤ 2 * ((r.pieces.length : Nat) : Int)) (h6 : r.pieces.length ≤ 6) (hc : ¬ c = 0) : ∃ q, at? r.2.2.2.1 (w64 ((w64 (c - 1)).tdiv 2)) = some q ∧ q.1 = letN r ((c - 1).toNat / 2) ∧ w64 (c - 1) = c - 1 ∧ (((c - 1).tmod 2 == 1) = (c.tmod 2 == 0)) := by
  have h2 := Int.mul_tdiv_add_tmod (c - 1) 2
  have h3 : 0 ≤ (c - 1).tmod 2 := Int.tmod_nonneg _ (by omega)
  have h4 : (c - 1).tmod 2 < 2 := Int.tmod_lt_of_pos _ (by omega)
  have h5 := Int.mul_tdiv_add_tmod c 2
  have h7 : 0 ≤ c.tmod 2 := Int.tmod_nonneg _ (by omega)
  have h8 : c.tmod 2 < 2 := Int.tmod_lt_of_pos _ (by omega)
  rw [w64_id (n := c - 1) (by omega) (by omega), w64_id (by omega) (by omega)]
  obtain ⟨q, e1, e2⟩ := at_letN (r := r) (k := (c - 1).tdiv 2) (by omega) (by omega)
  refine ⟨q, e1, ?_, rfl, ?_⟩
  · rw [e2, show ((c - 1).tdiv 2).toNat = (c - 1).toNat / 2 by omega]
  · rw [Bool.eq_iff_iff]
    simp only [beq_iff_eq]
    omega
theorem wu8_id {n : Int} (h0 : 0 ≤ n) (h1 : n ≤ 255) : wu8 n = n := by
  unfold wu8
  rw [IntKind.wrap_u8]
  omega
theorem cell_spec {r : Rules} (hC : Caps r) {c : Int} (h0 : 0 ≤ c) (h1 : c ≤ 2 * ((r.pieces.length : Nat) : Int)) (h6 : r.pieces.length ≤ 6) : ruletextCell r c = some (cellB r c) := by
  unfold ruletextCell cellB
  cases h : (c == 0)
  · simp only [beq_eq_false_iff_ne] at h
    obtain ⟨q, e1, e2, e3, e4⟩ := cell_idx h0 h1 h6 h
    have := rcapsL hC ((c - 1).toNat / 2)
    simp only [cond_false]
    rw [e1, Option.bind_some, e2, e3, e4, wu8_id (by omega) (by omega)]
    cases (c.tmod 2 == 0) <;> rfl
  · rfl
theorem refLetter_spec {r : Rules} (hC : Caps r) {c : Int} (h0 : 0 ≤ c) (h1 : c ≤ 2 * ((r.pieces.length : Nat) : Int)) (h6 : r.pieces.length ≤ 6) (h : ¬ c = 0) : ref1Letter r c = some (one (cellB r c).toNat) := by
  unfold ref1Letter cellB
  obtain ⟨q, e1, e2, e3, e4⟩ := cell_idx h0 h1 h6 h
  have := rcapsL hC ((c - 1).toNat / 2)
  rw [beq_f h, cond_false, e1, Option.bind_some, e2, wu8_id (by omega) (by omega)]
  cases (c.tmod 2 == 0) <;> rfl
theorem start_at {r : Rules} (hv : VR0 r) {y : Int} (hy0 : 0 ≤ y) (hy : y < r.height) {x : Nat} (hx : x < r.width.toNat) :
    at? r.start (w64 ((w64 (y * r.width)) + (x : Int))) = some (r.start.getD (y * r.width + (x : Int)).toNat 0) ∧ 0 ≤ r.start.getD (y * r.width + (x : Int)).toNat 0 ∧ r.start.getD (y * r.width + (x : Int)).toNat 0 ≤ 2 * ((r.pieces.length : Nat) : Int) := by
  have w1 := hv.w1
  have w8 := hv.w8
  have h8 := hv.h8
  have hs := hv.start
  have m0 : 0 ≤ y * r.width := Int.mul_nonneg hy0 (by omega)
  have m1 : y * r.width + r.width ≤ r.height * r.width := by
    have := Int.mul_le_mul_of_nonneg_right (show y + 1 ≤ r.height by omega) (show 0 ≤ r.width by omega)
    rw [Int.add_mul, Int.one_mul] at this
    exact this
  rw [Int.mul_comm r.width r.height] at hs
  have ha := hv.area
  rw [Int.mul_comm r.width r.height] at ha
  have hlt : (y * r.width + (x : Int)).toNat < r.start.length := by omega
  have hg : r.start.getD (y * r.width + (x : Int)).toNat 0 = r.start[(y * r.width + (x : Int)).toNat] := by simp [List.getD_eq_getElem?_getD, hlt]
  rw [hg, w64_id (n := y * r.width) (by omega) (by omega), w64_id (by omega) (by omega), at?_eq _ _ (by omega) (by omega)]
  exact ⟨rfl, (hv.startC _ (List.getElem_mem hlt))⟩
theorem printL4_spec {r : Rules} (hC : Caps r) (hv : VR0 r) (x23 : ((List ByteArray) × Int × Unit) × Unit) (hy0 : 0 ≤ x23.1.2.1) (hy : x23.1.2.1 < r.height) :
    iterW (ruletextPrint_L4 r x23) (([114, 111, 119, 32], (0 : Int), ()), ()) = some (([114, 111, 119, 32] ++ (List.range r.width.toNat).map (rowB r x23.1.2.1), ()), ()) := by
  have w1 := hv.w1
  have w8 := hv.w8
  have := iter_app r.width.toNat 1 (ruletextPrint_L4 r x23) (fun x => [rowB r x23.1.2.1 x]) (fun a => ((a, ()), ())) [114, 111, 119, 32] (fun _ _ => Nat.le_refl _) (fun i hi a ha => by
    obtain ⟨e1, e2, e3⟩ := start_at hv hy0 hy hi
    unfold ruletextPrint_L4
    simp only [show decide ((i : Int) < r.2.1) = true from decide_eq_true (show (i : Int) < r.width by omega), cond_true]
    rw [e1, Option.bind_some, cell_spec hC e2 e3 hv.t6, Option.bind_some, room_ok (by simp only [List.length_cons, List.length_nil] at ha ⊢; omega), req_true, w64_id (n := (i : Int) + 1) (by omega) (by omega)]
    rfl) (fun a => by
    unfold ruletextPrint_L4
    simp only [show decide (((r.width.toNat : Nat) : Int) < r.2.1) = false from decide_eq_false (show ¬ (((r.width.toNat : Nat) : Int) < r.width) by omega), cond_false])
  rw [this]
  congr 4
  rw [← List.map_eq_flatMap]
theorem rowLine_eq (r : Rules) (y : Int) : strOf ([114, 111, 119, 32] ++ (List.range r.width.toNat).map (rowB r y)) = rowLine r y := by
  rw [strOf_big]
  rfl
theorem printL3_spec {r : Rules} (hC : Caps r) (hv : VR0 r) (a0 : List ByteArray) (h0 : a0.length ≤ 200) :
    iterW (ruletextPrint_L3 r) ((a0, r.height - 1, ()), ()) = some ((a0 ++ rowsL r, ()), ()) := by
  have h1 := hv.h1
  have h8 := hv.h8
  have hh : ((r.height.toNat : Nat) : Int) = r.height := by omega
  have := iter_foldD r.height.toNat (ruletextPrint_L3 r) (fun (i : Nat) a => a ++ [rowLine r (r.height - 1 - (i : Int))]) (fun a => ((a, ()), ())) (fun i a => a.length ≤ a0.length + i) a0 (Nat.le_refl _) (fun i hi a ha => by
    refine ⟨?_, by rw [List.length_append, List.length_cons, List.length_nil]; omega⟩
    rw [hh]
    unfold ruletextPrint_L3
    simp only [show decide (r.height - 1 - (i : Int) ≥ 0) = true by simp; omega, cond_true]
    rw [printL4_spec hC hv ((a, r.height - 1 - (i : Int), ()), ()) (by simp only; omega) (by simp only; omega), Option.bind_some]
    simp only [rowLine_eq]
    rw [show Nat.blt 0 ([114, 111, 119, 32] : List Int).length = true from rfl, req_true, room_ok (by simp only [List.length_cons, List.length_nil]; omega), req_true, Option.bind_some, w64_id (by omega) (by omega)]) (fun a ha => by
    unfold ruletextPrint_L3
    simp only [show decide ((-1 : Int) ≥ 0) = false by decide, cond_false])
  rw [hh] at this
  rw [this]
  congr 4
  rw [foldN_app]
  rfl
theorem end_spec {r : Rules} (hC : Caps r) (h6 : r.pieces.length ≤ 6) {x : End} (hx : (0 ≤ x.1 ∧ x.1 ≤ 2) ∧ (if x.1 = 1 then x.2.2.1 = 0 else 1 ≤ x.2.2.1 ∧ x.2.2.1 ≤ 64) ∧ (if x.1 = 0 then x.2.1 = 0 else 0 ≤ x.2.1 ∧ x.2.1 ≤ ((r.pieces.length : Nat) : Int) - 1)) : ruletextEnd r x = some (eLine r x) := by
  obtain ⟨k, hc, hp⟩ := hx
  have s0 : (howT x.2.2.2.1).size ≤ 6 := by unfold howT; cases x.2.2.2.1 <;> decide
  have s3 : (one (letN r x.2.1.toNat).toNat).size = 1 := rfl
  have e0 : (bif x.2.2.2.1 then some (((ByteArray.mk #[32, 108, 111, 115, 101, 115]), ()), ()) else some (((ByteArray.mk #[32, 119, 105, 110, 115]), ()), ())) = some ((howT x.2.2.2.1, ()), ()) := by unfold howT; cases x.2.2.2.1 <;> rfl
  have hlet : ¬ x.1 = 0 → ruletextLetter r (w64 (x.2.1 + 1)) = some (one (letN r x.2.1.toNat).toNat) := fun h => by
    rw [if_neg h] at hp
    rw [w64_id (by omega) (by omega), letter_spec hC (by omega) (by omega) h6]
    unfold letT
    rw [beq_f (by omega), cond_false, show x.2.1 + 1 - 1 = x.2.1 by omega]
  unfold ruletextEnd eLine
  rw [e0, Option.bind_some]
  by_cases c0 : x.1 = 0
  · rw [if_neg (by omega)] at hc
    have s1 := dec_any (n := x.2.2.1) (by omega) (by omega)
    rw [beq_t c0]
    simp only [cond_true]
    rw [itoa_any (n := x.2.2.1) (by omega) (by omega)]
    simp only [Option.bind_some]
    simp (disch := (first | omega | (simp only [size_app, sz_mk, List.size_toArray, List.length_cons, List.length_nil]; omega))) only [sroomT, req_true]
  · rw [beq_f c0]
    simp only [cond_false]
    rw [hlet c0]
    by_cases c1 : x.1 = 1
    · rw [beq_t c1]
      simp only [cond_true, Option.bind_some]
      simp (disch := (first | omega | (simp only [size_app, sz_mk, List.size_toArray, List.length_cons, List.length_nil]; omega))) only [sroomT, req_true]
    · rw [if_neg c1] at hc
      have s1 := dec_any (n := x.2.2.1) (by omega) (by omega)
      rw [beq_f c1]
      simp only [cond_false]
      rw [itoa_any (n := x.2.2.1) (by omega) (by omega)]
      simp only [Option.bind_some]
      simp (disch := (first | omega | (simp only [size_app, sz_mk, List.size_toArray, List.length_cons, List.length_nil]; omega))) only [sroomT, req_true]
theorem printL5_spec {r : Rules} (hC : Caps r) (hv : VR0 r) (a0 : List ByteArray) (h0 : a0.length ≤ 300) :
    iterW (ruletextPrint_L5 r) ((a0, (0 : Int), ()), ()) = some ((a0 ++ r.ends.flatMap fun x => [eLine r x], ()), ()) := by
  have e6 := hv.ends6
  refine iter_list r.ends 1 (ruletextPrint_L5 r) (fun x => [eLine r x]) (fun a => ((a, ()), ())) a0 (fun _ _ => Nat.le_refl _) (fun i hi a ha => ?_) (fun a => ?_)
  · have hx := hv.ends _ (List.getElem_mem hi)
    unfold ruletextPrint_L5
    simp only [show decide ((i : Int) < ((r.ends.length : Nat) : Int)) = true by simp; omega, cond_true]
    rw [at?_eq _ _ (Int.natCast_nonneg i) (Int.ofNat_lt.2 hi), Option.bind_some]
    simp only [Int.toNat_natCast]
    rw [end_spec hC hv.t6 hx, Option.bind_some, room_ok (by simp only [List.length_cons, List.length_nil]; omega), req_true, w64_id (n := (i : Int) + 1) (by omega) (by omega)]
  · unfold ruletextPrint_L5
    simp only [show decide (((r.ends.length : Nat) : Int) < ((r.ends.length : Nat) : Int)) = false by simp, cond_false]
/-! sizes -/
theorem name8 {r : Rules} (h : ruleErr r = 0) : r.name.size ≤ 8 := by
  unfold ruleErr at h
  split at h
  · cases h
  · rename_i c
    simp only [Bool.not_eq_false] at c
    unfold nameOk at c
    simp only [Bool.and_eq_true, decide_eq_true_eq] at c
    exact c.2.2
theorem pLines_size {r : Rules} (hv : VR0 r) {q : Piece} (hq : q ∈ r.pieces) : ∀ x ∈ pLines r q, x.size ≤ 40 := by
  intro x hx
  unfold pLines at hx
  rw [List.mem_append, List.mem_singleton, List.mem_flatMap] at hx
  rcases hx with rfl | ⟨w, hw, hx⟩
  · have hh := hv.hand q hq
    have s1 := dec_any (n := q.2.1) (by omega) (by omega)
    have s2 := letT_size r q.2.2.1
    have s3 : (one q.1.toNat).size = 1 := rfl
    unfold pLine
    simp only [size_app, sz_mk, List.size_toArray, List.length_cons, List.length_nil]
    omega
  · rw [List.mem_singleton] at hx
    subst hx
    have := wLine_size (hv.way q hq w hw)
    omega
theorem rowLine_size {r : Rules} (hv : VR0 r) (y : Int) : (rowLine r y).size ≤ 40 := by
  have w8 := hv.w8
  have := bigT_size (fun x => one (rowB r y x).toNat) 1 r.width.toNat (fun _ _ => Nat.le_refl _)
  unfold rowLine
  simp only [size_app, sz_mk, List.size_toArray, List.length_cons, List.length_nil]
  omega
theorem eLine_size {r : Rules} (hv : VR0 r) {x : End} (hx : x ∈ r.ends) : (eLine r x).size ≤ 40 := by
  obtain ⟨k, hc, hp⟩ := hv.ends x hx
  have hn : 0 ≤ x.2.2.1 ∧ x.2.2.1 ≤ 64 := by
    split at hc <;> omega
  have s0 : (howT x.2.2.2.1).size ≤ 6 := by unfold howT; cases x.2.2.2.1 <;> decide
  have s1 := dec_any (n := x.2.2.1) (by omega) (by omega)
  have s3 : (one (letN r x.2.1.toNat).toNat).size = 1 := rfl
  unfold eLine
  cases (x.1 == 0) <;> cases (x.1 == 1) <;> simp only [cond_true, cond_false, size_app, sz_mk, List.size_toArray, List.length_cons, List.length_nil] <;> omega
theorem gLine_size {r : Rules} (hv : VR0 r) (hn : r.name.size ≤ 8) : (gLine r).size ≤ 40 := by
  have := hv.w1
  have := hv.w8
  have := hv.h1
  have := hv.h8
  have s1 := dec_any (n := r.width) (by omega) (by omega)
  have s2 := dec_any (n := r.height) (by omega) (by omega)
  unfold gLine
  simp only [size_app, sz_mk, List.size_toArray, List.length_cons, List.length_nil]
  omega
theorem lastL_size {r : Rules} (hv : VR0 r) : ∀ x ∈ lastL r, x.size ≤ 40 := by
  have q := hv.quiet
  have p : 0 ≤ r.repeats ∧ r.repeats ≤ 5 := by rcases hv.repeats with h | h <;> omega
  have s1 := dec_any (n := r.quiet) (by omega) (by omega)
  have s2 := dec_any (n := r.repeats) (by omega) (by omega)
  have s3 := blockT_size r.blocked
  intro x hx
  unfold lastL at hx
  simp only [List.mem_cons, List.not_mem_nil, or_false] at hx
  rcases hx with rfl | rfl | rfl <;> simp only [size_app, sz_mk, List.size_toArray, List.length_cons, List.length_nil] <;> omega
theorem flag_len (b : Bool) (t : ByteArray) : (flagL b t).length ≤ 1 := by
  cases b
  · exact Nat.zero_le _
  · exact Nat.le_refl _
theorem rowsL_len {r : Rules} (hv : VR0 r) : (rowsL r).length ≤ 8 := by
  have := hv.h8
  have := flatMap_len (fun (i : Nat) => [rowLine r (r.height - 1 - (i : Int))]) 1 (List.range r.height.toNat) (fun _ _ => Nat.le_refl _)
  rw [List.length_range] at this
  unfold rowsL
  omega
theorem pieces_len {r : Rules} (hv : VR0 r) : (r.pieces.flatMap (pLines r)).length ≤ 102 := by
  have := hv.t6
  have := flatMap_len (pLines r) 17 r.pieces (fun q hq => pLines_len r (hv.ways q hq))
  omega
theorem ends_len {r : Rules} (hv : VR0 r) : (r.ends.flatMap fun x => [eLine r x]).length ≤ 6 := by
  have := hv.ends6
  have := flatMap_len (fun x => [eLine r x]) 1 r.ends (fun _ _ => Nat.le_refl _)
  omega
theorem preL_len {r : Rules} (hv : VR0 r) : (preL r).length ≤ 119 := by
  have := pieces_len hv
  have := ends_len hv
  have := rowsL_len hv
  have := flag_len r.falls (ByteArray.mk #[102, 97, 108, 108, 115])
  have := flag_len r.keeps (ByteArray.mk #[107, 101, 101, 112, 115])
  unfold preL
  simp only [List.length_append, List.length_cons, List.length_nil]
  omega
theorem flag_size (b : Bool) (t : ByteArray) (ht : t.size ≤ 40) : ∀ x ∈ flagL b t, x.size ≤ 40 := by
  intro x hx
  cases b
  · cases hx
  · rw [List.mem_singleton.1 hx]; exact ht
theorem preL_size {r : Rules} (hv : VR0 r) (hn : r.name.size ≤ 8) : ∀ x ∈ preL r, x.size ≤ 40 := by
  intro x hx
  unfold preL at hx
  simp only [List.mem_append] at hx
  rcases hx with ((((hx | hx) | hx) | hx) | hx) | hx
  · rw [List.mem_singleton.1 hx]; exact gLine_size hv hn
  · obtain ⟨q, hq, hx⟩ := List.mem_flatMap.1 hx
    exact pLines_size hv hq x hx
  · unfold rowsL at hx
    obtain ⟨i, _, hx⟩ := List.mem_flatMap.1 hx
    rw [List.mem_singleton.1 hx]; exact rowLine_size hv _
  · exact flag_size _ (ByteArray.mk #[102, 97, 108, 108, 115]) (by decide) x hx
  · exact flag_size _ (ByteArray.mk #[107, 101, 101, 112, 115]) (by decide) x hx
  · obtain ⟨q, hq, hx⟩ := List.mem_flatMap.1 hx
    rw [List.mem_singleton.1 hx]; exact eLine_size hv hq
theorem textR_size {r : Rules} (hv : VR0 r) (hn : r.name.size ≤ 8) : (textR r).size ≤ 6000 := by
  have h1 := cat_size 40 (preL r ++ lastL r) (fun x hx => by
    rcases List.mem_append.1 hx with h | h
    · exact preL_size hv hn x h
    · exact lastL_size hv x h)
  have h2 := preL_len hv
  rw [List.length_append, show (lastL r).length = 3 from rfl] at h1
  unfold textR
  omega
/-- ruletext.Print -/
theorem print_spec {r : Rules} (hr : Rng tyRules r) : ruletextPrint r = some (if ruleErr r = 0 then textR r else e0T, ruleErr r, ()) := by
  unfold ruletextPrint
  rw [check_spec r hr, Option.bind_some]
  by_cases c : ruleErr r = 0
  · have hv := rules_valid c
    have hC := caps_of c
    have hn := name8 c
    have hn' : r.1.size ≤ 8 := hn
    have w1 := hv.w1
    have w8 := hv.w8
    have h1 := hv.h1
    have h8 := hv.h8
    have s1 := dec_any (n := r.width) (by omega) (by omega)
    have s2 := dec_any (n := r.height) (by omega) (by omega)
    have q := hv.quiet
    have p : 0 ≤ r.repeats ∧ r.repeats ≤ 5 := by rcases hv.repeats with h | h <;> omega
    have s3 := dec_any (n := r.quiet) (by omega) (by omega)
    have s4 := dec_any (n := r.repeats) (by omega) (by omega)
    have s5 := blockT_size r.blocked
    have e : getD' [(ruletextBlocks).1, ((ruletextBlocks).2).1, (((ruletextBlocks).2).2).1] (r.blocked).toNat ByteArray.empty = blockT r.blocked := rfl
    rw [bne_f c, cond_false, if_pos c, c]
    simp only [e]
    rw [itoa_any (n := r.width) (by omega) (by omega), itoa_any (n := r.height) (by omega) (by omega), itoa_any (n := r.quiet) (by omega) (by omega), itoa_any (n := r.repeats) (by omega) (by omega)]
    simp only [Option.bind_some]
    simp (disch := (first | omega | (simp only [size_app, sz_mk, List.size_toArray, List.length_cons, List.length_nil]; omega))) only [sroomT, req_true]
    have k1 := printL1_spec hC hv [gLine r] (by simp only [List.length_cons, List.length_nil]; omega)
    unfold gLine at k1
    have pl := pieces_len hv
    have rl := rowsL_len hv
    have el := ends_len hv
    have f3 := flag_len r.2.2.2.2.2.1 (ByteArray.mk #[102, 97, 108, 108, 115])
    have f4 := flag_len r.2.2.2.2.2.2.1 (ByteArray.mk #[107, 101, 101, 112, 115])
    have el' : (List.flatMap (fun x => [eLine r x]) r.2.2.2.2.2.2.2.1).length ≤ 6 := el
    rw [k1, Option.bind_some]
    simp only
    rw [w64_id (n := r.height - 1) (by omega) (by omega), printL3_spec hC hv _ (by simp only [List.length_append, List.length_cons, List.length_nil]; omega), Option.bind_some]
    simp only
    have e1 : ∀ (a : List ByteArray) (b : Bool) (t : ByteArray), a.length ≤ 1000 → (bif b then req (room (a.length + [t].length) 16) (some ((a ++ [t], ()), ())) else some ((a, ()), ())) = some ((a ++ flagL b t, ()), ()) := fun a b t ha => by
      cases b
      · simp [flagL]
      · rw [cond_true, room_ok (by simp only [List.length_cons, List.length_nil]; omega), req_true]; rfl
    rw [e1 _ _ _ (by simp only [List.length_append, List.length_cons, List.length_nil]; omega), Option.bind_some]
    have f1 := flag_len r.falls (ByteArray.mk #[102, 97, 108, 108, 115])
    have f2 := flag_len r.keeps (ByteArray.mk #[107, 101, 101, 112, 115])
    simp only
    rw [e1 _ _ _ (by simp only [List.length_append, List.length_cons, List.length_nil]; omega), Option.bind_some]
    simp only
    rw [printL5_spec hC hv _ (by simp only [List.length_append, List.length_cons, List.length_nil]; omega), Option.bind_some]
    have hb := hv.blocked
    have ts := textR_size hv hn
    have hcat : joinedN (preL r ++ lastL r) ++ nlT = textR r := joinedN_cat _ (by simp [lastL])
    have hjs : (joinedN (preL r ++ lastL r)).size ≤ 6000 := by
      rw [← hcat, size_app] at ts
      omega
    have hll : (preL r ++ lastL r).length ≤ 1000 := by
      have := preL_len hv
      rw [List.length_append, show (lastL r).length = 3 from rfl]
      omega
    have hj := joinN_spec (preL r ++ lastL r) (by omega) (by omega)
    have hpl := preL_len hv
    unfold preL lastL gLine at hj
    unfold preL gLine at hpl
    simp only
    rw [show inb r.blocked 3 = true from inb_iff.2 (by omega), req_true, room_ok (by simp only [List.length_append, List.length_cons, List.length_nil] at hpl ⊢; omega), req_true]
    rw [hj, Option.bind_some]
    have hj2 : joinedN (preL r ++ lastL r) = joinedN (((((([(((((ByteArray.mk #[103, 97, 109, 101, 32]) ++ r.name) ++ (ByteArray.mk #[32])) ++ dec r.width) ++ (ByteArray.mk #[32])) ++ dec r.height] ++ r.pieces.flatMap (pLines r)) ++ rowsL r) ++ flagL r.falls (ByteArray.mk #[102, 97, 108, 108, 115])) ++ flagL r.keeps (ByteArray.mk #[107, 101, 101, 112, 115])) ++ r.ends.flatMap fun x => [eLine r x]) ++ [(ByteArray.mk #[98, 108, 111, 99, 107, 101, 100, 32]) ++ blockT r.blocked, (ByteArray.mk #[113, 117, 105, 101, 116, 32]) ++ dec r.quiet, (ByteArray.mk #[114, 101, 112, 101, 97, 116, 32]) ++ dec r.repeats]) := rfl
    rw [← hj2, sroomT (by omega) (by decide), req_true]
    rw [← hcat]
  · rw [bne_t c, cond_true, if_neg c]
/-! the reference -/
theorem wLineT (w : Way) (a : ByteArray) : a ++ ((((((((((ByteArray.mk #[119, 97, 121, 32]) ++ dec w.1) ++ (ByteArray.mk #[32])) ++ dec w.2.1) ++ (ByteArray.mk #[32])) ++ dec w.2.2.1) ++ (ByteArray.mk #[32])) ++ takeT w.2.2.2.1)) ++ (ByteArray.mk #[10])) = a ++ catT [wLine w] := by
  show _ = a ++ ((wLine w ++ nlT) ++ e0T)
  rw [app_e0]
  rfl
theorem refL2_spec (q : Piece) (a0 : ByteArray) (h0 : a0.size ≤ 10000) (hl : q.2.2.2.1.length ≤ 16) (hw : ∀ w ∈ q.2.2.2.1, WayOK w) :
    iterW (ref1RulesText_L2 q) ((a0, (0 : Int), ()), ()) = some ((a0 ++ catT (q.2.2.2.1.flatMap fun w => [wLine w]), ()), ()) := by
  refine iter_listT q.2.2.2.1 50 (ref1RulesText_L2 q) (fun w => [wLine w]) (fun a => ((a, ()), ())) a0 (fun w hm => ?_) (fun i hi a ha => ?_) (fun a => ?_)
  · have := cat_size 40 [wLine w] (fun x hx => by rw [List.mem_singleton.1 hx]; have := wLine_size (hw w hm); omega)
    simp only [List.length_cons, List.length_nil] at this
    omega
  · have hwi := hw _ (List.getElem_mem hi)
    have e : ∀ n : Int, getD' [(ByteArray.mk #[110, 101, 118, 101, 114]), (ByteArray.mk #[109, 97, 121]), (ByteArray.mk #[109, 117, 115, 116])] n.toNat ByteArray.empty = takeT n := fun _ => rfl
    unfold ref1RulesText_L2
    simp only [show decide ((i : Int) < ((q.2.2.2.1.length : Nat) : Int)) = true by simp; omega, cond_true]
    rw [at?_eq _ _ (Int.natCast_nonneg i) (Int.ofNat_lt.2 hi), Option.bind_some]
    simp only [Int.toNat_natCast, e]
    rw [w64_id (n := (i : Int) + 1) (by omega) (by omega)]
    generalize q.2.2.2.1[i] = w at hwi
    rw [← wLineT]
    obtain ⟨⟨a1, a2⟩, ⟨b1, b2⟩, _, ⟨c1, c2⟩, d1, d2⟩ := hwi
    have s1 := dec_any (n := w.1) (by omega) (by omega)
    have s2 := dec_any (n := w.2.1) (by omega) (by omega)
    have s3 := dec_any (n := w.2.2.1) (by omega) (by omega)
    have s4 := takeT_size w.2.2.2.1
    have sa : a.size ≤ 11000 := by omega
    rw [rdec_any (n := w.1) (by omega) (by omega), rdec_any (n := w.2.1) (by omega) (by omega), rdec_any (n := w.2.2.1) (by omega) (by omega)]
    simp only [Option.bind_some]
    simp (disch := (first | omega | (simp only [size_app, sz_mk, List.size_toArray, List.length_cons, List.length_nil]; omega))) only [sroomT, req_true]
    rw [show inb w.2.2.2.1 ([(ByteArray.mk #[110, 101, 118, 101, 114]), (ByteArray.mk #[109, 97, 121]), (ByteArray.mk #[109, 117, 115, 116])]).length = true from inb_iff.2 (by simp only [List.length_cons, List.length_nil]; omega), req_true]
  · unfold ref1RulesText_L2
    simp only [show decide (((q.2.2.2.1.length : Nat) : Int) < ((q.2.2.2.1.length : Nat) : Int)) = false by simp, cond_false]
theorem pLineT (r : Rules) (q : Piece) (a : ByteArray) (t : ByteArray) (ht : t = letT r q.2.2.1 ++ nlT) : (a ++ (((((ByteArray.mk #[112, 105, 101, 99, 101, 32]) ++ one q.1.toNat) ++ (ByteArray.mk #[32])) ++ dec q.2.1) ++ (ByteArray.mk #[32]))) ++ t = a ++ catT [pLine r q] := by
  subst ht
  show _ = a ++ ((pLine r q ++ nlT) ++ e0T)
  rw [app_e0]
  unfold pLine
  simp only [ba_asc]
theorem refL1_spec {r : Rules} (hC : Caps r) (hv : VR0 r) (a0 : ByteArray) (h0 : a0.size ≤ 100) :
    iterW (ref1RulesText_L1 r) ((a0, (0 : Int), ()), ()) = some ((a0 ++ catT (r.pieces.flatMap (pLines r)), ()), ()) := by
  have h6 := hv.t6
  refine iter_listT r.pieces 1000 (ref1RulesText_L1 r) (pLines r) (fun a => ((a, ()), ())) a0 (fun q hq => ?_) (fun i hi a ha => ?_) (fun a => ?_)
  · have h1 := cat_size 40 (pLines r q) (pLines_size hv hq)
    have h2 := pLines_len r (hv.ways q hq)
    omega
  · have hm := List.getElem_mem hi
    have hh := hv.hand _ hm
    have hp := hv.prom _ hm
    have hws := hv.ways _ hm
    have hw := hv.way _ hm
    have hi6 : i ≤ 5 := by omega
    have sa : a.size ≤ 6000 := by omega
    unfold ref1RulesText_L1
    simp only [show decide ((i : Int) < ((r.pieces.length : Nat) : Int)) = true by simp; omega, cond_true]
    rw [at?_eq _ _ (Int.natCast_nonneg i) (Int.ofNat_lt.2 hi), Option.bind_some]
    simp only [Int.toNat_natCast]
    rw [w64_id (n := (i : Int) + 1) (by omega) (by omega)]
    generalize r.pieces[i] = q at hh hp hws hw
    have s1 := dec_any (n := q.2.1) (by omega) (by omega)
    have s3 : (one q.1.toNat).size = 1 := rfl
    simp only [str_one]
    rw [rdec_any (n := q.2.1) (by omega) (by omega)]
    simp only [Option.bind_some]
    simp (disch := (first | omega | (simp only [size_app, sz_mk, List.size_toArray, List.length_cons, List.length_nil]; omega))) only [sroomT, req_true]
    have e1 : ∀ b : ByteArray, b.size ≤ 10000 → (bif (q.2.2.1 == 0) then some (((b ++ (ByteArray.mk #[45, 10])), ()), ()) else Option.bind (at? r.2.2.2.1 (w64 (q.2.2.1 - 1))) fun d10 => req (strRoom b ((one d10.1.toNat) ++ (ByteArray.mk #[10]))) (some ((b ++ ((one d10.1.toNat) ++ (ByteArray.mk #[10])), ()), ()))) = some ((b ++ (letT r q.2.2.1 ++ nlT), ()), ()) := fun b hb => by
      unfold letT
      cases h : (q.2.2.1 == 0)
      · simp only [beq_eq_false_iff_ne] at h
        obtain ⟨p, e1, e2⟩ := at_letN (r := r) (k := q.2.2.1 - 1) (by omega) (by omega)
        have s4 : (one p.1.toNat).size = 1 := rfl
        simp only [cond_false]
        rw [w64_id (by omega) (by omega), e1, Option.bind_some]
        simp (disch := (first | omega | (simp only [size_app, sz_mk, List.size_toArray, List.length_cons, List.length_nil]; omega))) only [sroomT, req_true]
        rw [e2]
      · simp only [cond_true]
        congr 4
    have s5 : ∀ n, (one n).size = 1 := fun _ => rfl
    have e2 := e1 (a ++ (((((ByteArray.mk #[112, 105, 101, 99, 101, 32]) ++ one q.1.toNat) ++ (ByteArray.mk #[32])) ++ dec q.2.1) ++ (ByteArray.mk #[32]))) (by simp only [size_app, sz_mk, List.size_toArray, List.length_cons, List.length_nil]; omega)
    simp (disch := (first | omega | (simp only [size_app, sz_mk, s5, List.size_toArray, List.length_cons, List.length_nil]; omega))) only [sroomT, req_true] at e2 ⊢
    rw [e2, Option.bind_some]
    simp only
    rw [pLineT r q a _ rfl]
    have s6 := cat_size 40 [pLine r q] (fun x hx => by
      rw [List.mem_singleton.1 hx]
      have s2 := letT_size r q.2.2.1
      unfold pLine
      simp only [size_app, sz_mk, List.size_toArray, List.length_cons, List.length_nil]
      omega)
    simp only [List.length_cons, List.length_nil] at s6
    rw [refL2_spec q _ (by rw [size_app]; omega) hws hw, Option.bind_some]
    unfold pLines
    rw [cat_app, ← ba_asc]
    rfl
  · unfold ref1RulesText_L1
    simp only [show decide (((r.pieces.length : Nat) : Int) < ((r.pieces.length : Nat) : Int)) = false by simp, cond_false]
theorem refL4_spec {r : Rules} (hC : Caps r) (hv : VR0 r) (x20 : (ByteArray × Int × Unit) × Unit) (hy0 : 0 ≤ x20.1.2.1) (hy : x20.1.2.1 < r.height) (a0 : ByteArray) (ha0 : a0.size ≤ 20000) :
    iterW (ref1RulesText_L4 r x20) ((a0, (0 : Int), ()), ()) = some ((a0 ++ bigT (fun x => one (rowB r x20.1.2.1 x).toNat) r.width.toNat, ()), ()) := by
  have w1 := hv.w1
  have w8 := hv.w8
  refine iter_cat r.width.toNat 1 (ref1RulesText_L4 r x20) (fun x => one (rowB r x20.1.2.1 x).toNat) (fun a => ((a, ()), ())) a0 (fun _ _ => Nat.le_refl _) (fun i hi a ha => ?_) (fun a => ?_)
  · obtain ⟨e1, e2, e3⟩ := start_at hv hy0 hy hi
    unfold ref1RulesText_L4 rowB
    simp only [show decide ((i : Int) < r.2.1) = true from decide_eq_true (show (i : Int) < r.width by omega), cond_true]
    rw [e1, Option.bind_some, w64_id (n := (i : Int) + 1) (by omega) (by omega)]
    generalize r.start.getD (x20.1.2.1 * r.width + (i : Int)).toNat 0 = c at e2 e3
    have s5 : ∀ n, (one n).size = 1 := fun _ => rfl
    by_cases h : c = 0
    · subst h
      simp only [show ((0 : Int) == 0) = true by decide, cond_true]
      simp (disch := (first | omega | (simp only [size_app, sz_mk, s5, List.size_toArray, List.length_cons, List.length_nil]; omega))) only [sroomT, req_true, Option.bind_some]
      rfl
    · simp only [beq_f h, cond_false]
      rw [refLetter_spec hC e2 e3 hv.t6 h]
      simp (disch := (first | omega | (simp only [size_app, sz_mk, s5, List.size_toArray, List.length_cons, List.length_nil]; omega))) only [sroomT, req_true, Option.bind_some]
  · unfold ref1RulesText_L4
    simp only [show decide (((r.width.toNat : Nat) : Int) < r.2.1) = false from decide_eq_false (show ¬ (((r.width.toNat : Nat) : Int) < r.width) by omega), cond_false]
theorem rowLineT (r : Rules) (y : Int) (a : ByteArray) : ((a ++ (ByteArray.mk #[114, 111, 119, 32])) ++ bigT (fun x => one (rowB r y x).toNat) r.width.toNat) ++ (ByteArray.mk #[10]) = a ++ catT [rowLine r y] := by
  show _ = a ++ ((rowLine r y ++ nlT) ++ e0T)
  rw [app_e0]
  unfold rowLine
  simp only [ba_asc]
theorem refL3_spec {r : Rules} (hC : Caps r) (hv : VR0 r) (a0 : ByteArray) (h0 : a0.size ≤ 10000) :
    iterW (ref1RulesText_L3 r) ((a0, r.height - 1, ()), ()) = some ((a0 ++ catT (rowsL r), ()), ()) := by
  have h1 := hv.h1
  have h8 := hv.h8
  have hh : ((r.height.toNat : Nat) : Int) = r.height := by omega
  have := iter_foldD r.height.toNat (ref1RulesText_L3 r) (fun (i : Nat) a => a ++ catT [rowLine r (r.height - 1 - (i : Int))]) (fun a => ((a, ()), ())) (fun i a => a.size ≤ a0.size + i * 50) a0 (by omega) (fun i hi a ha => by
    have hs := cat_size 40 [rowLine r (r.height - 1 - (i : Int))] (fun x hx => by rw [List.mem_singleton.1 hx]; exact rowLine_size hv _)
    simp only [List.length_cons, List.length_nil] at hs
    refine ⟨?_, by rw [size_app, Nat.add_mul]; omega⟩
    rw [hh]
    unfold ref1RulesText_L3
    simp only [show decide (r.height - 1 - (i : Int) ≥ 0) = true by simp; omega, cond_true]
    have hz : (a ++ (ByteArray.mk #[114, 111, 119, 32])).size ≤ 20000 := by
      simp only [size_app, sz_mk, List.size_toArray, List.length_cons, List.length_nil]
      omega
    rw [refL4_spec hC hv ((a, r.height - 1 - (i : Int), ()), ()) (by simp only; omega) (by simp only; omega) _ hz, Option.bind_some]
    have hz2 : ((a ++ (ByteArray.mk #[114, 111, 119, 32])) ++ bigT (fun x => one (rowB r (r.height - 1 - (i : Int)) x).toNat) r.width.toNat).size ≤ 30000 := by
      have w8 := hv.w8
      have := bigT_size (fun x => one (rowB r (r.height - 1 - (i : Int)) x).toNat) 1 r.width.toNat (fun _ _ => Nat.le_refl _)
      rw [size_app]
      omega
    simp only
    rw [sroomT (by omega) (by decide), req_true, sroomT (by omega) (by decide), req_true, rowLineT, Option.bind_some, w64_id (by omega) (by omega)]) (fun a ha => by
    unfold ref1RulesText_L3
    simp only [show decide ((-1 : Int) ≥ 0) = false by decide, cond_false])
  rw [hh] at this
  rw [this]
  congr 4
  rw [foldN_cat, bigT_cat]
  rfl
theorem eLineT {r : Rules} {x : End} (hx : 0 ≤ x.1 ∧ x.1 ≤ 2) (a : ByteArray) : (a ++ ((ByteArray.mk #[101, 110, 100, 32]) ++ (getD' [((ByteArray.mk #[108, 105, 110, 101, 32]) ++ dec x.2.2.1), ((ByteArray.mk #[114, 101, 97, 99, 104, 32]) ++ one (letN r x.2.1.toNat).toNat), ((((ByteArray.mk #[116, 97, 107, 101, 32]) ++ one (letN r x.2.1.toNat).toNat) ++ (ByteArray.mk #[32])) ++ dec x.2.2.1)] x.1.toNat ByteArray.empty))) ++ (howT x.2.2.2.1 ++ nlT) = a ++ catT [eLine r x] := by
  show _ = a ++ ((eLine r x ++ nlT) ++ e0T)
  rw [app_e0]
  have e1 : (ByteArray.mk #[101, 110, 100, 32, 108, 105, 110, 101, 32]) = (ByteArray.mk #[101, 110, 100, 32]) ++ (ByteArray.mk #[108, 105, 110, 101, 32]) := ba_ext (by rw [ba_app]; rfl)
  have e2 : (ByteArray.mk #[101, 110, 100, 32, 114, 101, 97, 99, 104, 32]) = (ByteArray.mk #[101, 110, 100, 32]) ++ (ByteArray.mk #[114, 101, 97, 99, 104, 32]) := ba_ext (by rw [ba_app]; rfl)
  have e3 : (ByteArray.mk #[101, 110, 100, 32, 116, 97, 107, 101, 32]) = (ByteArray.mk #[101, 110, 100, 32]) ++ (ByteArray.mk #[116, 97, 107, 101, 32]) := ba_ext (by rw [ba_app]; rfl)
  unfold eLine
  rw [e1, e2, e3]
  obtain h | h | h : x.1 = 0 ∨ x.1 = 1 ∨ x.1 = 2 := by omega
  · rw [h]
    simp only [show ((0 : Int) == 0) = true by decide, cond_true, show (0 : Int).toNat = 0 from rfl, getD', List.getD_cons_zero, ba_asc]
  · rw [h]
    simp only [show ((1 : Int) == 0) = false by decide, show ((1 : Int) == 1) = true by decide, cond_true, cond_false, show (1 : Int).toNat = 1 from rfl, getD', List.getD_cons_zero, List.getD_cons_succ, ba_asc]
  · rw [h]
    simp only [show ((2 : Int) == 0) = false by decide, show ((2 : Int) == 1) = false by decide, cond_true, cond_false, show (2 : Int).toNat = 2 from rfl, getD', List.getD_cons_zero, List.getD_cons_succ, ba_asc]
theorem getD'_le (a b c : ByteArray) (B : Nat) (ha : a.size ≤ B) (hb : b.size ≤ B) (hc : c.size ≤ B) (n : Nat) : (getD' [a, b, c] n ByteArray.empty).size ≤ B := by
  match n with
  | 0 => exact ha
  | 1 => exact hb
  | 2 => exact hc
  | k + 3 => exact Nat.zero_le _
theorem refL5_spec {r : Rules} (hC : Caps r) (hv : VR0 r) (a0 : ByteArray) (h0 : a0.size ≤ 20000) :
    iterW (ref1RulesText_L5 r) ((a0, (0 : Int), ()), ()) = some ((a0 ++ catT (r.ends.flatMap fun x => [eLine r x]), ()), ()) := by
  have e6 := hv.ends6
  have t1 := hv.t1
  refine iter_listT r.ends 50 (ref1RulesText_L5 r) (fun x => [eLine r x]) (fun a => ((a, ()), ())) a0 (fun x hx => ?_) (fun i hi a ha => ?_) (fun a => ?_)
  · have := cat_size 40 [eLine r x] (fun y hy => by rw [List.mem_singleton.1 hy]; exact eLine_size hv hx)
    simp only [List.length_cons, List.length_nil] at this
    omega
  · obtain ⟨k, hc, hp⟩ := hv.ends _ (List.getElem_mem hi)
    have hi6 : i ≤ 5 := by omega
    have sa : a.size ≤ 30000 := by omega
    unfold ref1RulesText_L5
    simp only [show decide ((i : Int) < ((r.ends.length : Nat) : Int)) = true by simp; omega, cond_true]
    rw [at?_eq _ _ (Int.natCast_nonneg i) (Int.ofNat_lt.2 hi), Option.bind_some]
    simp only [Int.toNat_natCast]
    rw [w64_id (n := (i : Int) + 1) (by omega) (by omega)]
    generalize r.ends[i] = x at k hc hp
    have hn : 0 ≤ x.2.2.1 ∧ x.2.2.1 ≤ 64 := by split at hc <;> omega
    have hq : 0 ≤ x.2.1 ∧ x.2.1 < ((r.pieces.length : Nat) : Int) := by split at hp <;> omega
    obtain ⟨p, e1, e2⟩ := at_letN (r := r) (k := x.2.1) hq.1 hq.2
    have s1 := dec_any (n := x.2.2.1) (by omega) (by omega)
    have s5 : ∀ n, (one n).size = 1 := fun _ => rfl
    rw [e1, Option.bind_some, rdec_any (n := x.2.2.1) (by omega) (by omega)]
    simp only [Option.bind_some, str_one, e2]
    rw [← eLineT k a]
    have sg := getD'_le ((ByteArray.mk #[108, 105, 110, 101, 32]) ++ dec x.2.2.1) ((ByteArray.mk #[114, 101, 97, 99, 104, 32]) ++ one (letN r x.2.1.toNat).toNat) ((((ByteArray.mk #[116, 97, 107, 101, 32]) ++ one (letN r x.2.1.toNat).toNat) ++ (ByteArray.mk #[32])) ++ dec x.2.2.1) 30 (by simp only [size_app, sz_mk, s5, List.size_toArray, List.length_cons, List.length_nil]; omega) (by simp only [size_app, sz_mk, s5, List.size_toArray, List.length_cons, List.length_nil]; omega) (by simp only [size_app, sz_mk, s5, List.size_toArray, List.length_cons, List.length_nil]; omega) x.1.toNat
    simp (disch := (first | omega | (simp only [size_app, sz_mk, s5, List.size_toArray, List.length_cons, List.length_nil]; omega))) only [sroomT, req_true]
    generalize getD' [((ByteArray.mk #[108, 105, 110, 101, 32]) ++ dec x.2.2.1), ((ByteArray.mk #[114, 101, 97, 99, 104, 32]) ++ one (letN r x.2.1.toNat).toNat), ((((ByteArray.mk #[116, 97, 107, 101, 32]) ++ one (letN r x.2.1.toNat).toNat) ++ (ByteArray.mk #[32])) ++ dec x.2.2.1)] x.1.toNat ByteArray.empty = g at sg
    rw [show ∀ u v w : ByteArray, inb x.1 [u, v, w].length = true from fun u v w => inb_iff.2 (by simp only [List.length_cons, List.length_nil]; omega), req_true]
    try simp (disch := (first | omega | (simp only [size_app, sz_mk, s5, List.size_toArray, List.length_cons, List.length_nil]; omega))) only [sroomT, req_true]
    have e3 : (ByteArray.mk #[32, 108, 111, 115, 101, 115, 10]) = (ByteArray.mk #[32, 108, 111, 115, 101, 115]) ++ nlT := ba_ext (by rw [ba_app]; rfl)
    have e4 : (ByteArray.mk #[32, 119, 105, 110, 115, 10]) = (ByteArray.mk #[32, 119, 105, 110, 115]) ++ nlT := ba_ext (by rw [ba_app]; rfl)
    rw [e3, e4]
    unfold howT
    cases x.2.2.2.1 <;> rfl
  · unfold ref1RulesText_L5
    simp only [show decide (((r.ends.length : Nat) : Int) < ((r.ends.length : Nat) : Int)) = false by simp, cond_false]
theorem flagT (a : ByteArray) (b : Bool) (t u : ByteArray) (hu : u = t ++ nlT) (ha : a.size ≤ 100000) (hs : u.size ≤ 100) : (bif b then req (strRoom a u) (some ((a ++ u, ()), ())) else some ((a, ()), ())) = some ((a ++ catT (flagL b t), ()), ()) := by
  subst hu
  cases b
  · show some ((a, ()), ()) = some ((a ++ e0T, ()), ())
    rw [app_e0]
  · rw [cond_true, sroomT (by omega) (by omega), req_true]
    show _ = some ((a ++ ((t ++ nlT) ++ e0T), ()), ())
    rw [app_e0]
set_option maxHeartbeats 0 in
/-- gamehallref1.RulesText -/
theorem rulesText_spec {r : Rules} (c : ruleErr r = 0) : ref1RulesText r = some (textR r) := by
  have hv := rules_valid c
  have hC := caps_of c
  have hn := name8 c
  have hn' : r.1.size ≤ 8 := hn
  have w1 := hv.w1
  have w8 := hv.w8
  have h1 := hv.h1
  have h8 := hv.h8
  have s1 := dec_any (n := r.width) (by omega) (by omega)
  have s2 := dec_any (n := r.height) (by omega) (by omega)
  have q := hv.quiet
  have p : 0 ≤ r.repeats ∧ r.repeats ≤ 5 := by rcases hv.repeats with h | h <;> omega
  have s3 := dec_any (n := r.quiet) (by omega) (by omega)
  have s4 := dec_any (n := r.repeats) (by omega) (by omega)
  have s5 := blockT_size r.blocked
  have e : getD' [(ByteArray.mk #[108, 111, 115, 101, 115]), (ByteArray.mk #[119, 105, 110, 115]), (ByteArray.mk #[100, 114, 97, 119, 115])] (r.blocked).toNat ByteArray.empty = blockT r.blocked := rfl
  unfold ref1RulesText
  simp only [e]
  rw [rdec_any (n := r.width) (by omega) (by omega), rdec_any (n := r.height) (by omega) (by omega), rdec_any (n := r.quiet) (by omega) (by omega), rdec_any (n := r.repeats) (by omega) (by omega)]
  simp only [Option.bind_some]
  simp (disch := (first | omega | (simp only [size_app, sz_mk, List.size_toArray, List.length_cons, List.length_nil]; omega))) only [sroomT, req_true]
  have g0 : (((((((ByteArray.mk #[103, 97, 109, 101, 32]) ++ r.1) ++ (ByteArray.mk #[32])) ++ dec r.2.1) ++ (ByteArray.mk #[32])) ++ dec r.2.2.1) ++ (ByteArray.mk #[10])) = catT [gLine r] := by
    show _ = (gLine r ++ nlT) ++ e0T
    rw [app_e0]
    rfl
  have gs := cat_size 40 [gLine r] (fun x hx => by rw [List.mem_singleton.1 hx]; exact gLine_size hv hn)
  simp only [List.length_cons, List.length_nil] at gs
  rw [g0, refL1_spec hC hv _ (by omega), Option.bind_some]
  have ps := cat_size 40 (r.pieces.flatMap (pLines r)) (fun x hx => by
    obtain ⟨q, hq, hx⟩ := List.mem_flatMap.1 hx
    exact pLines_size hv hq x hx)
  have pl := pieces_len hv
  have rs := cat_size 40 (rowsL r) (fun x hx => by
    unfold rowsL at hx
    obtain ⟨i, _, hx⟩ := List.mem_flatMap.1 hx
    rw [List.mem_singleton.1 hx]; exact rowLine_size hv _)
  have rl := rowsL_len hv
  have fs : ∀ b t, t.size ≤ 40 → (catT (flagL b t)).size ≤ 50 := fun b t ht => by
    have := cat_size 40 (flagL b t) (flag_size b t ht)
    have := flag_len b t
    omega
  have f1 := fs r.falls (ByteArray.mk #[102, 97, 108, 108, 115]) (by decide)
  have f2 := fs r.keeps (ByteArray.mk #[107, 101, 101, 112, 115]) (by decide)
  have es := cat_size 40 (r.ends.flatMap fun x => [eLine r x]) (fun x hx => by
    obtain ⟨q, hq, hx⟩ := List.mem_flatMap.1 hx
    rw [List.mem_singleton.1 hx]; exact eLine_size hv hq)
  have el := ends_len hv
  simp only
  rw [w64_id (n := r.height - 1) (by omega) (by omega), refL3_spec hC hv _ (by rw [size_app]; omega), Option.bind_some]
  simp only
  rw [flagT _ r.falls (ByteArray.mk #[102, 97, 108, 108, 115]) (ByteArray.mk #[102, 97, 108, 108, 115, 10]) (ba_ext (by rw [ba_app]; rfl)) (by simp only [size_app]; omega) (by decide), Option.bind_some]
  simp only
  rw [flagT _ r.keeps (ByteArray.mk #[107, 101, 101, 112, 115]) (ByteArray.mk #[107, 101, 101, 112, 115, 10]) (ba_ext (by rw [ba_app]; rfl)) (by simp only [size_app]; omega) (by decide), Option.bind_some]
  simp only
  rw [refL5_spec hC hv _ (by simp only [size_app]; omega), Option.bind_some]
  have hp : ((((catT [gLine r] ++ catT (r.pieces.flatMap (pLines r))) ++ catT (rowsL r)) ++ catT (flagL r.falls (ByteArray.mk #[102, 97, 108, 108, 115]))) ++ catT (flagL r.keeps (ByteArray.mk #[107, 101, 101, 112, 115]))) ++ catT (r.ends.flatMap fun x => [eLine r x]) = catT (preL r) := by
    unfold preL
    simp only [cat_app]
  have pz := cat_size 40 (preL r) (preL_size hv hn)
  have pn := preL_len hv
  simp only
  rw [hp]
  have hb := hv.blocked
  rw [show inb r.blocked ([(ByteArray.mk #[108, 111, 115, 101, 115]), (ByteArray.mk #[119, 105, 110, 115]), (ByteArray.mk #[100, 114, 97, 119, 115])]).length = true from inb_iff.2 (by simp only [List.length_cons, List.length_nil]; omega), req_true]
  try simp (disch := (first | omega | (simp only [size_app, sz_mk, List.size_toArray, List.length_cons, List.length_nil]; omega))) only [sroomT, req_true]
  unfold textR
  rw [cat_app]
  congr 1
  have x1 : (ByteArray.mk #[10, 113, 117, 105, 101, 116, 32]) = nlT ++ (ByteArray.mk #[113, 117, 105, 101, 116, 32]) := ba_ext (by rw [ba_app]; rfl)
  have x2 : (ByteArray.mk #[10, 114, 101, 112, 101, 97, 116, 32]) = nlT ++ (ByteArray.mk #[114, 101, 112, 101, 97, 116, 32]) := ba_ext (by rw [ba_app]; rfl)
  rw [x1, x2]
  unfold lastL
  simp only [catT, ba_asc, app_e0]
/-- ████ THE LAW, in plain Lean ████ -/
theorem rthree_rng : Rng tyRules law1Three := rngB_ok _ _ (by decide +kernel)
theorem rthree_ok : ruleErr law1Three = 0 := by decide +kernel
theorem law1RuletextPrints_true (r : Rules) (hr : Rng tyRules r) : law1RuletextPrints r = some true := by
  unfold law1RuletextPrints
  have hT : ((law1Three).1, (((law1Three).2).1, ((((law1Three).2).2).1, (((((law1Three).2).2).2).1, ((((((law1Three).2).2).2).2).1, (((((((law1Three).2).2).2).2).2).1, ((((((((law1Three).2).2).2).2).2).2).1, (((((((((law1Three).2).2).2).2).2).2).2).1, ((((((((((law1Three).2).2).2).2).2).2).2).2).1, (((((((((((law1Three).2).2).2).2).2).2).2).2).2).1, ((((((((((((law1Three).2).2).2).2).2).2).2).2).2).2).1, ()))))))))))) = law1Three := rfl
  rw [hT, print_spec rthree_rng, if_pos rthree_ok, rthree_ok, Option.bind_some, rulesText_spec rthree_ok]
  simp only [bne_self_eq_false, cond_false, Option.bind_some, beq_self_eq_true, Bool.not_true]
  rw [print_spec hr, Option.bind_some, error_spec r hr, Option.bind_some]
  by_cases c : ruleErr r = 0
  · rw [if_pos c, c, rulesText_spec c]
    simp [gopt]
  · rw [if_neg c, bne_t c]
    simp
end Go.Proofs.YtjikbbjjnndcbaaDoor
