/- Several texts in one: MatchD, PremM, MatchE, ClaimA, ClaimM, MatchF, MatchG, MatchH, MatchI, HtenP, TopClocksL. -/
import Derived.Test.YtijkabgijfdpfaaGreatDoorMAF
import Derived.Lib.ItoaLen
import Derived.Lib.AtoiAll
import Derived.Lib.ItoaMem
import Derived.Laws.RangeString
import Derived.Test.YtijkabgijfdpfaaGreatDoorMAE
namespace Go.Proofs.YtijkabgijfdpfaaGreatDoor
open Go.Den
set_option linter.unusedVariables false
set_option linter.unusedSimpArgs false
set_option maxRecDepth 100000

theorem quQ {u : Nat} (h : u < 10) : (UInt8.ofNat (48 + u)).toNat = 48 + u := by
  rw [UInt8.toNat_ofNat']; omega
theorem dec_mem (u : Nat) : ∀ c ∈ Go.Lib.decDigits u, 48 ≤ c.toNat ∧ c.toNat ≤ 57 := by
  induction u using Nat.strongRecOn with
  | _ u ih =>
    intro c hc; rw [Go.Lib.decDigits] at hc; split at hc
    · rename_i h; rw [List.mem_singleton.1 hc, quQ h]; omega
    · rename_i h; rcases List.mem_append.1 hc with hc | hc
      · exact ih (u / 10) (by omega) c hc
      · rw [List.mem_singleton.1 hc, quQ (by omega)]; omega
def I64 (n : Int) : Prop := -9223372036854775808 ≤ n ∧ n ≤ 9223372036854775807
def numS (n : Int) : ByteArray := ⟨(Go.Lib.itoa n).toArray⟩
theorem qrP {n : Int} (h : I64 n) : itoaS n = some (numS n) := by
  unfold itoaS; rw [decide_eq_true h.1, decide_eq_true h.2]; rfl
theorem qvk (n : Int) : (numS n).data.toList = Go.Lib.itoa n := by unfold numS; simp
theorem num_mem (n : Int) : ∀ c ∈ (numS n).data.toList, c.toNat = 45 ∨ 48 ≤ c.toNat ∧ c.toNat ≤ 57 := by
  rw [qvk]; intro c hc; unfold Go.Lib.itoa at hc; split at hc
  · rcases List.mem_cons.1 hc with rfl | hc
    · exact .inl rfl
    · exact .inr (dec_mem _ c hc)
  · exact .inr (dec_mem _ c hc)
theorem quz {n : Int} (h : I64 n) : (numS n).size ≤ 21 := by
  rw [qkt, qvk]; exact Go.Lib.itoa_length_le n h.1 h.2
def OKT (s : ByteArray) : Prop := s.size ≤ 200 ∧ ∀ c ∈ s.data.toList, 32 ≤ c.toNat ∧ c.toNat ≤ 126
theorem quu {s : ByteArray} (h : OKT s) : qaf s = 0 := by
  unfold qaf; rw [if_neg (by have := h.1; omega)]; have : ∀ (f pos : Nat), Go.Lib.idxFuncFrom qhI true s f pos = -1 := by
    intro f
    induction f with
    | zero => intro pos; rfl
    | succ f ih =>
      intro pos; unfold Go.Lib.idxFuncFrom; by_cases hp : pos < s.size
      · have hm := h.2 s[pos] (by
          rw [List.mem_iff_getElem]
          exact ⟨pos, by rw [← qkt]; exact hp, rfl⟩)
        have hd := decode_ascii s pos hp (by omega); rw [if_pos hp, hd, ih]; have : qhI (s[pos]'hp).toNat = false := by
          unfold qhI; simp only [Bool.or_eq_false_iff, decide_eq_false_iff_not]; omega
        rw [this]; rfl
      · rw [if_neg hp]
  unfold Go.Lib.idxFunc; rw [this]; rfl
abbrev Ev := Int × Int × Int × Int × Mv × Unit
structure EvR (e : Ev) : Prop where
  kind : I64 e.1
  player : I64 e.2.1
  n : I64 e.2.2.1
  now : I64 e.2.2.2.1
  a : I64 e.2.2.2.2.1.1
  b : I64 e.2.2.2.2.1.2.1
  c : I64 e.2.2.2.2.1.2.2.1
def evL (e : Ev) : List Int := [e.1, e.2.1, e.2.2.1, e.2.2.2.1, e.2.2.2.2.1.1, e.2.2.2.2.1.2.1, e.2.2.2.2.1.2.2.1]
theorem EvR.all {e : Ev} (h : EvR e) : ∀ n ∈ evL e, I64 n := by
  intro n hn; simp only [evL, List.mem_cons, List.not_mem_nil, or_false] at hn; rcases hn with rfl | rfl | rfl | rfl | rfl | rfl | rfl
  · exact h.kind
  · exact h.player
  · exact h.n
  · exact h.now
  · exact h.a
  · exact h.b
  · exact h.c
def qib (e : Ev) : ByteArray := joinB 32 ((evL e).map numS)
theorem qkd (e : Ev) (h : EvR e) : ((evL e).map numS).length = 7 ∧ ∀ x ∈ (evL e).map numS, x.size ≤ 21 := by
  refine ⟨rfl, fun x hx => ?_⟩; obtain ⟨n, hn, rfl⟩ := List.mem_map.1 hx; exact quz (h.all n hn)
theorem qpP (e : Ev) (h : EvR e) : (qib e).size ≤ 154 := by
  have := qqD 32 21 ((evL e).map numS) (qkd e h).2; rw [(qkd e h).1] at this; exact this
theorem qv2 (e : Ev) (h : EvR e) : qiL e = some (qib e) := by
  unfold qiL; have step : ∀ (i : Nat) (hi : i < 7) (l : List ByteArray), l.length ≤ 7 → qcO e ((l, (i : Int), ()), ()) = some (.inl ((l ++ [numS ((evL e)[i]'hi)], ((i + 1 : Nat) : Int), ()), ())) := by
    intro i hi l hl; unfold qcO; have hg : getD' [e.1, e.2.1, e.2.2.1, e.2.2.2.1, e.2.2.2.2.1.1, e.2.2.2.2.1.2.1, e.2.2.2.2.1.2.2.1] ((i : Int)).toNat (0 : Int) = (evL e)[i]'hi := by
      rw [Int.toNat_natCast]; show getD' (evL e) i 0 = _; rw [gd_eq (evL e) i hi]
    have hn : I64 ((evL e)[i]'hi) := h.all _ (List.getElem_mem (l := evL e) hi); simp only [show decide ((i : Int) < 7) = true by simp; omega, cond_true]; rw [show inb (i : Int) 7 = true from inb_iff.2 ⟨by omega, by omega⟩, qc, hg, qrP hn, Option.bind_some, qL (by simp only [List.length_cons, List.length_nil]; omega), qc, qe (by omega) (by omega)]; rfl
  have all : ∀ (k i : Nat), i + k = 7 → iterW (qcO e) ((((evL e).take i).map numS, (i : Int), ()), ()) = some (((evL e).map numS, ()), ()) := by
    intro k
    induction k with
    | zero =>
      intro i hi
      have : i = 7 := by omega
      subst this; refine qj ?_; rw [List.take_of_length_le (by exact Nat.le_refl _)]; rfl
    | succ k ih =>
      intro i hi
      have hi7 : i < 7 := by omega
      rw [qo (step i hi7 _ (by rw [List.length_map, List.length_take]; show min i 7 ≤ 7; omega))]; have := ih (i + 1) (by omega); rw [List.take_succ_eq_append_getElem (show i < (evL e).length from hi7), List.map_append] at this; exact this
  have h0 := all 7 0 (by omega); rw [List.take_zero] at h0; have h0' : iterW (qcO e) ((([] : List ByteArray), (0 : Int), ()), ()) = _ := h0; rw [h0', Option.bind_some]; have hsz := qpP e h; have hj := qwc 32 ((evL e).map numS) (by rw [(qkd e h).1]; omega) (by unfold qib at hsz; omega); have hj' : joinS ((((evL e).map numS, ()), ()) : (List ByteArray × Unit) × Unit).1.1 (ByteArray.mk #[32]) = some (qib e) := hj; rw [hj']; rfl
theorem quB (c d : UInt8) : ∀ l : List ByteArray, d ∈ (joinB c l).data.toList → d = c ∨ ∃ x ∈ l, d ∈ x.data.toList
  | [], h => by rw [qsB] at h; cases h
  | [x], h => by rw [qs5] at h; exact .inr ⟨x, by simp, h⟩
  | x :: y :: l, h => by
    rw [qpN, qox, qox] at h; rcases List.mem_append.1 h with h | h
    · rcases List.mem_append.1 h with h | h
      · exact .inr ⟨x, by simp, h⟩
      · exact .inl (List.mem_singleton.1 h)
    · rcases quB c d (y :: l) h with h | ⟨z, hz, h⟩
      · exact .inl h
      · exact .inr ⟨z, List.mem_cons_of_mem _ hz, h⟩
theorem entry_ok (e : Ev) (h : EvR e) : OKT (qib e) := by
  refine ⟨by have := qpP e h; omega, fun c hc => ?_⟩; rcases quB 32 c _ hc with rfl | ⟨x, hx, hc⟩
  · decide
  · obtain ⟨n, _, rfl⟩ := List.mem_map.1 hx; have := num_mem n c hc; omega
abbrev Jn := List (ByteArray × Int × Unit)
noncomputable def sumJ (b : Int) (s : ByteArray) : Int := (qdg b s).getD 0
theorem quI (b : Int) (s : ByteArray) (hs : s.size ≤ 1000000) : qdg b s = some (sumJ b s) := by
  have : ∃ v, qdg b s = some v := by
    unfold qdg; have key : ∀ (k i : Nat) (h : Int), i + k = s.size → ∃ h', iterW (qbQ s) ((h, (i : Int), ()), ()) = some ((h', ()), ()) := by
      intro k
      induction k with
      | zero =>
        intro i h hi
        have : i = s.size := by omega
        subst this; refine ⟨h, qj ?_⟩; unfold qbQ; simp
      | succ k ih =>
        intro i h hi; obtain ⟨c, hc⟩ : ∃ c, strAt s (i : Int) = some c := by
          have hi2 : i < s.size := by omega
          refine ⟨s[i], ?_⟩; unfold strAt; rw [show decide ((0 : Int) ≤ (i : Int)) = true by simp, cond_true, Int.toNat_natCast]; simp [hi2]
        have e : qbQ s ((h, (i : Int), ()), ()) = some (.inl ((wu64 ((ixor .u64 h (wu64 ((c.toNat : Nat) : Int))) * 1099511628211), ((i + 1 : Nat) : Int), ()), ())) := by
          unfold qbQ; simp only [show decide ((i : Int) < ((s.size : Nat) : Int)) = true by simp; omega, cond_true]; rw [hc, Option.bind_some, qe (by omega) (by omega)]; rfl
        rw [qo e]; exact ih (i + 1) _ (by omega)
    obtain ⟨h', hh⟩ := key s.size 0 (ixor .u64 b 14695981039346656037) (by omega); have hh' : iterW (qbQ s) (((ixor .u64 b 14695981039346656037), (0 : Int), ()), ()) = _ := hh; rw [hh', Option.bind_some]; exact ⟨_, rfl⟩
  obtain ⟨v, hv⟩ := this; unfold sumJ; rw [hv]; rfl
def lastJ (l : Jn) : Int := match l.getLast? with
  | some x => x.2.1
  | none => 0
theorem qpR (l : Jn) (hl : l.length ≤ 1000000) : qdc l = some (lastJ l) := by
  unfold qdc lastJ; by_cases h : l = []
  · subst h; rfl
  · have h0 : 0 < l.length := List.length_pos_iff.2 h; rw [beq_f (by omega), cond_false, qe (by omega) (by omega), show ((l.length : Nat) : Int) - 1 = ((l.length - 1 : Nat) : Int) by omega, qoE l _ (by omega), Option.bind_some, List.getLast?_eq_getElem?, List.getElem?_eq_getElem (by omega)]
def JOK (l : Jn) : Prop := l.length ≤ 1000 ∧ ∀ i (hi : i < l.length), OKT l[i].1 ∧ l[i].2.1 = sumJ (lastJ (l.take i)) l[i].1
theorem good_ok {l : Jn} (h : JOK l) : qg1 l = some ((l.length : Nat) : Int) := by
  unfold qg1; have hlen := h.1; have step : ∀ i (hi : i < l.length), qbe l (((i : Int), ()), ()) = some (.inl ((((i + 1 : Nat) : Int), ()), ())) := by
    intro i hi; obtain ⟨h1, h2⟩ := h.2 i hi; unfold qbe; have hne : ((i : Int) == 1000) = false := beq_f (by omega); simp only [ltd l i hi, cond_true]; rw [qoE l i hi, Option.bind_some]; have hb : qp 0 (i : Int) l.length = true := by
      simp only [qp, Bool.and_eq_true, decide_eq_true_eq]; omega
    simp only [hne, Bool.not_false, imp, cond_true, hb, qc, gopt, Int.toNat_natCast, List.drop_zero]; rw [qpR _ (by rw [List.length_take]; omega), Option.bind_some]; have hw : qdH (lastJ (l.take i)) l[i] = some 0 := by
      unfold qdH; rw [quu h1, show ((0 : Int) != 0) = false from rfl, cond_false, quI _ _ (by have := h1.1; omega), Option.bind_some, h2, bne_f rfl, cond_false]
    rw [hw, Option.bind_some, qe (by omega) (by omega)]; rfl
  have key : ∀ (k i : Nat), i + k = l.length → iterW (qbe l) (((i : Int), ()), ()) = some (.inl ((), ())) := by
    intro k
    induction k with
    | zero =>
      intro i hi
      have : i = l.length := by omega
      subst this; refine qj ?_; unfold qbe; simp
    | succ k ih =>
      intro i hi; rw [qo (step i (by omega))]; exact ih (i + 1) (by omega)
  have h0 := key l.length 0 (by omega); have h0' : iterW (qbe l) (((0 : Int), ()), ()) = _ := h0; rw [h0', Option.bind_some, Sum.elim_inl]
theorem check_okJ {l : Jn} (h : JOK l) : qfs l = some 0 := by
  unfold qfs; have := h.1; rw [show decide (((l.length : Nat) : Int) > 1000) = false by rw [decide_eq_false_iff_not]; omega, cond_false, good_ok h, Option.bind_some, show decide (((l.length : Nat) : Int) < ((l.length : Nat) : Int)) = false by simp, cond_false]
theorem cloneJ (s : Jn) (h : s.length ≤ 1000000) : qad s = some s := by
  unfold qad; have : room (([] : Jn).length + s.length) 24 = true := qL (by simp; omega); rw [this]
  cases s with
  | nil => simp [qc, agree_self]
  | cons a l => simp [qc]
noncomputable def nextJ (l : Jn) (s : ByteArray) : Jn := l ++ [(s, (sumJ (lastJ l) s, ()))]
theorem qp0 {l : Jn} (h : JOK l) (hl : l.length < 1000) {s : ByteArray} (hs : OKT s) : qai l s = some (nextJ l s, (0, ())) ∧ JOK (nextJ l s) := by
  have hlen := h.1; constructor
  · unfold qai; rw [check_okJ h, Option.bind_some, show ((0 : Int) != 0) = false from rfl, cond_false, quu hs, show ((0 : Int) != 0) = false from rfl, cond_false, beq_f (by omega), cond_false, cloneJ l (by omega), Option.bind_some, qpR l (by omega), Option.bind_some, quI _ _ (by have := hs.1; omega), Option.bind_some, qL (by simp only [List.length_cons, List.length_nil]; omega), qc]; rfl
  · refine ⟨by unfold nextJ; rw [List.length_append, List.length_singleton]; omega, fun i hi => ?_⟩; unfold nextJ at hi ⊢; rw [List.length_append, List.length_singleton] at hi; by_cases c : i < l.length
    · rw [List.getElem_append_left c, List.take_append_of_le_length (by omega)]; exact h.2 i c
    · have : i = l.length := by omega
      subst this; rw [List.getElem_append_right (by omega), List.take_left']
      · simp only [Nat.sub_self, List.getElem_cons_zero]; exact ⟨hs, trivial⟩
      · rfl

abbrev PM := Int × Mv × Unit
abbrev dPM : PM := (0, ((0, (0, (0, ()))), ()))
theorem qq2 {A : Type} (xs : List A) (i : Nat) (h : i < xs.length) : at? xs (i : Int) = some xs[i] := by
  rw [at?_eq xs _ (Int.natCast_nonneg i) (Int.ofNat_lt.2 h)]; simp only [Int.toNat_natCast]
theorem qsJ {A C : Type} (l : List A) (G : A → List C) : ∀ n, n ≤ l.length → (List.range n).flatMap (fun i => (l[i]?).toList.flatMap G) = (l.take n).flatMap G
  | 0, _ => by simp
  | n + 1, h => by
    rw [List.range_succ, List.flatMap_append, qsJ l G n (by omega), List.take_succ_eq_append_getElem (by omega), List.flatMap_append]; simp [List.getElem?_eq_getElem (show n < l.length by omega)]
theorem qvX {A C R : Type} (xs : List A) (B : Nat) (f : (((List C) × Int × Unit) × Unit) → Option ((((List C) × Int × Unit) × Unit) ⊕ R)) (G : A → List C) (fin : List C → R) (a0 : List C) (hG : ∀ x ∈ xs, (G x).length ≤ B)
    (hs : ∀ i (hi : i < xs.length) (a : List C), a.length ≤ a0.length + i * B → f ((a, (i : Int), ()), ()) = some (.inl ((a ++ G xs[i], ((i : Int) + 1), ()), ()))) (he : ∀ a, f ((a, (xs.length : Int), ()), ()) = some (.inr (fin a))) :
    iterW f ((a0, (0 : Int), ()), ()) = some (fin (a0 ++ xs.flatMap G)) := by
  have := qgA xs.length B f (fun i => (xs[i]?).toList.flatMap G) fin a0 (fun i hi => by
    simp only [List.getElem?_eq_getElem hi, Option.toList_some, List.flatMap_cons, List.flatMap_nil, List.append_nil]; exact hG _ (List.getElem_mem hi)) (fun i hi a ha => by
    simp only [List.getElem?_eq_getElem hi, Option.toList_some, List.flatMap_cons, List.flatMap_nil, List.append_nil]
    exact hs i hi a ha) he
  rw [this, qsJ xs G _ (Nat.le_refl _), List.take_length]
def ofL (l : List PM) (pl : Int) : List Mv := l.flatMap fun x => bif x.1 == pl then [x.2.1] else []
def woL (l : List PM) (pl : Int) : List PM := l.filter fun x => !(x.1 == pl)
def odd1 (x : PM) : Bool := (x.1 != 0) && (x.1 != 1)
def pmErr (l : List PM) : Int := if 4 < (ofL l 0).length ∨ 4 < (ofL l 1).length then 2 else if l.any odd1 = true then 4 else 0
theorem qus (l : List PM) (pl : Int) (hl : l.length ≤ 1000000) : qgb l pl = some (ofL l pl) := by
  unfold qgb
  have := qvX l 1 (qfk l pl) (fun x => bif x.1 == pl then [x.2.1] else []) (fun a => ((a, ()), ())) [] (fun x _ => by
    cases (x.1 == pl)
    · exact Nat.zero_le _
    · exact Nat.le_refl _) (fun i hi a ha => by
    simp only [List.length_nil] at ha; unfold qfk; simp only [show decide ((i : Int) < ((l.length : Nat) : Int)) = true by simp; omega, cond_true]; rw [qq2 l i hi, Option.bind_some, qe (n := (i : Int) + 1) (by omega) (by omega)]; cases (l[i].1 == pl)
    · simp only [cond_false, Option.bind_some, List.append_nil]
    · simp only [cond_true]; rw [qL (by simp only [List.length_cons, List.length_nil]; omega), qc]
      rfl) (fun a => by unfold qfk; simp)
  rw [this, Option.bind_some]; rfl
theorem qnX (l : List PM) (hl : l.length ≤ 1000000) : qdR l = some (pmErr l) := by
  unfold qdR pmErr; rw [qus l 0 hl, Option.bind_some, qus l 1 hl, Option.bind_some]
  have hL := qT l odd1 (qcz l) (.inr 4) (.inl ((), ())) (fun i hi => by
    unfold qcz odd1; simp only [show decide ((i : Int) < ((l.length : Nat) : Int)) = true by simp; omega, cond_true]; rw [qq2 l i hi, Option.bind_some, qe (n := (i : Int) + 1) (by omega) (by omega), show decide ((i : Int) ≥ 0) = true by simp]
    cases ((l[i].1 != 0) && (l[i].1 != 1)) <;> rfl) (by unfold qcz; simp)
  rw [hL]; by_cases h : 4 < (ofL l 0).length ∨ 4 < (ofL l 1).length
  · rw [if_pos h]; by_cases h0 : 4 < (ofL l 0).length
    · rw [show decide ((((ofL l 0).length : Nat) : Int) > 4) = true by simp only [decide_eq_true_eq]; omega]; rfl
    · rw [show decide ((((ofL l 0).length : Nat) : Int) > 4) = false by simp only [decide_eq_false_iff_not]; omega, show decide ((((ofL l 1).length : Nat) : Int) > 4) = true by simp only [decide_eq_true_eq]; omega]; rfl
  · rw [if_neg h, show decide ((((ofL l 0).length : Nat) : Int) > 4) = false by simp only [decide_eq_false_iff_not]; omega, show decide ((((ofL l 1).length : Nat) : Int) > 4) = false by simp only [decide_eq_false_iff_not]; omega]; simp only [cond_false, Option.bind_some]
    cases l.any odd1 <;> rfl
theorem qud (s : List PM) (h : s.length ≤ 1000000) : qv s = some s := by
  unfold qv; have : room (([] : List PM).length + s.length) 32 = true := qL (by simp; omega); rw [this]
  cases s with
  | nil => simp [qc, agree_self]
  | cons a l => simp [qc]
theorem concatPM (a b : List PM) (ha : a.length ≤ 1000) (hb : b.length ≤ 1000) : qae [a, b] = some (a ++ b) := by
  have w1 : w64 (0 + ((a.length : Nat) : Int)) = (a.length : Int) := by rw [Int.zero_add]; exact qe (by omega) (by omega)
  have w2 : w64 ((a.length : Int) + ((b.length : Nat) : Int)) = ((a.length + b.length : Nat) : Int) := by rw [qe (by omega) (by omega)]; omega
  have w3 : w64 ((0 : Int) + 1) = 1 := by decide
  have w4 : w64 ((1 : Int) + 1) = 2 := by decide
  have g0 : at? [a, b] 0 = some a := rfl; have g1 : at? [a, b] 1 = some b := rfl; have l1 : iterW (qw [a, b]) (((0 : Int), (0 : Int), ()), ()) = some (((((a.length + b.length : Nat) : Int)), ()), ()) := by
    have s0 : qw [a, b] (((0 : Int), (0 : Int), ()), ()) = some (.inl ((((a.length : Nat) : Int), (1 : Int), ()), ())) := by
      unfold qw; simp only [g0, w1, w3, Option.bind_some]; rw [show decide (((a.length : Nat) : Int) < 0) = false by simp]; rfl
    have s1 : qw [a, b] ((((a.length : Nat) : Int), (1 : Int), ()), ()) = some (.inl ((((a.length + b.length : Nat) : Int), (2 : Int), ()), ())) := by
      unfold qw; simp only [g1, w2, w4, Option.bind_some]; rw [show decide (((a.length + b.length : Nat) : Int) < 0) = false by simp; omega]; rfl
    have s2 : qw [a, b] ((((a.length + b.length : Nat) : Int), (2 : Int), ()), ()) = some (.inr ((((a.length + b.length : Nat) : Int), ()), ())) := rfl; rw [qo s0, qo s1, qj s2]
  have l2 : iterW (qx [a, b]) ((([] : List PM), (0 : Int), ()), ()) = some ((a ++ b, ()), ()) := by
    have s0 : qx [a, b] ((([] : List PM), (0 : Int), ()), ()) = some (.inl ((a, (1 : Int), ()), ())) := by
      unfold qx; simp only [g0, w3, Option.bind_some]; rw [qL (by simp; omega)]; rfl
    have s1 : qx [a, b] ((a, (1 : Int), ()), ()) = some (.inl ((a ++ b, (2 : Int), ()), ())) := by
      unfold qx; simp only [g1, w4, Option.bind_some]; rw [qL (by omega)]; rfl
    have s2 : qx [a, b] ((a ++ b, (2 : Int), ()), ()) = some (.inr ((a ++ b, ()), ())) := rfl; rw [qo s0, qo s1, qj s2]
  unfold qae; simp only [l1, Option.bind_some]; rw [show decide (((a.length + b.length : Nat) : Int) < 0) = false by simp; omega]
  have w5 : w64 (((a.length + b.length : Nat) : Int) - 0) = ((a.length + b.length : Nat) : Int) := by rw [Int.sub_zero]; exact qe (by omega) (by omega)
  simp only [w5, cond_false]; by_cases c : a.length + b.length = 0
  · rw [c]; simp only [Int.natCast_zero, show decide ((0 : Int) > 0) = false by decide, cond_false, Option.bind_some]; rw [l2]; rfl
  · have c1 : decide (((a.length + b.length : Nat) : Int) > 0) = true := by simp; omega
    have c2 : decide (0 < ((a.length + b.length : Nat) : Int)) = true := by simp; omega
    have c3 : room ((((a.length + b.length : Nat) : Int)).toNat) 32 = true := qL (by omega)
    have c4 : ∀ l : List PM, qp 0 0 l.length = true := fun l => by simp [qp]
    simp only [c1, c2, c3, c4, cond_true, Bool.and_self, qc, Option.bind_some, List.take_zero]; rw [l2]; rfl
def fstI (p : Nat → Bool) : Nat → Nat → Nat
  | i, 0 => i
  | i, k + 1 => bif p i then i else fstI p (i + 1) k
theorem fst_rng (p : Nat → Bool) : ∀ (k i : Nat), i ≤ fstI p i k ∧ fstI p i k ≤ i + k ∧ (fstI p i k < i + k → p (fstI p i k) = true) ∧ ∀ j, i ≤ j → j < fstI p i k → p j = false
  | 0, i => ⟨Nat.le_refl _, Nat.le_refl _, fun h => absurd h (Nat.lt_irrefl _), fun j h1 h2 => absurd h2 (Nat.not_lt.2 h1)⟩
  | k + 1, i => by
    have ih := fst_rng p k (i + 1); unfold fstI; cases h : p i
    · simp only [cond_false]; refine ⟨by omega, by omega, fun hl => ih.2.2.1 (by omega), fun j h1 h2 => ?_⟩; by_cases e : j = i
      · subst e; exact h
      · exact ih.2.2.2 j (by omega) h2
    · simp only [cond_true]; exact ⟨Nat.le_refl _, by omega, fun _ => h, fun j h1 h2 => absurd h2 (Nat.not_lt.2 h1)⟩
theorem qve {β : Type} (p : Nat → Bool) (g : Nat → β) (B : β) : ∀ (k i : Nat), scan (fun i => bif p i then some (g i) else none) B i k = if fstI p i k < i + k then g (fstI p i k) else B
  | 0, i => by
    unfold fstI scan; rw [if_neg (show ¬ i < i + 0 by omega)]
  | k + 1, i => by
    conv => lhs; unfold scan
    unfold fstI; cases h : p i
    · simp only [cond_false]; rw [qve p g B k (i + 1), show i + 1 + k = i + (k + 1) by omega]
    · simp only [cond_true]; rw [if_pos (by omega)]
def fstP (l : List PM) (pl : Int) : Nat := fstI (fun i => (l.getD i dPM).1 == pl) 0 l.length
theorem qq0 (l : List PM) (i : Nat) (h : i < l.length) : l.getD i dPM = l[i] := by simp [List.getD_eq_getElem?_getD, h]
theorem wo_L2 (l : List PM) (pl : Int) (hl : l.length ≤ 1000000) : ∀ (k w j : Nat) (ys : List PM), j + k = l.length → w ≤ j → ys.length = l.length → ys.take w = (l.take j).filter (fun x => !(x.1 == pl)) → ys.drop j = l.drop j →
    ∃ (w' : Nat) (zs : List PM), iterW (qaR pl) (((w : Int), (j : Int), ()), (ys, ())) = some (((w' : Int), ()), (zs, ())) ∧ w' ≤ l.length ∧ zs.length = l.length ∧ zs.take w' = woL l pl := by
  intro k
  induction k with
  | zero =>
    intro w j ys hj hw hy h1 h2
    have : j = l.length := by omega
    subst this; refine ⟨w, ys, qj ?_, hw, hy, by rw [h1, List.take_length]; rfl⟩; unfold qaR; simp only [show decide (((l.length : Nat) : Int) < ((ys.length : Nat) : Int)) = false by simp; omega, cond_false]
  | succ k ih =>
    intro w j ys hj hw hy h1 h2
    have hjl : j < l.length := by omega
    have hjy : j < ys.length := by omega
    have hyj : ys[j] = l[j] := by
      have e1 : (ys.drop j)[0]? = (l.drop j)[0]? := by rw [h2]
      rw [List.getElem?_drop, List.getElem?_drop, Nat.add_zero, List.getElem?_eq_getElem hjy, List.getElem?_eq_getElem hjl] at e1; exact Option.some.inj e1
    have hdr : ∀ zs : List PM, zs.drop j = l.drop j → zs.drop (j + 1) = l.drop (j + 1) := fun zs h => by
      rw [← List.drop_drop, ← List.drop_drop, h]
    have hg : getD' ys j dPM = l[j] := by unfold getD'; rw [qq0 ys j hjy, hyj]
    have htk : (l.take (j + 1)).filter (fun x => !(x.1 == pl)) = (l.take j).filter (fun x => !(x.1 == pl)) ++ (if (!(l[j].1 == pl)) = true then [l[j]] else []) := by
      rw [List.take_succ_eq_append_getElem hjl, List.filter_append, List.filter_cons, List.filter_nil]
    by_cases hk : (l[j].1 == pl) = true
    · obtain ⟨w', zs, q1, q2⟩ := ih w (j + 1) ys (by omega) (by omega) hy (by rw [htk, hk, h1]; simp) (hdr ys h2); refine ⟨w', zs, ?_, q2⟩; rw [qo (y := (((w : Int), ((j + 1 : Nat) : Int), ()), (ys, ())))]
      · exact q1
      · unfold qaR; simp only [show decide ((j : Int) < ((ys.length : Nat) : Int)) = true by simp; omega, cond_true]; rw [inb_iff.2 ⟨by omega, by omega⟩, qc, Int.toNat_natCast]; rw [hg, hk, Bool.not_true, cond_false, Option.bind_some, qe (n := (j : Int) + 1) (by omega) (by omega)]; rfl
    · have hk := Bool.eq_false_iff.2 hk
      have hws : w < ys.length := by omega
      obtain ⟨w', zs, q1, q2⟩ := ih (w + 1) (j + 1) (ys.set w l[j]) (by omega) (by omega) (by rw [List.length_set]; exact hy) (by
        rw [htk, hk, ← h1, List.take_succ_eq_append_getElem (by rw [List.length_set]; exact hws), List.getElem_set_self, List.take_set_of_le (Nat.le_refl _)]
        simp) (by
        rw [List.drop_set_of_lt (by omega)]
        exact hdr ys h2)
      refine ⟨w', zs, ?_, q2⟩; rw [qo (y := ((((w + 1 : Nat) : Int), ((j + 1 : Nat) : Int), ()), (ys.set w l[j], ())))]
      · exact q1
      · unfold qaR; simp only [show decide ((j : Int) < ((ys.length : Nat) : Int)) = true by simp; omega, cond_true]; rw [inb_iff.2 ⟨by omega, by omega⟩, qc, Int.toNat_natCast]; rw [hg, hk, Bool.not_false, cond_true, inb_iff.2 ⟨by omega, by omega⟩, qc, Option.bind_some, qe (n := (j : Int) + 1) (by omega) (by omega), qe (n := (w : Int) + 1) (by omega) (by omega), Int.toNat_natCast]; rfl
theorem qnc (l : List PM) (pl : Int) (hl : l.length ≤ 1000000) : qb3 l pl = some (woL l pl) := by
  unfold qb3; rw [qud l hl, Option.bind_some]; have key : ∀ k i : Nat, i + k = l.length → (∀ j, j < i → ((l.getD j dPM).1 == pl) = false) → Option.bind (iterW (qar l pl) (((i : Int), ()), ())) (Sum.elim (fun _ => some l) some) = some (woL l pl) := by
    have pre : ∀ i, i ≤ l.length → (∀ j, j < i → ((l.getD j dPM).1 == pl) = false) → (l.take i).filter (fun x => !(x.1 == pl)) = l.take i := fun i hi h => by
      rw [List.filter_eq_self]; intro x hx; obtain ⟨j, hj, rfl⟩ := List.mem_iff_getElem.1 hx; rw [List.length_take] at hj; rw [List.getElem_take, ← qq0 l j (by omega), h j (by omega)]; rfl
    intro k
    induction k with
    | zero =>
      intro i hi h
      have : i = l.length := by omega
      subst this; rw [qj (r := .inl ((), ())) (by unfold qar; simp)]; have := pre l.length (Nat.le_refl _) h; rw [List.take_length] at this; show some l = some (woL l pl); unfold woL; rw [this]
    | succ k ih =>
      intro i hi h
      have hil : i < l.length := by omega
      have hg : getD' l i dPM = l.getD i dPM := rfl; cases hp : ((l.getD i dPM).1 == pl)
      · rw [qo (y := ((((i + 1 : Nat) : Int), ()), ()))]
        · exact ih (i + 1) (by omega) fun j hj => by
            by_cases e : j = i
            · subst e; exact hp
            · exact h j (by omega)
        · unfold qar; simp only [show decide ((i : Int) < ((l.length : Nat) : Int)) = true by simp; omega, cond_true]; rw [inb_iff.2 ⟨by omega, by omega⟩, qc, Int.toNat_natCast, hg, hp, cond_false, qe (n := (i : Int) + 1) (by omega) (by omega)]; rfl
      · obtain ⟨w', zs, q1, q2, q3, q4⟩ := wo_L2 l pl hl (l.length - (i + 1)) i (i + 1) l (by omega) (by omega) rfl (by
          rw [List.take_succ_eq_append_getElem hil, List.filter_append, List.filter_cons, List.filter_nil, ← qq0 l i hil, hp, pre i (by omega) h]
          simp) rfl
        have hf : qar l pl (((i : Int), ()), ()) = some (.inr (.inr (woL l pl))) := by
          unfold qar; simp only [show decide ((i : Int) < ((l.length : Nat) : Int)) = true by simp; omega, cond_true]; rw [inb_iff.2 ⟨by omega, by omega⟩, qc, Int.toNat_natCast, hg, hp, cond_true, beq_f (show ¬ (i : Int) = -1 by omega), cond_false, qe (n := (i : Int) + 1) (by omega) (by omega)]; rw [show ((i : Int) + 1) = ((i + 1 : Nat) : Int) by omega, q1, Option.bind_some]; simp only [Int.toNat_natCast]; rw [show qp (w' : Int) ((zs.length : Nat) : Int) zs.length = true by simp only [qp, Bool.and_eq_true, decide_eq_true_eq]; omega, qc]; rw [show ∀ ys : List PM, qp 0 (w' : Int) (zs.take w' ++ ys).length = true from fun ys => by
            simp only [qp, Bool.and_eq_true, decide_eq_true_eq, List.length_append, List.length_take]
            omega, qc, ← q4]
          rw [show ∀ ys : List PM, (zs.take w' ++ ys).take w' = zs.take w' from fun ys => by
            rw [List.take_append_of_le_length (by rw [List.length_take]; omega), List.take_take, Nat.min_self]]
          rfl
        rw [qj hf]; rfl
  exact key l.length 0 (by omega) (fun j hj => by omega)
def openM (r : Rules) (p : Place) : List Mv := if qcK r p = 0 then qhX r p else []
theorem qqF {r : Rules} {p : Place} (h : Valid r p) : qf2 r p = some (openM r p) := by
  unfold qf2 openM; rw [qoB h, Option.bind_some]; by_cases c : qcK r p = 0
  · rw [bne_f c, cond_false, if_pos c, qkH h]; rfl
  · rw [bne_t c, cond_true, if_neg c]
theorem openM_mem {r : Rules} {p : Place} {m : Mv} : m ∈ openM r p ↔ qcK r p = 0 ∧ qD r p m = true := by
  unfold openM; by_cases c : qcK r p = 0
  · rw [if_pos c, qj2]; exact ⟨fun h => ⟨c, h⟩, fun h => h.2⟩
  · rw [if_neg c]; exact ⟨fun h => (by cases h), fun h => absurd h.1 c⟩
theorem qsP {r : Rules} {p : Place} (h : Valid r p) : (openM r p).length ≤ 100000 := by
  unfold openM; split
  · exact qn0 h
  · simp
def resN (r : Rules) (p : Place) (l : List PM) (i : Nat) : Mv × Bool × List PM × Unit :=
  if (l.getD i dPM).2.1 ∈ openM r p then ((l.getD i dPM).2.1, (true, (l.take i ++ l.drop (i + 1), ()))) else ((0, (0, (0, ()))), (false, (woL l p.turn, ())))
def nextP (r : Rules) (p : Place) (l : List PM) : Mv × Bool × List PM × Unit :=
  if fstP l p.turn < l.length then resN r p l (fstP l p.turn) else ((0, (0, (0, ()))), (false, (woL l p.turn, ())))
theorem next_spec {r : Rules} {p : Place} (h : Valid r p) (l : List PM) (hl : l.length ≤ 1000) : qgz r p l = some (nextP r p l) := by
  unfold qgz
  have hL := qmk l.length (qdw l p r) (fun i => bif (l.getD i dPM).1 == p.turn then some (Sum.inr (resN r p l i)) else none) (.inl ((), ())) (fun i hi => by
    unfold qdw resN; simp only [show decide ((i : Int) < ((l.length : Nat) : Int)) = true by simp; omega, cond_true]; rw [qq2 l i hi, Option.bind_some, qe (n := (i : Int) + 1) (by omega) (by omega), qq0 l i hi]; show (bif (l[i].1 == p.turn) then _ else _) = _; cases hp : (l[i].1 == p.turn)
    · rfl
    · simp only [cond_true]; rw [show decide ((i : Int) < 0) = false by simp]; simp only [Bool.not_false, cond_false, qab, agree_self]
      have hgat : ∀ z, gat true z l (i : Int) = some l[i] := fun z => by show at? l (i : Int) = _; exact qq2 l i hi
      rw [hgat, Option.bind_some, qqF h, Option.bind_some, qmB _ _ (by have := qsP h; omega), Option.bind_some, Option.bind_some]; simp only; by_cases hm : l[i].2.1 ∈ openM r p
      · rw [decide_eq_true hm, if_pos hm]; simp only [Bool.not_true, cond_false]; rw [show qp 0 (i : Int) l.length = true by simp only [qp, Bool.and_eq_true, decide_eq_true_eq]; omega, show qp ((i : Int) + 1) ((l.length : Nat) : Int) l.length = true by simp only [qp, Bool.and_eq_true, decide_eq_true_eq]; omega]; simp only [qc, qab, agree_self, Option.bind_some, Int.toNat_natCast, List.drop_zero, List.take_length]; rw [concatPM _ _ (by rw [List.length_take]; omega) (by rw [List.length_drop]; omega)]; rw [show ((i : Int) + 1).toNat = i + 1 by omega]; rfl
      · rw [decide_eq_false hm, if_neg hm]; simp only [Bool.not_false, cond_true]; rw [show p.2.2.1 = p.turn from rfl, qnc l _ (by omega)]
        rfl) (by unfold qdw; simp)
  rw [hL, qve, Nat.zero_add]; unfold nextP; show Option.bind (some (if fstP l p.turn < l.length then Sum.inr (resN r p l (fstP l p.turn)) else Sum.inl ((), ()))) _ = _; by_cases c : fstP l p.turn < l.length
  · rw [if_pos c, if_pos c]; rfl
  · rw [if_neg c, if_neg c]; simp only [Option.bind_some, Sum.elim_inl]; have hg : ∀ z : PM, gat false z l (-1) = some z := fun z => rfl; rw [hg, Option.bind_some]; rw [show p.2.2.1 = p.turn from rfl, qnc l _ (by omega)]; rfl
theorem addP_spec (l : List PM) (hl : l.length ≤ 1000) (pl : Int) (m : Mv) : qiF l pl m = some (if pmErr l ≠ 0 then ([], (pmErr l, ())) else if pl ≠ 0 ∧ pl ≠ 1 then ([], (1, ())) else if (ofL l pl).length = 4 then ([], (9, ())) else (l ++ [(pl, (m, ()))], (0, ()))) := by
  unfold qiF; rw [qnX l (by omega), Option.bind_some]; by_cases c : pmErr l = 0
  rotate_left
  · rw [bne_t c, cond_true, if_pos c]
  rw [bne_f c, cond_false, if_neg (fun h => h c)]; by_cases c1 : pl ≠ 0 ∧ pl ≠ 1
  · rw [if_pos c1, bne_t c1.1, bne_t c1.2]; rfl
  rw [if_neg c1, show ((pl != 0) && (pl != 1)) = false by
    rw [Bool.and_eq_false_iff]; by_cases e : pl = 0
    · exact .inl (bne_f e)
    · exact .inr (bne_f (by omega)), cond_false, qus l pl (by omega), Option.bind_some]
  by_cases c2 : (ofL l pl).length = 4
  · rw [if_pos c2, c2]; rfl
  rw [if_neg c2, beq_f (show ¬ (((ofL l pl).length : Nat) : Int) = 4 by omega), cond_false]; simp only [qab, agree_self]; rw [qud l (by omega), Option.bind_some, qL (by simp only [List.length_cons, List.length_nil]; omega), qc, Option.bind_some]
def faultP (r : Rules) (p : Place) (l : List PM) : Int := if qcc r p ≠ 0 then qcc r p else pmErr l
theorem qt1 (r : Rules) (p : Place) (l : List PM) (hr : Rng qbK r) (hn : p.1.length ≤ 9223372036854775807) (hl : l.length ≤ 1000) : qdA r p l = some (faultP r p l) := by
  unfold qdA faultP; rw [qp4 r p hr hn, Option.bind_some]; by_cases c : qcc r p = 0
  · rw [bne_f c, cond_false, if_neg (fun h => h c), qnX l (by omega), Option.bind_some]
  · rw [bne_t c, cond_true, if_pos c]
theorem qv0 (r : Rules) (p : Place) (hr : Rng qbK r) (hv : Valid r p) (c : qR r = 0) (l : List PM) (hl : l.length ≤ 1000) : qaY r p l = some (if pmErr l ≠ 0 then ((0, (0, (0, ()))), (false, ([], (pmErr l, ())))) else ((nextP r p l).1, ((nextP r p l).2.1, ((nextP r p l).2.2.1, (0, ()))))) := by
  unfold qaY; rw [qt1 r p l hr (by have := qca hv; omega) hl, Option.bind_some]; unfold faultP; rw [qu6 c hv]; simp only [ne_eq, not_true_eq_false, if_false]; by_cases h : pmErr l = 0
  · rw [bne_f h, cond_false, next_spec hv l hl, Option.bind_some, if_neg (by simp [h])]
  · rw [bne_t h, cond_true, if_pos h]

theorem qcv {r : Rules} {s : List Place × List Mv} (h : OKG r s) : qt (r, (s.1, (s.2, ()))) = some s.2 := by
  have hm := h.most; have hc : qb9 s.2 = some s.2 := by
    unfold qb9
    cases hs : s.2 with
    | nil =>
      rw [show (([] : List Mv).isEmpty) = true from rfl, cond_true, qL (by simp), qc]; exact agree_self _
    | cons m l =>
      rw [hs] at hm; rw [show (m :: l).isEmpty = false from rfl, cond_false, qL (by simp at hm ⊢; omega), qc, List.nil_append]
  unfold qt; simp only [hc, Option.bind_some]
structure RG (r : Rules) (s : List Place × List Mv) : Prop where
  ok : OKG r s
  reach : qpK r s.2 = .inl s
theorem qro {r : Rules} (m : Mv) : ∀ (k : List Mv) (s : List Place × List Mv), runG r (k ++ [m]) s = match runG r k s with
    | .inl s' => if stepG r s' m = 0 then .inl (nextG r s' m) else .inr (stepG r s' m)
    | .inr e => .inr e
  | [], s => rfl
  | x :: k, s => by
    rw [List.cons_append]; unfold runG; split
    · exact qro m k _
    · rfl
theorem RG.next {r : Rules} {s : List Place × List Mv} {m : Mv} (h : RG r s) (c : stepG r s m = 0) : RG r (nextG r s m) := ⟨quf h.ok c, by
  show runG r (s.2 ++ [m]) _ = _; have : runG r s.2 ([qag r], []) = .inl s := h.reach; rw [qro, this]
  simp only [c, if_true]⟩
theorem RG.begin {r : Rules} (c : qR r = 0) : RG r ([qag r], []) := ⟨qkX c, rfl⟩
def backG (s : List Place × List Mv) : List Place × List Mv := (s.1.dropLast, s.2.dropLast)
theorem back_next (r : Rules) (s : List Place × List Mv) (m : Mv) : backG (nextG r s m) = s := by
  unfold backG nextG; simp
theorem RG.last_step {r : Rules} {s : List Place × List Mv} (h : RG r s) (h0 : 0 < s.2.length) : RG r (backG s) ∧ ∃ m, s = nextG r (backG s) m ∧ stepG r (backG s) m = 0 := by
  have hne : s.2 ≠ [] := fun e => by rw [e] at h0; simp at h0
  have hk : s.2 = s.2.dropLast ++ [s.2.getLast hne] := (List.dropLast_concat_getLast hne).symm; have hr := h.reach; unfold qpK at hr; rw [hk, qro] at hr
  cases hq : runG r s.2.dropLast ([qag r], []) with
  | inr e => rw [hq] at hr; cases hr
  | inl s' =>
    rw [hq] at hr; simp only at hr; split at hr
    · rename_i c; have e : nextG r s' (s.2.getLast hne) = s := Sum.inl.inj hr
      have hb : backG s = s' := by rw [← e]; exact back_next r s' _
      obtain ⟨o1, o2⟩ := run_ok _ _ _ (qkX h.ok.ok) hq; rw [List.nil_append] at o2; refine ⟨⟨by rw [hb]; exact o1, ?_⟩, _, by rw [hb]; exact e.symm, by rw [hb]; exact c⟩; rw [hb, o2]; exact hq
    · cases hr
theorem RG.back {r : Rules} {s : List Place × List Mv} (h : RG r s) (h0 : 0 < s.2.length) : RG r (backG s) := (h.last_step h0).1
theorem RG.back_open {r : Rules} {s : List Place × List Mv} (h : RG r s) (h0 : 0 < s.2.length) : qM r (backG s).1 = 0 := by
  obtain ⟨_, m, _, c⟩ := h.last_step h0; exact (step_0 c).1
theorem qnH (s : List Place × List Mv) : (backG s).2.length = s.2.length - 1 := by unfold backG; simp
def par (n : Nat) : Int := ((n % 2 : Nat) : Int)
theorem qqJ (n : Nat) : ((n : Nat) : Int).tmod 2 = par n := (Int.ofNat_tmod n 2).symm
theorem quy (n : Nat) : par (n + 1) = 1 - par n := by unfold par; omega
theorem qo7 (n : Nat) : 0 ≤ par n ∧ par n ≤ 1 := by unfold par; omega
theorem qwe (r : Rules) (s : List Place × List Mv) (m : Mv) : lastP (nextG r s m).1 = qkf r (lastP s.1) m := by
  unfold nextG lastP; simp only [List.length_append, List.length_singleton, Nat.add_sub_cancel]; exact gd_app2 _ _
theorem RG.turn {r : Rules} : ∀ (n : Nat) {s : List Place × List Mv}, RG r s → s.2.length = n → (lastP s.1).turn = par n
  | 0, s, h, hn => by
    have he : s.2 = [] := List.length_eq_zero_iff.1 hn; have hr := h.reach; rw [he] at hr; have : s = ([qag r], []) := (Sum.inl.inj hr).symm; rw [this]; rfl
  | n + 1, s, h, hn => by
    obtain ⟨hb, m, e, _⟩ := h.last_step (by omega); have := RG.turn n hb (by rw [qnH]; omega); rw [e, qwe, quy, ← this]; rfl
theorem back_spec {r : Rules} {s : List Place × List Mv} (h : OKG r s) : qcB (r, (s.1, (s.2, ()))) = some (if s.2.length = 0 then ((r, (s.1, (s.2, ()))), 8) else ((r, ((backG s).1, ((backG s).2, ()))), 0)) := by
  obtain ⟨l, ms⟩ := s; have hl : l.length = ms.length + 1 := h.len; have hm : ms.length ≤ 400 := h.most; unfold qcB; simp only; by_cases c : ms.length = 0
  · rw [if_pos c, c]; rfl
  · rw [if_neg c, beq_f (show ¬ ((ms.length : Nat) : Int) = 0 by omega), cond_false]
    have w1 : w64 (((l.length : Nat) : Int) - 1) = ((l.length - 1 : Nat) : Int) := by rw [qe (by omega) (by omega)]; omega
    have w2 : w64 (((ms.length : Nat) : Int) - 1) = ((ms.length - 1 : Nat) : Int) := by rw [qe (by omega) (by omega)]; omega
    have b1 : qp 0 ((l.length - 1 : Nat) : Int) l.length = true := by simp only [qp, Bool.and_eq_true, decide_eq_true_eq]; omega
    have b2 : qp 0 ((ms.length - 1 : Nat) : Int) ms.length = true := by simp only [qp, Bool.and_eq_true, decide_eq_true_eq]; omega
    simp only [w1, w2, b1, b2, qc, qab, agree_self, Option.bind_some, Int.toNat_natCast]; unfold backG; rw [List.dropLast_eq_take, List.dropLast_eq_take]

def bec (pr : Nat → Nat) (g : Nat) : Nat → Nat → Bool
  | 0, _ => false
  | m + 1, k => k == g || (decide (0 < pr k) && bec pr g m (pr k - 1))
def passG (pr : Nat → Nat) (f : Nat → Bool) (k : Nat) : Nat → Bool := fun j => if j = k then (f k || (decide (0 < pr k) && f (pr k - 1))) else f j
def passL (pr : Nat → Nat) (l : List Nat) (f : Nat → Bool) : Nat → Bool := l.foldl (passG pr) f
def closN (pr : Nat → Nat) (n g : Nat) : Nat → Nat → Bool
  | 0 => fun j => j == g
  | t + 1 => passL pr (List.range n) (closN pr n g t)
def sumN (f : Nat → Int) : Nat → Int
  | 0 => 0
  | n + 1 => sumN f n + f n
theorem qvH {f g : Nat → Int} : ∀ n, (∀ i, i < n → f i = g i) → sumN f n = sumN g n
  | 0, _ => rfl
  | n + 1, h => by unfold sumN; rw [qvH n (fun i hi => h i (by omega)), h n (by omega)]
theorem quK (f : Nat → Int) (B : Int) : ∀ n, (∀ i, i < n → 0 ≤ f i ∧ f i ≤ B) → 0 ≤ sumN f n ∧ sumN f n ≤ n * B
  | 0, _ => by simp [sumN]
  | n + 1, h => by
    have h1 := quK f B n (fun i hi => h i (by omega)); have h2 := h n (by omega); unfold sumN; rw [show ((n + 1 : Nat) : Int) * B = (n : Int) * B + B by rw [Int.natCast_add, Int.add_mul]; simp]; omega
def tup {A : Type} (f : Nat → A) : A × A × A × A × A × A × Unit := (f 0, f 1, f 2, f 3, f 4, f 5, ())

def ownB (pl c : Int) : Bool := decide (c > 0) && ((w64 (c - 1)).tmod 2 == pl)
def kc (c : Int) : Nat := ((c - 1) / 2).toNat
theorem kc_eq {c : Int} (h : 0 < c) (h' : c ≤ 12) : w64 ((w64 (c - 1)).tdiv 2) = ((kc c : Nat) : Int) := by
  unfold kc; rw [qe (n := c - 1) (by omega) (by omega), Int.tdiv_eq_ediv_of_nonneg (by omega), qe (by omega) (by omega)]; omega
theorem quH {pl c : Int} (h : ownB pl c = true) : 0 < c := by
  unfold ownB at h; rw [Bool.and_eq_true, decide_eq_true_eq] at h; exact h.1
def handP (p : Place) (pl : Int) : List Int := getD' [p.2.1.1, p.2.1.2.1] pl.toNat []
def hk (p : Place) (pl : Int) (k : Nat) : Int := getD' (handP p pl) k 0
def nN (p : Place) (pl : Int) (n : Nat) : Int := ((p.1.countP (ownB pl) : Nat) : Int) + sumN (hk p pl) n
def qb5 (p : Place) (pl : Int) (n : Nat) : List Nat := (p.1.filter (ownB pl)).map kc ++ (List.range n).filter (fun k => decide (hk p pl k > 0))
def qcY (p : Place) (pl : Int) (n : Nat) : List Int := (qb5 p pl n).map fun k : Nat => (k : Int)
theorem handP_len {r : Rules} {p : Place} (hv : Valid r p) {pl : Int} (hpl : pl = 0 ∨ pl = 1) : (handP p pl).length = r.pieces.length := by
  rcases hpl with h | h
  · subst h; exact hv.l0
  · subst h; exact hv.l1
theorem hk_rng {r : Rules} {p : Place} (hv : Valid r p) {pl : Int} (hpl : pl = 0 ∨ pl = 1) (k : Nat) : 0 ≤ hk p pl k ∧ hk p pl k ≤ 1000 := by
  unfold hk; by_cases c : k < (handP p pl).length
  · rw [gd_eq _ k c]; rcases hpl with h | h
    · subst h; exact hv.hand0 _ (List.getElem_mem (l := p.2.1.1) (by exact c))
    · subst h; exact hv.hand1 _ (List.getElem_mem (l := p.2.1.2.1) (by exact c))
  · simp [getD', List.getElem?_eq_none (Nat.not_lt.1 c)]
theorem qsY {r : Rules} {p : Place} (hv : Valid r p) : p.1.length ≤ 64 := by
  have h1 := hv.cells; have h2 := hv.r0.area; have h3 : ((p.1.length : Nat) : Int) = r.width * r.height := h1; omega
theorem cell12 {r : Rules} {p : Place} (hv : Valid r p) {c : Int} (hc : c ∈ p.1) : 0 ≤ c ∧ c ≤ 2 * ((r.pieces.length : Nat) : Int) ∧ c ≤ 12 := by
  have h1 := hv.cell c hc; have h2 := hv.r0.t6; omega
theorem himp (b : Bool) : imp b true = true := by cases b <;> rfl
theorem take_le {A : Type} (q : A → Bool) (l : List A) (i : Nat) : ((l.take i).filter q).length ≤ i := Nat.le_trans (List.length_filter_le _ _) (by simp; omega)
theorem qv8 {r : Rules} {p : Place} (hv : Valid r p) {pl : Int} (hpl : pl = 0 ∨ pl = 1) : qiY p pl = some (qcY p pl r.pieces.length, (nN p pl r.pieces.length, ())) := by
  have hc64 := qsY hv; have ht6 := hv.r0.t6; have hH := handP_len hv hpl; have h1 : iterW (qcP p pl) ((([] : List Int), (0 : Int), (0 : Int), ()), ()) = some ((((p.1.filter (ownB pl)).map (fun c => ((kc c : Nat) : Int))), (((p.1.countP (ownB pl) : Nat) : Int)), ()), ()) := by
    have := qcs (f := qcP p pl) p.1.length (fun i => ((((p.1.take i).filter (ownB pl)).map (fun c => ((kc c : Nat) : Int)), (((p.1.take i).countP (ownB pl) : Nat) : Int), (i : Int), ()), ())) ((((p.1.filter (ownB pl)).map (fun c => ((kc c : Nat) : Int))), (((p.1.countP (ownB pl) : Nat) : Int)), ()), ()) (fun i hi => by
      have hm : p.1[i] ∈ p.1 := List.getElem_mem _; have h12 := cell12 hv hm
      have hcl : (p.1.take i).countP (ownB pl) ≤ i := by rw [List.countP_eq_length_filter]; exact take_le _ _ _
      unfold qcP; simp only [ltd p.1 i hi, cond_true]; rw [at?_eq _ _ (by omega) (by omega)]; simp only [Option.bind_some, Int.toNat_natCast, himp, qc]; rw [show (decide (p.1[i] > 0) && ((w64 (p.1[i] - 1)).tmod 2 == pl)) = ownB pl p.1[i] from rfl, List.take_succ_eq_append_getElem hi, List.filter_append, List.map_append, List.countP_append]; rw [qe (n := (i : Int) + 1) (by omega) (by omega)]
      cases hq : ownB pl p.1[i] with
      | true =>
        have hp0 := quH hq; rw [kc_eq hp0 h12.2.2, qe (n := (((p.1.take i).countP (ownB pl) : Nat) : Int) + 1) (by omega) (by omega), cond_true]; rw [qL (by rw [List.length_map]; have := take_le (ownB pl) p.1 i; simp only [List.length_singleton]; omega), qc]; simp [hq]
      | false =>
        simp [hq]) (by
      unfold qcP
      simp only [nltd, cond_false, List.take_length])
    exact this
  have h2 : iterW (qcL p pl) ((((p.1.filter (ownB pl)).map (fun c => ((kc c : Nat) : Int))), (((p.1.countP (ownB pl) : Nat) : Int)), (0 : Int), ()), ()) = some ((qcY p pl r.pieces.length, nN p pl r.pieces.length, ()), ()) := by
    have hcp : p.1.countP (ownB pl) ≤ 64 := Nat.le_trans List.countP_le_length hc64; have hfl : (p.1.filter (ownB pl)).length ≤ 64 := Nat.le_trans (List.length_filter_le _ _) hc64
    have := qcs (f := qcL p pl) r.pieces.length (fun i => ((qcY p pl i, nN p pl i, (i : Int), ()), ())) ((qcY p pl r.pieces.length, nN p pl r.pieces.length, ()), ()) (fun i hi => by
      have hk1 := hk_rng hv hpl i; have hs := quK (hk p pl) 1000 i (fun j _ => hk_rng hv hpl j); unfold qcL; simp only [show getD' [p.2.1.1, p.2.1.2.1] pl.toNat [] = handP p pl from rfl]; simp only [ltd (handP p pl) i (by omega), cond_true]; rw [at?_eq _ _ (by omega) (by omega)]; simp only [Option.bind_some, Int.toNat_natCast]; rw [show (handP p pl)[i]'(by omega) = hk p pl i from (gd_eq _ i (by omega) 0).symm]; rw [qe (n := (i : Int) + 1) (by omega) (by omega)]
      have e1 : nN p pl (i + 1) = nN p pl i + hk p pl i := by unfold nN; rw [sumN]; omega
      have hn : 0 ≤ nN p pl i ∧ nN p pl i ≤ 6064 := by unfold nN; omega
      have e2 : qcY p pl (i + 1) = bif decide (hk p pl i > 0) then qcY p pl i ++ [(i : Int)] else qcY p pl i := by
        unfold qcY qb5; rw [List.range_succ, List.filter_append]
        cases hq : decide (hk p pl i > 0) <;> simp [hq]
      rw [e1, e2]
      cases hq : decide (hk p pl i > 0) with
      | true =>
        have hl : (qcY p pl i).length ≤ 100 := by
          unfold qcY qb5; rw [List.length_map, List.length_append, List.length_map]; have : ((List.range i).filter (fun k => decide (hk p pl k > 0))).length ≤ (List.range i).length := List.length_filter_le _ _; rw [List.length_range] at this; omega
        rw [cond_true, qL (by simp only [List.length_singleton]; omega), qc, qe (n := nN p pl i + hk p pl i) (by omega) (by omega)]; rfl
      | false =>
        have hz : hk p pl i = 0 := by rw [decide_eq_false_iff_not] at hq; omega
        rw [hz, Int.add_zero]
        rfl) (by
      unfold qcL; simp only [show getD' [p.2.1.1, p.2.1.2.1] pl.toNat [] = handP p pl from rfl]
      rw [show ((r.pieces.length : Nat) : Int) = (((handP p pl).length : Nat) : Int) by rw [hH], nltd, cond_false])
    have e0 : qcY p pl 0 = (p.1.filter (ownB pl)).map (fun c => ((kc c : Nat) : Int)) := by
      unfold qcY qb5; simp
    have e1 : nN p pl 0 = ((p.1.countP (ownB pl) : Nat) : Int) := by unfold nN; simp [sumN]
    rw [← e0, ← e1]; exact this
  unfold qiY; rw [h1, Option.bind_some, show inb pl 2 = true from inb_iff.2 (by omega), qc, h2, Option.bind_some]
theorem quG {r : Rules} {p : Place} (hv : Valid r p) {pl : Int} {k : Nat} (hk' : k ∈ qb5 p pl r.pieces.length) : k < r.pieces.length := by
  unfold qb5 at hk'; rcases List.mem_append.1 hk' with h | h
  · obtain ⟨c, hc, e⟩ := List.mem_map.1 h; obtain ⟨h1, h2⟩ := List.mem_filter.1 hc; have h3 := cell12 hv h1; have h4 := quH h2; rw [← e]; unfold kc; omega
  · exact List.mem_range.1 (List.mem_filter.1 h).1
def dQ : Piece := (0, 0, 0, [], ())
def qjo (r : Rules) (k : Nat) : Piece := getD' r.pieces k dQ
def prN (r : Rules) (k : Nat) : Nat := (qjo r k).2.2.1.toNat
theorem qsN (r : Rules) {k : Nat} (h : k < r.pieces.length) : qjo r k ∈ r.pieces := by unfold qjo; rw [gd_eq _ k h]; exact List.getElem_mem _
theorem qqM (r : Rules) {k : Nat} (h : k < r.pieces.length) : at? r.2.2.2.1 (k : Int) = some (qjo r k) := by
  rw [at?_eq _ _ (by omega) (by show (k : Int) < ((r.pieces.length : Nat) : Int); omega)]; unfold qjo; rw [gd_eq _ k h]; rfl
theorem qvZ {r : Rules} (hv : VR0 r) (g : Nat) : ∀ m i k : Nat, i + m = r.pieces.length + 1 → k < r.pieces.length → Option.bind (α := ((Unit) × (Unit)) ⊕ Bool) (iterW (qaS r (g : Int)) (((k : Int), (i : Int), ()), ())) (Sum.elim (fun x4 => some false) some) = some (bec (prN r) g m k) := by
  have ht6 := hv.t6; have hw : w64 (((r.2.2.2.1.length : Nat) : Int) + 1) = ((r.pieces.length : Nat) : Int) + 1 := qe (by show _ ≤ ((r.pieces.length : Nat) : Int) + 1; omega) (by show ((r.pieces.length : Nat) : Int) + 1 ≤ _; omega); intro m
  induction m with
  | zero =>
    intro i k hi hk
    rw [qj (r := .inl ((), ())) (by
      unfold qaS; simp only; rw [hw, decide_eq_false (by omega)]
      rfl)]
    rfl
  | succ m ih =>
    intro i k hi hk; have hp := hv.prom _ (qsN r hk); by_cases e : k = g
    · rw [qj (r := .inr true) (by
        unfold qaS; simp only
        rw [hw, decide_eq_true (by omega), cond_true, beq_t (by omega), cond_true])]
      unfold bec; rw [beq_t e]; rfl
    · by_cases c : (qjo r k).2.2.1 = 0
      · rw [qj (r := .inr false) (by
          unfold qaS; simp only
          rw [hw, decide_eq_true (by omega), cond_true, beq_f (by omega), cond_false, qqM r hk, Option.bind_some, beq_t c, cond_true])]
        unfold bec; rw [beq_f e, decide_eq_false (show ¬ 0 < prN r k by unfold prN; omega)]; rfl
      · have e2 : w64 ((qjo r k).2.2.1 - 1) = ((prN r k - 1 : Nat) : Int) := by
          unfold prN; rw [qe (by omega) (by omega)]; omega
        have hlt : prN r k - 1 < r.pieces.length := by unfold prN; omega
        rw [qo (y := ((((prN r k - 1 : Nat) : Int), ((i + 1 : Nat) : Int), ()), ())) (by
          unfold qaS; simp only; rw [hw, decide_eq_true (by omega), cond_true, beq_f (by omega), cond_false, qqM r hk, Option.bind_some, beq_f c, cond_false, Option.bind_some, e2, qe (n := (i : Int) + 1) (by omega) (by omega)]
          rfl), ih (i + 1) (prN r k - 1) (by omega) hlt]
        conv => rhs; unfold bec
        rw [beq_f e, decide_eq_true (show 0 < prN r k by unfold prN; omega)]; rfl
theorem qst {r : Rules} (hv : VR0 r) (g k : Nat) (hk : k < r.pieces.length) : qhG r (k : Int) (g : Int) = some (bec (prN r) g (r.pieces.length + 1) k) := qvZ hv g _ 0 k (by omega) hk

theorem qvP (q : Piece) (hq : q.2.2.2.1.length ≤ 16) (i : Nat) : iterW (qe7 q (((i : Int), ()), ())) (((0 : Int), ()), ()) = some (bif q.2.2.2.1.any (fun w => w.2.2.2.1 != 0) then .inr (.inr (.inr ((true, ()), ()))) else .inl ((), ())) := by
  refine qT (β := ((Unit) × (Unit)) ⊕ (((Int × Unit) × (Unit)) ⊕ (((Unit) × (Unit)) ⊕ ((Bool × Unit) × (Unit))))) q.2.2.2.1 (fun w => w.2.2.2.1 != 0) _ (.inr (.inr (.inr ((true, ()), ())))) (.inl ((), ())) (fun j hj => ?_) ?_
  · unfold qe7; simp only; rw [ltd _ j hj, cond_true, at?_eq _ _ (by omega) (by omega), Option.bind_some, decide_eq_true (show (j : Int) ≥ 0 by omega), decide_eq_true (show (i : Int) ≥ 0 by omega), qe (n := (j : Int) + 1) (by omega) (by omega)]; simp only [Int.toNat_natCast]
    cases (q.2.2.2.1[j].2.2.2.1 != 0) <;> rfl
  · unfold qe7; simp only; rw [nltd]; rfl
def takesK (r : Rules) (k : Nat) : Bool := (qjo r k).2.2.2.1.any fun w => w.2.2.2.1 != 0
def ableX (r : Rules) (p : Place) (pl : Int) (x : End) : Bool := (x.2.2.2.1 || (x.1 == 2)) || ((((x.1 == 0) && decide (nN p pl r.pieces.length ≥ x.2.2.1)) || ((x.1 == 1) && (qb5 p pl r.pieces.length).any (bec (prN r) x.2.1.toNat (r.pieces.length + 1)))) || (r.keeps && (qb5 p pl r.pieces.length).any (takesK r)))
theorem able_spec {r : Rules} {p : Place} (hv : Valid r p) {pl : Int} (hpl : pl = 0 ∨ pl = 1) {x : End} (hx : x ∈ r.ends) : ql2 r p x pl = some (ableX r p pl x) := by
  have hE := hv.r0.ends x hx; have ht1 := hv.r0.t1; have ht6 := hv.r0.t6; have hx1 : 0 ≤ x.2.1 := by
    have := hE.2.2
    split at this <;> omega
  have hg : x.2.1 = ((x.2.1.toNat : Nat) : Int) := by omega
  have hTl : (qb5 p pl r.pieces.length).length ≤ 100 := by
    have hfl : (p.1.filter (ownB pl)).length ≤ 64 := Nat.le_trans (List.length_filter_le _ _) (qsY hv); have : ((List.range r.pieces.length).filter (fun k => decide (hk p pl k > 0))).length ≤ (List.range r.pieces.length).length := List.length_filter_le _ _; rw [List.length_range] at this; unfold qb5; rw [List.length_append, List.length_map]; omega
  have hlen : (qcY p pl r.pieces.length).length = (qb5 p pl r.pieces.length).length := List.length_map _; have hget : ∀ i (hi : i < (qb5 p pl r.pieces.length).length), getD' (qcY p pl r.pieces.length) i 0 = (((qb5 p pl r.pieces.length)[i] : Nat) : Int) := fun i hi => by
    rw [gd_eq _ i (by omega)]; unfold qcY; rw [List.getElem_map]
  have i1 : iterW (qfd (qcY p pl r.pieces.length, (nN p pl r.pieces.length, ())) r x) (((0 : Int), ()), ()) = some (bif (qb5 p pl r.pieces.length).any (bec (prN r) x.2.1.toNat (r.pieces.length + 1)) then .inr ((true, ()), ()) else .inl ((), ())) := by
    refine qT (β := ((Unit) × (Unit)) ⊕ ((Bool × Unit) × (Unit))) (qb5 p pl r.pieces.length) _ _ (.inr ((true, ()), ())) (.inl ((), ())) (fun i hi => ?_) ?_
    · unfold qfd; simp only; rw [decide_eq_true (show (i : Int) < (((qcY p pl r.pieces.length).length : Nat) : Int) by omega), cond_true, inbN _ i (by omega), qc, Int.toNat_natCast, hget i hi, hg, qst hv.r0 _ _ (quG hv (List.getElem_mem _)), Option.bind_some, decide_eq_true (show (i : Int) ≥ 0 by omega), qe (n := (i : Int) + 1) (by omega) (by omega)]; rfl
    · unfold qfd; simp only; rw [decide_eq_false (by omega)]; rfl
  have i2 : iterW (qfc (qcY p pl r.pieces.length, (nN p pl r.pieces.length, ())) r) (((0 : Int), ()), ()) = some (bif (qb5 p pl r.pieces.length).any (takesK r) then .inr ((true, ()), ()) else .inl ((), ())) := by
    refine qT (β := ((Unit) × (Unit)) ⊕ ((Bool × Unit) × (Unit))) (qb5 p pl r.pieces.length) _ _ (.inr ((true, ()), ())) (.inl ((), ())) (fun i hi => ?_) ?_
    · have hlt := quG hv (List.getElem_mem hi); have hwl := hv.r0.ways _ (qsN r hlt); unfold qfc; simp only; rw [decide_eq_true (show (i : Int) < (((qcY p pl r.pieces.length).length : Nat) : Int) by omega), cond_true, inbN _ i (by omega), qc, Int.toNat_natCast, hget i hi, qqM r hlt, Option.bind_some, qe (n := (i : Int) + 1) (by omega) (by omega)]; rw [qvP _ hwl i]; show _ = bif (qjo r (qb5 p pl r.pieces.length)[i]).2.2.2.1.any (fun w => w.2.2.2.1 != 0) then _ else _
      cases (qjo r (qb5 p pl r.pieces.length)[i]).2.2.2.1.any (fun w => w.2.2.2.1 != 0) <;> rfl
    · unfold qfc; simp only; rw [decide_eq_false (by omega)]; rfl
  unfold ql2; rw [qv8 hv hpl, Option.bind_some, i1, i2]; unfold ableX; show _ = some (_ || (_ || (r.2.2.2.2.2.2.1 && _)))
  cases (x.2.2.2.1 || (x.1 == 2)) with
  | true => rfl
  | false =>
    cases ((x.1 == 0) && decide (nN p pl r.pieces.length ≥ x.2.2.1)) with
    | true => rfl
    | false =>
      cases (x.1 == 1) <;> cases (qb5 p pl r.pieces.length).any (bec (prN r) x.2.1.toNat (r.pieces.length + 1)) <;> cases r.2.2.2.2.2.2.1 <;> cases (qb5 p pl r.pieces.length).any (takesK r) <;> rfl
def ableR (r : Rules) (p : Place) (pl : Int) : Bool := (r.blocked != 2) || r.ends.any (ableX r p pl)
theorem qqk (r : Rules) (p : Place) (pl : Int) (hr : Rng qbK r) (hn : p.1.length ≤ 9223372036854775807) : qeO r p pl = some (if qcc r p = 0 then if pl = 0 ∨ pl = 1 then (ableR r p pl, (0, ())) else (false, (1, ())) else (false, (qcc r p, ()))) := by
  unfold qeO; rw [qp4 r p hr hn, Option.bind_some]; by_cases c : qcc r p = 0
  · have hv := valid_of c; have h6 := hv.r0.ends6; rw [bne_f c, cond_false, if_pos c]; by_cases cp : pl = 0 ∨ pl = 1
    · rw [if_pos cp, show ((pl != 0) && (pl != 1)) = false by rcases cp with h | h <;> subst h <;> rfl, cond_false]
      have i1 : iterW (qdv r p pl) (((0 : Int), ()), ()) = some (bif r.ends.any (ableX r p pl) then .inr ((true, (0 : Int), ()), ()) else .inl ((), ())) := by
        refine qT (β := ((Unit) × (Unit)) ⊕ ((Bool × Int × Unit) × (Unit))) r.ends _ _ (.inr ((true, (0 : Int), ()), ())) (.inl ((), ())) (fun i hi => ?_) ?_
        · have hi' : i < r.2.2.2.2.2.2.2.1.length := hi; unfold qdv; simp only; rw [ltd _ i hi', cond_true, at?_eq _ _ (by omega) (by omega), Option.bind_some]; simp only [Int.toNat_natCast]; rw [able_spec hv cp (x := r.2.2.2.2.2.2.2.1[i]) (List.getElem_mem (l := r.ends) hi), Option.bind_some, decide_eq_true (show (i : Int) ≥ 0 by omega), qe (n := (i : Int) + 1) (by omega) (by omega)]; rfl
        · unfold qdv; simp only; rw [show decide (((r.ends.length : Nat) : Int) < ((r.2.2.2.2.2.2.2.1.length : Nat) : Int)) = false from nltd r.ends]; rfl
      rw [i1]; unfold ableR; show _ = some ((r.2.2.2.2.2.2.2.2.1 != 2) || _, _)
      cases (r.2.2.2.2.2.2.2.2.1 != 2) <;> cases r.ends.any (ableX r p pl) <;> rfl
    · rw [if_neg cp, show ((pl != 0) && (pl != 1)) = true by rw [bne_t (by omega), bne_t (by omega)]; rfl]; rfl
  · rw [bne_t c, if_neg c]; rfl
set_option maxHeartbeats 0

structure MS where
  g : List Place × List Mv
  res : Int
  rea : Int
  c : Clk
  o : Offs
  pm : List PM
  last : Int
  j : Jn
abbrev StT := List Mv × Int × Int × Clk × Offs × List PM × Unit
abbrev qhg := Rules × CRule × Game × StT × Int × Jn × Unit
def tupM (r : Rules) (cr : CRule) (m : MS) : qhg := (r, (cr, (gm r m.g, (([], (m.res, (m.rea, (m.c, (m.o, (m.pm, ())))))), (m.last, (m.j, ()))))))
def dClk : Clk := ((0, (0, ())), ((0, (0, ())), ((0, (0, ())), (0, (0, (false, (0, ())))))))
def dOff : Offs := ((0, (0, ())), (((0, (0, ())), ((0, (0, ())), ())), ()))
noncomputable def ofMove (o : Offs) (pl : Int) : Offs := ((qgo o pl).getD (dOff, (0, ()))).1
noncomputable def qqt (o : Offs) (k pl n : Int) : Offs × Int := let x := (qc0 o k pl n).getD (dOff, (0, ())); (x.1, x.2.1)
noncomputable def qqB (o : Offs) (k pl n : Int) : Offs × Int := let x := (qaD o k pl n).getD (dOff, (0, ())); (x.1, x.2.1)
noncomputable def ofAcc (o : Offs) (k pl n : Int) : Offs × Int := let x := (qdl o k pl n).getD (dOff, (0, ())); (x.1, x.2.1)
noncomputable def qvh (o : Offs) (n : Int) : Offs := ((qe1 o n).getD (dOff, (0, ()))).1
noncomputable def lookC (cr : CRule) (c : Clk) (now : Int) : Clk := ((qaB cr c now).getD (dClk, (0, ()))).1
theorem qtL (o : Offs) (pl : Int) : ∃ e, qgo o pl = some (ofMove o pl, (e, ())) := by
  obtain ⟨o', e, h⟩ := qv9 o pl; exact ⟨e, by unfold ofMove; rw [h]; rfl⟩
theorem qoM (o : Offs) (k pl n : Int) : qc0 o k pl n = some ((qqt o k pl n).1, ((qqt o k pl n).2, ())) := by
  obtain ⟨o', e, h⟩ := qvE o k pl n; unfold qqt; rw [h]; rfl
theorem qo8 (o : Offs) (k pl n : Int) : qaD o k pl n = some ((qqB o k pl n).1, ((qqB o k pl n).2, ())) := by
  obtain ⟨o', e, h⟩ := qrj o k pl n; unfold qqB; rw [h]; rfl
theorem qwa (o : Offs) (k pl n : Int) : qdl o k pl n = some ((ofAcc o k pl n).1, ((ofAcc o k pl n).2, ())) ∧ ((ofAcc o k pl n).2 = 0 → (k = 0 ∨ k = 1) ∧ (pl = 0 ∨ pl = 1) ∧ 0 ≤ n ∧ n ≤ 400) := by
  obtain ⟨o', e, h, h'⟩ := qto o k pl n; unfold ofAcc; rw [h]; exact ⟨rfl, h'⟩
theorem qtV (o : Offs) (n : Int) : ∃ e, qe1 o n = some (qvh o n, (e, ())) := by
  obtain ⟨o', e, h⟩ := qvG o n; exact ⟨e, by unfold qvh; rw [h]; rfl⟩
theorem qmu (cr : CRule) (c : Clk) (now : Int) (hl : cr.1.length ≤ 9223372036854775807) : ∃ e, qaB cr c now = some (lookC cr c now, (e, ())) := by
  obtain ⟨c', e, h, _⟩ := look_some cr c now hl; exact ⟨e, by unfold lookC; rw [h]; rfl⟩
noncomputable def moveM (r : Rules) (cr : CRule) (m : MS) (x : Mv) (now : Int) : MS := { m with g := nextG r m.g x, c := qeb cr m.c now, o := ofMove m.o (par m.g.2.length) }
noncomputable def annM (r : Rules) (cr : CRule) (now : Int) : Nat → MS → MS
  | 0, m => m
  | k + 1, m => if qM r m.g.1 = 0 ∧ m.g.2.length < 400 then
      if (nextP r (lastP m.g.1) m.pm).2.1 = true then annM r cr now k (moveM r cr { m with pm := (nextP r (lastP m.g.1) m.pm).2.2.1 } (nextP r (lastP m.g.1) m.pm).1 now)
      else { m with pm := (nextP r (lastP m.g.1) m.pm).2.2.1 }
    else m
noncomputable def qrT (r : Rules) (cr : CRule) (m : MS) (e : Ev) : MS × Int :=
  if par m.g.2.length ≠ e.2.1 then (m, 12) else if e.2.2.2.2.1 ∉ openM r (lastP m.g.1) then (m, 13) else if m.g.2.length = 400 then (m, 2)
  else (annM r cr e.2.2.2.1 (m.pm.length + 1) (moveM r cr m e.2.2.2.2.1 e.2.2.2.1), 0)
noncomputable def qrn (m : MS) (e : Ev) : MS × Int :=
  let x := if e.1 = 3 then qqB m.o e.2.2.1 e.2.1 ((m.g.2.length : Nat) : Int) else qqt m.o e.2.2.1 e.2.1 ((m.g.2.length : Nat) : Int)
  if x.2 = 0 then ({ m with o := x.1 }, 0) else (m, x.2)
def backN : Nat → List Place × List Mv → List Place × List Mv
  | 0, s => s
  | k + 1, s => backN k (backG s)
noncomputable def qn1 (m : MS) (e : Ev) : MS × Int :=
  let x := ofAcc m.o e.2.2.1 e.2.1 ((m.g.2.length : Nat) : Int)
  if x.2 ≠ 0 then (m, x.2) else if e.2.2.1 = 0 then ({ m with o := x.1, res := 3, rea := 4 }, 0)
  else
    let g := backN (qhh (1 - e.2.1) ((m.g.2.length : Nat) : Int)).toNat m.g
    ({ m with g := g, o := qvh x.1 ((g.2.length : Nat) : Int), c := (m.c.1, (m.c.2.1, (m.c.2.2.1, (par g.2.length, (e.2.2.2.1, m.c.2.2.2.2.2))))), pm := [] }, 0)
def fallR (r : Rules) (p : Place) (pl : Int) : Int := if ableR r p (1 - pl) = true then 2 - pl else 3
noncomputable def qqS (r : Rules) (cr : CRule) (m : MS) (e : Ev) : MS × Int :=
  if e.2.2.1 = 2 then
    if (lookC cr m.c e.2.2.2.1).2.2.2.2.2.2.1 < 0 then (m, 10)
    else ({ m with res := fallR r (lastP m.g.1) (lookC cr m.c e.2.2.2.1).2.2.2.2.2.2.1, rea := 2, c := lookC cr m.c e.2.2.2.1 }, 0)
  else if e.2.2.1 ≠ 0 ∧ e.2.2.1 ≠ 1 then (m, 1) else if par m.g.2.length ≠ e.2.1 then (m, 12)
  else if e.2.2.1 = 0 ∧ 3 ≤ qd1 m.g.1 ∨ e.2.2.1 = 1 ∧ 20 ≤ (lastP m.g.1).quiet then ({ m with res := 3, rea := 5 }, 0) else (m, 10)
def qmK (m : MS) (e : Ev) : MS × Int :=
  if par m.g.2.length = e.2.1 then (m, 12) else if (ofL m.pm e.2.1).length = 4 then (m, 9) else ({ m with pm := m.pm ++ [(e.2.1, (e.2.2.2.2.1, ()))] }, 0)
noncomputable def kindM (r : Rules) (cr : CRule) (m : MS) (e : Ev) : MS × Int :=
  if e.1 = 0 then qrT r cr m e else if e.1 = 1 ∨ e.1 = 3 then qrn m e else if e.1 = 2 then qn1 m e else if e.1 = 5 then qqS r cr m e
  else if e.1 = 6 then qmK m e else ({ m with res := 2 - e.2.1, rea := 3 }, 0)
def overM (r : Rules) (m : MS) : MS := if m.res = 0 ∧ qM r m.g.1 ≠ 0 then { m with res := qM r m.g.1, rea := 1 } else m
noncomputable def doneM (r : Rules) (m : MS) (e : Ev) : MS := overM r { m with last := e.2.2.2.1, j := nextJ m.j (qib e) }
noncomputable def doM (r : Rules) (cr : CRule) (m : MS) (e : Ev) : MS × Int :=
  if (e.1 < 0 ∨ 6 < e.1) ∨ (e.2.1 ≠ 0 ∧ e.2.1 ≠ 1) then (m, 1) else if e.2.2.2.1 < m.last ∨ 100000000 < e.2.2.2.1 then (m, 11) else if m.res ≠ 0 then (m, 14)
  else if m.j.length = 1000 then (m, 9)
  else if (0 ≤ (lookC cr m.c e.2.2.2.1).2.2.2.2.2.2.1 ∧ e.1 ≠ 4) ∧ ¬ (e.1 = 5 ∧ e.2.2.1 = 2) then (m, 11)
  else if (kindM r cr m e).2 ≠ 0 then (m, (kindM r cr m e).2) else (doneM r (kindM r cr m e).1 e, 0)
structure MOK (r : Rules) (cr : CRule) (m : MS) : Prop where
  rng : Rng qbK r
  len : cr.1.length ≤ 9223372036854775807
  g : RG r m.g
  cok : chkC cr = 0
  clk : m.res = 0 → GoodC cr m.c m.last
  turn : m.res = 0 → m.c.2.2.2.1 = par m.g.2.length
  opn : m.res = 0 → qM r m.g.1 = 0
  pm : pmErr m.pm = 0
  few : m.pm.length ≤ 8
  j : JOK m.j
structure MID (r : Rules) (cr : CRule) (m : MS) (now : Int) : Prop where
  rng : Rng qbK r
  len : cr.1.length ≤ 9223372036854775807
  g : RG r m.g
  clk : GoodC cr m.c now
  turn : m.c.2.2.2.1 = par m.g.2.length
  pm : pmErr m.pm = 0
  few : m.pm.length ≤ 8
theorem qpZ {r : Rules} {cr : CRule} {m : MS} {now : Int} (h : MID r cr m now) {x : Mv} (c : stepG r m.g x = 0) : qan (tupM r cr m) x now = some (tupM r cr (moveM r cr m x now), ()) := by
  obtain ⟨e, he⟩ := qtL m.o (par m.g.2.length); obtain ⟨hp, _⟩ := qpX h.len h.clk; have ht := RG.turn m.g.2.length h.g rfl; unfold qan tupM gm; simp only; rw [qam h.g.ok, Option.bind_some, qsg h.g.ok, Option.bind_some, if_pos c, hp, Option.bind_some]; rw [show (lastP m.g.1).2.2.1 = (lastP m.g.1).turn from rfl, ht, he, Option.bind_some]; rfl
theorem qvt {r : Rules} {cr : CRule} {m : MS} {now : Int} (h : MID r cr m now) {x : Mv} (c : stepG r m.g x = 0) : MID r cr (moveM r cr m x now) now := by
  obtain ⟨_, p1, p2, p3⟩ := qpX h.len h.clk
  have hlen : (moveM r cr m x now).g.2.length = m.g.2.length + 1 := by unfold moveM nextG; simp
  refine ⟨h.rng, h.len, h.g.next c, p1, ?_, h.pm, h.few⟩; show (qeb cr m.c now).2.2.2.1 = _; rw [p2, h.turn, hlen, quy]
theorem qlm (pl : Int) : ∀ l : List PM, (ofL l pl).length = l.countP (fun x => x.1 == pl)
  | [] => rfl
  | x :: l => by
    have ih := qlm pl l; unfold ofL at *; rw [List.flatMap_cons, List.length_append, ih, List.countP_cons]; cases (x.1 == pl)
    · simp
    · simp; omega
theorem qvj : ∀ l : List PM, l.length = l.countP (fun x => x.1 == 0) + l.countP (fun x => x.1 == 1) + l.countP odd1
  | [] => rfl
  | x :: l => by
    have ih := qvj l; simp only [List.length_cons, List.countP_cons]; rw [show odd1 x = ((x.1 != 0) && (x.1 != 1)) from rfl]; by_cases h0 : x.1 = 0
    · simp only [h0]; simp; omega
    · by_cases h1 : x.1 = 1
      · simp only [h1]; simp; omega
      · simp [h0, h1]; omega
theorem qs8 (l : List PM) : pmErr l = 0 ↔ l.countP (fun x => x.1 == 0) ≤ 4 ∧ l.countP (fun x => x.1 == 1) ≤ 4 ∧ l.countP odd1 = 0 := by
  unfold pmErr; rw [qlm, qlm]; constructor
  · intro h; split at h
    · cases h
    · rename_i c; split at h
      · cases h
      · rename_i d; refine ⟨by omega, by omega, ?_⟩; rw [List.countP_eq_zero]; intro x hx q; exact d (List.any_eq_true.2 ⟨x, hx, q⟩)
  · rintro ⟨a, b, c⟩
    rw [if_neg (by omega), if_neg]; intro d; obtain ⟨x, hx, q⟩ := List.any_eq_true.1 d; exact (List.countP_eq_zero.1 c x hx) q
theorem pm_len {l : List PM} (h : pmErr l = 0) : l.length ≤ 8 := by
  have := (qs8 l).1 h; have := qvj l; omega
theorem pm_sub {l l' : List PM} (hs : l'.Sublist l) (h : pmErr l = 0) : pmErr l' = 0 := by
  have h1 := (qs8 l).1 h; have a := hs.countP_le (p := fun x => x.1 == 0); have b := hs.countP_le (p := fun x => x.1 == 1); have c := hs.countP_le (p := odd1); exact (qs8 l').2 ⟨by omega, by omega, by omega⟩
theorem next_sub (r : Rules) (p : Place) (l : List PM) : (nextP r p l).2.2.1.Sublist l := by
  unfold nextP; split
  · unfold resN; split
    · show (l.take _ ++ l.drop _).Sublist l; rw [← List.eraseIdx_eq_take_drop_succ]; exact List.eraseIdx_sublist _ _
    · exact List.filter_sublist
  · exact List.filter_sublist
theorem next_mem {r : Rules} {p : Place} {l : List PM} (h : (nextP r p l).2.1 = true) : (nextP r p l).1 ∈ openM r p ∧ (nextP r p l).2.2.1.length + 1 = l.length := by
  unfold nextP at *; split at h
  · rename_i c; rw [if_pos c]; unfold resN at *; split at h
    · rename_i d; rw [if_pos d]; refine ⟨d, ?_⟩; show (l.take _ ++ l.drop _).length + 1 = _; rw [List.length_append, List.length_take, List.length_drop]; omega
    · cases h
  · cases h
theorem qr9 {r : Rules} {s : List Place × List Mv} {m : Mv} (hr : qM r s.1 = 0) (hm : m ∈ openM r (lastP s.1)) (hl : s.2.length < 400) : stepG r s m = 0 := by
  unfold stepG; rw [if_pos hr, if_pos (openM_mem.1 hm).2, if_neg (by omega)]
def flatT (x : qhg) : ByteArray × Int × Int × (List (Int × Int × Int × (List (Int × Int × Int × Int × Unit)) × Unit)) × (List Int) × Bool × Bool × (List (Int × Int × Int × Bool × Unit)) × Int × Int × Int × (List (Int × Int × Unit)) × Int × Int × Game × (List Mv) × Int × Int × Int × Int × Int × Int × Int × Int × Int × Int × Bool × Int × Int × Int × Int × Int × Int × Int × (List PM) × Int × Jn × Unit :=
  (x.1.1, (x.1.2.1, (x.1.2.2.1, (x.1.2.2.2.1, (x.1.2.2.2.2.1, (x.1.2.2.2.2.2.1, (x.1.2.2.2.2.2.2.1, (x.1.2.2.2.2.2.2.2.1, (x.1.2.2.2.2.2.2.2.2.1, (x.1.2.2.2.2.2.2.2.2.2.1, (x.1.2.2.2.2.2.2.2.2.2.2.1, (x.2.1.1, (x.2.1.2.1, (x.2.1.2.2.1, ((x.2.2.1.1, (x.2.2.1.2.1, (x.2.2.1.2.2.1, ()))), (x.2.2.2.1.1, (x.2.2.2.1.2.1, (x.2.2.2.1.2.2.1,
  (x.2.2.2.1.2.2.2.1.1.1, (x.2.2.2.1.2.2.2.1.1.2.1, (x.2.2.2.1.2.2.2.1.2.1.1, (x.2.2.2.1.2.2.2.1.2.1.2.1, (x.2.2.2.1.2.2.2.1.2.2.1.1, (x.2.2.2.1.2.2.2.1.2.2.1.2.1, (x.2.2.2.1.2.2.2.1.2.2.2.1, (x.2.2.2.1.2.2.2.1.2.2.2.2.1, (x.2.2.2.1.2.2.2.1.2.2.2.2.2.1, (x.2.2.2.1.2.2.2.1.2.2.2.2.2.2.1,
  (x.2.2.2.1.2.2.2.2.1.1.1, (x.2.2.2.1.2.2.2.2.1.1.2.1, (x.2.2.2.1.2.2.2.2.1.2.1.1.1, (x.2.2.2.1.2.2.2.2.1.2.1.1.2.1, (x.2.2.2.1.2.2.2.2.1.2.1.2.1.1, (x.2.2.2.1.2.2.2.2.1.2.1.2.1.2.1, (x.2.2.2.1.2.2.2.2.2.1, x.2.2.2.2)))))))))))))))))))))))))))))))))))
def withP (x : qhg) (l : List PM) : qhg := (x.1, (x.2.1, (x.2.2.1, ((x.2.2.2.1.1, (x.2.2.2.1.2.1, (x.2.2.2.1.2.2.1, (x.2.2.2.1.2.2.2.1, (x.2.2.2.1.2.2.2.2.1, (l, ())))))), x.2.2.2.2))))
theorem dm_L1 (e : Ev) (x : qhg) : qav e ((), (flatT x, ())) = Option.bind (Option.bind (qN x.2.2.1) fun a => bif (a == (0 : Int)) then (Option.bind (qt x.2.2.1) fun b => some (((decide (((b.length : Nat) : Int) < (400 : Int))), ()), ())) else some ((false, ()), ())) fun b =>
    bif b.1.1 then (Option.bind (Option.bind (qk x.2.2.1) fun p => Option.bind (qaY x.1 p x.2.2.2.1.2.2.2.2.2.1) fun y => some ((y.1, (y.2.1, (y.2.2.1, ()))), ())) fun z => bif (!z.1.2.1) then some (.inr ((), (flatT (withP x z.1.2.2.1), ()))) else Option.bind (qan (withP x z.1.2.2.1) z.1.1 e.2.2.2.1) fun w => some (.inl ((), (flatT w.1, ()))))
    else some (.inr ((), (flatT x, ()))) := by
  unfold qav; simp only [qab, agree_self]; rfl

theorem mid_pm {r : Rules} {cr : CRule} {m : MS} {now : Int} (h : MID r cr m now) {l : List PM} (hs : l.Sublist m.pm) : MID r cr { m with pm := l } now :=
  ⟨h.rng, h.len, h.g, h.clk, h.turn, pm_sub hs h.pm, pm_len (pm_sub hs h.pm)⟩
theorem quJ {r : Rules} {cr : CRule} {now : Int} (e : Ev) (he : e.2.2.2.1 = now) : ∀ (k : Nat) (m : MS), MID r cr m now → m.pm.length < k →
    iterW (qav e) ((), (flatT (tupM r cr m), ())) = some ((), (flatT (tupM r cr (annM r cr now k m)), ())) ∧ MID r cr (annM r cr now k m) now
  | 0, m, _, hk => absurd hk (Nat.not_lt_zero _)
  | k + 1, m, h, hk => by
    have hL := dm_L1 e (tupM r cr m); rw [show (tupM r cr m).2.2.1 = (r, (m.g.1, (m.g.2, ()))) from rfl, show (tupM r cr m).1 = r from rfl, show (tupM r cr m).2.2.2.1.2.2.2.2.2.1 = m.pm from rfl, qfg h.g.ok, qcv h.g.ok, qam h.g.ok] at hL; simp only [Option.bind_some] at hL; unfold annM; by_cases c0 : qM r m.g.1 = 0
    · rw [c0] at hL; simp only [beq_self_eq_true, cond_true, Option.bind_some] at hL; by_cases c1 : m.g.2.length < 400
      · rw [show decide (((m.g.2.length : Nat) : Int) < 400) = true by simp; omega, cond_true, qv0 r _ h.rng h.g.ok.last h.g.ok.ok _ (by have := h.few; omega), Option.bind_some] at hL; rw [if_neg (fun q => q h.pm)] at hL; simp only [Option.bind_some] at hL; rw [if_pos ⟨c0, c1⟩]; have hmid := mid_pm h (next_sub r (lastP m.g.1) m.pm); by_cases c2 : (nextP r (lastP m.g.1) m.pm).2.1 = true
        · rw [c2, Bool.not_true, cond_false, he] at hL; obtain ⟨n1, n2⟩ := next_mem c2; have hst : stepG r m.g (nextP r (lastP m.g.1) m.pm).1 = 0 := qr9 c0 n1 c1; have hmv : qan (withP (tupM r cr m) (nextP r (lastP m.g.1) m.pm).2.2.1) (nextP r (lastP m.g.1) m.pm).1 now = _ := qpZ hmid hst; rw [hmv, Option.bind_some] at hL; rw [if_pos c2]; have ih := quJ e he k _ (qvt hmid hst) (by show (nextP r (lastP m.g.1) m.pm).2.2.1.length < k; omega); rw [qo hL]; exact ih
        · have c3 : (nextP r (lastP m.g.1) m.pm).2.1 = false := by simpa using c2
          rw [c3, Bool.not_false, cond_true] at hL; rw [if_neg c2]; exact ⟨qj hL, hmid⟩
      · rw [show decide (((m.g.2.length : Nat) : Int) < 400) = false by simp; omega, cond_false] at hL; rw [if_neg (fun q => c1 q.2)]; exact ⟨qj hL, h⟩
    · rw [beq_f c0, cond_false, Option.bind_some, cond_false] at hL; rw [if_neg (fun q => c0 q.1)]; exact ⟨qj hL, h⟩
def unflat (y : ByteArray × Int × Int × (List (Int × Int × Int × (List (Int × Int × Int × Int × Unit)) × Unit)) × (List Int) × Bool × Bool × (List (Int × Int × Int × Bool × Unit)) × Int × Int × Int × (List (Int × Int × Unit)) × Int × Int × Game × (List Mv) × Int × Int × Int × Int × Int × Int × Int × Int × Int × Int × Bool × Int × Int × Int × Int × Int × Int × Int × (List PM) × Int × Jn × Unit) : qhg := ((y.1, (y.2.1, (y.2.2.1, (y.2.2.2.1, (y.2.2.2.2.1, (y.2.2.2.2.2.1, (y.2.2.2.2.2.2.1, (y.2.2.2.2.2.2.2.1, (y.2.2.2.2.2.2.2.2.1, (y.2.2.2.2.2.2.2.2.2.1, (y.2.2.2.2.2.2.2.2.2.2.1, ()))))))))))), ((y.2.2.2.2.2.2.2.2.2.2.2.1, (y.2.2.2.2.2.2.2.2.2.2.2.2.1, (y.2.2.2.2.2.2.2.2.2.2.2.2.2.1, ()))), ((y.2.2.2.2.2.2.2.2.2.2.2.2.2.2.1.1, (y.2.2.2.2.2.2.2.2.2.2.2.2.2.2.1.2.1, (y.2.2.2.2.2.2.2.2.2.2.2.2.2.2.1.2.2.1, ()))), ((y.2.2.2.2.2.2.2.2.2.2.2.2.2.2.2.1, (y.2.2.2.2.2.2.2.2.2.2.2.2.2.2.2.2.1, (y.2.2.2.2.2.2.2.2.2.2.2.2.2.2.2.2.2.1, (((y.2.2.2.2.2.2.2.2.2.2.2.2.2.2.2.2.2.2.1, (y.2.2.2.2.2.2.2.2.2.2.2.2.2.2.2.2.2.2.2.1, ())), ((y.2.2.2.2.2.2.2.2.2.2.2.2.2.2.2.2.2.2.2.2.1, (y.2.2.2.2.2.2.2.2.2.2.2.2.2.2.2.2.2.2.2.2.2.1, ())), ((y.2.2.2.2.2.2.2.2.2.2.2.2.2.2.2.2.2.2.2.2.2.2.1, (y.2.2.2.2.2.2.2.2.2.2.2.2.2.2.2.2.2.2.2.2.2.2.2.1, ())), (y.2.2.2.2.2.2.2.2.2.2.2.2.2.2.2.2.2.2.2.2.2.2.2.2.1, (y.2.2.2.2.2.2.2.2.2.2.2.2.2.2.2.2.2.2.2.2.2.2.2.2.2.1, (y.2.2.2.2.2.2.2.2.2.2.2.2.2.2.2.2.2.2.2.2.2.2.2.2.2.2.1, (y.2.2.2.2.2.2.2.2.2.2.2.2.2.2.2.2.2.2.2.2.2.2.2.2.2.2.2.1, ()))))))), (((y.2.2.2.2.2.2.2.2.2.2.2.2.2.2.2.2.2.2.2.2.2.2.2.2.2.2.2.2.1, (y.2.2.2.2.2.2.2.2.2.2.2.2.2.2.2.2.2.2.2.2.2.2.2.2.2.2.2.2.2.1, ())), (((y.2.2.2.2.2.2.2.2.2.2.2.2.2.2.2.2.2.2.2.2.2.2.2.2.2.2.2.2.2.2.1, (y.2.2.2.2.2.2.2.2.2.2.2.2.2.2.2.2.2.2.2.2.2.2.2.2.2.2.2.2.2.2.2.1, ())), ((y.2.2.2.2.2.2.2.2.2.2.2.2.2.2.2.2.2.2.2.2.2.2.2.2.2.2.2.2.2.2.2.2.1, (y.2.2.2.2.2.2.2.2.2.2.2.2.2.2.2.2.2.2.2.2.2.2.2.2.2.2.2.2.2.2.2.2.2.1, ())), ())), ())), (y.2.2.2.2.2.2.2.2.2.2.2.2.2.2.2.2.2.2.2.2.2.2.2.2.2.2.2.2.2.2.2.2.2.2.1, ())))))), y.2.2.2.2.2.2.2.2.2.2.2.2.2.2.2.2.2.2.2.2.2.2.2.2.2.2.2.2.2.2.2.2.2.2.2))))
structure SpecK (r : Rules) (cr : CRule) (m : MS) (now : Int) (x : MS × Int) (y : Option (qhg × Int)) : Prop where
  val : y = some (tupM r cr x.1, x.2)
  err : x.2 ≠ 0 → x.1 = m
  mid : x.2 = 0 → x.1.res = 0 → MID r cr x.1 now
  g : RG r x.1.g
  pm : pmErr x.1.pm = 0
  kept : x.1.last = m.last ∧ x.1.j = m.j
theorem SpecK.same {r : Rules} {cr : CRule} {m : MS} {now : Int} (h : MID r cr m now) {k : Int} (hk : k ≠ 0) {y : Option (qhg × Int)} (hy : y = some (tupM r cr m, k)) : SpecK r cr m now (m, k) y :=
  ⟨hy, fun _ => rfl, fun c => absurd c hk, h.g, h.pm, ⟨rfl, rfl⟩⟩
theorem SpecK.done {r : Rules} {cr : CRule} {m m' : MS} {now : Int} (h : MID r cr m' now) (h1 : m'.last = m.last) (h2 : m'.j = m.j) {y : Option (qhg × Int)} (hy : y = some (tupM r cr m', 0)) : SpecK r cr m now (m', 0) y :=
  ⟨hy, fun c => absurd rfl c, fun _ _ => h, h.g, h.pm, ⟨h1, h2⟩⟩
theorem qvi {r : Rules} {cr : CRule} {now : Int} : ∀ (k : Nat) (m : MS), (annM r cr now k m).last = m.last ∧ (annM r cr now k m).j = m.j
  | 0, m => ⟨rfl, rfl⟩
  | k + 1, m => by
    unfold annM; split
    · split
      · exact qvi k _
      · exact ⟨rfl, rfl⟩
    · exact ⟨rfl, rfl⟩
theorem bneI (a b : Int) : (a != b) = decide (a ≠ b) := by
  by_cases h : a = b
  · rw [bne_f h, decide_eq_false (fun q => q h)]
  · rw [bne_t h, decide_eq_true h]
theorem dm_eq (x : qhg) (e : Ev) : qaA x e = Option.bind (qk x.2.2.1) fun p => bif (p.2.2.1 != e.2.1) then some (x, 12) else Option.bind (qf2 x.1 p) fun l => Option.bind (qs l e.2.2.2.2.1) fun b => bif (!b) then some (x, 13) else
    Option.bind (qt x.2.2.1) fun q => bif (((q.length : Nat) : Int) == (400 : Int)) then some (x, 2) else Option.bind (qan x e.2.2.2.2.1 e.2.2.2.1) fun w => Option.bind (iterW (qav e) ((), (flatT w.1, ()))) fun y => some (unflat y.2.1, 0) := by
  unfold qaA; simp only [qab, agree_self]
  cases qk x.2.2.1 with
  | none => rfl
  | some p => rfl
theorem qtB {r : Rules} {cr : CRule} {m : MS} {e : Ev} (h : MID r cr m e.2.2.2.1) (h0 : qM r m.g.1 = 0) : SpecK r cr m e.2.2.2.1 (qrT r cr m e) (qaA (tupM r cr m) e) := by
  have ht := RG.turn m.g.2.length h.g rfl; have hv := h.g.ok.last; rw [dm_eq, show (tupM r cr m).2.2.1 = (r, (m.g.1, (m.g.2, ()))) from rfl, show (tupM r cr m).1 = r from rfl, qam h.g.ok, qcv h.g.ok]; simp only [Option.bind_some]; rw [show (lastP m.g.1).2.2.1 = (lastP m.g.1).turn from rfl, ht, qqF hv]; simp only [Option.bind_some]; rw [qmB _ _ (by have := qsP hv; omega)]; simp only [Option.bind_some]; unfold qrT; by_cases c1 : par m.g.2.length = e.2.1
  rotate_left
  · rw [if_pos c1, bne_t c1, cond_true]; exact SpecK.same h (by decide) rfl
  rw [if_neg (fun q => q c1), bne_f c1, cond_false]; by_cases c2 : e.2.2.2.2.1 ∈ openM r (lastP m.g.1)
  rotate_left
  · rw [if_pos c2, decide_eq_false c2, Bool.not_false, cond_true]; exact SpecK.same h (by decide) rfl
  rw [if_neg (fun q => q c2), decide_eq_true c2, Bool.not_true, cond_false]; by_cases c3 : m.g.2.length = 400
  · rw [if_pos c3, c3]; exact SpecK.same h (by decide) rfl
  rw [if_neg c3, beq_f (show ¬ ((m.g.2.length : Nat) : Int) = 400 by omega), cond_false]; have hst : stepG r m.g e.2.2.2.2.1 = 0 := qr9 h0 c2 (by have := h.g.ok.most; omega); rw [qpZ h hst, Option.bind_some]; obtain ⟨l1, l2⟩ := quJ e rfl (m.pm.length + 1) _ (qvt h hst) (by show m.pm.length < m.pm.length + 1; omega); rw [l1, Option.bind_some]; obtain ⟨k1, k2⟩ := qvi (r := r) (cr := cr) (now := e.2.2.2.1) (m.pm.length + 1) (moveM r cr m e.2.2.2.2.1 e.2.2.2.1); exact SpecK.done (m := m) l2 k1 k2 rfl
theorem qsU {r : Rules} {cr : CRule} {m : MS} {e : Ev} (h : MID r cr m e.2.2.2.1) : SpecK r cr m e.2.2.2.1 (qrn m e) (qaq (tupM r cr m) e) := by
  have hy : qaq (tupM r cr m) e = Option.bind (bif (e.1 == (3 : Int)) then qaD m.o e.2.2.1 e.2.1 ((m.g.2.length : Nat) : Int) else qc0 m.o e.2.2.1 e.2.1 ((m.g.2.length : Nat) : Int)) fun x => bif (x.2.1 == (0 : Int)) then some (tupM r cr { m with o := x.1 }, x.2.1) else some (tupM r cr m, x.2.1) := by
    unfold qaq; simp only [qm, ql, qg, qh, qab, agree_self, show (tupM r cr m).2.2.1.1 = r from rfl, show (tupM r cr m).2.2.1.2.1 = m.g.1 from rfl, show (tupM r cr m).2.2.1.2.2.1 = m.g.2 from rfl, qcv h.g.ok, Option.bind_some]; rw [show (tupM r cr m).2.2.2.1.2.2.2.2.1 = m.o from rfl]; simp only [qo8, qoM, Option.bind_some, qab, agree_self]; cases (e.1 == (3 : Int))
    · simp only [cond_false, Option.bind_some]
      cases ((qqt m.o e.2.2.1 e.2.1 ((m.g.2.length : Nat) : Int)).2 == (0 : Int)) <;> rfl
    · simp only [cond_true, Option.bind_some]
      cases ((qqB m.o e.2.2.1 e.2.1 ((m.g.2.length : Nat) : Int)).2 == (0 : Int)) <;> rfl
  rw [hy]; unfold qrn; by_cases c : e.1 = 3
  · rw [beq_t c, cond_true, if_pos c, qo8, Option.bind_some]; simp only; by_cases c1 : (qqB m.o e.2.2.1 e.2.1 ((m.g.2.length : Nat) : Int)).2 = 0
    · rw [if_pos c1, beq_t c1, cond_true, c1]; refine SpecK.done (m := m) ?_ (by rfl) (by rfl) (by rfl); exact ⟨h.rng, h.len, h.g, h.clk, h.turn, h.pm, h.few⟩
    · rw [if_neg c1, beq_f c1, cond_false]; exact SpecK.same h c1 rfl
  · rw [beq_f c, cond_false, if_neg c, qoM, Option.bind_some]; simp only; by_cases c1 : (qqt m.o e.2.2.1 e.2.1 ((m.g.2.length : Nat) : Int)).2 = 0
    · rw [if_pos c1, beq_t c1, cond_true, c1]; refine SpecK.done (m := m) ?_ (by rfl) (by rfl) (by rfl); exact ⟨h.rng, h.len, h.g, h.clk, h.turn, h.pm, h.few⟩
    · rw [if_neg c1, beq_f c1, cond_false]; exact SpecK.same h c1 rfl
theorem da_L1 (z : (Int × Int × Unit) × Unit) (i : Int) (g : Game) : qbE z ((i, ()), (flG g, ())) = bif decide (i < z.1.1) then Option.bind (qcB g) fun w => some (.inl ((w64 (i + 1), ()), (flG w.1, ()))) else some (.inr ((), (flG g, ()))) := rfl
theorem qtb {r : Rules} (z : (Int × Int × Unit) × Unit) (n : Nat) (hz : z.1.1 = (n : Int)) (hn : n ≤ 1000000) : ∀ (k i : Nat) (s : List Place × List Mv), i + k = n → RG r s → k ≤ s.2.length →
    iterW (qbE z) (((i : Int), ()), (flG (gm r s), ())) = some ((), (flG (gm r (backN k s)), ())) ∧ RG r (backN k s)
  | 0, i, s, hi, h, hk => by
    refine ⟨qj ?_, h⟩; rw [da_L1, hz, decide_eq_false (by omega), cond_false]; rfl
  | k + 1, i, s, hi, h, hk => by
    have ih := qtb z n hz hn k (i + 1) (backG s) (by omega) (h.back (by omega)) (by rw [qnH]; omega); have hL := da_L1 z (i : Int) (gm r s); rw [hz, decide_eq_true (by omega), cond_true, show gm r s = (r, (s.1, (s.2, ()))) from rfl, back_spec h.ok, if_neg (by omega), Option.bind_some, qe (by omega) (by omega)] at hL; rw [show gm r s = (r, (s.1, (s.2, ()))) from rfl, qo hL]; exact ih
theorem plies_rng (pl : Int) (n : Nat) : 0 ≤ qhh pl (n : Int) ∧ qhh pl (n : Int) ≤ 2 ∧ (qhh pl (n : Int)).toNat ≤ n := by
  unfold qhh; generalize (if (0 : Int) > (n : Int) then (0 : Int) else (n : Int)).tmod 2 = t; by_cases c : (if t = pl then (2 : Int) else 1) > (n : Int) ∨ pl ≠ 0 ∧ pl ≠ 1
  · rw [if_pos c]; simp
  · rw [if_neg c]; have : ¬ (if t = pl then (2 : Int) else 1) > (n : Int) := fun q => c (.inl q)
    split at this <;> rename_i q
    · rw [if_pos q]; omega
    · rw [if_neg q]; omega
theorem qsR : ∀ (k : Nat) (s : List Place × List Mv), (backN k s).2.length = s.2.length - k
  | 0, s => rfl
  | k + 1, s => by
    show (backN k (backG s)).2.length = _; rw [qsR k, qnH]; omega
theorem qpS {r : Rules} : ∀ (k : Nat) {s : List Place × List Mv}, RG r s → k ≤ s.2.length → qM r s.1 = 0 → qM r (backN k s).1 = 0
  | 0, s, h, hk, h0 => h0
  | k + 1, s, h, hk, h0 => qpS k (h.back (by omega)) (by rw [qnH]; omega) (h.back_open (by omega))
theorem qqL {r : Rules} {cr : CRule} {m : MS} {e : Ev} (h : MID r cr m e.2.2.2.1) (h0 : qM r m.g.1 = 0) : SpecK r cr m e.2.2.2.1 (qn1 m e) (qaF (tupM r cr m) e) := by
  obtain ⟨a1, a2⟩ := qwa m.o e.2.2.1 e.2.1 ((m.g.2.length : Nat) : Int); unfold qaF; simp only [qab, agree_self, show (tupM r cr m).2.2.1.1 = r from rfl, show (tupM r cr m).2.2.1.2.1 = m.g.1 from rfl, show (tupM r cr m).2.2.1.2.2.1 = m.g.2 from rfl, qcv h.g.ok, Option.bind_some]; rw [show (tupM r cr m).2.2.2.1.2.2.2.2.1 = m.o from rfl]; simp only [a1, qqg, Option.bind_some, qab, agree_self]; unfold qn1; simp only; by_cases c1 : (ofAcc m.o e.2.2.1 e.2.1 ((m.g.2.length : Nat) : Int)).2 = 0
  rotate_left
  · rw [if_pos c1, bne_t c1, cond_true]; exact SpecK.same h c1 rfl
  rw [if_neg (fun q => q c1), bne_f c1, cond_false]; by_cases c2 : e.2.2.1 = 0
  · rw [if_pos c2, beq_t c2, cond_true]; exact ⟨rfl, fun q => absurd rfl q, fun _ q => (by cases q), h.g, h.pm, ⟨rfl, rfl⟩⟩
  rw [if_neg c2, beq_f c2, cond_false]; have hpl : w64 (1 - e.2.1) = 1 - e.2.1 := qe (by have := (a2 c1).2.1; omega) (by have := (a2 c1).2.1; omega); rw [hpl]; obtain ⟨p0, p1, p2⟩ := plies_rng (1 - e.2.1) m.g.2.length; obtain ⟨l1, l2⟩ := qtb (r := r) ((qhh (1 - e.2.1) ((m.g.2.length : Nat) : Int), ((0 : Int), ())), ()) (qhh (1 - e.2.1) ((m.g.2.length : Nat) : Int)).toNat (by simp only; omega) (by omega) _ 0 m.g (Nat.zero_add _) h.g p2; have hbl := qsR (qhh (1 - e.2.1) ((m.g.2.length : Nat) : Int)).toNat m.g; have hbo := qpS (qhh (1 - e.2.1) ((m.g.2.length : Nat) : Int)).toNat h.g p2 h0; generalize (backN (qhh (1 - e.2.1) ((m.g.2.length : Nat) : Int)).toNat m.g) = G at *; have ht := RG.turn G.2.length l2 rfl; obtain ⟨f, hf⟩ := qtV (ofAcc m.o e.2.2.1 e.2.1 ((m.g.2.length : Nat) : Int)).1 ((G.2.length : Nat) : Int)
  have hc : GoodC cr (m.c.1, (m.c.2.1, (m.c.2.2.1, (par G.2.length, (e.2.2.2.1, m.c.2.2.2.2.2))))) e.2.2.2.1 := by
    have hk := h.clk; have hv := hk.v; have hs := hv.since; have := hk.now0; have hp := qo7 G.2.length; have hd := (qj7 hk.ok).del; have hv' : VC cr (m.c.1, (m.c.2.1, (m.c.2.2.1, (par G.2.length, (e.2.2.2.1, m.c.2.2.2.2.2))))) := ⟨hp, hv.fallen, ⟨by show 0 ≤ e.2.2.2.1; omega, hk.now1⟩, hv.p0, hv.p1, hv.m0, hv.m1, hv.l0, hv.l1⟩; refine ⟨hk.ok, hv', Int.le_refl _, hk.now1, hk.up, hk.run, ?_⟩; have hn := left_nn hv'; show max 0 (e.2.2.2.1 - e.2.2.2.1 - cr.2.2.1) ≤ _; omega
  refine SpecK.done (m := m) (m' := { m with g := G, o := qvh (ofAcc m.o e.2.2.1 e.2.1 ((m.g.2.length : Nat) : Int)).1 ((G.2.length : Nat) : Int), c := (m.c.1, (m.c.2.1, (m.c.2.2.1, (par G.2.length, (e.2.2.2.1, m.c.2.2.2.2.2))))), pm := [] }) ⟨h.rng, h.len, l2, hc, rfl, rfl, Nat.zero_le _⟩ rfl rfl ?_; refine (congrArg (fun z => Option.bind z _) l1).trans ?_; rw [Option.bind_some]; simp only [flG, gm]; rw [qcv l2.ok, Option.bind_some, hf]; simp only [Option.bind_some]; rw [qam l2.ok, Option.bind_some]; simp only [Option.bind_some]; rw [show (lastP G.1).2.2.1 = (lastP G.1).turn from rfl, ht]; rfl
theorem look_rng {cr : CRule} {c : Clk} {last now : Int} (hl : cr.1.length ≤ 9223372036854775807) (h : GoodC cr c last) : (lookC cr c now).2.2.2.2.2.2.1 ≤ 1 := by
  obtain ⟨e, he⟩ := qmu cr c now hl; have hv := h.v; have hu := h.up; have h2 := he; unfold qaB at he; rw [qg3 cr c hl, Option.bind_some, if_pos h.ok, if_pos ((qrF cr c).2 hv)] at he; simp only [show ((0 : Int) != 0) = false from rfl, cond_false] at he; by_cases c1 : qf now c.2.2.2.2.1 100000000 = true
  · rw [c1, Bool.not_true, cond_false, hu] at he; simp only [show decide ((-1 : Int) < 0) = true from rfl, Bool.true_and, imp, cond_true] at he; rw [inb_iff.2 (by have := hv.turn; omega), qc] at he; cases q : decide (qu cr c now > getD' [c.1.1, c.1.2.1] c.2.2.2.1.toNat 0)
    · rw [q] at he; simp only [cond_false, Option.bind_some, Option.some.injEq, Prod.mk.injEq] at he; rw [← he.1]; show c.2.2.2.2.2.2.1 ≤ 1; omega
    · rw [q] at he; simp only [cond_true, Option.bind_some, qc, Option.some.injEq, Prod.mk.injEq] at he; rw [← he.1]; exact hv.turn.2
  · rw [show qf now c.2.2.2.2.1 100000000 = false by simpa using c1, Bool.not_false, cond_true] at he; simp only [Option.some.injEq, Prod.mk.injEq] at he; rw [← he.1]; show (0 : Int) ≤ 1; omega
theorem fall_spec {r : Rules} {p : Place} (hr : Rng qbK r) (c : qR r = 0) (hv : Valid r p) {pl : Int} (hpl : pl = 0 ∨ pl = 1) : qgQ r p pl = some (fallR r p pl, (0, ())) := by
  have hn : p.1.length ≤ 9223372036854775807 := by have := qca hv; omega
  have w1 : w64 ((1 : Int) - pl) = 1 - pl := qe (by omega) (by omega); have w2 : w64 ((2 : Int) - pl) = 2 - pl := qe (by omega) (by omega)
  have cp' : 1 - pl = 0 ∨ 1 - pl = 1 := by omega
  unfold qgQ fallR; rw [w1, w2, qqk r p pl hr hn, qqk r p _ hr hn, qu6 c hv]; simp only [if_true, if_pos hpl, if_pos cp', Option.bind_some, bne_self_eq_false, cond_false]
  cases ableR r p (1 - pl) <;> rfl
theorem qs6 {r : Rules} {cr : CRule} {m : MS} {e : Ev} {last : Int} (hr : Rng qbK r) (hl : cr.1.length ≤ 9223372036854775807) (hg : RG r m.g) (hk : GoodC cr m.c last) (hpm : pmErr m.pm = 0)
    (hm : ¬ (e.2.2.1 = 2) → MID r cr m e.2.2.2.1) : SpecK r cr m e.2.2.2.1 (qqS r cr m e) (qaM (tupM r cr m) e) := by
  have ht := RG.turn m.g.2.length hg rfl; obtain ⟨le, hle⟩ := qmu cr m.c e.2.2.2.1 hl; unfold qaM qqS; by_cases c1 : e.2.2.1 = 2
  · rw [if_pos c1, beq_t c1, cond_true]; simp only [show (tupM r cr m).2.1 = cr from rfl, show (tupM r cr m).2.2.2.1.2.2.2.1 = m.c from rfl]; rw [hle, Option.bind_some]; simp only; by_cases c2 : (lookC cr m.c e.2.2.2.1).2.2.2.2.2.2.1 < 0
    · rw [if_pos c2, decide_eq_true c2, cond_true]; exact ⟨rfl, fun _ => rfl, fun q => (by cases q), hg, hpm, ⟨rfl, rfl⟩⟩
    · rw [if_neg c2, decide_eq_false c2, cond_false]; have hf := look_rng (now := e.2.2.2.1) hl hk; simp only [show (tupM r cr m).2.2.1.1 = r from rfl, show (tupM r cr m).2.2.1.2.1 = m.g.1 from rfl, show (tupM r cr m).2.2.1.2.2.1 = m.g.2 from rfl, show (tupM r cr m).1 = r from rfl]; rw [qam hg.ok, Option.bind_some]; have hfs := fall_spec (pl := (lookC cr m.c e.2.2.2.1).2.2.2.2.2.2.1) hr hg.ok.ok hg.ok.last (by omega); rw [qtd, hfs, Option.bind_some]; refine ⟨rfl, fun q => absurd rfl q, fun _ q => ?_, hg, hpm, ⟨rfl, rfl⟩⟩; exfalso; have q' : fallR r (lastP m.g.1) (lookC cr m.c e.2.2.2.1).2.2.2.2.2.2.1 = 0 := q; unfold fallR at q'
      split at q' <;> omega
  · have h := hm c1; rw [if_neg c1, beq_f c1, cond_false]; simp only [qab, agree_self, show (tupM r cr m).2.2.1.1 = r from rfl, show (tupM r cr m).2.2.1.2.1 = m.g.1 from rfl, show (tupM r cr m).2.2.1.2.2.1 = m.g.2 from rfl, qoK hg.ok, qam hg.ok, Option.bind_some]; rw [show (lastP m.g.1).2.2.1 = (lastP m.g.1).turn from rfl, ht]; have fin : ∀ b : Bool, (b = true ↔ (e.2.2.1 = 0 ∧ 3 ≤ qd1 m.g.1 ∨ e.2.2.1 = 1 ∧ 20 ≤ (lastP m.g.1).quiet)) → (e.2.2.1 = 0 ∨ e.2.2.1 = 1) → SpecK r cr m e.2.2.2.1
        (if e.2.2.1 ≠ 0 ∧ e.2.2.1 ≠ 1 then (m, 1) else if par m.g.2.length ≠ e.2.1 then (m, 12) else if e.2.2.1 = 0 ∧ 3 ≤ qd1 m.g.1 ∨ e.2.2.1 = 1 ∧ 20 ≤ (lastP m.g.1).quiet then ({ m with res := 3, rea := 5 }, 0) else (m, 10))
        (bif (par m.g.2.length != e.2.1) then some (tupM r cr m, (12 : Int)) else bif (!b) then some (tupM r cr m, 10) else some (tupM r cr { m with res := 3, rea := 5 }, 0)) := by
      intro b hb hn; rw [if_neg (by omega)]; by_cases c2 : par m.g.2.length = e.2.1
      rotate_left
      · rw [if_pos c2, bne_t c2, cond_true]; exact SpecK.same h (by decide) rfl
      rw [if_neg (fun q => q c2), bne_f c2, cond_false]; cases b
      · rw [if_neg (fun q => by cases hb.2 q)]; exact SpecK.same h (by decide) rfl
      · rw [if_pos (hb.1 rfl)]; exact ⟨rfl, fun q => absurd rfl q, fun _ q => (by cases q), h.g, h.pm, ⟨rfl, rfl⟩⟩
    by_cases d0 : e.2.2.1 = 0
    · have := fin (decide (3 ≤ qd1 m.g.1)) (by rw [decide_eq_true_eq]; omega) (.inl d0); simp only [d0, beq_self_eq_true, gopt, cond_true, Option.bind_some, Bool.true_and]; simp only [d0] at this; rw [show decide (((qd1 m.g.1 : Nat) : Int) ≥ 3) = decide (3 ≤ qd1 m.g.1) from by congr 1; apply propext; omega]; cases hb : decide (3 ≤ qd1 m.g.1)
      · rw [hb] at this; exact this
      · rw [hb] at this; exact this
    by_cases d1 : e.2.2.1 = 1
    · have := fin (decide (20 ≤ (lastP m.g.1).quiet)) (by rw [decide_eq_true_eq]; omega) (.inr d1); simp only [d1] at this; simp only [d1, show ((1 : Int) == 0) = false from rfl, gopt, cond_false, Option.bind_some, Bool.false_and, beq_self_eq_true, cond_true]; exact this
    · rw [if_pos ⟨d0, d1⟩]; simp only [beq_f d0, beq_f d1, gopt, cond_false, Option.bind_some, Bool.false_and, bne_t d0, bne_t d1, Bool.and_self, cond_true]; exact SpecK.same h (by decide) rfl
theorem pm_add {l : List PM} (h : pmErr l = 0) {pl : Int} (hpl : pl = 0 ∨ pl = 1) (h4 : (ofL l pl).length ≠ 4) (x : Mv) : pmErr (l ++ [(pl, (x, ()))]) = 0 := by
  obtain ⟨a, b, c⟩ := (qs8 l).1 h; rw [qlm] at h4; rw [qs8]; simp only [List.countP_append, List.countP_singleton]; rcases hpl with rfl | rfl
  · exact ⟨by show _ + 1 ≤ 4; omega, by show _ + 0 ≤ 4; omega, by show _ + 0 = 0; omega⟩
  · exact ⟨by show _ + 0 ≤ 4; omega, by show _ + 1 ≤ 4; omega, by show _ + 0 = 0; omega⟩
theorem qpj {r : Rules} {cr : CRule} {m : MS} {e : Ev} (h : MID r cr m e.2.2.2.1) (hp : e.2.1 = 0 ∨ e.2.1 = 1) : SpecK r cr m e.2.2.2.1 (qmK m e) (qau (tupM r cr m) e) := by
  have ht := RG.turn m.g.2.length h.g rfl; unfold qau qmK; simp only [qab, agree_self, show (tupM r cr m).2.2.1.1 = r from rfl, show (tupM r cr m).2.2.1.2.1 = m.g.1 from rfl, show (tupM r cr m).2.2.1.2.2.1 = m.g.2 from rfl, qam h.g.ok, Option.bind_some]; rw [show (lastP m.g.1).2.2.1 = (lastP m.g.1).turn from rfl, ht]; by_cases c1 : par m.g.2.length = e.2.1
  · rw [if_pos c1, beq_t c1, cond_true]; exact SpecK.same h (by decide) rfl
  rw [if_neg c1, beq_f c1, cond_false, show (tupM r cr m).2.2.2.1.2.2.2.2.2.1 = m.pm from rfl, addP_spec m.pm (by have := h.few; omega), if_neg (show ¬ (pmErr m.pm ≠ 0) from fun q => q h.pm), if_neg (show ¬ (e.2.1 ≠ 0 ∧ e.2.1 ≠ 1) by omega), Option.bind_some]; by_cases c2 : (ofL m.pm e.2.1).length = 4
  · rw [if_pos c2, if_pos c2]; exact SpecK.same h (by decide) rfl
  · rw [if_neg c2, if_neg c2]; have hq := pm_add h.pm hp c2 e.2.2.2.2.1; refine SpecK.done (m := m) ?_ (by rfl) (by rfl) (by rfl); exact ⟨h.rng, h.len, h.g, h.clk, h.turn, hq, pm_len hq⟩
theorem kind_spec {r : Rules} {cr : CRule} {m : MS} {e : Ev} {last : Int} (hr : Rng qbK r) (hl : cr.1.length ≤ 9223372036854775807) (hg : RG r m.g) (hk : GoodC cr m.c last) (hpm : pmErr m.pm = 0) (hp : e.2.1 = 0 ∨ e.2.1 = 1) (h0 : qM r m.g.1 = 0)
    (h6 : 0 ≤ e.1 ∧ e.1 ≤ 6) (hm : ¬ (e.1 = 4 ∨ e.1 = 5 ∧ e.2.2.1 = 2) → MID r cr m e.2.2.2.1) : SpecK r cr m e.2.2.2.1 (kindM r cr m e) (qb0 (tupM r cr m) e) := by
  have hy : qb0 (tupM r cr m) e = if e.1 = 0 then qaA (tupM r cr m) e else if e.1 = 1 ∨ e.1 = 3 then qaq (tupM r cr m) e else if e.1 = 2 then qaF (tupM r cr m) e else if e.1 = 5 then qaM (tupM r cr m) e
      else if e.1 = 6 then qau (tupM r cr m) e else some (tupM r cr { m with res := 2 - e.2.1, rea := 3 }, 0) := by
    have w : w64 (2 - e.2.1) = 2 - e.2.1 := qe (by omega) (by omega)
    have et : ∀ y : Option (qhg × Int), (Option.bind y fun r6 => some ((r6.1.1, (r6.1.2.1, ((r6.1.2.2.1.1, (r6.1.2.2.1.2.1, (r6.1.2.2.1.2.2.1, ()))), r6.1.2.2.2))), r6.2)) = y := fun y => by cases y <;> rfl
    unfold qb0; by_cases c0 : e.1 = 0
    · rw [if_pos c0, beq_t c0, cond_true]; exact et _
    rw [if_neg c0, beq_f c0, cond_false]; by_cases c1 : e.1 = 1
    · rw [if_pos (.inl c1), beq_t c1]; exact et _
    rw [beq_f c1, cond_false]; by_cases c3 : e.1 = 3
    · rw [if_pos (.inr c3), beq_t c3]; exact et _
    rw [if_neg (by omega), beq_f c3, Option.bind_some]; simp only [cond_false]; by_cases c2 : e.1 = 2
    · rw [if_pos c2, beq_t c2, cond_true]; exact et _
    rw [if_neg c2, beq_f c2, cond_false]; by_cases c5 : e.1 = 5
    · rw [if_pos c5, beq_t c5, cond_true]; exact et _
    rw [if_neg c5, beq_f c5, cond_false]; by_cases c6 : e.1 = 6
    · rw [if_pos c6, beq_t c6, cond_true]; exact et _
    rw [if_neg c6, beq_f c6, cond_false, w]; rfl
  rw [hy]; unfold kindM; by_cases c0 : e.1 = 0
  · rw [if_pos c0, if_pos c0]; exact qtB (hm (by omega)) h0
  rw [if_neg c0, if_neg c0]; by_cases c1 : e.1 = 1 ∨ e.1 = 3
  · rw [if_pos c1, if_pos c1]; exact qsU (hm (by omega))
  rw [if_neg c1, if_neg c1]; by_cases c2 : e.1 = 2
  · rw [if_pos c2, if_pos c2]; exact qqL (hm (by omega)) h0
  rw [if_neg c2, if_neg c2]; by_cases c5 : e.1 = 5
  · rw [if_pos c5, if_pos c5]; exact qs6 hr hl hg hk hpm (fun q => hm (by omega))
  rw [if_neg c5, if_neg c5]; by_cases c6 : e.1 = 6
  · rw [if_pos c6, if_pos c6]; exact qpj (hm (by omega)) hp
  rw [if_neg c6, if_neg c6]; exact ⟨rfl, fun q => absurd rfl q, fun _ q => absurd q (by show ¬ (2 - e.2.1 = 0); omega), hg, hpm, ⟨rfl, rfl⟩⟩
theorem qsM {r : Rules} {cr : CRule} {m : MS} (hg : RG r m.g) : qaI (tupM r cr m) = some (tupM r cr (overM r m), ()) := by
  unfold qaI overM; simp only [show (tupM r cr m).2.2.1.1 = r from rfl, show (tupM r cr m).2.2.1.2.1 = m.g.1 from rfl, show (tupM r cr m).2.2.1.2.2.1 = m.g.2 from rfl, qfg hg.ok, Option.bind_some, show (tupM r cr m).2.2.2.1.2.1 = m.res from rfl]; by_cases c : m.res = 0
  · by_cases d : qM r m.g.1 = 0
    · rw [if_neg (fun q => q.2 d), beq_t c, bne_f d]; rfl
    · rw [if_pos ⟨c, d⟩, beq_t c, bne_t d]; rfl
  · rw [if_neg (fun q => c q.1), beq_f c]; rfl
theorem qs7 (r : Rules) (m : MS) : (overM r m).g = m.g ∧ (overM r m).pm = m.pm ∧ (overM r m).j = m.j ∧ (overM r m).last = m.last := by
  unfold overM
  split <;> exact ⟨rfl, rfl, rfl, rfl⟩
theorem do_spec {r : Rules} {cr : CRule} {m : MS} (h : MOK r cr m) {e : Ev} (he : EvR e) : qcl (tupM r cr m) e = some (tupM r cr (doM r cr m e).1, (doM r cr m e).2) ∧ MOK r cr (doM r cr m e).1 := by
  have et : (tupM r cr m) = ((tupM r cr m).1, ((tupM r cr m).2.1, (((tupM r cr m).2.2.1.1, ((tupM r cr m).2.2.1.2.1, ((tupM r cr m).2.2.1.2.2.1, ()))), (tupM r cr m).2.2.2))) := rfl; obtain ⟨le, hle⟩ := qmu cr m.c e.2.2.2.1 h.len; unfold qcl doM; rw [← et]; simp only [show (tupM r cr m).2.1 = cr from rfl, show (tupM r cr m).2.2.2.1.2.1 = m.res from rfl, show (tupM r cr m).2.2.2.1.2.2.2.1 = m.c from rfl, show (tupM r cr m).2.2.2.2.1 = m.last from rfl, show (tupM r cr m).2.2.2.2.2.1 = m.j from rfl]; by_cases c1 : (e.1 < 0 ∨ 6 < e.1) ∨ (e.2.1 ≠ 0 ∧ e.2.1 ≠ 1)
  · rw [if_pos c1, show (((decide (e.1 < (0 : Int))) || (decide (e.1 > (6 : Int)))) || ((e.2.1 != (0 : Int)) && (e.2.1 != (1 : Int)))) = true by
      simp only [bneI, Bool.or_eq_true, Bool.and_eq_true, decide_eq_true_eq]; omega, cond_true]
    exact ⟨rfl, h⟩
  rw [if_neg c1, show (((decide (e.1 < (0 : Int))) || (decide (e.1 > (6 : Int)))) || ((e.2.1 != (0 : Int)) && (e.2.1 != (1 : Int)))) = false by
      rw [Bool.eq_false_iff]; intro q; simp only [bneI, Bool.or_eq_true, Bool.and_eq_true, decide_eq_true_eq] at q; omega, cond_false]
  by_cases c2 : e.2.2.2.1 < m.last ∨ 100000000 < e.2.2.2.1
  · rw [if_pos c2, show ((decide (e.2.2.2.1 < m.last)) || (decide (e.2.2.2.1 > (100000000 : Int)))) = true by simp only [Bool.or_eq_true, decide_eq_true_eq]; omega, cond_true]; exact ⟨rfl, h⟩
  rw [if_neg c2, show ((decide (e.2.2.2.1 < m.last)) || (decide (e.2.2.2.1 > (100000000 : Int)))) = false by rw [Bool.eq_false_iff]; intro q; simp only [Bool.or_eq_true, decide_eq_true_eq] at q; omega, cond_false]; by_cases c3 : m.res = 0
  rotate_left
  · rw [if_pos c3, bne_t c3, cond_true]; exact ⟨rfl, h⟩
  rw [if_neg (fun q => q c3), bne_f c3, cond_false]; by_cases c4 : m.j.length = 1000
  · rw [if_pos c4, c4]; exact ⟨rfl, h⟩
  rw [if_neg c4, beq_f (show ¬ ((m.j.length : Nat) : Int) = 1000 by omega), cond_false, hle, Option.bind_some]; simp only; have hk := h.clk c3; by_cases c5 : (0 ≤ (lookC cr m.c e.2.2.2.1).2.2.2.2.2.2.1 ∧ e.1 ≠ 4) ∧ ¬ (e.1 = 5 ∧ e.2.2.1 = 2)
  · rw [if_pos c5, show (((decide ((lookC cr m.c e.2.2.2.1).2.2.2.2.2.2.1 ≥ (0 : Int))) && (e.1 != (4 : Int))) && (!((e.1 == (5 : Int)) && (e.2.2.1 == (2 : Int))))) = true by
      simp only [bneI, Bool.and_eq_true, decide_eq_true_eq, Bool.not_eq_true', ← Bool.not_eq_true, beq_iff_eq]; exact c5, cond_true]
    exact ⟨rfl, h⟩
  rw [if_neg c5, show (((decide ((lookC cr m.c e.2.2.2.1).2.2.2.2.2.2.1 ≥ (0 : Int))) && (e.1 != (4 : Int))) && (!((e.1 == (5 : Int)) && (e.2.2.1 == (2 : Int))))) = false by
      rw [Bool.eq_false_iff]; intro q; simp only [bneI, Bool.and_eq_true, decide_eq_true_eq, Bool.not_eq_true', ← Bool.not_eq_true, beq_iff_eq] at q; exact c5 q, cond_false]
  have hs := kind_spec (e := e) h.rng h.len h.g hk h.pm (by omega) (h.opn c3) (by omega) (fun q => by
    have hf : (lookC cr m.c e.2.2.2.1).2.2.2.2.2.2.1 < 0 := by
      by_cases q1 : e.1 = 4
      · exact absurd (.inl q1) q
      · by_cases q2 : e.1 = 5 ∧ e.2.2.1 = 2
        · exact absurd (.inr q2) q
        · have := fun a => c5 ⟨⟨a, q1⟩, q2⟩; omega
    exact ⟨h.rng, h.len, h.g, good_of h.len hle hf hk.run, h.turn c3, h.pm, h.few⟩)
  obtain ⟨s1, s2, s3, s4, s5, s6⟩ := hs; rw [s1, Option.bind_some]; by_cases c6 : (kindM r cr m e).2 = 0
  rotate_left
  · rw [if_pos c6, bne_t c6, cond_true, s2 c6]; exact ⟨rfl, h⟩
  rw [if_neg (fun q => q c6), bne_f c6, cond_false]; simp only [show (tupM r cr (kindM r cr m e).1).2.2.2.2.2.1 = (kindM r cr m e).1.j from rfl]
  have hj : JOK (kindM r cr m e).1.j := by rw [s6.2]; exact h.j
  obtain ⟨j1, j2⟩ := qp0 hj (by rw [s6.2]; have := h.j.1; omega) (entry_ok e he); rw [qv2 e he, Option.bind_some, j1, Option.bind_some]; have ho := qsM (r := r) (cr := cr) (m := { (kindM r cr m e).1 with last := e.2.2.2.1, j := nextJ (kindM r cr m e).1.j (qib e) }) s4; rw [show ((tupM r cr (kindM r cr m e).1).1, ((tupM r cr (kindM r cr m e).1).2.1, (((tupM r cr (kindM r cr m e).1).2.2.1.1, ((tupM r cr (kindM r cr m e).1).2.2.1.2.1, ((tupM r cr (kindM r cr m e).1).2.2.1.2.2.1, ()))), ((tupM r cr (kindM r cr m e).1).2.2.2.1, (e.2.2.2.1, (nextJ (kindM r cr m e).1.j (qib e), ())))))) = tupM r cr { (kindM r cr m e).1 with last := e.2.2.2.1, j := nextJ (kindM r cr m e).1.j (qib e) } from rfl, ho, Option.bind_some]; refine ⟨rfl, ?_⟩; show MOK r cr (doneM r (kindM r cr m e).1 e); unfold doneM
  have hg' : ∀ x : MS, (overM r x).g = x.g ∧ (overM r x).c = x.c ∧ (overM r x).pm = x.pm ∧ (overM r x).j = x.j ∧ (overM r x).last = x.last ∧ ((overM r x).res = 0 → x.res = 0 ∧ qM r x.g.1 = 0) := fun x => by
    unfold overM; split
    · rename_i q; exact ⟨rfl, rfl, rfl, rfl, rfl, fun z => absurd z q.2⟩
    · rename_i q
      exact ⟨rfl, rfl, rfl, rfl, rfl, fun z => ⟨z, by
        by_cases w : qM r x.g.1 = 0
        · exact w
        · exact absurd ⟨z, w⟩ q⟩⟩
  obtain ⟨g1, g2, g3, g4, g5, g6⟩ := hg' { (kindM r cr m e).1 with last := e.2.2.2.1, j := nextJ (kindM r cr m e).1.j (qib e) }; refine ⟨h.rng, h.len, by rw [g1]; exact s4, h.cok, fun q => ?_, fun q => ?_, fun q => ?_, by rw [g3]; exact s5, by rw [g3]; exact pm_len s5, by rw [g4]; exact j2⟩
  · rw [g2, g5]; exact (s3 c6 (g6 q).1).clk
  · rw [g1, g2]; exact (s3 c6 (g6 q).1).turn
  · rw [g1]; exact (g6 q).2

noncomputable def startC (cr : CRule) (now : Int) : Clk := (((perAt cr 0).2.1, ((perAt cr 0).2.1, ())), ((0, (0, ())), ((0, (0, ())), (0, (now, (false, (-1, ())))))))
theorem qp9 (cr : CRule) (now : Int) (hl : cr.1.length ≤ 9223372036854775807) : qdd cr now = some (if chkC cr = 0 then if 0 ≤ now ∧ now ≤ 100000000 then (startC cr now, (0, ())) else (dClk, (11, ())) else (dClk, (chkC cr, ()))) := by
  unfold qdd; rw [qn4 cr hl, Option.bind_some]; by_cases c : chkC cr = 0
  · rw [if_pos c, bne_f c, cond_false]; have hcr := qj7 c; have hw : qf now 0 100000000 = decide (0 ≤ now ∧ now ≤ 100000000) := by
      rw [Bool.eq_iff_iff, qcf, decide_eq_true_eq]
    rw [hw]; by_cases d : 0 ≤ now ∧ now ≤ 100000000
    · rw [if_pos d, decide_eq_true d, Bool.not_true, cond_false, (qjN hcr (k := 0) (by omega) (by have := hcr.len; omega)).1, Option.bind_some]; rfl
    · rw [if_neg d, decide_eq_false d]; rfl
  · rw [if_neg c, bne_t c, cond_true]; rfl
theorem qqy {cr : CRule} (h : chkC cr = 0) : qeP cr = some cr := by
  have hcr := (qj7 h).len; unfold qeP; have : qaj cr.1 = some cr.1 := by
    unfold qaj; have hr : room (([] : List (Int × Int × Unit)).length + cr.1.length) 16 = true := qL (by simp only [List.length_nil]; omega); rw [hr]
    cases cr.1 with
    | nil => simp [qc, agree_self]
    | cons a l => simp [qc]
  rw [this, Option.bind_some]
theorem qqz {cr : CRule} {now : Int} (c : chkC cr = 0) (h : 0 ≤ now ∧ now ≤ 100000000) : GoodC cr (startC cr now) now := by
  have hcr := qj7 c; have hlen := hcr.len; have hd := hcr.del; obtain ⟨_, _, h2, _⟩ := qjN hcr (k := 0) (by omega) (by omega)
  have hv : VC cr (startC cr now) := ⟨⟨Int.le_refl _, by show (0 : Int) ≤ 1; omega⟩, ⟨Int.le_refl _, by show (-1 : Int) ≤ 1; omega⟩, h, ⟨Int.le_refl _, by show (0 : Int) ≤ _; omega⟩, ⟨Int.le_refl _, by show (0 : Int) ≤ _; omega⟩,
    ⟨Int.le_refl _, by show (0 : Int) ≤ 400; omega⟩, ⟨Int.le_refl _, by show (0 : Int) ≤ 400; omega⟩, ⟨by show 0 ≤ (perAt cr 0).2.1; omega, by show (perAt cr 0).2.1 ≤ _; omega⟩, ⟨by show 0 ≤ (perAt cr 0).2.1; omega, by show (perAt cr 0).2.1 ≤ _; omega⟩⟩
  refine ⟨c, hv, Int.le_refl _, h.2, rfl, rfl, ?_⟩; have hn := left_nn hv; show max 0 (now - now - cr.2.2.1) ≤ _; omega
def startB : ByteArray := ByteArray.mk #[115, 116, 97, 114, 116, 32]
def qlo (now : Int) : ByteArray := startB ++ numS now
theorem qmh {n : Int} (h : I64 n) : (qlo n).size ≤ 27 ∧ qQ startB (numS n) = true := by
  have h1 := quz h; have h2 : startB.size = 6 := rfl; refine ⟨by unfold qlo; rw [ByteArray.size_append]; omega, ?_⟩; unfold qQ; rw [Nat.ble_eq]; omega
theorem start_okt {n : Int} (h : I64 n) : OKT (qlo n) := by
  refine ⟨by have := (qmh h).1; omega, fun c hc => ?_⟩; unfold qlo at hc; rw [qox] at hc; rcases List.mem_append.1 hc with hc | hc
  · have : c ∈ [115, 116, 97, 114, 116, 32] := hc; simp only [List.mem_cons, List.not_mem_nil, or_false] at this
    rcases this with rfl | rfl | rfl | rfl | rfl | rfl <;> decide
  · have := num_mem n c hc; omega
theorem jok_nil : JOK [] := ⟨Nat.zero_le _, fun i hi => absurd hi (Nat.not_lt_zero _)⟩
theorem qiv {n : Int} (h : I64 n) : qai [] (qlo n) = some (nextJ [] (qlo n), (0, ())) ∧ JOK (nextJ [] (qlo n)) := qp0 jok_nil (Nat.zero_lt_succ _) (start_okt h)
def off0 : Offs := ((-1, (-1, ())), (((-1, (-1, ())), ((-1, (-1, ())), ())), ()))
noncomputable def rawM (r : Rules) (cr : CRule) (now : Int) : MS := { g := ([qag r], []), res := 0, rea := 0, c := startC cr now, o := off0, pm := [], last := now, j := nextJ [] (qlo now) }
noncomputable def newM (r : Rules) (cr : CRule) (now : Int) : MS := overM r (rawM r cr now)
theorem qvw {r : Rules} {cr : CRule} {now : Int} (c : qR r = 0) : qaI (tupM r cr (rawM r cr now)) = some (tupM r cr (newM r cr now), ()) := qsM (RG.begin c)
theorem over_ok {r : Rules} {m : MS} : (overM r m).c = m.c ∧ (overM r m).o = m.o ∧ ((overM r m).res = 0 → m.res = 0 ∧ qM r m.g.1 = 0) := by
  unfold overM; split
  · rename_i q; exact ⟨rfl, rfl, fun z => absurd z q.2⟩
  · rename_i q
    exact ⟨rfl, rfl, fun z => ⟨z, by
      by_cases w : qM r m.g.1 = 0
      · exact w
      · exact absurd ⟨z, w⟩ q⟩⟩
theorem que {r : Rules} {cr : CRule} {now : Int} (hr : Rng qbK r) (hl : cr.1.length ≤ 9223372036854775807) (c : qR r = 0) (c1 : chkC cr = 0) (h : 0 ≤ now ∧ now ≤ 100000000) : MOK r cr (newM r cr now) := by
  obtain ⟨g1, g2, g3, g4⟩ := qs7 r (rawM r cr now); obtain ⟨g5, g6, g7⟩ := over_ok (r := r) (m := rawM r cr now); unfold newM; refine ⟨hr, hl, by rw [g1]; exact RG.begin c, c1, fun q => ?_, fun q => ?_, fun q => ?_, by rw [g2]; rfl, by rw [g2]; exact Nat.zero_le _, by rw [g3]; exact (qiv ⟨by omega, by omega⟩).2⟩
  · rw [g5, g4]; exact qqz c1 h
  · rw [g5, g1]; rfl
  · rw [g1]; exact (g7 q).2

theorem look_same {cr : CRule} {c : Clk} {now : Int} (hl : cr.1.length ≤ 9223372036854775807) (h : GoodC cr c now) : lookC cr c now = c := by
  unfold lookC; rw [qoJ hl h]; rfl
theorem ann_nil {r : Rules} {cr : CRule} {now : Int} {m : MS} (h : m.pm = []) : annM r cr now 1 m = m := by
  unfold annM; have hn : ∀ p : Place, nextP r p [] = ((0, (0, (0, ()))), (false, ([], ()))) := fun p => rfl; rw [h, hn]; split
  · rw [if_neg (by decide)]; cases m; simp only at h; rw [h]
  · rfl
structure Moved (r : Rules) (cr : CRule) (m : MS) (x : Mv) (now : Int) (y : MS × Int) : Prop where
  ok : y.2 = 0
  g : y.1.g = nextG r m.g x
  c : y.1.c = qeb cr m.c now
  pm : y.1.pm = []
  last : y.1.last = now
  j : y.1.j.length = m.j.length + 1
  res : y.1.res = qM r (nextG r m.g x).1
theorem quF {r : Rules} {cr : CRule} {m : MS} (h : MOK r cr m) {e : Ev} (h0 : m.res = 0) (h1 : e.1 = 0) (h2 : e.2.1 = par m.g.2.length) (h3 : m.last ≤ e.2.2.2.1) (hj : m.j.length < 1000) (hg : GoodC cr m.c e.2.2.2.1)
    (hx : qD r (lastP m.g.1) e.2.2.2.2.1 = true) (hl : m.g.2.length < 400) (hpm : m.pm = []) : Moved r cr m e.2.2.2.2.1 e.2.2.2.1 (doM r cr m e) := by
  have hp := qo7 m.g.2.length; have hn := hg.now1; have ho := h.opn h0
  have hmem : e.2.2.2.2.1 ∈ openM r (lastP m.g.1) := openM_mem.2 ⟨by
    unfold qM at ho; by_cases w : ((qcK r (lastP m.g.1) == 0) && (r.repeats != 0)) && decide (((qd1 m.g.1 : Nat) : Int) ≥ r.repeats)
    · rw [w, cond_true] at ho; cases ho
    · rw [show (((qcK r (lastP m.g.1) == 0) && (r.repeats != 0)) && decide (((qd1 m.g.1 : Nat) : Int) ≥ r.repeats)) = false by simpa using w, cond_false] at ho
      exact ho, hx⟩
  have hk : kindM r cr m e = (moveM r cr m e.2.2.2.2.1 e.2.2.2.1, 0) := by
    unfold kindM qrT; rw [if_pos h1, if_neg (fun q => q h2.symm), if_neg (fun q => q hmem), if_neg (by omega), hpm]; rw [show ([] : List PM).length + 1 = 1 from rfl, ann_nil (by exact hpm)]
  have hd : doM r cr m e = (doneM r (moveM r cr m e.2.2.2.2.1 e.2.2.2.1) e, 0) := by
    unfold doM; rw [if_neg (by omega), if_neg (by omega), if_neg (fun q => q h0), if_neg (by omega), look_same h.len hg, if_neg (by have := hg.up; omega), hk, if_neg (fun q => q rfl)]
  rw [hd]; unfold doneM; obtain ⟨g1, g2, g3, g4⟩ := qs7 r { moveM r cr m e.2.2.2.2.1 e.2.2.2.1 with last := e.2.2.2.1, j := nextJ (moveM r cr m e.2.2.2.2.1 e.2.2.2.1).j (qib e) }; refine ⟨rfl, g1, over_ok.1, by rw [g2]; exact hpm, g4, by rw [g3]; unfold nextJ; simp; rfl, ?_⟩; unfold overM; split
  · rfl
  · rename_i q; by_cases w : qM r (nextG r m.g e.2.2.2.2.1).1 = 0
    · rw [w]; exact h0
    · exact absurd ⟨h0, w⟩ q

theorem qoc {r : Rules} {cr : CRule} {m : MS} (h : MOK r cr m) : qt (r, (m.g.1, (m.g.2, ()))) = some m.g.2 ∧ qv m.pm = some m.pm := ⟨qcv h.g.ok, qud m.pm (by have := h.few; omega)⟩
def demoX : Rec := ([], (ByteArray.mk #[], ([(-1, ((-1, (4, (0, ()))), (ByteArray.mk #[], ())))], (0, ()))))
theorem demoX_rng : Rng tyRec demoX := qj9 _ _ (by decide +kernel)
theorem demoX_ok : recErr gamehalltopH10Tic demoX = 0 := by decide +kernel
theorem qdf : Rng qbK gamehalltopH10Tic := qj9 _ _ (by decide +kernel)
theorem qbC : qR gamehalltopH10Tic = 0 := by decide +kernel
theorem qiI : VR0 gamehalltopH10Tic := qbM qbC
abbrev demoM : Mv := (-1, (4, (0, ())))
abbrev demoT : ByteArray := ByteArray.mk #[83, 64, 98, 50]
theorem qtw : qD gamehalltopH10Tic (qag gamehalltopH10Tic) demoM = true := by decide +kernel
theorem demo_of (p : Place) (l : List Mv) : qi0 gamehalltopH10Tic p l demoM = some demoT := by
  unfold qi0; rw [show decide ((demoM.1 : Int) < 0) = true from rfl, cond_true]; decide +kernel
theorem demo_one : qaN (gamehalltopH10Tic, (demoX, ())) (qag gamehalltopH10Tic) 0 = some ((gamehalltopH10Tic, (demoX, ())), [demoT]) := by
  have hv := qj3 qiI; unfold qaN; have ha : at? demoX.2.2.1 0 = some (-1, (demoM, (ByteArray.mk #[], ()))) := rfl; simp only [qrl, qtd, qkH hv, Option.bind_some, ha, demo_of, qab, agree_self]; rw [show (!((ByteArray.mk #[]).toList == (ByteArray.mk #[]).toList)) = false by decide +kernel, cond_false, Option.bind_some]
theorem demo_kids : qeu demoX (-1) = some [0] := by
  rw [qsE demoX (-1) (by decide)]; rfl
theorem qvM : qeu demoX 0 = some [] := by
  rw [qsE demoX 0 (by decide)]; rfl
theorem qwg : qde (gamehalltopH10Tic, (demoX, ())) (qag gamehalltopH10Tic) (-1) = some ((gamehalltopH10Tic, (demoX, ())), [demoT]) := by
  have hv := qj3 qiI; refine fixW_ind qhr (fun x => x = ((gamehalltopH10Tic, (demoX, ())), qag gamehalltopH10Tic, (-1 : Int), ()) ∨ x = ((gamehalltopH10Tic, (demoX, ())), qkf gamehalltopH10Tic (qag gamehalltopH10Tic) demoM, (0 : Int), ())) (fun x => bif x.2.2.1 == 0 then 0 else 1) (fun x => ((gamehalltopH10Tic, (demoX, ())), bif x.2.2.1 == 0 then [] else [demoT])) ?_ _ (.inl rfl)
  rintro φ x (rfl | rfl) hI
  · have hs := hI _ (.inr rfl) (by decide); show qY φ (gamehalltopH10Tic, (demoX, ())) (qag gamehalltopH10Tic) (-1) = _; unfold qY; have ha : at? demoX.2.2.1 0 = some (-1, (demoM, (ByteArray.mk #[], ()))) := rfl; simp only [qrl, demo_kids, Option.bind_some]; rw [show ((((([0] : List Int).length : Nat) : Int)) == 0) = false from rfl, cond_false]; rw [show inb 0 ([0] : List Int).length = true from rfl, qc, show getD' ([0] : List Int) 0 0 = 0 from rfl, demo_one, Option.bind_some]; rw [show qp 1 (((([0] : List Int).length : Nat) : Int)) ([0] : List Int).length = true from rfl, qc]
    rw [qj (r := (([demoT], ()), ((gamehalltopH10Tic.1, (gamehalltopH10Tic.2.1, (gamehalltopH10Tic.2.2.1, (gamehalltopH10Tic.2.2.2.1, (gamehalltopH10Tic.2.2.2.2.1, (gamehalltopH10Tic.2.2.2.2.2.1, (gamehalltopH10Tic.2.2.2.2.2.2.1, (gamehalltopH10Tic.2.2.2.2.2.2.2.1, (gamehalltopH10Tic.2.2.2.2.2.2.2.2.1, (gamehalltopH10Tic.2.2.2.2.2.2.2.2.2.1, (gamehalltopH10Tic.2.2.2.2.2.2.2.2.2.2.1, demoX))))))))))), ()))) rfl, Option.bind_some]; simp only [qc, qrl, qtd, ha, Option.bind_some, qta hv qtw, hs, qab, agree_self]; rfl
  · show qY φ (gamehalltopH10Tic, (demoX, ())) (qkf gamehalltopH10Tic (qag gamehalltopH10Tic) demoM) 0 = _; unfold qY; simp only [qrl, qvM, Option.bind_some]; rfl
theorem demo_text : qf5 gamehalltopH10Tic demoX = some (ByteArray.mk #[83, 64, 98, 50, 32, 42, 10], (0, ())) := by
  unfold qf5; rw [qt4 qdf demoX demoX_rng (by decide), demoX_ok, Option.bind_some]; rw [show ((0 : Int) != 0) = false from rfl, cond_false]; rw [qj (r := ((), (([] : List Int), ()))) rfl, Option.bind_some]; rw [show (!(demoX.2.1.toList == (ByteArray.mk #[]).toList)) = false by decide +kernel, cond_false, Option.bind_some]; rw [qiH _ qdf, if_pos qbC, Option.bind_some]; simp only [qtd, qwg, Option.bind_some, qab, agree_self]; decide +kernel
theorem qqs (l : Jn) (s : ByteArray) : (nextJ l s).length = l.length + 1 := by unfold nextJ; simp
def evP : Ev := (0, (0, (0, (10, ((-1, (4, (0, ()))), ())))))
theorem qh9 : chkC gamehalltopH10Minute = 0 := by decide +kernel
theorem plays_M : (doM gamehalltopH10Tic gamehalltopH10Minute (newM gamehalltopH10Tic gamehalltopH10Minute 0) evP).2 = 0 ∧ (doM gamehalltopH10Tic gamehalltopH10Minute (newM gamehalltopH10Tic gamehalltopH10Minute 0) evP).1.g.2.length = 1 ∧ (doM gamehalltopH10Tic gamehalltopH10Minute (newM gamehalltopH10Tic gamehalltopH10Minute 0) evP).1.c.1.1 = 60990 := by
  have hm := que (cr := gamehalltopH10Minute) (now := 0) qdf (by decide) qbC qh9 ⟨by decide, by decide⟩
  have h0 : qM gamehalltopH10Tic [qag gamehalltopH10Tic] = 0 := by decide +kernel
  have hn : newM gamehalltopH10Tic gamehalltopH10Minute 0 = rawM gamehalltopH10Tic gamehalltopH10Minute 0 := by
    unfold newM overM; rw [if_neg (fun q => q.2 h0)]
  rw [hn] at hm ⊢; have hg : GoodC gamehalltopH10Minute (rawM gamehalltopH10Tic gamehalltopH10Minute 0).c 10 := by
    have := qqz (cr := gamehalltopH10Minute) (now := 0) qh9 ⟨by decide, by decide⟩; refine ⟨this.ok, this.v, ?_, by decide, this.up, this.run, ?_⟩
    · show (0 : Int) ≤ 10; decide
    · show max 0 ((10 : Int) - 0 - gamehalltopH10Minute.2.2.1) ≤ leftT (startC gamehalltopH10Minute 0); decide +kernel
  have := quF hm (e := evP) rfl rfl rfl (by show (0 : Int) ≤ 10; decide) (by show (nextJ [] (qlo 0)).length < 1000; rw [qqs]; decide) hg (by decide +kernel) (by decide) rfl; refine ⟨this.ok, ?_, ?_⟩
  · rw [this.g]; rfl
  · rw [this.c]; show (qeb gamehalltopH10Minute (startC gamehalltopH10Minute 0) 10).1.1 = 60990; decide +kernel
theorem qwd : qa2 = some true := by
  have hm := que (cr := gamehalltopH10Minute) (now := 0) qdf (by decide) qbC qh9 ⟨by decide, by decide⟩; have z64 : I64 0 := ⟨by decide, by decide⟩; have he : EvR evP := ⟨z64, z64, z64, ⟨by decide, by decide⟩, ⟨by decide, by decide⟩, ⟨by decide, by decide⟩, ⟨by decide, by decide⟩⟩; obtain ⟨d1, d2⟩ := do_spec hm he; obtain ⟨e1, e2⟩ := qoc d2; obtain ⟨p1, p2, p3⟩ := plays_M; unfold qa2; simp only [qab, agree_self]; refine (congrArg (fun z => Option.bind z _) (qiH gamehalltopH10Tic qdf)).trans ?_; rw [if_pos qbC, Option.bind_some]; simp only [bne_self_eq_false, cond_false]; refine (congrArg (fun z => Option.bind (Option.bind z _) _) (qgr (qbM qbC))).trans ?_; rw [Option.bind_some, Option.bind_some]; simp only [bne_self_eq_false, cond_false]
  refine (congrArg (fun z => Option.bind z _) (qp9 gamehalltopH10Minute 0 (by decide))).trans ?_; rw [if_pos qh9, if_pos ⟨by decide, by decide⟩, Option.bind_some]; simp only [bne_self_eq_false, cond_false]; refine (congrArg (fun z => Option.bind z _) (qgr (qbM qbC))).trans ?_; rw [Option.bind_some]; refine (congrArg (fun z => Option.bind z _) (qqy qh9)).trans ?_; rw [Option.bind_some]; refine (congrArg (fun z => Option.bind z _) (qrP z64)).trans ?_; rw [Option.bind_some]; rw [show qQ (ByteArray.mk #[115, 116, 97, 114, 116, 32]) (numS 0) = true from (qmh z64).2, qc]; refine (congrArg (fun z => Option.bind z _) (qiv z64).1).trans ?_; rw [Option.bind_some]; refine (congrArg (fun z => Option.bind z _) (qvw (r := gamehalltopH10Tic) (cr := gamehalltopH10Minute) (now := 0) qbC)).trans ?_
  rw [Option.bind_some]; refine (congrArg (fun z => Option.bind z _) d1).trans ?_; rw [Option.bind_some]; refine (congrArg (fun z => Option.bind (Option.bind z _) _) demo_text).trans ?_; rw [Option.bind_some, Option.bind_some]; simp only [p1, beq_self_eq_true, cond_true]; refine (congrArg (fun z => Option.bind (Option.bind z _) _) e1).trans ?_; rw [Option.bind_some]; refine (congrArg (fun z => Option.bind (Option.bind z _) _) e2).trans ?_; rw [Option.bind_some, Option.bind_some, p2]; decide +kernel

abbrev crT (inc : Int) : CRule := ([((2 : Int), ((50000 : Int), ())), ((0 : Int), ((90000 : Int), ()))], (inc, ((0 : Int), ())))
theorem crT_ok {inc : Int} (h : 0 ≤ inc ∧ inc ≤ 999) : chkC (crT inc) = 0 := by
  unfold chkC; rw [if_neg (by show ¬ ((!(qf 2 1 5)) = true); decide)]; rw [if_neg]
  · rfl
  · intro q; simp only [Bool.or_eq_true, Bool.not_eq_true', ← Bool.not_eq_true, qcf] at q; have q : ¬ (0 ≤ inc ∧ inc ≤ 100000000) ∨ ¬ ((0 : Int) ≤ 0 ∧ (0 : Int) ≤ 100000000) := q; omega
def sqT (i : Nat) : Int := getD' [(0 : Int), 1, 4, 2, 3, 5] i 0
def mvT (i : Nat) : Mv := (-1, (sqT i, (0, ())))
def GT : Nat → List Place × List Mv
  | 0 => ([qag gamehalltopH10Tic], [])
  | i + 1 => nextG gamehalltopH10Tic (GT i) (mvT i)
theorem gt_len : ∀ i, (GT i).2.length = i
  | 0 => rfl
  | i + 1 => by
    unfold GT nextG; simp [gt_len i]
theorem gt_ok : ∀ i, i < 6 → qD gamehalltopH10Tic (lastP (GT i).1) (mvT i) = true ∧ qM gamehalltopH10Tic (GT (i + 1)).1 = 0 := by decide +kernel
def mA (i : Nat) : Int := (((i + 1) / 2 : Nat) : Int)
def mB (i : Nat) : Int := ((i / 2 : Nat) : Int)
def allT (inc a : Int) : Int := 50000 + inc * a + (if 2 ≤ a then 90000 else 0)
def clkT (inc : Int) (i : Nat) (now u0 u1 : Int) : Clk := ((allT inc (mA i) - u0, (allT inc (mB i) - u1, ())), (((if 2 ≤ mA i then mA i - 2 else mA i), ((if 2 ≤ mB i then mB i - 2 else mB i), ())), (((if 2 ≤ mA i then 1 else 0), ((if 2 ≤ mB i then 1 else 0), ())), (par i, (now, (false, (-1, ())))))))
theorem qvn {inc a : Int} (h : 0 ≤ inc ∧ inc ≤ 999) (ha : 0 ≤ a ∧ a ≤ 3) : 0 ≤ inc * a ∧ inc * a ≤ 2997 := by
  refine ⟨Int.mul_nonneg h.1 ha.1, ?_⟩; have := Int.mul_le_mul h.2 ha.2 ha.1 (by decide); omega
structure TI (inc : Int) (i : Nat) (now u0 u1 : Int) : Prop where
  inc : 0 ≤ inc ∧ inc ≤ 999
  ile : i ≤ 6
  now : 0 ≤ now ∧ now ≤ 1000 + 9000 * (i : Int)
  u0 : 0 ≤ u0 ∧ u0 ≤ 9000 * mA i
  u1 : 0 ≤ u1 ∧ u1 ≤ 9000 * mB i
theorem TI.ab {inc : Int} {i : Nat} {now u0 u1 : Int} (h : TI inc i now u0 u1) : (0 ≤ mA i ∧ mA i ≤ 3) ∧ (0 ≤ mB i ∧ mB i ≤ 3) := by
  have := h.ile; unfold mA mB; omega
theorem qfX {inc a : Int} (h : 0 ≤ inc ∧ inc ≤ 999) (ha : 0 ≤ a ∧ a ≤ 3) : 50000 ≤ allT inc a ∧ allT inc a ≤ 142997 := by
  have := qvn h ha; unfold allT
  split <;> omega
theorem clkT_vc {inc : Int} {i : Nat} {now u0 u1 : Int} (h : TI inc i now u0 u1) : VC (crT inc) (clkT inc i now u0 u1) := by
  obtain ⟨a, b⟩ := h.ab; have ra := qfX h.inc a; have rb := qfX h.inc b; have h0 := h.u0; have h1 := h.u1; have hn := h.now; have hi := h.ile; refine ⟨qo7 i, ⟨Int.le_refl _, by show (-1 : Int) ≤ 1; omega⟩, ⟨hn.1, by show now ≤ _; omega⟩, ?_, ?_, ?_, ?_, ?_, ?_⟩
  · show 0 ≤ (if 2 ≤ mA i then (1 : Int) else 0) ∧ (if 2 ≤ mA i then (1 : Int) else 0) ≤ 1
    split <;> omega
  · show 0 ≤ (if 2 ≤ mB i then (1 : Int) else 0) ∧ (if 2 ≤ mB i then (1 : Int) else 0) ≤ 1
    split <;> omega
  · show 0 ≤ (if 2 ≤ mA i then mA i - 2 else mA i) ∧ (if 2 ≤ mA i then mA i - 2 else mA i) ≤ 400
    split <;> omega
  · show 0 ≤ (if 2 ≤ mB i then mB i - 2 else mB i) ∧ (if 2 ≤ mB i then mB i - 2 else mB i) ≤ 400
    split <;> omega
  · show 0 ≤ allT inc (mA i) - u0 ∧ allT inc (mA i) - u0 ≤ _; omega
  · show 0 ≤ allT inc (mB i) - u1 ∧ allT inc (mB i) - u1 ≤ _; omega
theorem qsh {inc : Int} {i : Nat} {now u0 u1 : Int} (h : TI inc i now u0 u1) {t : Int} (ht : 0 ≤ t ∧ t ≤ 9000) : GoodC (crT inc) (clkT inc i now u0 u1) (now + t) := by
  obtain ⟨a, b⟩ := h.ab; have ra := qfX h.inc a; have rb := qfX h.inc b; have h0 := h.u0; have h1 := h.u1; have hn := h.now; have hi := h.ile; refine ⟨crT_ok h.inc, clkT_vc h, by show now ≤ now + t; omega, by omega, rfl, rfl, ?_⟩; show max 0 (now + t - now - 0) ≤ leftT _; unfold leftT; split
  · show _ ≤ allT inc (mA i) - u0; omega
  · show _ ≤ allT inc (mB i) - u1; omega
theorem qvz {inc : Int} {i : Nat} {now u0 u1 : Int} (h : TI inc i now u0 u1) (hi : i < 6) {t : Int} (ht : 0 ≤ t ∧ t ≤ 9000) :
    qeb (crT inc) (clkT inc i now u0 u1) (now + t) = clkT inc (i + 1) (now + t) (if par i = 0 then u0 + t else u0) (if par i = 0 then u1 else u1 + t) := by
  have h0 := h.u0; have h1 := h.u1; have hinc := h.inc
  have hc : i = 0 ∨ i = 1 ∨ i = 2 ∨ i = 3 ∨ i = 4 ∨ i = 5 := by omega
  have ha := h.ab; have ra := qfX h.inc ha.1; have rb := qfX h.inc ha.2; unfold qeb clkT; rcases hc with rfl | rfl | rfl | rfl | rfl | rfl
  all_goals
    simp [par, mA, mB, perAt, allT] at *
    try first | rw [if_neg (by decide)] | rw [if_pos (by decide)]
    try simp only [Prod.mk.injEq, and_true, true_and]
    omega
theorem quX {inc : Int} {i : Nat} {now u0 u1 : Int} (h : TI inc i now u0 u1) (p : Int) (hp : p = 0 ∨ p = 1) : qgl (crT inc) (clkT inc i now u0 u1) p now = some ((if p = 0 then allT inc (mA i) - u0 else allT inc (mB i) - u1), (0, ())) := by
  have hg := qsh h (t := 0) ⟨by decide, by decide⟩; rw [Int.add_zero] at hg; obtain ⟨a, b⟩ := h.ab; have ra := qfX h.inc a; have rb := qfX h.inc b; have h0 := h.u0; have h1 := h.u1; unfold qgl; rw [qoJ (by show (2 : Nat) ≤ _; decide) hg, Option.bind_some, qrK (crT inc) _ now (by show _ ≤ now - now; omega) (by show now - now ≤ _; omega) ⟨Int.le_refl _, by show (0 : Int) ≤ _; decide⟩]; have hu : (bif (clkT inc i now u0 u1).2.2.2.2.2.1 then (0 : Int) else max 0 (now - (clkT inc i now u0 u1).2.2.2.2.1 - (crT inc).2.2.1)) = 0 := by
    show max 0 (now - now - 0) = 0; omega
  rw [hu]; rcases hp with rfl | rfl
  · rw [if_pos rfl]
    have w : w64 ((allT inc (mA i) - u0) - 0) = allT inc (mA i) - u0 := by rw [qe (by omega) (by omega)]; omega
    show (bif _ then req _ (some (w64 ((allT inc (mA i) - u0) - 0), _)) else some (allT inc (mA i) - u0, _)) = _; rw [w]
    cases ((decide ((clkT inc i now u0 u1).2.2.2.2.2.2.1 < 0)) && ((0 : Int) == (clkT inc i now u0 u1).2.2.2.1)) <;> rfl
  · rw [if_neg (by decide)]
    have w : w64 ((allT inc (mB i) - u1) - 0) = allT inc (mB i) - u1 := by rw [qe (by omega) (by omega)]; omega
    show (bif _ then req _ (some (w64 ((allT inc (mB i) - u1) - 0), _)) else some (allT inc (mB i) - u1, _)) = _; rw [w]
    cases ((decide ((clkT inc i now u0 u1).2.2.2.2.2.2.1 < 0)) && ((1 : Int) == (clkT inc i now u0 u1).2.2.2.1)) <;> rfl
theorem made_T : ∀ i, i < 6 → (bif (par i == (0 : Int)) then w64 (getD' [mA i, mB i] (par i).toNat 0 + 1) else mA i) = mA (i + 1) ∧ (bif (par i == (1 : Int)) then w64 (getD' [mA i, mB i] (par i).toNat 0 + 1) else mB i) = mB (i + 1) := by decide +kernel
theorem used_T {i : Nat} (hi : i < 6) {u0 u1 t : Int} (h0 : 0 ≤ u0 ∧ u0 ≤ 100000) (h1 : 0 ≤ u1 ∧ u1 ≤ 100000) (ht : 0 ≤ t ∧ t ≤ 9000) :
    (bif (par i == (0 : Int)) then w64 (getD' [u0, u1] (par i).toNat 0 + t) else u0) = (if par i = 0 then u0 + t else u0) ∧ (bif (par i == (1 : Int)) then w64 (getD' [u0, u1] (par i).toNat 0 + t) else u1) = (if par i = 0 then u1 else u1 + t) := by
  have hp := qo7 i; by_cases c : par i = 0
  · rw [c]; refine ⟨?_, rfl⟩; show w64 (u0 + t) = u0 + t; exact qe (by omega) (by omega)
  · have c1 : par i = 1 := by omega
    rw [c1]; refine ⟨rfl, ?_⟩; show w64 (u1 + t) = u1 + t; exact qe (by omega) (by omega)
theorem got_T {inc a : Int} (h : 0 ≤ inc ∧ inc ≤ 999) (ha : 0 ≤ a ∧ a ≤ 3) : (bif decide (a ≥ (2 : Int)) then some (((w64 (w64 (50000 + w64 (inc * a)) + 90000)), ()), ()) else some (((w64 (50000 + w64 (inc * a))), ()), ())) = some ((allT inc a, ()), ()) := by
  have hm := qvn h ha; rw [qe (n := inc * a) (by omega) (by omega), qe (n := 50000 + inc * a) (by omega) (by omega), qe (n := 50000 + inc * a + 90000) (by omega) (by omega)]; unfold allT; by_cases c : 2 ≤ a
  · rw [decide_eq_true (show a ≥ 2 from c), if_pos c]; rfl
  · rw [decide_eq_false (show ¬ a ≥ 2 from c), if_neg c, Int.add_zero]; rfl
theorem TI.next {inc : Int} {i : Nat} {now u0 u1 : Int} (h : TI inc i now u0 u1) (hi : i < 6) {t : Int} (ht : 0 ≤ t ∧ t ≤ 9000) : TI inc (i + 1) (now + t) (if par i = 0 then u0 + t else u0) (if par i = 0 then u1 else u1 + t) := by
  have h0 := h.u0; have h1 := h.u1; have hn := h.now; have e : (par i = 0 → mA (i + 1) = mA i + 1 ∧ mB (i + 1) = mB i) ∧ (par i ≠ 0 → mA (i + 1) = mA i ∧ mB (i + 1) = mB i + 1) := by
    unfold par mA mB; omega
  refine ⟨h.inc, hi, by omega, ?_, ?_⟩
  · by_cases c : par i = 0
    · rw [if_pos c, (e.1 c).1]; omega
    · rw [if_neg c, (e.2 c).1]; omega
  · by_cases c : par i = 0
    · rw [if_pos c, (e.1 c).2]; omega
    · rw [if_neg c, (e.2 c).2]; omega
structure MT (inc : Int) (i : Nat) (now u0 u1 : Int) (m : MS) : Prop where
  t : TI inc i now u0 u1
  ok : MOK gamehalltopH10Tic (crT inc) m
  g : m.g = GT i
  c : m.c = clkT inc i now u0 u1
  pm : m.pm = []
  last : m.last = now
  j : m.j.length = i + 1
  res : m.res = 0
theorem MT.next {inc : Int} {i : Nat} {now u0 u1 : Int} {m : MS} (h : MT inc i now u0 u1 m) (hi : i < 6) {t : Int} (ht : 0 ≤ t ∧ t ≤ 9000) {e : Ev} (he : e = (0, (par i, (0, (now + t, (mvT i, ())))))) :
    qcl (tupM gamehalltopH10Tic (crT inc) m) e = some (tupM gamehalltopH10Tic (crT inc) (doM gamehalltopH10Tic (crT inc) m e).1, 0) ∧ MT inc (i + 1) (now + t) (if par i = 0 then u0 + t else u0) (if par i = 0 then u1 else u1 + t) (doM gamehalltopH10Tic (crT inc) m e).1 := by
  obtain ⟨k1, k2⟩ := gt_ok i hi; have hn := h.t.now; have hp := qo7 i
  have hlen : m.g.2.length = i := by rw [h.g]; exact gt_len i
  have hev : EvR e := by
    rw [he]
    have hs : ∀ j, j < 6 → 0 ≤ sqT j ∧ sqT j ≤ 5 := by decide
    have := hs i hi; refine ⟨⟨by show _ ≤ (0 : Int); decide, by show (0 : Int) ≤ _; decide⟩, ⟨by show _ ≤ par i; omega, by show par i ≤ _; omega⟩, ⟨by show _ ≤ (0 : Int); decide, by show (0 : Int) ≤ _; decide⟩, ⟨by show _ ≤ now + t; omega, by show now + t ≤ _; omega⟩, ⟨by show _ ≤ (-1 : Int); decide, by show (-1 : Int) ≤ _; decide⟩, ⟨by show _ ≤ sqT i; omega, by show sqT i ≤ _; omega⟩, ⟨by show _ ≤ (0 : Int); decide, by show (0 : Int) ≤ _; decide⟩⟩
  obtain ⟨d1, d2⟩ := do_spec h.ok hev; have hmv := quF h.ok (e := e) h.res (by rw [he]) (by rw [he, hlen]) (by rw [he, h.last]; show now ≤ now + t; omega) (by rw [h.j]; omega) (by rw [he, h.c]; exact qsh h.t ht) (by rw [he, h.g]; exact k1) (by omega) h.pm; refine ⟨by rw [d1, hmv.ok], h.t.next hi ht, d2, ?_, ?_, hmv.pm, ?_, ?_, ?_⟩
  · rw [hmv.g, h.g, he]; rfl
  · rw [hmv.c, h.c, he]; exact qvz h.t hi ht
  · rw [hmv.last, he]
  · rw [hmv.j, h.j]
  · rw [hmv.res, h.g, he]; exact k2
theorem w_tm (x : Int) (hx : -9223372036854775808 ≤ x ∧ x ≤ 9223372036854775807) (n : Nat) (h0 : 0 < n) (h1 : n ≤ 10000) : 0 ≤ (w64 (x.tmod (n : Int) + (n : Int))).tmod (n : Int) ∧ (w64 (x.tmod (n : Int) + (n : Int))).tmod (n : Int) < (n : Int) := by
  have a := Int.tmod_lt_of_pos x (show (0 : Int) < (n : Int) by omega); have b := Int.lt_tmod_of_pos x (show (0 : Int) < (n : Int) by omega); rw [qe (by omega) (by omega)]; exact ⟨Int.tmod_nonneg _ (by omega), Int.tmod_lt_of_pos _ (by omega)⟩
def incOf (x : Int) : Int := (w64 (x.tmod 1000 + 1000)).tmod 1000
def qfO (times : List Int) (i : Nat) : Int := if i < times.length then (w64 ((times.getD i 0).tmod 9000 + 9000)).tmod 9000 else 7
theorem inc_rng (x : Int) (hx : -9223372036854775808 ≤ x ∧ x ≤ 9223372036854775807) : 0 ≤ incOf x ∧ incOf x ≤ 999 := by
  have : 0 ≤ incOf x ∧ incOf x < 1000 := w_tm x hx 1000 (by decide) (by decide); omega
theorem time_rng (times : List Int) (h : ∀ x ∈ times, -9223372036854775808 ≤ x ∧ x ≤ 9223372036854775807) (i : Nat) : 0 ≤ qfO times i ∧ qfO times i ≤ 9000 := by
  unfold qfO; split
  · rename_i c; rw [qkS times i 0 c]; have : 0 ≤ (w64 (times[i].tmod 9000 + 9000)).tmod 9000 ∧ (w64 (times[i].tmod 9000 + 9000)).tmod 9000 < 9000 := w_tm times[i] (h _ (List.getElem_mem c)) 9000 (by decide) (by decide); omega
  · omega
theorem sq_in : ∀ i : Nat, i < 6 → inb (i : Int) ([(0 : Int), 1, 4, 2, 3, 5]).length = true ∧ decide ((i : Int) < ((([(0 : Int), 1, 4, 2, 3, 5]).length : Nat) : Int)) = true ∧ getD' ([(0 : Int), 1, 4, 2, 3, 5]) ((i : Int)).toNat 0 = sqT i ∧ inb (par i) 2 = true := by decide
abbrev StL5 := (Int × Int × Unit) × (ByteArray × Int × Int × (List (Int × Int × Int × (List (Int × Int × Int × Int × Unit)) × Unit)) × (List Int) × Bool × Bool × (List (Int × Int × Int × Bool × Unit)) × Int × Int × Int × (List (Int × Int × Unit)) × Int × Int × Game × (List Mv) × Int × Int × Int × Int × Int × Int × Int × Int × Int × Int × Bool × Int × Int × Int × Int × Int × Int × Int × (List PM) × Int × Jn × Unit) × (Int × Int × Unit) × (Int × Int × Unit) × Unit
def stL (inc : Int) (i : Nat) (now u0 u1 : Int) (m : MS) : StL5 := ((now, ((i : Int), ())), (flatT (tupM gamehalltopH10Tic (crT inc) m), ((u0, (u1, ())), ((mA i, (mB i, ())), ()))))
theorem tc_L6 (x : Int) (times : List Int) {inc : Int} (hinc : incOf x = inc) {i : Nat} {now u0 u1 : Int} {m m' : MS} (h : TI inc i now u0 u1) (hi : i < 6) {t : Int} (ht : 0 ≤ t ∧ t ≤ 9000) (z : qhg × Int) (hz : z.1 = tupM gamehalltopH10Tic (crT inc) m')
    (hm' : m'.c = clkT inc (i + 1) (now + t) (if par i = 0 then u0 + t else u0) (if par i = 0 then u1 else u1 + t)) :
    iterW (qC (stL inc i now u0 u1 m) x z ((t, ()), ())) (((0 : Int), ()), ()) = some (.inl ((), ())) := by
  subst hinc; have hn := h.next hi ht; obtain ⟨e0, e1⟩ := made_T i hi; have h0 := h.u0; have h1 := h.u1; have hab := h.ab; obtain ⟨f0, f1⟩ := used_T hi (u0 := u0) (u1 := u1) (t := t) (by omega) (by omega) ht; have hnow := h.now; have hil := h.ile; have wn : w64 (now + t) = now + t := qe (by omega) (by omega); have hab' := hn.ab; have ra := qfX h.inc hab'.1; have rb := qfX h.inc hab'.2; have hu0 := hn.u0; have hu1 := hn.u1; have s0 : qC (stL (incOf x) i now u0 u1 m) x z ((t, ()), ()) (((0 : Int), ()), ()) = some (.inl (((1 : Int), ()), ())) := by
    have hl := quX hn 0 (.inl rfl); unfold qC; simp only [show (stL (incOf x) i now u0 u1 m).1.2.1 = (i : Int) from rfl, show (stL (incOf x) i now u0 u1 m).2.2.2.1.1 = mA i from rfl, show (stL (incOf x) i now u0 u1 m).2.2.2.1.2.1 = mB i from rfl, show (stL (incOf x) i now u0 u1 m).2.2.1.1 = u0 from rfl, show (stL (incOf x) i now u0 u1 m).2.2.1.2.1 = u1 from rfl, show (stL (incOf x) i now u0 u1 m).1.1 = now from rfl, qqJ, e0, e1, f0, f1, wn, hz]; rw [show decide ((0 : Int) < 2) = true from rfl, cond_true, show inb (0 : Int) 2 = true from rfl, qc, qc]; refine (congrArg (fun z => Option.bind z _) (got_T h.inc hab'.1)).trans ?_; rw [Option.bind_some]
    have hl' : qgl (crT (incOf x)) m'.c 0 (now + t) = some (allT (incOf x) (mA (i + 1)) - (if par i = 0 then u0 + t else u0), (0, ())) := by rw [hm']; exact hl
    refine (congrArg (fun z => Option.bind z _) hl').trans ?_; rw [Option.bind_some]; have hw : w64 ((allT (incOf x) (mA (i + 1)) - (if par i = 0 then u0 + t else u0)) + (if par i = 0 then u0 + t else u0)) = allT (incOf x) (mA (i + 1)) := by
      rw [Int.sub_add_cancel]; exact qe (by omega) (by omega)
    refine (congrArg (fun z => bif (((0 : Int) != 0) || (z != allT (incOf x) (mA (i + 1)))) then _ else _) hw).trans ?_; rw [bne_self_eq_false, bne_self_eq_false]; rfl
  have s1 : qC (stL (incOf x) i now u0 u1 m) x z ((t, ()), ()) (((1 : Int), ()), ()) = some (.inl (((2 : Int), ()), ())) := by
    have hl := quX hn 1 (.inr rfl); unfold qC; simp only [show (stL (incOf x) i now u0 u1 m).1.2.1 = (i : Int) from rfl, show (stL (incOf x) i now u0 u1 m).2.2.2.1.1 = mA i from rfl, show (stL (incOf x) i now u0 u1 m).2.2.2.1.2.1 = mB i from rfl, show (stL (incOf x) i now u0 u1 m).2.2.1.1 = u0 from rfl, show (stL (incOf x) i now u0 u1 m).2.2.1.2.1 = u1 from rfl, show (stL (incOf x) i now u0 u1 m).1.1 = now from rfl, qqJ, e0, e1, f0, f1, wn, hz]; rw [show decide ((1 : Int) < 2) = true from rfl, cond_true, show inb (1 : Int) 2 = true from rfl, qc, qc]; refine (congrArg (fun z => Option.bind z _) (got_T h.inc hab'.2)).trans ?_; rw [Option.bind_some]
    have hl' : qgl (crT (incOf x)) m'.c 1 (now + t) = some (allT (incOf x) (mB (i + 1)) - (if par i = 0 then u1 else u1 + t), (0, ())) := by rw [hm']; exact hl
    refine (congrArg (fun z => Option.bind z _) hl').trans ?_; rw [Option.bind_some]; have hw : w64 ((allT (incOf x) (mB (i + 1)) - (if par i = 0 then u1 else u1 + t)) + (if par i = 0 then u1 else u1 + t)) = allT (incOf x) (mB (i + 1)) := by
      rw [Int.sub_add_cancel]; exact qe (by omega) (by omega)
    refine (congrArg (fun z => bif (((0 : Int) != 0) || (z != allT (incOf x) (mB (i + 1)))) then _ else _) hw).trans ?_; rw [bne_self_eq_false, bne_self_eq_false]; rfl
  have s2 : qC (stL (incOf x) i now u0 u1 m) x z ((t, ()), ()) (((2 : Int), ()), ()) = some (.inr (.inl ((), ()))) := rfl; rw [qo s0, qo s1, qj s2]
theorem time_spec (times : List Int) (i : Nat) (hl : times.length ≤ 9223372036854775807) : (bif (decide ((i : Int) < ((times.length : Nat) : Int))) then (Option.bind (at? times (i : Int)) fun d48 => some ((((w64 ((d48.tmod (9000 : Int)) + (9000 : Int))).tmod (9000 : Int)), ()), ())) else some (((7 : Int), ()), ())) = some ((qfO times i, ()), ()) := by
  unfold qfO; by_cases c : i < times.length
  · rw [if_pos c, decide_eq_true (by omega), cond_true, qoE times i c, Option.bind_some, qkS times i 0 c]
  · rw [if_neg c, decide_eq_false (by omega), cond_false]
theorem tc_step (times : List Int) (x : Int) (hl : times.length ≤ 9223372036854775807) (hts : ∀ x ∈ times, -9223372036854775808 ≤ x ∧ x ≤ 9223372036854775807) {i : Nat} {now u0 u1 : Int} {m : MS} (h : MT (incOf x) i now u0 u1 m) (hi : i < 6) :
    ∃ m', qak times x (stL (incOf x) i now u0 u1 m) = some (.inl (stL (incOf x) (i + 1) (now + qfO times i) (if par i = 0 then u0 + qfO times i else u0) (if par i = 0 then u1 else u1 + qfO times i) m')) ∧
      MT (incOf x) (i + 1) (now + qfO times i) (if par i = 0 then u0 + qfO times i else u0) (if par i = 0 then u1 else u1 + qfO times i) m' := by
  have ht := time_rng times hts i; obtain ⟨d1, d2⟩ := h.next hi ht rfl; obtain ⟨q1, q2, q3, q4⟩ := sq_in i hi; obtain ⟨g1, g2⟩ := qoc d2.ok; have hnow := h.t.now; have hil := h.t.ile; have h0 := h.t.u0; have h1 := h.t.u1; have hab := h.t.ab; have wn : w64 (now + qfO times i) = now + qfO times i := qe (by omega) (by omega); obtain ⟨e0, e1⟩ := made_T i hi; obtain ⟨f0, f1⟩ := used_T hi (u0 := u0) (u1 := u1) (t := qfO times i) (by omega) (by omega) ht; refine ⟨_, ?_, d2⟩; unfold qak
  simp only [qab, agree_self, show (stL (incOf x) i now u0 u1 m).1.2.1 = (i : Int) from rfl, show (stL (incOf x) i now u0 u1 m).2.2.2.1.1 = mA i from rfl, show (stL (incOf x) i now u0 u1 m).2.2.2.1.2.1 = mB i from rfl, show (stL (incOf x) i now u0 u1 m).2.2.1.1 = u0 from rfl, show (stL (incOf x) i now u0 u1 m).2.2.1.2.1 = u1 from rfl, show (stL (incOf x) i now u0 u1 m).1.1 = now from rfl, qqJ, q1, q2, q3, q4, cond_true, qc, time_spec times i hl, Option.bind_some, wn, e0, e1, f0, f1]; refine (congrArg (fun z => Option.bind (Option.bind z _) _) d1).trans ?_; rw [Option.bind_some]; simp only [bne_self_eq_false, cond_false]; refine (congrArg (fun z => Option.bind (Option.bind z _) _) g1).trans ?_; rw [Option.bind_some]; refine (congrArg (fun z => Option.bind (Option.bind z _) _) g2).trans ?_; rw [Option.bind_some]; rw [tc_L6 x times rfl h.t hi ht _ rfl d2.c, Option.bind_some]
  simp only [Sum.elim_inl, Option.bind_some]; rw [qe (n := (i : Int) + 1) (by omega) (by omega)]; rfl
theorem tc_loop (times : List Int) (x : Int) (hl : times.length ≤ 9223372036854775807) (hts : ∀ x ∈ times, -9223372036854775808 ≤ x ∧ x ≤ 9223372036854775807) : ∀ (k i : Nat) (now u0 u1 : Int) (m : MS), i + k = 6 → MT (incOf x) i now u0 u1 m →
    ∃ now' u0' u1' m', MT (incOf x) 6 now' u0' u1' m' ∧ now' - u0' - u1' = now - u0 - u1 ∧ iterW (qak times x) (stL (incOf x) i now u0 u1 m) = some (.inl ((now', ()), (flatT (tupM gamehalltopH10Tic (crT (incOf x)) m'), ((u0', (u1', ())), ((mA 6, (mB 6, ())), ())))))
  | 0, i, now, u0, u1, m, hi, h => by
    have : i = 6 := by omega
    subst this; exact ⟨now, u0, u1, m, h, rfl, qj rfl⟩
  | k + 1, i, now, u0, u1, m, hi, h => by
    obtain ⟨m', e, h'⟩ := tc_step times x hl hts h (by omega); obtain ⟨n', a', b', m'', r1, r2, r3⟩ := tc_loop times x hl hts k (i + 1) _ _ _ m' (by omega) h'; refine ⟨n', a', b', m'', r1, ?_, by rw [qo e]; exact r3⟩; rw [r2]; by_cases c : par i = 0
    · rw [if_pos c, if_pos c]; omega
    · rw [if_neg c, if_neg c]; omega
theorem gamehalltopTopClocks_true (x b : Int) (times : List Int) (hx : Rng (.int .i64) x) (hb : Rng (.int .i64) b) (ht : Rng (.sl (.int .i64)) times) : qbW x b times = some true := by
  have hl : times.length ≤ 9223372036854775807 := ht.1; have hts : ∀ x ∈ times, -9223372036854775808 ≤ x ∧ x ≤ 9223372036854775807 := fun x hx => ht.2 x hx; have hinc := inc_rng x hx; have hbeg := inc_rng b hb; have z64 : I64 (incOf b) := ⟨by omega, by omega⟩; have hcr := crT_ok hinc; have hm := que (cr := crT (incOf x)) (now := incOf b) qdf (by show (2 : Nat) ≤ _; decide) qbC hcr ⟨hbeg.1, by omega⟩
  have h0 : qM gamehalltopH10Tic [qag gamehalltopH10Tic] = 0 := by decide +kernel
  have hn : newM gamehalltopH10Tic (crT (incOf x)) (incOf b) = rawM gamehalltopH10Tic (crT (incOf x)) (incOf b) := by
    unfold newM overM; rw [if_neg (fun q => q.2 h0)]
  have hMT : MT (incOf x) 0 (incOf b) 0 0 (newM gamehalltopH10Tic (crT (incOf x)) (incOf b)) := by
    rw [hn] at hm ⊢; refine ⟨⟨hinc, by decide, ⟨hbeg.1, by omega⟩, ⟨Int.le_refl _, by decide⟩, ⟨Int.le_refl _, by decide⟩⟩, hm, rfl, ?_, rfl, rfl, qqs _ _, rfl⟩; show startC (crT (incOf x)) (incOf b) = _; have hall : allT (incOf x) (mA 0) - 0 = 50000 := by
      show 50000 + incOf x * 0 + 0 - 0 = 50000; omega
    have hall2 : allT (incOf x) (mB 0) - 0 = 50000 := hall; unfold clkT; rw [hall, hall2]; rfl
  unfold qbW; simp only [qab, agree_self]; rw [qwd, Option.bind_some]; simp only [Bool.not_true, cond_false]; refine (congrArg (fun z => Option.bind z _) (qiH gamehalltopH10Tic qdf)).trans ?_; rw [if_pos qbC, Option.bind_some]; simp only [bne_self_eq_false, cond_false]; refine (congrArg (fun z => Option.bind (Option.bind z _) _) (qgr qiI)).trans ?_; rw [Option.bind_some, Option.bind_some]; simp only [bne_self_eq_false, cond_false]; refine (congrArg (fun z => Option.bind z _) (qp9 (crT (incOf x)) (incOf b) (by show (2 : Nat) ≤ _; decide))).trans ?_; rw [if_pos hcr, if_pos ⟨hbeg.1, by omega⟩, Option.bind_some]; simp only [bne_self_eq_false, cond_false]; refine (congrArg (fun z => Option.bind z _) (qgr qiI)).trans ?_; rw [Option.bind_some]
  refine (congrArg (fun z => Option.bind z _) (qqy hcr)).trans ?_; rw [Option.bind_some]; refine (congrArg (fun z => Option.bind z _) (qrP z64)).trans ?_; rw [Option.bind_some]; rw [show qQ (ByteArray.mk #[115, 116, 97, 114, 116, 32]) (numS (incOf b)) = true from (qmh z64).2, qc]; refine (congrArg (fun z => Option.bind z _) (qiv z64).1).trans ?_; rw [Option.bind_some]; refine (congrArg (fun z => Option.bind z _) (qvw (r := gamehalltopH10Tic) (cr := crT (incOf x)) (now := incOf b) qbC)).trans ?_; rw [Option.bind_some]; obtain ⟨now', u0', u1', m', r1, r2, r3⟩ := tc_loop times x hl hts 6 0 (incOf b) 0 0 _ rfl hMT; have e0 : mA 0 = 0 := rfl; have e1 : mB 0 = 0 := rfl; have e2 : (((0 : Nat) : Int)) = 0 := rfl; unfold stL at r3; rw [e0, e1, e2] at r3; generalize newM gamehalltopH10Tic (crT (incOf x)) (incOf b) = M at *
  refine (congrArg (fun z => Option.bind z _) r3).trans ?_; rw [Option.bind_some]; simp only [Sum.elim_inl]; have hu0 := r1.t.u0; have hu1 := r1.t.u1; have ha : mA 6 = 3 := rfl; have hb6 : mB 6 = 3 := rfl; show some (now' == w64 (w64 (incOf b + u0') + u1')) = some true; rw [qe (n := incOf b + u0') (by omega) (by omega), qe (by omega) (by omega)]; congr 1; rw [beq_iff_eq]; omega
end Go.Proofs.YtijkabgijfdpfaaGreatDoor
