/- Several texts in one: MatchD, PremM, MatchE, ClaimA, ClaimM, MatchF, MatchG, AbleM, ModelA, ModelB, ModelX, MatchH, ModelY, MatchI. -/
import Derived.Test.YtijkabgijfdpfaaGreatDoorMAF
import Derived.Lib.ItoaLen
import Derived.Lib.AtoiAll
import Derived.Lib.ItoaMem
import Derived.Laws.RangeString
import Derived.Test.YtijkabgijfdpfaaGreatDoorMAE
namespace Go.Proofs.YtijkabgijfdpfaaGreatDoor
open Go.Den
set_option linter.unusedVariables false
set_option linter.unusedSimpArgs false
set_option maxRecDepth 100000

theorem qod {u : Nat} (h : u < 10) : (UInt8.ofNat (48 + u)).toNat = 48 + u := by
  rw [UInt8.toNat_ofNat']; omega
theorem quX (u : Nat) : ∀ c ∈ Go.Lib.decDigits u, 48 ≤ c.toNat ∧ c.toNat ≤ 57 := by
  induction u using Nat.strongRecOn with
  | _ u ih =>
    intro c hc; rw [Go.Lib.decDigits] at hc; split at hc
    · rename_i h; rw [List.mem_singleton.1 hc, qod h]; omega
    · rename_i h; rcases List.mem_append.1 hc with hc | hc
      · exact ih (u / 10) (by omega) c hc
      · rw [List.mem_singleton.1 hc, qod (by omega)]; omega
theorem dec_ne (u : Nat) : Go.Lib.decDigits u ≠ [] := by
  rw [Go.Lib.decDigits]
  split <;> simp
theorem parse_dec (u : Nat) (hu : u < 18446744073709551616) : ∀ r, Go.Lib.parseUint10 0 (Go.Lib.decDigits u ++ r) = Go.Lib.parseUint10 u r := by
  induction u using Nat.strongRecOn with
  | _ u ih =>
    intro r; rw [Go.Lib.decDigits]; split
    · rename_i h; rw [List.singleton_append]
      conv => lhs; unfold Go.Lib.parseUint10
      rw [qod h, if_pos (by omega), if_neg (by omega), if_neg (by omega)]; congr 1; omega
    · rename_i h; rw [List.append_assoc, ih (u / 10) (by omega) (by omega), List.singleton_append]
      conv => lhs; unfold Go.Lib.parseUint10
      rw [qod (by omega), if_pos (by omega), if_neg (by omega), if_neg (by omega)]; congr 1; omega
theorem mag_dec (u : Nat) (hu : u < 18446744073709551616) : Go.Lib.parseMag (Go.Lib.decDigits u) = .ok u := by
  unfold Go.Lib.parseMag; rw [if_neg (dec_ne u)]; have := parse_dec u hu []; rw [List.append_nil] at this; rw [this]; rfl
def I64 (n : Int) : Prop := -9223372036854775808 ≤ n ∧ n ≤ 9223372036854775807
theorem atoi_itoa {n : Int} (h : I64 n) : Go.Lib.atoiAll (Go.Lib.itoa n) = .ok n := by
  unfold Go.Lib.itoa; obtain ⟨h0, h1⟩ := h; by_cases c : n < 0
  · rw [if_pos c]; unfold Go.Lib.atoiAll; simp only [show (45 : UInt8).toNat = 45 from rfl]; rw [if_pos (by simp), mag_dec _ (by omega)]; simp only [not_true_eq_false, false_and, if_false, true_and]; rw [if_neg (by omega)]; simp only [if_true]; congr 1; omega
  · rw [if_neg c]
    cases hd : Go.Lib.decDigits n.toNat with
    | nil => exact absurd hd (dec_ne _)
    | cons a r =>
      have ha := quX n.toNat a (by rw [hd]; exact List.mem_cons_self); unfold Go.Lib.atoiAll; simp only; rw [if_neg (by omega), ← hd, mag_dec _ (by omega)]; simp only; rw [if_neg (by omega), if_neg (by omega), if_neg (by omega)]; congr 1; omega
def numS (n : Int) : ByteArray := ⟨(Go.Lib.itoa n).toArray⟩
theorem qos {n : Int} (h : I64 n) : itoaS n = some (numS n) := by
  unfold itoaS; rw [decide_eq_true h.1, decide_eq_true h.2]; rfl
theorem qsz (n : Int) : (numS n).data.toList = Go.Lib.itoa n := by unfold numS; simp
theorem qvd (n : Int) : ∀ c ∈ (numS n).data.toList, c.toNat = 45 ∨ 48 ≤ c.toNat ∧ c.toNat ≤ 57 := by
  rw [qsz]; intro c hc; unfold Go.Lib.itoa at hc; split at hc
  · rcases List.mem_cons.1 hc with rfl | hc
    · exact .inl rfl
    · exact .inr (quX _ c hc)
  · exact .inr (quX _ c hc)
theorem qrH {n : Int} (h : I64 n) : (numS n).size ≤ 21 := by
  rw [qhR, qsz]; exact Go.Lib.itoa_length_le n h.1 h.2
theorem atoi_num {n : Int} (h : I64 n) : atoiS (numS n) = some (n, (false, ())) := by
  unfold atoiS; rw [Nat.ble_eq_true_of_le (by have := qrH h; omega), qsz, atoi_itoa h]; rfl
def OKT (s : ByteArray) : Prop := s.size ≤ 200 ∧ ∀ c ∈ s.data.toList, 32 ≤ c.toNat ∧ c.toNat ≤ 126
theorem qvX {s : ByteArray} (h : OKT s) : qak s = 0 := by
  unfold qak; rw [if_neg (by have := h.1; omega)]; have : ∀ (f pos : Nat), Go.Lib.idxFuncFrom qio true s f pos = -1 := by
    intro f
    induction f with
    | zero => intro pos; rfl
    | succ f ih =>
      intro pos; unfold Go.Lib.idxFuncFrom; by_cases hp : pos < s.size
      · have hm := h.2 s[pos] (by
          rw [List.mem_iff_getElem]
          exact ⟨pos, by rw [← qhR]; exact hp, rfl⟩)
        have hd := decode_ascii s pos hp (by omega); rw [if_pos hp, hd, ih]; have : qio (s[pos]'hp).toNat = false := by
          unfold qio; simp only [Bool.or_eq_false_iff, decide_eq_false_iff_not]; omega
        rw [this]; rfl
      · rw [if_neg hp]
  unfold Go.Lib.idxFunc; rw [this]; rfl
abbrev Ev := Int × Int × Int × Int × Mv × Unit
structure EvR (e : Ev) : Prop where
  kind : I64 e.1
  player : I64 e.2.1
  n : I64 e.2.2.1
  now : I64 e.2.2.2.1
  a : I64 e.2.2.2.2.1.1
  b : I64 e.2.2.2.2.1.2.1
  c : I64 e.2.2.2.2.1.2.2.1
def evL (e : Ev) : List Int := [e.1, e.2.1, e.2.2.1, e.2.2.2.1, e.2.2.2.2.1.1, e.2.2.2.2.1.2.1, e.2.2.2.2.1.2.2.1]
theorem EvR.all {e : Ev} (h : EvR e) : ∀ n ∈ evL e, I64 n := by
  intro n hn; simp only [evL, List.mem_cons, List.not_mem_nil, or_false] at hn; rcases hn with rfl | rfl | rfl | rfl | rfl | rfl | rfl
  · exact h.kind
  · exact h.player
  · exact h.n
  · exact h.now
  · exact h.a
  · exact h.b
  · exact h.c
def qej (e : Ev) : ByteArray := joinB 32 ((evL e).map numS)
theorem qj9 (e : Ev) (h : EvR e) : ((evL e).map numS).length = 7 ∧ ∀ x ∈ (evL e).map numS, x.size ≤ 21 := by
  refine ⟨rfl, fun x hx => ?_⟩; obtain ⟨n, hn, rfl⟩ := List.mem_map.1 hx; exact qrH (h.all n hn)
theorem qmD (e : Ev) (h : EvR e) : (qej e).size ≤ 154 := by
  have := qrk 32 21 ((evL e).map numS) (qj9 e h).2; rw [(qj9 e h).1] at this; exact this
theorem qqG (e : Ev) (h : EvR e) : qgi e = some (qej e) := by
  unfold qgi; have step : ∀ (i : Nat) (hi : i < 7) (l : List ByteArray), l.length ≤ 7 → qcO e ((l, (i : Int), ()), ()) = some (.inl ((l ++ [numS ((evL e)[i]'hi)], ((i + 1 : Nat) : Int), ()), ())) := by
    intro i hi l hl; unfold qcO; have hg : getD' [e.1, e.2.1, e.2.2.1, e.2.2.2.1, e.2.2.2.2.1.1, e.2.2.2.2.1.2.1, e.2.2.2.2.1.2.2.1] ((i : Int)).toNat (0 : Int) = (evL e)[i]'hi := by
      rw [Int.toNat_natCast]; show getD' (evL e) i 0 = _; rw [gd_eq (evL e) i hi]
    have hn : I64 ((evL e)[i]'hi) := h.all _ (List.getElem_mem (l := evL e) hi); simp only [show decide ((i : Int) < 7) = true by simp; omega, cond_true]; rw [show inb (i : Int) 7 = true from inb_iff.2 ⟨by omega, by omega⟩, qb, hg, qos hn, Option.bind_some, qI (by simp only [List.length_cons, List.length_nil]; omega), qb, qf (by omega) (by omega)]; rfl
  have all : ∀ (k i : Nat), i + k = 7 → iterW (qcO e) ((((evL e).take i).map numS, (i : Int), ()), ()) = some (((evL e).map numS, ()), ()) := by
    intro k
    induction k with
    | zero =>
      intro i hi
      have : i = 7 := by omega
      subst this; refine qk ?_; rw [List.take_of_length_le (by exact Nat.le_refl _)]; rfl
    | succ k ih =>
      intro i hi
      have hi7 : i < 7 := by omega
      rw [qm (step i hi7 _ (by rw [List.length_map, List.length_take]; show min i 7 ≤ 7; omega))]; have := ih (i + 1) (by omega); rw [List.take_succ_eq_append_getElem (show i < (evL e).length from hi7), List.map_append] at this; exact this
  have h0 := all 7 0 (by omega); rw [List.take_zero] at h0; have h0' : iterW (qcO e) ((([] : List ByteArray), (0 : Int), ()), ()) = _ := h0; rw [h0', Option.bind_some]; have hsz := qmD e h; have hj := qw0 32 ((evL e).map numS) (by rw [(qj9 e h).1]; omega) (by unfold qej at hsz; omega); have hj' : joinS ((((evL e).map numS, ()), ()) : (List ByteArray × Unit) × Unit).1.1 (ByteArray.mk #[32]) = some (qej e) := hj; rw [hj']; rfl
theorem qvG (c d : UInt8) : ∀ l : List ByteArray, d ∈ (joinB c l).data.toList → d = c ∨ ∃ x ∈ l, d ∈ x.data.toList
  | [], h => by rw [qtz] at h; cases h
  | [x], h => by rw [qpf] at h; exact .inr ⟨x, by simp, h⟩
  | x :: y :: l, h => by
    rw [qmv, qkY, qkY] at h; rcases List.mem_append.1 h with h | h
    · rcases List.mem_append.1 h with h | h
      · exact .inr ⟨x, by simp, h⟩
      · exact .inl (List.mem_singleton.1 h)
    · rcases qvG c d (y :: l) h with h | ⟨z, hz, h⟩
      · exact .inl h
      · exact .inr ⟨z, List.mem_cons_of_mem _ hz, h⟩
theorem entry_ok (e : Ev) (h : EvR e) : OKT (qej e) := by
  refine ⟨by have := qmD e h; omega, fun c hc => ?_⟩; rcases qvG 32 c _ hc with rfl | ⟨x, hx, hc⟩
  · decide
  · obtain ⟨n, _, rfl⟩ := List.mem_map.1 hx; have := qvd n c hc; omega
abbrev Jn := List (ByteArray × Int × Unit)
noncomputable def sumJ (b : Int) (s : ByteArray) : Int := (qdx b s).getD 0
theorem qwt (b : Int) (s : ByteArray) (hs : s.size ≤ 1000000) : qdx b s = some (sumJ b s) := by
  have : ∃ v, qdx b s = some v := by
    unfold qdx; have key : ∀ (k i : Nat) (h : Int), i + k = s.size → ∃ h', iterW (qb0 s) ((h, (i : Int), ()), ()) = some ((h', ()), ()) := by
      intro k
      induction k with
      | zero =>
        intro i h hi
        have : i = s.size := by omega
        subst this; refine ⟨h, qk ?_⟩; unfold qb0; simp
      | succ k ih =>
        intro i h hi; obtain ⟨c, hc⟩ : ∃ c, strAt s (i : Int) = some c := by
          have hi2 : i < s.size := by omega
          refine ⟨s[i], ?_⟩; unfold strAt; rw [show decide ((0 : Int) ≤ (i : Int)) = true by simp, cond_true, Int.toNat_natCast]; simp [hi2]
        have e : qb0 s ((h, (i : Int), ()), ()) = some (.inl ((wu64 ((ixor .u64 h (wu64 ((c.toNat : Nat) : Int))) * 1099511628211), ((i + 1 : Nat) : Int), ()), ())) := by
          unfold qb0; simp only [show decide ((i : Int) < ((s.size : Nat) : Int)) = true by simp; omega, cond_true]; rw [hc, Option.bind_some, qf (by omega) (by omega)]; rfl
        rw [qm e]; exact ih (i + 1) _ (by omega)
    obtain ⟨h', hh⟩ := key s.size 0 (ixor .u64 b 14695981039346656037) (by omega); have hh' : iterW (qb0 s) (((ixor .u64 b 14695981039346656037), (0 : Int), ()), ()) = _ := hh; rw [hh', Option.bind_some]; exact ⟨_, rfl⟩
  obtain ⟨v, hv⟩ := this; unfold sumJ; rw [hv]; rfl
def lastJ (l : Jn) : Int := match l.getLast? with
  | some x => x.2.1
  | none => 0
theorem qq5 (l : Jn) (hl : l.length ≤ 1000000) : qdv l = some (lastJ l) := by
  unfold qdv lastJ; by_cases h : l = []
  · subst h; rfl
  · have h0 : 0 < l.length := List.length_pos_iff.2 h; rw [beq_f (by omega), cond_false, qf (by omega) (by omega), show ((l.length : Nat) : Int) - 1 = ((l.length - 1 : Nat) : Int) by omega, qsg l _ (by omega), Option.bind_some, List.getLast?_eq_getElem?, List.getElem?_eq_getElem (by omega)]
def JOK (l : Jn) : Prop := l.length ≤ 1000 ∧ ∀ i (hi : i < l.length), OKT l[i].1 ∧ l[i].2.1 = sumJ (lastJ (l.take i)) l[i].1
theorem good_ok {l : Jn} (h : JOK l) : qgT l = some ((l.length : Nat) : Int) := by
  unfold qgT; have hlen := h.1; have step : ∀ i (hi : i < l.length), qbr l (((i : Int), ()), ()) = some (.inl ((((i + 1 : Nat) : Int), ()), ())) := by
    intro i hi; obtain ⟨h1, h2⟩ := h.2 i hi; unfold qbr; have hne : ((i : Int) == 1000) = false := beq_f (by omega); simp only [ltd l i hi, cond_true]; rw [qsg l i hi, Option.bind_some]; have hb : qt 0 (i : Int) l.length = true := by
      simp only [qt, Bool.and_eq_true, decide_eq_true_eq]; omega
    simp only [hne, Bool.not_false, imp, cond_true, hb, qb, gopt, Int.toNat_natCast, List.drop_zero]; rw [qq5 _ (by rw [List.length_take]; omega), Option.bind_some]; have hw : qd6 (lastJ (l.take i)) l[i] = some 0 := by
      unfold qd6; rw [qvX h1, show ((0 : Int) != 0) = false from rfl, cond_false, qwt _ _ (by have := h1.1; omega), Option.bind_some, h2, bne_f rfl, cond_false]
    rw [hw, Option.bind_some, qf (by omega) (by omega)]; rfl
  have key : ∀ (k i : Nat), i + k = l.length → iterW (qbr l) (((i : Int), ()), ()) = some (.inl ((), ())) := by
    intro k
    induction k with
    | zero =>
      intro i hi
      have : i = l.length := by omega
      subst this; refine qk ?_; unfold qbr; simp
    | succ k ih =>
      intro i hi; rw [qm (step i (by omega))]; exact ih (i + 1) (by omega)
  have h0 := key l.length 0 (by omega); have h0' : iterW (qbr l) (((0 : Int), ()), ()) = _ := h0; rw [h0', Option.bind_some, Sum.elim_inl]
theorem check_okJ {l : Jn} (h : JOK l) : qfD l = some 0 := by
  unfold qfD; have := h.1; rw [show decide (((l.length : Nat) : Int) > 1000) = false by rw [decide_eq_false_iff_not]; omega, cond_false, good_ok h, Option.bind_some, show decide (((l.length : Nat) : Int) < ((l.length : Nat) : Int)) = false by simp, cond_false]
theorem cloneJ (s : Jn) (h : s.length ≤ 1000000) : qS s = some s := by
  unfold qS; have : room (([] : Jn).length + s.length) 24 = true := qI (by simp; omega); rw [this]
  cases s with
  | nil => simp [qb, agree_self]
  | cons a l => simp [qb]
noncomputable def nextJ (l : Jn) (s : ByteArray) : Jn := l ++ [(s, (sumJ (lastJ l) s, ()))]
theorem qrj {l : Jn} (h : JOK l) (hl : l.length < 1000) {s : ByteArray} (hs : OKT s) : qap l s = some (nextJ l s, (0, ())) ∧ JOK (nextJ l s) := by
  have hlen := h.1; constructor
  · unfold qap; rw [check_okJ h, Option.bind_some, show ((0 : Int) != 0) = false from rfl, cond_false, qvX hs, show ((0 : Int) != 0) = false from rfl, cond_false, beq_f (by omega), cond_false, cloneJ l (by omega), Option.bind_some, qq5 l (by omega), Option.bind_some, qwt _ _ (by have := hs.1; omega), Option.bind_some, qI (by simp only [List.length_cons, List.length_nil]; omega), qb]; rfl
  · refine ⟨by unfold nextJ; rw [List.length_append, List.length_singleton]; omega, fun i hi => ?_⟩; unfold nextJ at hi ⊢; rw [List.length_append, List.length_singleton] at hi; by_cases c : i < l.length
    · rw [List.getElem_append_left c, List.take_append_of_le_length (by omega)]; exact h.2 i c
    · have : i = l.length := by omega
      subst this; rw [List.getElem_append_right (by omega), List.take_left']
      · simp only [Nat.sub_self, List.getElem_cons_zero]; exact ⟨hs, trivial⟩
      · rfl

abbrev PM := Int × Mv × Unit
abbrev dPM : PM := (0, ((0, (0, (0, ()))), ()))
theorem qf3 {A : Type} (xs : List A) (i : Nat) (h : i < xs.length) : at? xs (i : Int) = some xs[i] := by
  rw [at?_eq xs _ (Int.natCast_nonneg i) (Int.ofNat_lt.2 h)]; simp only [Int.toNat_natCast]
theorem qt4 {A C : Type} (l : List A) (G : A → List C) : ∀ n, n ≤ l.length → (List.range n).flatMap (fun i => (l[i]?).toList.flatMap G) = (l.take n).flatMap G
  | 0, _ => by simp
  | n + 1, h => by
    rw [List.range_succ, List.flatMap_append, qt4 l G n (by omega), List.take_succ_eq_append_getElem (by omega), List.flatMap_append]; simp [List.getElem?_eq_getElem (show n < l.length by omega)]
theorem qqW {A C R : Type} (xs : List A) (B : Nat) (f : (((List C) × Int × Unit) × Unit) → Option ((((List C) × Int × Unit) × Unit) ⊕ R)) (G : A → List C) (fin : List C → R) (a0 : List C) (hG : ∀ x ∈ xs, (G x).length ≤ B)
    (hs : ∀ i (hi : i < xs.length) (a : List C), a.length ≤ a0.length + i * B → f ((a, (i : Int), ()), ()) = some (.inl ((a ++ G xs[i], ((i : Int) + 1), ()), ()))) (he : ∀ a, f ((a, (xs.length : Int), ()), ()) = some (.inr (fin a))) :
    iterW f ((a0, (0 : Int), ()), ()) = some (fin (a0 ++ xs.flatMap G)) := by
  have := qi1 xs.length B f (fun i => (xs[i]?).toList.flatMap G) fin a0 (fun i hi => by
    simp only [List.getElem?_eq_getElem hi, Option.toList_some, List.flatMap_cons, List.flatMap_nil, List.append_nil]; exact hG _ (List.getElem_mem hi)) (fun i hi a ha => by
    simp only [List.getElem?_eq_getElem hi, Option.toList_some, List.flatMap_cons, List.flatMap_nil, List.append_nil]
    exact hs i hi a ha) he
  rw [this, qt4 xs G _ (Nat.le_refl _), List.take_length]
def ofL (l : List PM) (pl : Int) : List Mv := l.flatMap fun x => bif x.1 == pl then [x.2.1] else []
def woL (l : List PM) (pl : Int) : List PM := l.filter fun x => !(x.1 == pl)
def odd1 (x : PM) : Bool := (x.1 != 0) && (x.1 != 1)
def pmErr (l : List PM) : Int := if 4 < (ofL l 0).length ∨ 4 < (ofL l 1).length then 2 else if l.any odd1 = true then 4 else 0
theorem quO (l : List PM) (pl : Int) (hl : l.length ≤ 1000000) : qgh l pl = some (ofL l pl) := by
  unfold qgh
  have := qqW l 1 (qfc l pl) (fun x => bif x.1 == pl then [x.2.1] else []) (fun a => ((a, ()), ())) [] (fun x _ => by
    cases (x.1 == pl)
    · exact Nat.zero_le _
    · exact Nat.le_refl _) (fun i hi a ha => by
    simp only [List.length_nil] at ha; unfold qfc; simp only [show decide ((i : Int) < ((l.length : Nat) : Int)) = true by simp; omega, cond_true]; rw [qf3 l i hi, Option.bind_some, qf (n := (i : Int) + 1) (by omega) (by omega)]; cases (l[i].1 == pl)
    · simp only [cond_false, Option.bind_some, List.append_nil]
    · simp only [cond_true]; rw [qI (by simp only [List.length_cons, List.length_nil]; omega), qb]
      rfl) (fun a => by unfold qfc; simp)
  rw [this, Option.bind_some]; rfl
theorem qpm (l : List PM) (hl : l.length ≤ 1000000) : qdV l = some (pmErr l) := by
  unfold qdV pmErr; rw [quO l 0 hl, Option.bind_some, quO l 1 hl, Option.bind_some]
  have hL := qam l odd1 (qcX l) (.inr 4) (.inl ((), ())) (fun i hi => by
    unfold qcX odd1; simp only [show decide ((i : Int) < ((l.length : Nat) : Int)) = true by simp; omega, cond_true]; rw [qf3 l i hi, Option.bind_some, qf (n := (i : Int) + 1) (by omega) (by omega), show decide ((i : Int) ≥ 0) = true by simp]
    cases ((l[i].1 != 0) && (l[i].1 != 1)) <;> rfl) (by unfold qcX; simp)
  rw [hL]; by_cases h : 4 < (ofL l 0).length ∨ 4 < (ofL l 1).length
  · rw [if_pos h]; by_cases h0 : 4 < (ofL l 0).length
    · rw [show decide ((((ofL l 0).length : Nat) : Int) > 4) = true by simp only [decide_eq_true_eq]; omega]; rfl
    · rw [show decide ((((ofL l 0).length : Nat) : Int) > 4) = false by simp only [decide_eq_false_iff_not]; omega, show decide ((((ofL l 1).length : Nat) : Int) > 4) = true by simp only [decide_eq_true_eq]; omega]; rfl
  · rw [if_neg h, show decide ((((ofL l 0).length : Nat) : Int) > 4) = false by simp only [decide_eq_false_iff_not]; omega, show decide ((((ofL l 1).length : Nat) : Int) > 4) = false by simp only [decide_eq_false_iff_not]; omega]; simp only [cond_false, Option.bind_some]
    cases l.any odd1 <;> rfl
theorem quv (s : List PM) (h : s.length ≤ 1000000) : qq s = some s := by
  unfold qq; have : room (([] : List PM).length + s.length) 32 = true := qI (by simp; omega); rw [this]
  cases s with
  | nil => simp [qb, agree_self]
  | cons a l => simp [qb]
theorem concatPM (a b : List PM) (ha : a.length ≤ 1000) (hb : b.length ≤ 1000) : qaj [a, b] = some (a ++ b) := by
  have w1 : w64 (0 + ((a.length : Nat) : Int)) = (a.length : Int) := by rw [Int.zero_add]; exact qf (by omega) (by omega)
  have w2 : w64 ((a.length : Int) + ((b.length : Nat) : Int)) = ((a.length + b.length : Nat) : Int) := by rw [qf (by omega) (by omega)]; omega
  have w3 : w64 ((0 : Int) + 1) = 1 := by decide
  have w4 : w64 ((1 : Int) + 1) = 2 := by decide
  have g0 : at? [a, b] 0 = some a := rfl; have g1 : at? [a, b] 1 = some b := rfl; have l1 : iterW (qC [a, b]) (((0 : Int), (0 : Int), ()), ()) = some (((((a.length + b.length : Nat) : Int)), ()), ()) := by
    have s0 : qC [a, b] (((0 : Int), (0 : Int), ()), ()) = some (.inl ((((a.length : Nat) : Int), (1 : Int), ()), ())) := by
      unfold qC; simp only [g0, w1, w3, Option.bind_some]; rw [show decide (((a.length : Nat) : Int) < 0) = false by simp]; rfl
    have s1 : qC [a, b] ((((a.length : Nat) : Int), (1 : Int), ()), ()) = some (.inl ((((a.length + b.length : Nat) : Int), (2 : Int), ()), ())) := by
      unfold qC; simp only [g1, w2, w4, Option.bind_some]; rw [show decide (((a.length + b.length : Nat) : Int) < 0) = false by simp; omega]; rfl
    have s2 : qC [a, b] ((((a.length + b.length : Nat) : Int), (2 : Int), ()), ()) = some (.inr ((((a.length + b.length : Nat) : Int), ()), ())) := rfl; rw [qm s0, qm s1, qk s2]
  have l2 : iterW (qB [a, b]) ((([] : List PM), (0 : Int), ()), ()) = some ((a ++ b, ()), ()) := by
    have s0 : qB [a, b] ((([] : List PM), (0 : Int), ()), ()) = some (.inl ((a, (1 : Int), ()), ())) := by
      unfold qB; simp only [g0, w3, Option.bind_some]; rw [qI (by simp; omega)]; rfl
    have s1 : qB [a, b] ((a, (1 : Int), ()), ()) = some (.inl ((a ++ b, (2 : Int), ()), ())) := by
      unfold qB; simp only [g1, w4, Option.bind_some]; rw [qI (by omega)]; rfl
    have s2 : qB [a, b] ((a ++ b, (2 : Int), ()), ()) = some (.inr ((a ++ b, ()), ())) := rfl; rw [qm s0, qm s1, qk s2]
  unfold qaj; simp only [l1, Option.bind_some]; rw [show decide (((a.length + b.length : Nat) : Int) < 0) = false by simp; omega]
  have w5 : w64 (((a.length + b.length : Nat) : Int) - 0) = ((a.length + b.length : Nat) : Int) := by rw [Int.sub_zero]; exact qf (by omega) (by omega)
  simp only [w5, cond_false]; by_cases c : a.length + b.length = 0
  · rw [c]; simp only [Int.natCast_zero, show decide ((0 : Int) > 0) = false by decide, cond_false, Option.bind_some]; rw [l2]; rfl
  · have c1 : decide (((a.length + b.length : Nat) : Int) > 0) = true := by simp; omega
    have c2 : decide (0 < ((a.length + b.length : Nat) : Int)) = true := by simp; omega
    have c3 : room ((((a.length + b.length : Nat) : Int)).toNat) 32 = true := qI (by omega)
    have c4 : ∀ l : List PM, qt 0 0 l.length = true := fun l => by simp [qt]
    simp only [c1, c2, c3, c4, cond_true, Bool.and_self, qb, Option.bind_some, List.take_zero]; rw [l2]; rfl
def fstI (p : Nat → Bool) : Nat → Nat → Nat
  | i, 0 => i
  | i, k + 1 => bif p i then i else fstI p (i + 1) k
theorem fst_rng (p : Nat → Bool) : ∀ (k i : Nat), i ≤ fstI p i k ∧ fstI p i k ≤ i + k ∧ (fstI p i k < i + k → p (fstI p i k) = true) ∧ ∀ j, i ≤ j → j < fstI p i k → p j = false
  | 0, i => ⟨Nat.le_refl _, Nat.le_refl _, fun h => absurd h (Nat.lt_irrefl _), fun j h1 h2 => absurd h2 (Nat.not_lt.2 h1)⟩
  | k + 1, i => by
    have ih := fst_rng p k (i + 1); unfold fstI; cases h : p i
    · simp only [cond_false]; refine ⟨by omega, by omega, fun hl => ih.2.2.1 (by omega), fun j h1 h2 => ?_⟩; by_cases e : j = i
      · subst e; exact h
      · exact ih.2.2.2 j (by omega) h2
    · simp only [cond_true]; exact ⟨Nat.le_refl _, by omega, fun _ => h, fun j h1 h2 => absurd h2 (Nat.not_lt.2 h1)⟩
theorem qvI {β : Type} (p : Nat → Bool) (g : Nat → β) (B : β) : ∀ (k i : Nat), scan (fun i => bif p i then some (g i) else none) B i k = if fstI p i k < i + k then g (fstI p i k) else B
  | 0, i => by
    unfold fstI scan; rw [if_neg (show ¬ i < i + 0 by omega)]
  | k + 1, i => by
    conv => lhs; unfold scan
    unfold fstI; cases h : p i
    · simp only [cond_false]; rw [qvI p g B k (i + 1), show i + 1 + k = i + (k + 1) by omega]
    · simp only [cond_true]; rw [if_pos (by omega)]
def fstP (l : List PM) (pl : Int) : Nat := fstI (fun i => (l.getD i dPM).1 == pl) 0 l.length
theorem qsy (l : List PM) (i : Nat) (h : i < l.length) : l.getD i dPM = l[i] := by simp [List.getD_eq_getElem?_getD, h]
theorem wo_L2 (l : List PM) (pl : Int) (hl : l.length ≤ 1000000) : ∀ (k w j : Nat) (ys : List PM), j + k = l.length → w ≤ j → ys.length = l.length → ys.take w = (l.take j).filter (fun x => !(x.1 == pl)) → ys.drop j = l.drop j →
    ∃ (w' : Nat) (zs : List PM), iterW (qaV pl) (((w : Int), (j : Int), ()), (ys, ())) = some (((w' : Int), ()), (zs, ())) ∧ w' ≤ l.length ∧ zs.length = l.length ∧ zs.take w' = woL l pl := by
  intro k
  induction k with
  | zero =>
    intro w j ys hj hw hy h1 h2
    have : j = l.length := by omega
    subst this; refine ⟨w, ys, qk ?_, hw, hy, by rw [h1, List.take_length]; rfl⟩; unfold qaV; simp only [show decide (((l.length : Nat) : Int) < ((ys.length : Nat) : Int)) = false by simp; omega, cond_false]
  | succ k ih =>
    intro w j ys hj hw hy h1 h2
    have hjl : j < l.length := by omega
    have hjy : j < ys.length := by omega
    have hyj : ys[j] = l[j] := by
      have e1 : (ys.drop j)[0]? = (l.drop j)[0]? := by rw [h2]
      rw [List.getElem?_drop, List.getElem?_drop, Nat.add_zero, List.getElem?_eq_getElem hjy, List.getElem?_eq_getElem hjl] at e1; exact Option.some.inj e1
    have hdr : ∀ zs : List PM, zs.drop j = l.drop j → zs.drop (j + 1) = l.drop (j + 1) := fun zs h => by
      rw [← List.drop_drop, ← List.drop_drop, h]
    have hg : getD' ys j dPM = l[j] := by unfold getD'; rw [qsy ys j hjy, hyj]
    have htk : (l.take (j + 1)).filter (fun x => !(x.1 == pl)) = (l.take j).filter (fun x => !(x.1 == pl)) ++ (if (!(l[j].1 == pl)) = true then [l[j]] else []) := by
      rw [List.take_succ_eq_append_getElem hjl, List.filter_append, List.filter_cons, List.filter_nil]
    by_cases hk : (l[j].1 == pl) = true
    · obtain ⟨w', zs, q1, q2⟩ := ih w (j + 1) ys (by omega) (by omega) hy (by rw [htk, hk, h1]; simp) (hdr ys h2); refine ⟨w', zs, ?_, q2⟩; rw [qm (y := (((w : Int), ((j + 1 : Nat) : Int), ()), (ys, ())))]
      · exact q1
      · unfold qaV; simp only [show decide ((j : Int) < ((ys.length : Nat) : Int)) = true by simp; omega, cond_true]; rw [inb_iff.2 ⟨by omega, by omega⟩, qb, Int.toNat_natCast]; rw [hg, hk, Bool.not_true, cond_false, Option.bind_some, qf (n := (j : Int) + 1) (by omega) (by omega)]; rfl
    · have hk := Bool.eq_false_iff.2 hk
      have hws : w < ys.length := by omega
      obtain ⟨w', zs, q1, q2⟩ := ih (w + 1) (j + 1) (ys.set w l[j]) (by omega) (by omega) (by rw [List.length_set]; exact hy) (by
        rw [htk, hk, ← h1, List.take_succ_eq_append_getElem (by rw [List.length_set]; exact hws), List.getElem_set_self, List.take_set_of_le (Nat.le_refl _)]
        simp) (by
        rw [List.drop_set_of_lt (by omega)]
        exact hdr ys h2)
      refine ⟨w', zs, ?_, q2⟩; rw [qm (y := ((((w + 1 : Nat) : Int), ((j + 1 : Nat) : Int), ()), (ys.set w l[j], ())))]
      · exact q1
      · unfold qaV; simp only [show decide ((j : Int) < ((ys.length : Nat) : Int)) = true by simp; omega, cond_true]; rw [inb_iff.2 ⟨by omega, by omega⟩, qb, Int.toNat_natCast]; rw [hg, hk, Bool.not_false, cond_true, inb_iff.2 ⟨by omega, by omega⟩, qb, Option.bind_some, qf (n := (j : Int) + 1) (by omega) (by omega), qf (n := (w : Int) + 1) (by omega) (by omega), Int.toNat_natCast]; rfl
theorem qnG (l : List PM) (pl : Int) (hl : l.length ≤ 1000000) : qb6 l pl = some (woL l pl) := by
  unfold qb6; rw [quv l hl, Option.bind_some]; have key : ∀ k i : Nat, i + k = l.length → (∀ j, j < i → ((l.getD j dPM).1 == pl) = false) → Option.bind (iterW (qav l pl) (((i : Int), ()), ())) (Sum.elim (fun _ => some l) some) = some (woL l pl) := by
    have pre : ∀ i, i ≤ l.length → (∀ j, j < i → ((l.getD j dPM).1 == pl) = false) → (l.take i).filter (fun x => !(x.1 == pl)) = l.take i := fun i hi h => by
      rw [List.filter_eq_self]; intro x hx; obtain ⟨j, hj, rfl⟩ := List.mem_iff_getElem.1 hx; rw [List.length_take] at hj; rw [List.getElem_take, ← qsy l j (by omega), h j (by omega)]; rfl
    intro k
    induction k with
    | zero =>
      intro i hi h
      have : i = l.length := by omega
      subst this; rw [qk (r := .inl ((), ())) (by unfold qav; simp)]; have := pre l.length (Nat.le_refl _) h; rw [List.take_length] at this; show some l = some (woL l pl); unfold woL; rw [this]
    | succ k ih =>
      intro i hi h
      have hil : i < l.length := by omega
      have hg : getD' l i dPM = l.getD i dPM := rfl; cases hp : ((l.getD i dPM).1 == pl)
      · rw [qm (y := ((((i + 1 : Nat) : Int), ()), ()))]
        · exact ih (i + 1) (by omega) fun j hj => by
            by_cases e : j = i
            · subst e; exact hp
            · exact h j (by omega)
        · unfold qav; simp only [show decide ((i : Int) < ((l.length : Nat) : Int)) = true by simp; omega, cond_true]; rw [inb_iff.2 ⟨by omega, by omega⟩, qb, Int.toNat_natCast, hg, hp, cond_false, qf (n := (i : Int) + 1) (by omega) (by omega)]; rfl
      · obtain ⟨w', zs, q1, q2, q3, q4⟩ := wo_L2 l pl hl (l.length - (i + 1)) i (i + 1) l (by omega) (by omega) rfl (by
          rw [List.take_succ_eq_append_getElem hil, List.filter_append, List.filter_cons, List.filter_nil, ← qsy l i hil, hp, pre i (by omega) h]
          simp) rfl
        have hf : qav l pl (((i : Int), ()), ()) = some (.inr (.inr (woL l pl))) := by
          unfold qav; simp only [show decide ((i : Int) < ((l.length : Nat) : Int)) = true by simp; omega, cond_true]; rw [inb_iff.2 ⟨by omega, by omega⟩, qb, Int.toNat_natCast, hg, hp, cond_true, beq_f (show ¬ (i : Int) = -1 by omega), cond_false, qf (n := (i : Int) + 1) (by omega) (by omega)]; rw [show ((i : Int) + 1) = ((i + 1 : Nat) : Int) by omega, q1, Option.bind_some]; simp only [Int.toNat_natCast]; rw [show qt (w' : Int) ((zs.length : Nat) : Int) zs.length = true by simp only [qt, Bool.and_eq_true, decide_eq_true_eq]; omega, qb]; rw [show ∀ ys : List PM, qt 0 (w' : Int) (zs.take w' ++ ys).length = true from fun ys => by
            simp only [qt, Bool.and_eq_true, decide_eq_true_eq, List.length_append, List.length_take]
            omega, qb, ← q4]
          rw [show ∀ ys : List PM, (zs.take w' ++ ys).take w' = zs.take w' from fun ys => by
            rw [List.take_append_of_le_length (by rw [List.length_take]; omega), List.take_take, Nat.min_self]]
          rfl
        rw [qk hf]; rfl
  exact key l.length 0 (by omega) (fun j hj => by omega)
def openM (r : Rules) (p : Place) : List Mv := if qae r p = 0 then qf5 r p else []
theorem qra {r : Rules} {p : Place} (h : Valid r p) : qgr r p = some (openM r p) := by
  unfold qgr openM; rw [qkt h, Option.bind_some]; by_cases c : qae r p = 0
  · rw [bne_f c, cond_false, if_pos c, qlP h]; rfl
  · rw [bne_t c, cond_true, if_neg c]
theorem openM_mem {r : Rules} {p : Place} {m : Mv} : m ∈ openM r p ↔ qae r p = 0 ∧ qA r p m = true := by
  unfold openM; by_cases c : qae r p = 0
  · rw [if_pos c, qgQ]; exact ⟨fun h => ⟨c, h⟩, fun h => h.2⟩
  · rw [if_neg c]; exact ⟨fun h => (by cases h), fun h => absurd h.1 c⟩
theorem qt6 {r : Rules} {p : Place} (h : Valid r p) : (openM r p).length ≤ 100000 := by
  unfold openM; split
  · exact qka h
  · simp
def resN (r : Rules) (p : Place) (l : List PM) (i : Nat) : Mv × Bool × List PM × Unit :=
  if (l.getD i dPM).2.1 ∈ openM r p then ((l.getD i dPM).2.1, (true, (l.take i ++ l.drop (i + 1), ()))) else ((0, (0, (0, ()))), (false, (woL l p.turn, ())))
def nextP (r : Rules) (p : Place) (l : List PM) : Mv × Bool × List PM × Unit :=
  if fstP l p.turn < l.length then resN r p l (fstP l p.turn) else ((0, (0, (0, ()))), (false, (woL l p.turn, ())))
theorem next_spec {r : Rules} {p : Place} (h : Valid r p) (l : List PM) (hl : l.length ≤ 1000) : qgS r p l = some (nextP r p l) := by
  unfold qgS
  have hL := qmP l.length (qdD l p r) (fun i => bif (l.getD i dPM).1 == p.turn then some (Sum.inr (resN r p l i)) else none) (.inl ((), ())) (fun i hi => by
    unfold qdD resN; simp only [show decide ((i : Int) < ((l.length : Nat) : Int)) = true by simp; omega, cond_true]; rw [qf3 l i hi, Option.bind_some, qf (n := (i : Int) + 1) (by omega) (by omega), qsy l i hi]; show (bif (l[i].1 == p.turn) then _ else _) = _; cases hp : (l[i].1 == p.turn)
    · rfl
    · simp only [cond_true]; rw [show decide ((i : Int) < 0) = false by simp]; simp only [Bool.not_false, cond_false, qP, agree_self]
      have hgat : ∀ z, gat true z l (i : Int) = some l[i] := fun z => by show at? l (i : Int) = _; exact qf3 l i hi
      rw [hgat, Option.bind_some, qra h, Option.bind_some, qf9 _ _ (by have := qt6 h; omega), Option.bind_some, Option.bind_some]; simp only; by_cases hm : l[i].2.1 ∈ openM r p
      · rw [decide_eq_true hm, if_pos hm]; simp only [Bool.not_true, cond_false]; rw [show qt 0 (i : Int) l.length = true by simp only [qt, Bool.and_eq_true, decide_eq_true_eq]; omega, show qt ((i : Int) + 1) ((l.length : Nat) : Int) l.length = true by simp only [qt, Bool.and_eq_true, decide_eq_true_eq]; omega]; simp only [qb, qP, agree_self, Option.bind_some, Int.toNat_natCast, List.drop_zero, List.take_length]; rw [concatPM _ _ (by rw [List.length_take]; omega) (by rw [List.length_drop]; omega)]; rw [show ((i : Int) + 1).toNat = i + 1 by omega]; rfl
      · rw [decide_eq_false hm, if_neg hm]; simp only [Bool.not_false, cond_true]; rw [show p.2.2.1 = p.turn from rfl, qnG l _ (by omega)]
        rfl) (by unfold qdD; simp)
  rw [hL, qvI, Nat.zero_add]; unfold nextP; show Option.bind (some (if fstP l p.turn < l.length then Sum.inr (resN r p l (fstP l p.turn)) else Sum.inl ((), ()))) _ = _; by_cases c : fstP l p.turn < l.length
  · rw [if_pos c, if_pos c]; rfl
  · rw [if_neg c, if_neg c]; simp only [Option.bind_some, Sum.elim_inl]; have hg : ∀ z : PM, gat false z l (-1) = some z := fun z => rfl; rw [hg, Option.bind_some]; rw [show p.2.2.1 = p.turn from rfl, qnG l _ (by omega)]; rfl
theorem addP_spec (l : List PM) (hl : l.length ≤ 1000) (pl : Int) (m : Mv) : qiR l pl m = some (if pmErr l ≠ 0 then ([], (pmErr l, ())) else if pl ≠ 0 ∧ pl ≠ 1 then ([], (1, ())) else if (ofL l pl).length = 4 then ([], (9, ())) else (l ++ [(pl, (m, ()))], (0, ()))) := by
  unfold qiR; rw [qpm l (by omega), Option.bind_some]; by_cases c : pmErr l = 0
  rotate_left
  · rw [bne_t c, cond_true, if_pos c]
  rw [bne_f c, cond_false, if_neg (fun h => h c)]; by_cases c1 : pl ≠ 0 ∧ pl ≠ 1
  · rw [if_pos c1, bne_t c1.1, bne_t c1.2]; rfl
  rw [if_neg c1, show ((pl != 0) && (pl != 1)) = false by
    rw [Bool.and_eq_false_iff]; by_cases e : pl = 0
    · exact .inl (bne_f e)
    · exact .inr (bne_f (by omega)), cond_false, quO l pl (by omega), Option.bind_some]
  by_cases c2 : (ofL l pl).length = 4
  · rw [if_pos c2, c2]; rfl
  rw [if_neg c2, beq_f (show ¬ (((ofL l pl).length : Nat) : Int) = 4 by omega), cond_false]; simp only [qP, agree_self]; rw [quv l (by omega), Option.bind_some, qI (by simp only [List.length_cons, List.length_nil]; omega), qb, Option.bind_some]
def faultP (r : Rules) (p : Place) (l : List PM) : Int := if qW r p ≠ 0 then qW r p else pmErr l
theorem qus (r : Rules) (p : Place) (l : List PM) (hr : Rng qal r) (hn : p.1.length ≤ 9223372036854775807) (hl : l.length ≤ 1000) : qdI r p l = some (faultP r p l) := by
  unfold qdI faultP; rw [qiV r p hr hn, Option.bind_some]; by_cases c : qW r p = 0
  · rw [bne_f c, cond_false, if_neg (fun h => h c), qpm l (by omega), Option.bind_some]
  · rw [bne_t c, cond_true, if_pos c]
theorem qxc (r : Rules) (p : Place) (hr : Rng qal r) (hv : Valid r p) (c : qad r = 0) (l : List PM) (hl : l.length ≤ 1000) : qbh r p l = some (if pmErr l ≠ 0 then ((0, (0, (0, ()))), (false, ([], (pmErr l, ())))) else ((nextP r p l).1, ((nextP r p l).2.1, ((nextP r p l).2.2.1, (0, ()))))) := by
  unfold qbh; rw [qus r p l hr (by have := qba hv; omega) hl, Option.bind_some]; unfold faultP; rw [qkM c hv]; simp only [ne_eq, not_true_eq_false, if_false]; by_cases h : pmErr l = 0
  · rw [bne_f h, cond_false, next_spec hv l hl, Option.bind_some, if_neg (by simp [h])]
  · rw [bne_t h, cond_true, if_pos h]

theorem qcs {r : Rules} {s : List Place × List Mv} (h : OKG r s) : qr (r, (s.1, (s.2, ()))) = some s.2 := by
  have hm := h.most; have hc : qce s.2 = some s.2 := by
    unfold qce
    cases hs : s.2 with
    | nil =>
      rw [show (([] : List Mv).isEmpty) = true from rfl, cond_true, qI (by simp), qb]; exact agree_self _
    | cons m l =>
      rw [hs] at hm; rw [show (m :: l).isEmpty = false from rfl, cond_false, qI (by simp at hm ⊢; omega), qb, List.nil_append]
  unfold qr; simp only [hc, Option.bind_some]
structure RG (r : Rules) (s : List Place × List Mv) : Prop where
  ok : OKG r s
  reach : qtg r s.2 = .inl s
theorem qr7 {r : Rules} (m : Mv) : ∀ (k : List Mv) (s : List Place × List Mv), runG r (k ++ [m]) s = match runG r k s with
    | .inl s' => if stepG r s' m = 0 then .inl (nextG r s' m) else .inr (stepG r s' m)
    | .inr e => .inr e
  | [], s => rfl
  | x :: k, s => by
    rw [List.cons_append]; unfold runG; split
    · exact qr7 m k _
    · rfl
theorem RG.next {r : Rules} {s : List Place × List Mv} {m : Mv} (h : RG r s) (c : stepG r s m = 0) : RG r (nextG r s m) := ⟨qvf h.ok c, by
  show runG r (s.2 ++ [m]) _ = _; have : runG r s.2 ([qaQ r], []) = .inl s := h.reach; rw [qr7, this]
  simp only [c, if_true]⟩
theorem RG.begin {r : Rules} (c : qad r = 0) : RG r ([qaQ r], []) := ⟨qpK c, rfl⟩
def backG (s : List Place × List Mv) : List Place × List Mv := (s.1.dropLast, s.2.dropLast)
theorem back_next (r : Rules) (s : List Place × List Mv) (m : Mv) : backG (nextG r s m) = s := by
  unfold backG nextG; simp
theorem RG.last_step {r : Rules} {s : List Place × List Mv} (h : RG r s) (h0 : 0 < s.2.length) : RG r (backG s) ∧ ∃ m, s = nextG r (backG s) m ∧ stepG r (backG s) m = 0 := by
  have hne : s.2 ≠ [] := fun e => by rw [e] at h0; simp at h0
  have hk : s.2 = s.2.dropLast ++ [s.2.getLast hne] := (List.dropLast_concat_getLast hne).symm; have hr := h.reach; unfold qtg at hr; rw [hk, qr7] at hr
  cases hq : runG r s.2.dropLast ([qaQ r], []) with
  | inr e => rw [hq] at hr; cases hr
  | inl s' =>
    rw [hq] at hr; simp only at hr; split at hr
    · rename_i c; have e : nextG r s' (s.2.getLast hne) = s := Sum.inl.inj hr
      have hb : backG s = s' := by rw [← e]; exact back_next r s' _
      obtain ⟨o1, o2⟩ := run_ok _ _ _ (qpK h.ok.ok) hq; rw [List.nil_append] at o2; refine ⟨⟨by rw [hb]; exact o1, ?_⟩, _, by rw [hb]; exact e.symm, by rw [hb]; exact c⟩; rw [hb, o2]; exact hq
    · cases hr
theorem RG.back {r : Rules} {s : List Place × List Mv} (h : RG r s) (h0 : 0 < s.2.length) : RG r (backG s) := (h.last_step h0).1
theorem RG.back_open {r : Rules} {s : List Place × List Mv} (h : RG r s) (h0 : 0 < s.2.length) : qx r (backG s).1 = 0 := by
  obtain ⟨_, m, _, c⟩ := h.last_step h0; exact (step_0 c).1
theorem qkU (s : List Place × List Mv) : (backG s).2.length = s.2.length - 1 := by unfold backG; simp
def par (n : Nat) : Int := ((n % 2 : Nat) : Int)
theorem qgX (n : Nat) : ((n : Nat) : Int).tmod 2 = par n := (Int.ofNat_tmod n 2).symm
theorem qwf (n : Nat) : par (n + 1) = 1 - par n := by unfold par; omega
theorem par_rng (n : Nat) : 0 ≤ par n ∧ par n ≤ 1 := by unfold par; omega
theorem qw3 (r : Rules) (s : List Place × List Mv) (m : Mv) : lastP (nextG r s m).1 = qnb r (lastP s.1) m := by
  unfold nextG lastP; simp only [List.length_append, List.length_singleton, Nat.add_sub_cancel]; exact gd_app2 _ _
theorem RG.turn {r : Rules} : ∀ (n : Nat) {s : List Place × List Mv}, RG r s → s.2.length = n → (lastP s.1).turn = par n
  | 0, s, h, hn => by
    have he : s.2 = [] := List.length_eq_zero_iff.1 hn; have hr := h.reach; rw [he] at hr; have : s = ([qaQ r], []) := (Sum.inl.inj hr).symm; rw [this]; rfl
  | n + 1, s, h, hn => by
    obtain ⟨hb, m, e, _⟩ := h.last_step (by omega); have := RG.turn n hb (by rw [qkU]; omega); rw [e, qw3, qwf, ← this]; rfl
theorem back_spec {r : Rules} {s : List Place × List Mv} (h : OKG r s) : qc3 (r, (s.1, (s.2, ()))) = some (if s.2.length = 0 then ((r, (s.1, (s.2, ()))), 8) else ((r, ((backG s).1, ((backG s).2, ()))), 0)) := by
  obtain ⟨l, ms⟩ := s; have hl : l.length = ms.length + 1 := h.len; have hm : ms.length ≤ 400 := h.most; unfold qc3; simp only; by_cases c : ms.length = 0
  · rw [if_pos c, c]; rfl
  · rw [if_neg c, beq_f (show ¬ ((ms.length : Nat) : Int) = 0 by omega), cond_false]
    have w1 : w64 (((l.length : Nat) : Int) - 1) = ((l.length - 1 : Nat) : Int) := by rw [qf (by omega) (by omega)]; omega
    have w2 : w64 (((ms.length : Nat) : Int) - 1) = ((ms.length - 1 : Nat) : Int) := by rw [qf (by omega) (by omega)]; omega
    have b1 : qt 0 ((l.length - 1 : Nat) : Int) l.length = true := by simp only [qt, Bool.and_eq_true, decide_eq_true_eq]; omega
    have b2 : qt 0 ((ms.length - 1 : Nat) : Int) ms.length = true := by simp only [qt, Bool.and_eq_true, decide_eq_true_eq]; omega
    simp only [w1, w2, b1, b2, qb, qP, agree_self, Option.bind_some, Int.toNat_natCast]; unfold backG; rw [List.dropLast_eq_take, List.dropLast_eq_take]

theorem qnK {A : Type} (p q : A → Bool) : ∀ l : List A, (∀ x ∈ l, p x = true → q x = true) → l.countP q ≤ l.countP p → ∀ x ∈ l, p x = q x
  | [], _, _, x, hx => absurd hx List.not_mem_nil
  | a :: l, h, hc, x, hx => by
    have hm : l.countP p ≤ l.countP q := List.countP_mono_left (fun y hy hp => h y (List.mem_cons_of_mem _ hy) hp); have ha := h a List.mem_cons_self; rw [List.countP_cons, List.countP_cons] at hc; have e : p a = q a := by
      cases e1 : p a with
      | true => rw [ha e1]
      | false =>
        cases e2 : q a with
        | false => rfl
        | true => rw [e1, e2] at hc; simp at hc; omega
    rcases List.mem_cons.1 hx with e' | e'
    · rw [e']; exact e
    · refine qnK p q l (fun y hy => h y (List.mem_cons_of_mem _ hy)) ?_ x e'; rw [e] at hc; omega

def bec (pr : Nat → Nat) (g : Nat) : Nat → Nat → Bool
  | 0, _ => false
  | m + 1, k => k == g || (decide (0 < pr k) && bec pr g m (pr k - 1))
theorem qr1 (pr : Nat → Nat) (g : Nat) : ∀ m k, bec pr g m k = true → bec pr g (m + 1) k = true
  | 0, k, h => by simp [bec] at h
  | m + 1, k, h => by
    unfold bec at h ⊢; rw [Bool.or_eq_true, Bool.and_eq_true] at h ⊢; rcases h with h | ⟨h1, h2⟩
    · exact .inl h
    · exact .inr ⟨h1, qr1 pr g m _ h2⟩
theorem qvY (pr : Nat → Nat) (g : Nat) {m m' : Nat} (h : m ≤ m') {k : Nat} (hb : bec pr g m k = true) : bec pr g m' k = true := by
  induction h with
  | refl => exact hb
  | step _ ih => exact qr1 pr g _ _ ih
theorem qwU (pr : Nat → Nat) (g n : Nat) (hp : ∀ k, k < n → pr k ≤ n) (m k : Nat) (hk : k < n) (h : bec pr g m k = true) : bec pr g (n + 1) k = true := by
  have st : ∀ s, (∀ k, k < n → bec pr g (s + 1) k = bec pr g s k) → ∀ m, s ≤ m → ∀ k, k < n → bec pr g m k = bec pr g s k := by
    intro s hs m hm
    induction hm with
    | refl => intro k _; rfl
    | step hm ih =>
      rename_i m; intro k hk; rw [← hs k hk]; unfold bec; by_cases c : 0 < pr k
      · have := hp k hk; rw [ih (pr k - 1) (by omega)]
      · rw [decide_eq_false c, Bool.false_and, Bool.false_and]
  have gr : ∀ t, (∃ s, s < t ∧ ∀ k, k < n → bec pr g (s + 1) k = bec pr g s k) ∨ t ≤ (List.range n).countP (bec pr g t) := by
    intro t
    induction t with
    | zero => exact .inr (by omega)
    | succ t ih =>
      rcases ih with ⟨s, h1, h2⟩ | h1
      · exact .inl ⟨s, by omega, h2⟩
      · by_cases c : (List.range n).countP (bec pr g (t + 1)) ≤ (List.range n).countP (bec pr g t)
        · have := qnK (bec pr g t) (bec pr g (t + 1)) (List.range n) (fun x _ hx => qr1 pr g t x hx) c; exact .inl ⟨t, by omega, fun k hk => (this k (List.mem_range.2 hk)).symm⟩
        · exact .inr (by omega)
  by_cases c : m ≤ n + 1
  · exact qvY pr g c h
  · rcases gr (n + 1) with ⟨s, h1, h2⟩ | h1
    · rw [st s h2 m (by omega) k hk] at h; exact qvY pr g (by omega) h
    · have : (List.range n).countP (bec pr g (n + 1)) ≤ (List.range n).length := List.countP_le_length; rw [List.length_range] at this; omega

def passG (pr : Nat → Nat) (f : Nat → Bool) (k : Nat) : Nat → Bool := fun j => if j = k then (f k || (decide (0 < pr k) && f (pr k - 1))) else f j
def passL (pr : Nat → Nat) (l : List Nat) (f : Nat → Bool) : Nat → Bool := l.foldl (passG pr) f
theorem qv2 (pr : Nat → Nat) (f : Nat → Bool) (k j : Nat) (h : f j = true) : passG pr f k j = true := by
  unfold passG; split
  · rename_i e; subst e; rw [h]; rfl
  · exact h
theorem qsv (pr : Nat → Nat) : ∀ (l : List Nat) (f : Nat → Bool) (j : Nat), f j = true → passL pr l f j = true
  | [], f, j, h => h
  | a :: l, f, j, h => qsv pr l _ j (qv2 pr f a j h)
theorem qtl (pr : Nat → Nat) : ∀ (l : List Nat) (f : Nat → Bool) (k : Nat), k ∈ l → 0 < pr k → f (pr k - 1) = true → passL pr l f k = true
  | [], f, k, hk, _, _ => absurd hk List.not_mem_nil
  | a :: l, f, k, hk, hp, h => by
    show passL pr l (passG pr f a) k = true; by_cases e : k = a
    · subst e; refine qsv pr l _ k ?_; unfold passG; rw [if_pos rfl, h, decide_eq_true hp]; simp
    · exact qtl pr l _ k ((List.mem_cons.1 hk).resolve_left e) hp (qv2 pr f a _ h)
theorem qps (pr : Nat → Nat) (Q : Nat → Prop) (hq : ∀ k, 0 < pr k → Q (pr k - 1) → Q k) : ∀ (l : List Nat) (f : Nat → Bool), (∀ j, f j = true → Q j) → ∀ j, passL pr l f j = true → Q j
  | [], f, h, j, hj => h j hj
  | a :: l, f, h, j, hj => by
    refine qps pr Q hq l (passG pr f a) (fun i hi => ?_) j hj; unfold passG at hi; split at hi
    · rename_i e; subst e; rw [Bool.or_eq_true, Bool.and_eq_true, decide_eq_true_eq] at hi; rcases hi with hi | ⟨h1, h2⟩
      · exact h _ hi
      · exact hq _ h1 (h _ h2)
    · exact h _ hi
def closN (pr : Nat → Nat) (n g : Nat) : Nat → Nat → Bool
  | 0 => fun j => j == g
  | t + 1 => passL pr (List.range n) (closN pr n g t)
theorem clos_eq (pr : Nat → Nat) (n g : Nat) (hp : ∀ k, k < n → pr k ≤ n) (k : Nat) (hk : k < n) : closN pr n g n k = bec pr g (n + 1) k := by
  rw [Bool.eq_iff_iff]; constructor
  · intro h; have : ∀ t j, closN pr n g t j = true → ∃ m, bec pr g m j = true := by
      intro t
      induction t with
      | zero =>
        intro j h; have h : (j == g) = true := h; exact ⟨1, by unfold bec; rw [h]; rfl⟩
      | succ t ih =>
        intro j h; refine qps pr (fun j => ∃ m, bec pr g m j = true) (fun k hk ⟨m, hm⟩ => ⟨m + 1, ?_⟩) (List.range n) _ ih j h; unfold bec; rw [hm, decide_eq_true hk]; simp
    obtain ⟨m, hm⟩ := this _ _ h; exact qwU pr g n hp m k hk hm
  · have : ∀ t k, k < n → bec pr g (t + 1) k = true → closN pr n g t k = true := by
      intro t
      induction t with
      | zero =>
        intro k hk h; unfold bec at h; rw [Bool.or_eq_true] at h; rcases h with h | h
        · exact h
        · simp [bec] at h
      | succ t ih =>
        intro k hk h; unfold bec at h; rw [Bool.or_eq_true, Bool.and_eq_true, decide_eq_true_eq] at h; rcases h with h | ⟨h1, h2⟩
        · have : ∀ t, closN pr n g t k = true := by
            intro t
            induction t with
            | zero => exact h
            | succ t ih => exact qsv pr _ _ _ ih
          exact this _
        · have := hp k hk; exact qtl pr _ _ k (List.mem_range.2 hk) h1 (ih _ (by omega) h2)
    exact this n k hk

def sumN (f : Nat → Int) : Nat → Int
  | 0 => 0
  | n + 1 => sumN f n + f n
theorem qm1 {f g : Nat → Int} : ∀ n, (∀ i, i < n → f i = g i) → sumN f n = sumN g n
  | 0, _ => rfl
  | n + 1, h => by unfold sumN; rw [qm1 n (fun i hi => h i (by omega)), h n (by omega)]
theorem qry (f g : Nat → Int) : ∀ n, sumN (fun i => f i + g i) n = sumN f n + sumN g n
  | 0 => rfl
  | n + 1 => by unfold sumN; rw [qry f g n]; omega
theorem qoj (f : Nat → Int) (B : Int) : ∀ n, (∀ i, i < n → 0 ≤ f i ∧ f i ≤ B) → 0 ≤ sumN f n ∧ sumN f n ≤ n * B
  | 0, _ => by simp [sumN]
  | n + 1, h => by
    have h1 := qoj f B n (fun i hi => h i (by omega)); have h2 := h n (by omega); unfold sumN; rw [show ((n + 1 : Nat) : Int) * B = (n : Int) * B + B by rw [Int.natCast_add, Int.add_mul]; simp]; omega
theorem qvQ (f : Nat → Int) : ∀ n, (∀ i, i < n → 0 ≤ f i) → (0 < sumN f n ↔ ∃ i, i < n ∧ 0 < f i)
  | 0, _ => by simp [sumN]
  | n + 1, h => by
    have h1 := qvQ f n (fun i hi => h i (by omega)); have h2 := h n (by omega); have h3 : 0 ≤ sumN f n := by
      clear h1 h2
      induction n with
      | zero => simp [sumN]
      | succ n ih =>
        have := ih (fun i hi => h i (by omega)); have := h n (by omega); unfold sumN; omega
    unfold sumN; constructor
    · intro hp; by_cases c : 0 < f n
      · exact ⟨n, by omega, c⟩
      · obtain ⟨i, hi, hf⟩ := h1.1 (by omega); exact ⟨i, by omega, hf⟩
    · rintro ⟨i, hi, hf⟩
      by_cases c : i = n
      · subst c; omega
      · have := h1.2 ⟨i, by omega, hf⟩; omega
theorem qri {A : Type} (q : A → Bool) (k : A → Nat) (n : Nat) : ∀ l : List A, (∀ x ∈ l, q x = true → k x < n) → sumN (fun j => ((l.countP (fun x => q x && (k x == j)) : Nat) : Int)) n = ((l.countP q : Nat) : Int)
  | [], _ => by
    have : ∀ n, sumN (fun j => (0 : Int)) n = 0 := fun n => by
      induction n with
      | zero => rfl
      | succ n ih => unfold sumN; rw [ih]; rfl
    exact this n
  | a :: l, h => by
    have ih := qri q k n l (fun x hx => h x (List.mem_cons_of_mem _ hx))
    rw [List.countP_cons, Int.natCast_add, ← ih, qm1 (g := fun j => ((l.countP (fun x => q x && (k x == j)) : Nat) : Int) + (if (q a && (k a == j)) = true then 1 else 0)) n (fun j hj => by
      show ((_ : Nat) : Int) = _; rw [List.countP_cons, Int.natCast_add]
      split <;> rfl), qry]
    congr 1; have one : ∀ n m, m < n → sumN (fun j => if m = j then (1 : Int) else 0) n = 1 := by
      intro n
      induction n with
      | zero => intro m hm; omega
      | succ n ih =>
        intro m hm; unfold sumN; by_cases c : m = n
        · subst c; have z : ∀ t, t ≤ m → sumN (fun j => if m = j then (1 : Int) else 0) t = 0 := by
            intro t
            induction t with
            | zero => intro _; rfl
            | succ t ih => intro ht; unfold sumN; rw [ih (by omega), if_neg (by omega)]; rfl
          rw [z m (Nat.le_refl _), if_pos rfl]; rfl
        · rw [ih m (by omega), if_neg c]; rfl
    cases hq : q a with
    | false =>
      have : ∀ n, sumN (fun j => if (false && (k a == j)) = true then (1 : Int) else 0) n = 0 := fun n => by
        induction n with
        | zero => rfl
        | succ n ih => unfold sumN; rw [ih]; rfl
      rw [this]; rfl
    | true =>
      have := one n (k a) (h a List.mem_cons_self hq); simp only [Bool.true_and, beq_iff_eq, if_true]; exact this

def tup {A : Type} (f : Nat → A) : A × A × A × A × A × A × Unit := (f 0, f 1, f 2, f 3, f 4, f 5, ())
theorem tup_get {A : Type} (f : Nat → A) (d : A) (k : Nat) (h : k < 6) : getD' [f 0, f 1, f 2, f 3, f 4, f 5] k d = f k := by
  obtain rfl | rfl | rfl | rfl | rfl | rfl : k = 0 ∨ k = 1 ∨ k = 2 ∨ k = 3 ∨ k = 4 ∨ k = 5 := by omega
  all_goals rfl
theorem tup_set {A : Type} (f : Nat → A) (v : A) (k : Nat) (h : k < 6) : ((bif ((k : Int) == (0 : Int)) then v else f 0), (bif ((k : Int) == (1 : Int)) then v else f 1), (bif ((k : Int) == (2 : Int)) then v else f 2), (bif ((k : Int) == (3 : Int)) then v else f 3), (bif ((k : Int) == (4 : Int)) then v else f 4), (bif ((k : Int) == (5 : Int)) then v else f 5), ()) = tup (fun j => if j = k then v else f j) := by
  obtain rfl | rfl | rfl | rfl | rfl | rfl : k = 0 ∨ k = 1 ∨ k = 2 ∨ k = 3 ∨ k = 4 ∨ k = 5 := by omega
  all_goals rfl

def ownB (pl c : Int) : Bool := decide (c > 0) && ((w64 (c - 1)).tmod 2 == pl)
def kc (c : Int) : Nat := ((c - 1) / 2).toNat
theorem kc_eq {c : Int} (h : 0 < c) (h' : c ≤ 12) : w64 ((w64 (c - 1)).tdiv 2) = ((kc c : Nat) : Int) := by
  unfold kc; rw [qf (n := c - 1) (by omega) (by omega), Int.tdiv_eq_ediv_of_nonneg (by omega), qf (by omega) (by omega)]; omega
theorem qot {pl c : Int} (h : ownB pl c = true) : 0 < c := by
  unfold ownB at h; rw [Bool.and_eq_true, decide_eq_true_eq] at h; exact h.1
def handP (p : Place) (pl : Int) : List Int := getD' [p.2.1.1, p.2.1.2.1] pl.toNat []
def hk (p : Place) (pl : Int) (k : Nat) : Int := getD' (handP p pl) k 0
def nN (p : Place) (pl : Int) (n : Nat) : Int := ((p.1.countP (ownB pl) : Nat) : Int) + sumN (hk p pl) n
def qa0 (p : Place) (pl : Int) (n : Nat) : List Nat := (p.1.filter (ownB pl)).map kc ++ (List.range n).filter (fun k => decide (hk p pl k > 0))
def qdc (p : Place) (pl : Int) (n : Nat) : List Int := (qa0 p pl n).map fun k : Nat => (k : Int)
theorem qt9 {r : Rules} {p : Place} (hv : Valid r p) {pl : Int} (hpl : pl = 0 ∨ pl = 1) : (handP p pl).length = r.pieces.length := by
  rcases hpl with h | h
  · subst h; exact hv.l0
  · subst h; exact hv.l1
theorem qs6 {r : Rules} {p : Place} (hv : Valid r p) {pl : Int} (hpl : pl = 0 ∨ pl = 1) (k : Nat) : 0 ≤ hk p pl k ∧ hk p pl k ≤ 1000 := by
  unfold hk; by_cases c : k < (handP p pl).length
  · rw [gd_eq _ k c]; rcases hpl with h | h
    · subst h; exact hv.hand0 _ (List.getElem_mem (l := p.2.1.1) (by exact c))
    · subst h; exact hv.hand1 _ (List.getElem_mem (l := p.2.1.2.1) (by exact c))
  · simp [getD', List.getElem?_eq_none (Nat.not_lt.1 c)]
theorem qh1 {r : Rules} {p : Place} (hv : Valid r p) : p.1.length ≤ 64 := by
  have h1 := hv.cells; have h2 := hv.r0.area; have h3 : ((p.1.length : Nat) : Int) = r.width * r.height := h1; omega
theorem qv5 {r : Rules} {p : Place} (hv : Valid r p) {c : Int} (hc : c ∈ p.1) : 0 ≤ c ∧ c ≤ 2 * ((r.pieces.length : Nat) : Int) ∧ c ≤ 12 := by
  have h1 := hv.cell c hc; have h2 := hv.r0.t6; omega
theorem himp (b : Bool) : imp b true = true := by cases b <;> rfl
theorem qva {A : Type} (q : A → Bool) (l : List A) (i : Nat) : ((l.take i).filter q).length ≤ i := Nat.le_trans (List.length_filter_le _ _) (by simp; omega)
theorem qwP {r : Rules} {p : Place} (hv : Valid r p) {pl : Int} (hpl : pl = 0 ∨ pl = 1) : qi3 p pl = some (qdc p pl r.pieces.length, (nN p pl r.pieces.length, ())) := by
  have hc64 := qh1 hv; have ht6 := hv.r0.t6; have hH := qt9 hv hpl; have h1 : iterW (qcK p pl) ((([] : List Int), (0 : Int), (0 : Int), ()), ()) = some ((((p.1.filter (ownB pl)).map (fun c => ((kc c : Nat) : Int))), (((p.1.countP (ownB pl) : Nat) : Int)), ()), ()) := by
    have := qV (f := qcK p pl) p.1.length (fun i => ((((p.1.take i).filter (ownB pl)).map (fun c => ((kc c : Nat) : Int)), (((p.1.take i).countP (ownB pl) : Nat) : Int), (i : Int), ()), ())) ((((p.1.filter (ownB pl)).map (fun c => ((kc c : Nat) : Int))), (((p.1.countP (ownB pl) : Nat) : Int)), ()), ()) (fun i hi => by
      have hm : p.1[i] ∈ p.1 := List.getElem_mem _; have h12 := qv5 hv hm
      have hcl : (p.1.take i).countP (ownB pl) ≤ i := by rw [List.countP_eq_length_filter]; exact qva _ _ _
      unfold qcK; simp only [ltd p.1 i hi, cond_true]; rw [at?_eq _ _ (by omega) (by omega)]; simp only [Option.bind_some, Int.toNat_natCast, himp, qb]; rw [show (decide (p.1[i] > 0) && ((w64 (p.1[i] - 1)).tmod 2 == pl)) = ownB pl p.1[i] from rfl, List.take_succ_eq_append_getElem hi, List.filter_append, List.map_append, List.countP_append]; rw [qf (n := (i : Int) + 1) (by omega) (by omega)]
      cases hq : ownB pl p.1[i] with
      | true =>
        have hp0 := qot hq; rw [kc_eq hp0 h12.2.2, qf (n := (((p.1.take i).countP (ownB pl) : Nat) : Int) + 1) (by omega) (by omega), cond_true]; rw [qI (by rw [List.length_map]; have := qva (ownB pl) p.1 i; simp only [List.length_singleton]; omega), qb]; simp [hq]
      | false =>
        simp [hq]) (by
      unfold qcK
      simp only [nltd, cond_false, List.take_length])
    exact this
  have h2 : iterW (qcR p pl) ((((p.1.filter (ownB pl)).map (fun c => ((kc c : Nat) : Int))), (((p.1.countP (ownB pl) : Nat) : Int)), (0 : Int), ()), ()) = some ((qdc p pl r.pieces.length, nN p pl r.pieces.length, ()), ()) := by
    have hcp : p.1.countP (ownB pl) ≤ 64 := Nat.le_trans List.countP_le_length hc64; have hfl : (p.1.filter (ownB pl)).length ≤ 64 := Nat.le_trans (List.length_filter_le _ _) hc64
    have := qV (f := qcR p pl) r.pieces.length (fun i => ((qdc p pl i, nN p pl i, (i : Int), ()), ())) ((qdc p pl r.pieces.length, nN p pl r.pieces.length, ()), ()) (fun i hi => by
      have hk1 := qs6 hv hpl i; have hs := qoj (hk p pl) 1000 i (fun j _ => qs6 hv hpl j); unfold qcR; simp only [show getD' [p.2.1.1, p.2.1.2.1] pl.toNat [] = handP p pl from rfl]; simp only [ltd (handP p pl) i (by omega), cond_true]; rw [at?_eq _ _ (by omega) (by omega)]; simp only [Option.bind_some, Int.toNat_natCast]; rw [show (handP p pl)[i]'(by omega) = hk p pl i from (gd_eq _ i (by omega) 0).symm]; rw [qf (n := (i : Int) + 1) (by omega) (by omega)]
      have e1 : nN p pl (i + 1) = nN p pl i + hk p pl i := by unfold nN; rw [sumN]; omega
      have hn : 0 ≤ nN p pl i ∧ nN p pl i ≤ 6064 := by unfold nN; omega
      have e2 : qdc p pl (i + 1) = bif decide (hk p pl i > 0) then qdc p pl i ++ [(i : Int)] else qdc p pl i := by
        unfold qdc qa0; rw [List.range_succ, List.filter_append]
        cases hq : decide (hk p pl i > 0) <;> simp [hq]
      rw [e1, e2]
      cases hq : decide (hk p pl i > 0) with
      | true =>
        have hl : (qdc p pl i).length ≤ 100 := by
          unfold qdc qa0; rw [List.length_map, List.length_append, List.length_map]; have : ((List.range i).filter (fun k => decide (hk p pl k > 0))).length ≤ (List.range i).length := List.length_filter_le _ _; rw [List.length_range] at this; omega
        rw [cond_true, qI (by simp only [List.length_singleton]; omega), qb, qf (n := nN p pl i + hk p pl i) (by omega) (by omega)]; rfl
      | false =>
        have hz : hk p pl i = 0 := by rw [decide_eq_false_iff_not] at hq; omega
        rw [hz, Int.add_zero]
        rfl) (by
      unfold qcR; simp only [show getD' [p.2.1.1, p.2.1.2.1] pl.toNat [] = handP p pl from rfl]
      rw [show ((r.pieces.length : Nat) : Int) = (((handP p pl).length : Nat) : Int) by rw [hH], nltd, cond_false])
    have e0 : qdc p pl 0 = (p.1.filter (ownB pl)).map (fun c => ((kc c : Nat) : Int)) := by
      unfold qdc qa0; simp
    have e1 : nN p pl 0 = ((p.1.countP (ownB pl) : Nat) : Int) := by unfold nN; simp [sumN]
    rw [← e0, ← e1]; exact this
  unfold qi3; rw [h1, Option.bind_some, show inb pl 2 = true from inb_iff.2 (by omega), qb, h2, Option.bind_some]
theorem qrs {r : Rules} {p : Place} (hv : Valid r p) {pl : Int} {k : Nat} (hk' : k ∈ qa0 p pl r.pieces.length) : k < r.pieces.length := by
  unfold qa0 at hk'; rcases List.mem_append.1 hk' with h | h
  · obtain ⟨c, hc, e⟩ := List.mem_map.1 h; obtain ⟨h1, h2⟩ := List.mem_filter.1 hc; have h3 := qv5 hv h1; have h4 := qot h2; rw [← e]; unfold kc; omega
  · exact List.mem_range.1 (List.mem_filter.1 h).1
theorem qtq {p : Place} {pl : Int} {n : Nat} (q : Nat → Bool) : (qa0 p pl n).any q = true ↔ ∃ k, q k = true ∧ ((∃ c ∈ p.1, ownB pl c = true ∧ kc c = k) ∨ (k < n ∧ hk p pl k > 0)) := by
  rw [List.any_eq_true]; constructor
  · rintro ⟨k, hk1, hq⟩
    refine ⟨k, hq, ?_⟩; rcases List.mem_append.1 hk1 with h | h
    · obtain ⟨c, hc, e⟩ := List.mem_map.1 h; obtain ⟨h1, h2⟩ := List.mem_filter.1 hc; exact .inl ⟨c, h1, h2, e⟩
    · obtain ⟨h1, h2⟩ := List.mem_filter.1 h; exact .inr ⟨List.mem_range.1 h1, by simpa using h2⟩
  · rintro ⟨k, hq, h⟩
    refine ⟨k, List.mem_append.2 ?_, hq⟩; rcases h with ⟨c, h1, h2, h3⟩ | ⟨h1, h2⟩
    · exact .inl (List.mem_map.2 ⟨c, List.mem_filter.2 ⟨h1, h2⟩, h3⟩)
    · exact .inr (List.mem_filter.2 ⟨List.mem_range.2 h1, by simpa using h2⟩)

def dQ : Piece := (0, 0, 0, [], ())
def qgp (r : Rules) (k : Nat) : Piece := getD' r.pieces k dQ
def prN (r : Rules) (k : Nat) : Nat := (qgp r k).2.2.1.toNat
theorem qga (r : Rules) {k : Nat} (h : k < r.pieces.length) : qgp r k ∈ r.pieces := by unfold qgp; rw [gd_eq _ k h]; exact List.getElem_mem _
theorem ql6 (r : Rules) {k : Nat} (h : k < r.pieces.length) : at? r.2.2.2.1 (k : Int) = some (qgp r k) := by
  rw [at?_eq _ _ (by omega) (by show (k : Int) < ((r.pieces.length : Nat) : Int); omega)]; unfold qgp; rw [gd_eq _ k h]; rfl
theorem pr_le {r : Rules} (hv : VR0 r) : ∀ k, k < r.pieces.length → prN r k ≤ r.pieces.length := fun k h => by
  have := hv.prom _ (qga r h); unfold prN; omega
theorem qww {r : Rules} (hv : VR0 r) (g : Nat) : ∀ m i k : Nat, i + m = r.pieces.length + 1 → k < r.pieces.length → Option.bind (α := ((Unit) × (Unit)) ⊕ Bool) (iterW (qaW r (g : Int)) (((k : Int), (i : Int), ()), ())) (Sum.elim (fun x4 => some false) some) = some (bec (prN r) g m k) := by
  have ht6 := hv.t6; have hw : w64 (((r.2.2.2.1.length : Nat) : Int) + 1) = ((r.pieces.length : Nat) : Int) + 1 := qf (by show _ ≤ ((r.pieces.length : Nat) : Int) + 1; omega) (by show ((r.pieces.length : Nat) : Int) + 1 ≤ _; omega); intro m
  induction m with
  | zero =>
    intro i k hi hk
    rw [qk (r := .inl ((), ())) (by
      unfold qaW; simp only; rw [hw, decide_eq_false (by omega)]
      rfl)]
    rfl
  | succ m ih =>
    intro i k hi hk; have hp := hv.prom _ (qga r hk); by_cases e : k = g
    · rw [qk (r := .inr true) (by
        unfold qaW; simp only
        rw [hw, decide_eq_true (by omega), cond_true, beq_t (by omega), cond_true])]
      unfold bec; rw [beq_t e]; rfl
    · by_cases c : (qgp r k).2.2.1 = 0
      · rw [qk (r := .inr false) (by
          unfold qaW; simp only
          rw [hw, decide_eq_true (by omega), cond_true, beq_f (by omega), cond_false, ql6 r hk, Option.bind_some, beq_t c, cond_true])]
        unfold bec; rw [beq_f e, decide_eq_false (show ¬ 0 < prN r k by unfold prN; omega)]; rfl
      · have e2 : w64 ((qgp r k).2.2.1 - 1) = ((prN r k - 1 : Nat) : Int) := by
          unfold prN; rw [qf (by omega) (by omega)]; omega
        have hlt : prN r k - 1 < r.pieces.length := by unfold prN; omega
        rw [qm (y := ((((prN r k - 1 : Nat) : Int), ((i + 1 : Nat) : Int), ()), ())) (by
          unfold qaW; simp only; rw [hw, decide_eq_true (by omega), cond_true, beq_f (by omega), cond_false, ql6 r hk, Option.bind_some, beq_f c, cond_false, Option.bind_some, e2, qf (n := (i : Int) + 1) (by omega) (by omega)]
          rfl), ih (i + 1) (prN r k - 1) (by omega) hlt]
        conv => rhs; unfold bec
        rw [beq_f e, decide_eq_true (show 0 < prN r k by unfold prN; omega)]; rfl
theorem qtL {r : Rules} (hv : VR0 r) (g k : Nat) (hk : k < r.pieces.length) : qiv r (k : Int) (g : Int) = some (bec (prN r) g (r.pieces.length + 1) k) := qww hv g _ 0 k (by omega) hk

theorem qwy (q : Piece) (hq : q.2.2.2.1.length ≤ 16) (i : Nat) : iterW (qfv q (((i : Int), ()), ())) (((0 : Int), ()), ()) = some (bif q.2.2.2.1.any (fun w => w.2.2.2.1 != 0) then .inr (.inr (.inr ((true, ()), ()))) else .inl ((), ())) := by
  refine qam (β := ((Unit) × (Unit)) ⊕ (((Int × Unit) × (Unit)) ⊕ (((Unit) × (Unit)) ⊕ ((Bool × Unit) × (Unit))))) q.2.2.2.1 (fun w => w.2.2.2.1 != 0) _ (.inr (.inr (.inr ((true, ()), ())))) (.inl ((), ())) (fun j hj => ?_) ?_
  · unfold qfv; simp only; rw [ltd _ j hj, cond_true, at?_eq _ _ (by omega) (by omega), Option.bind_some, decide_eq_true (show (j : Int) ≥ 0 by omega), decide_eq_true (show (i : Int) ≥ 0 by omega), qf (n := (j : Int) + 1) (by omega) (by omega)]; simp only [Int.toNat_natCast]
    cases (q.2.2.2.1[j].2.2.2.1 != 0) <;> rfl
  · unfold qfv; simp only; rw [nltd]; rfl
def qq1 (r : Rules) (k : Nat) : Bool := (qgp r k).2.2.2.1.any fun w => w.2.2.2.1 != 0
def ableX (r : Rules) (p : Place) (pl : Int) (x : End) : Bool := (x.2.2.2.1 || (x.1 == 2)) || ((((x.1 == 0) && decide (nN p pl r.pieces.length ≥ x.2.2.1)) || ((x.1 == 1) && (qa0 p pl r.pieces.length).any (bec (prN r) x.2.1.toNat (r.pieces.length + 1)))) || (r.keeps && (qa0 p pl r.pieces.length).any (qq1 r)))
theorem able_spec {r : Rules} {p : Place} (hv : Valid r p) {pl : Int} (hpl : pl = 0 ∨ pl = 1) {x : End} (hx : x ∈ r.ends) : qmk r p x pl = some (ableX r p pl x) := by
  have hE := hv.r0.ends x hx; have ht1 := hv.r0.t1; have ht6 := hv.r0.t6; have hx1 : 0 ≤ x.2.1 := by
    have := hE.2.2
    split at this <;> omega
  have hg : x.2.1 = ((x.2.1.toNat : Nat) : Int) := by omega
  have hTl : (qa0 p pl r.pieces.length).length ≤ 100 := by
    have hfl : (p.1.filter (ownB pl)).length ≤ 64 := Nat.le_trans (List.length_filter_le _ _) (qh1 hv); have : ((List.range r.pieces.length).filter (fun k => decide (hk p pl k > 0))).length ≤ (List.range r.pieces.length).length := List.length_filter_le _ _; rw [List.length_range] at this; unfold qa0; rw [List.length_append, List.length_map]; omega
  have hlen : (qdc p pl r.pieces.length).length = (qa0 p pl r.pieces.length).length := List.length_map _; have hget : ∀ i (hi : i < (qa0 p pl r.pieces.length).length), getD' (qdc p pl r.pieces.length) i 0 = (((qa0 p pl r.pieces.length)[i] : Nat) : Int) := fun i hi => by
    rw [gd_eq _ i (by omega)]; unfold qdc; rw [List.getElem_map]
  have i1 : iterW (qfV (qdc p pl r.pieces.length, (nN p pl r.pieces.length, ())) r x) (((0 : Int), ()), ()) = some (bif (qa0 p pl r.pieces.length).any (bec (prN r) x.2.1.toNat (r.pieces.length + 1)) then .inr ((true, ()), ()) else .inl ((), ())) := by
    refine qam (β := ((Unit) × (Unit)) ⊕ ((Bool × Unit) × (Unit))) (qa0 p pl r.pieces.length) _ _ (.inr ((true, ()), ())) (.inl ((), ())) (fun i hi => ?_) ?_
    · unfold qfV; simp only; rw [decide_eq_true (show (i : Int) < (((qdc p pl r.pieces.length).length : Nat) : Int) by omega), cond_true, inbN _ i (by omega), qb, Int.toNat_natCast, hget i hi, hg, qtL hv.r0 _ _ (qrs hv (List.getElem_mem _)), Option.bind_some, decide_eq_true (show (i : Int) ≥ 0 by omega), qf (n := (i : Int) + 1) (by omega) (by omega)]; rfl
    · unfold qfV; simp only; rw [decide_eq_false (by omega)]; rfl
  have i2 : iterW (qfM (qdc p pl r.pieces.length, (nN p pl r.pieces.length, ())) r) (((0 : Int), ()), ()) = some (bif (qa0 p pl r.pieces.length).any (qq1 r) then .inr ((true, ()), ()) else .inl ((), ())) := by
    refine qam (β := ((Unit) × (Unit)) ⊕ ((Bool × Unit) × (Unit))) (qa0 p pl r.pieces.length) _ _ (.inr ((true, ()), ())) (.inl ((), ())) (fun i hi => ?_) ?_
    · have hlt := qrs hv (List.getElem_mem hi); have hwl := hv.r0.ways _ (qga r hlt); unfold qfM; simp only; rw [decide_eq_true (show (i : Int) < (((qdc p pl r.pieces.length).length : Nat) : Int) by omega), cond_true, inbN _ i (by omega), qb, Int.toNat_natCast, hget i hi, ql6 r hlt, Option.bind_some, qf (n := (i : Int) + 1) (by omega) (by omega)]; rw [qwy _ hwl i]; show _ = bif (qgp r (qa0 p pl r.pieces.length)[i]).2.2.2.1.any (fun w => w.2.2.2.1 != 0) then _ else _
      cases (qgp r (qa0 p pl r.pieces.length)[i]).2.2.2.1.any (fun w => w.2.2.2.1 != 0) <;> rfl
    · unfold qfM; simp only; rw [decide_eq_false (by omega)]; rfl
  unfold qmk; rw [qwP hv hpl, Option.bind_some, i1, i2]; unfold ableX; show _ = some (_ || (_ || (r.2.2.2.2.2.2.1 && _)))
  cases (x.2.2.2.1 || (x.1 == 2)) with
  | true => rfl
  | false =>
    cases ((x.1 == 0) && decide (nN p pl r.pieces.length ≥ x.2.2.1)) with
    | true => rfl
    | false =>
      cases (x.1 == 1) <;> cases (qa0 p pl r.pieces.length).any (bec (prN r) x.2.1.toNat (r.pieces.length + 1)) <;> cases r.2.2.2.2.2.2.1 <;> cases (qa0 p pl r.pieces.length).any (qq1 r) <;> rfl
def ableR (r : Rules) (p : Place) (pl : Int) : Bool := (r.blocked != 2) || r.ends.any (ableX r p pl)
theorem qqL (r : Rules) (p : Place) (pl : Int) (hr : Rng qal r) (hn : p.1.length ≤ 9223372036854775807) : qeS r p pl = some (if qW r p = 0 then if pl = 0 ∨ pl = 1 then (ableR r p pl, (0, ())) else (false, (1, ())) else (false, (qW r p, ()))) := by
  unfold qeS; rw [qiV r p hr hn, Option.bind_some]; by_cases c : qW r p = 0
  · have hv := qmn c; have h6 := hv.r0.ends6; rw [bne_f c, cond_false, if_pos c]; by_cases cp : pl = 0 ∨ pl = 1
    · rw [if_pos cp, show ((pl != 0) && (pl != 1)) = false by rcases cp with h | h <;> subst h <;> rfl, cond_false]
      have i1 : iterW (qdM r p pl) (((0 : Int), ()), ()) = some (bif r.ends.any (ableX r p pl) then .inr ((true, (0 : Int), ()), ()) else .inl ((), ())) := by
        refine qam (β := ((Unit) × (Unit)) ⊕ ((Bool × Int × Unit) × (Unit))) r.ends _ _ (.inr ((true, (0 : Int), ()), ())) (.inl ((), ())) (fun i hi => ?_) ?_
        · have hi' : i < r.2.2.2.2.2.2.2.1.length := hi; unfold qdM; simp only; rw [ltd _ i hi', cond_true, at?_eq _ _ (by omega) (by omega), Option.bind_some]; simp only [Int.toNat_natCast]; rw [able_spec hv cp (x := r.2.2.2.2.2.2.2.1[i]) (List.getElem_mem (l := r.ends) hi), Option.bind_some, decide_eq_true (show (i : Int) ≥ 0 by omega), qf (n := (i : Int) + 1) (by omega) (by omega)]; rfl
        · unfold qdM; simp only; rw [show decide (((r.ends.length : Nat) : Int) < ((r.2.2.2.2.2.2.2.1.length : Nat) : Int)) = false from nltd r.ends]; rfl
      rw [i1]; unfold ableR; show _ = some ((r.2.2.2.2.2.2.2.2.1 != 2) || _, _)
      cases (r.2.2.2.2.2.2.2.2.1 != 2) <;> cases r.ends.any (ableX r p pl) <;> rfl
    · rw [if_neg cp, show ((pl != 0) && (pl != 1)) = true by rw [bne_t (by omega), bne_t (by omega)]; rfl]; rfl
  · rw [bne_t c, if_neg c]; rfl
set_option maxHeartbeats 0

structure MS where
  g : List Place × List Mv
  res : Int
  rea : Int
  c : Clk
  o : Offs
  pm : List PM
  last : Int
  j : Jn
abbrev StT := List Mv × Int × Int × Clk × Offs × List PM × Unit
abbrev qhF := Rules × CRule × Game × StT × Int × Jn × Unit
def tupM (r : Rules) (cr : CRule) (m : MS) : qhF := (r, (cr, (gm r m.g, (([], (m.res, (m.rea, (m.c, (m.o, (m.pm, ())))))), (m.last, (m.j, ()))))))
def dClk : Clk := ((0, (0, ())), ((0, (0, ())), ((0, (0, ())), (0, (0, (false, (0, ())))))))
def dOff : Offs := ((0, (0, ())), (((0, (0, ())), ((0, (0, ())), ())), ()))
noncomputable def ofMove (o : Offs) (pl : Int) : Offs := ((qeE o pl).getD (dOff, (0, ()))).1
noncomputable def qoE (o : Offs) (k pl n : Int) : Offs × Int := let x := (qcb o k pl n).getD (dOff, (0, ())); (x.1, x.2.1)
noncomputable def qpN (o : Offs) (k pl n : Int) : Offs × Int := let x := (qau o k pl n).getD (dOff, (0, ())); (x.1, x.2.1)
noncomputable def ofAcc (o : Offs) (k pl n : Int) : Offs × Int := let x := (qcm o k pl n).getD (dOff, (0, ())); (x.1, x.2.1)
noncomputable def qwj (o : Offs) (n : Int) : Offs := ((qd1 o n).getD (dOff, (0, ()))).1
noncomputable def lookC (cr : CRule) (c : Clk) (now : Int) : Clk := ((qaJ cr c now).getD (dClk, (0, ()))).1
theorem qpJ (o : Offs) (pl : Int) : ∃ e, qeE o pl = some (ofMove o pl, (e, ())) := by
  obtain ⟨o', e, h⟩ := qwW o pl; exact ⟨e, by unfold ofMove; rw [h]; rfl⟩
theorem qkn (o : Offs) (k pl n : Int) : qcb o k pl n = some ((qoE o k pl n).1, ((qoE o k pl n).2, ())) := by
  obtain ⟨o', e, h⟩ := qwT o k pl n; unfold qoE; rw [h]; rfl
theorem qj6 (o : Offs) (k pl n : Int) : qau o k pl n = some ((qpN o k pl n).1, ((qpN o k pl n).2, ())) := by
  obtain ⟨o', e, h⟩ := qrr o k pl n; unfold qpN; rw [h]; rfl
theorem qrd (o : Offs) (k pl n : Int) : qcm o k pl n = some ((ofAcc o k pl n).1, ((ofAcc o k pl n).2, ())) ∧ ((ofAcc o k pl n).2 = 0 → (k = 0 ∨ k = 1) ∧ (pl = 0 ∨ pl = 1) ∧ 0 ≤ n ∧ n ≤ 400) := by
  obtain ⟨o', e, h, h'⟩ := qtn o k pl n; unfold ofAcc; rw [h]; exact ⟨rfl, h'⟩
theorem qpa (o : Offs) (n : Int) : ∃ e, qd1 o n = some (qwj o n, (e, ())) := by
  obtain ⟨o', e, h⟩ := qwB o n; exact ⟨e, by unfold qwj; rw [h]; rfl⟩
theorem qi4 (cr : CRule) (c : Clk) (now : Int) (hl : cr.1.length ≤ 9223372036854775807) : ∃ e, qaJ cr c now = some (lookC cr c now, (e, ())) := by
  obtain ⟨c', e, h, _⟩ := look_some cr c now hl; exact ⟨e, by unfold lookC; rw [h]; rfl⟩
noncomputable def moveM (r : Rules) (cr : CRule) (m : MS) (x : Mv) (now : Int) : MS := { m with g := nextG r m.g x, c := qfd cr m.c now, o := ofMove m.o (par m.g.2.length) }
noncomputable def annM (r : Rules) (cr : CRule) (now : Int) : Nat → MS → MS
  | 0, m => m
  | k + 1, m => if qx r m.g.1 = 0 ∧ m.g.2.length < 400 then
      if (nextP r (lastP m.g.1) m.pm).2.1 = true then annM r cr now k (moveM r cr { m with pm := (nextP r (lastP m.g.1) m.pm).2.2.1 } (nextP r (lastP m.g.1) m.pm).1 now)
      else { m with pm := (nextP r (lastP m.g.1) m.pm).2.2.1 }
    else m
noncomputable def qdo (r : Rules) (cr : CRule) (m : MS) (e : Ev) : MS × Int :=
  if par m.g.2.length ≠ e.2.1 then (m, 12) else if e.2.2.2.2.1 ∉ openM r (lastP m.g.1) then (m, 13) else if m.g.2.length = 400 then (m, 2)
  else (annM r cr e.2.2.2.1 (m.pm.length + 1) (moveM r cr m e.2.2.2.2.1 e.2.2.2.1), 0)
noncomputable def qdC (m : MS) (e : Ev) : MS × Int :=
  let x := if e.1 = 3 then qpN m.o e.2.2.1 e.2.1 ((m.g.2.length : Nat) : Int) else qoE m.o e.2.2.1 e.2.1 ((m.g.2.length : Nat) : Int)
  if x.2 = 0 then ({ m with o := x.1 }, 0) else (m, x.2)
def backN : Nat → List Place × List Mv → List Place × List Mv
  | 0, s => s
  | k + 1, s => backN k (backG s)
noncomputable def qaO (m : MS) (e : Ev) : MS × Int :=
  let x := ofAcc m.o e.2.2.1 e.2.1 ((m.g.2.length : Nat) : Int)
  if x.2 ≠ 0 then (m, x.2) else if e.2.2.1 = 0 then ({ m with o := x.1, res := 3, rea := 4 }, 0)
  else
    let g := backN (qcy (1 - e.2.1) ((m.g.2.length : Nat) : Int)).toNat m.g
    ({ m with g := g, o := qwj x.1 ((g.2.length : Nat) : Int), c := (m.c.1, (m.c.2.1, (m.c.2.2.1, (par g.2.length, (e.2.2.2.1, m.c.2.2.2.2.2))))), pm := [] }, 0)
def fallR (r : Rules) (p : Place) (pl : Int) : Int := if ableR r p (1 - pl) = true then 2 - pl else 3
noncomputable def qbA (r : Rules) (cr : CRule) (m : MS) (e : Ev) : MS × Int :=
  if e.2.2.1 = 2 then
    if (lookC cr m.c e.2.2.2.1).2.2.2.2.2.2.1 < 0 then (m, 10)
    else ({ m with res := fallR r (lastP m.g.1) (lookC cr m.c e.2.2.2.1).2.2.2.2.2.2.1, rea := 2, c := lookC cr m.c e.2.2.2.1 }, 0)
  else if e.2.2.1 ≠ 0 ∧ e.2.2.1 ≠ 1 then (m, 1) else if par m.g.2.length ≠ e.2.1 then (m, 12)
  else if e.2.2.1 = 0 ∧ 3 ≤ qaC m.g.1 ∨ e.2.2.1 = 1 ∧ 20 ≤ (lastP m.g.1).quiet then ({ m with res := 3, rea := 5 }, 0) else (m, 10)
def qah (m : MS) (e : Ev) : MS × Int :=
  if par m.g.2.length = e.2.1 then (m, 12) else if (ofL m.pm e.2.1).length = 4 then (m, 9) else ({ m with pm := m.pm ++ [(e.2.1, (e.2.2.2.2.1, ()))] }, 0)
noncomputable def kindM (r : Rules) (cr : CRule) (m : MS) (e : Ev) : MS × Int :=
  if e.1 = 0 then qdo r cr m e else if e.1 = 1 ∨ e.1 = 3 then qdC m e else if e.1 = 2 then qaO m e else if e.1 = 5 then qbA r cr m e
  else if e.1 = 6 then qah m e else ({ m with res := 2 - e.2.1, rea := 3 }, 0)
def overM (r : Rules) (m : MS) : MS := if m.res = 0 ∧ qx r m.g.1 ≠ 0 then { m with res := qx r m.g.1, rea := 1 } else m
noncomputable def doneM (r : Rules) (m : MS) (e : Ev) : MS := overM r { m with last := e.2.2.2.1, j := nextJ m.j (qej e) }
noncomputable def doM (r : Rules) (cr : CRule) (m : MS) (e : Ev) : MS × Int :=
  if (e.1 < 0 ∨ 6 < e.1) ∨ (e.2.1 ≠ 0 ∧ e.2.1 ≠ 1) then (m, 1) else if e.2.2.2.1 < m.last ∨ 100000000 < e.2.2.2.1 then (m, 11) else if m.res ≠ 0 then (m, 14)
  else if m.j.length = 1000 then (m, 9)
  else if (0 ≤ (lookC cr m.c e.2.2.2.1).2.2.2.2.2.2.1 ∧ e.1 ≠ 4) ∧ ¬ (e.1 = 5 ∧ e.2.2.1 = 2) then (m, 11)
  else if (kindM r cr m e).2 ≠ 0 then (m, (kindM r cr m e).2) else (doneM r (kindM r cr m e).1 e, 0)
structure MOK (r : Rules) (cr : CRule) (m : MS) : Prop where
  rng : Rng qal r
  len : cr.1.length ≤ 9223372036854775807
  g : RG r m.g
  cok : chkC cr = 0
  clk : m.res = 0 → GoodC cr m.c m.last
  turn : m.res = 0 → m.c.2.2.2.1 = par m.g.2.length
  opn : m.res = 0 → qx r m.g.1 = 0
  pm : pmErr m.pm = 0
  few : m.pm.length ≤ 8
  j : JOK m.j
structure MID (r : Rules) (cr : CRule) (m : MS) (now : Int) : Prop where
  rng : Rng qal r
  len : cr.1.length ≤ 9223372036854775807
  g : RG r m.g
  clk : GoodC cr m.c now
  turn : m.c.2.2.2.1 = par m.g.2.length
  pm : pmErr m.pm = 0
  few : m.pm.length ≤ 8
theorem qq6 {r : Rules} {cr : CRule} {m : MS} {now : Int} (h : MID r cr m now) {x : Mv} (c : stepG r m.g x = 0) : qaq (tupM r cr m) x now = some (tupM r cr (moveM r cr m x now), ()) := by
  obtain ⟨e, he⟩ := qpJ m.o (par m.g.2.length); obtain ⟨hp, _⟩ := qmt h.len h.clk; have ht := RG.turn m.g.2.length h.g rfl; unfold qaq tupM gm; simp only; rw [qat h.g.ok, Option.bind_some, play_spec h.g.ok, Option.bind_some, if_pos c, hp, Option.bind_some]; rw [show (lastP m.g.1).2.2.1 = (lastP m.g.1).turn from rfl, ht, he, Option.bind_some]; rfl
theorem qol {r : Rules} {cr : CRule} {m : MS} {now : Int} (h : MID r cr m now) {x : Mv} (c : stepG r m.g x = 0) : MID r cr (moveM r cr m x now) now := by
  obtain ⟨_, p1, p2, p3⟩ := qmt h.len h.clk
  have hlen : (moveM r cr m x now).g.2.length = m.g.2.length + 1 := by unfold moveM nextG; simp
  refine ⟨h.rng, h.len, h.g.next c, p1, ?_, h.pm, h.few⟩; show (qfd cr m.c now).2.2.2.1 = _; rw [p2, h.turn, hlen, qwf]
theorem qiA (pl : Int) : ∀ l : List PM, (ofL l pl).length = l.countP (fun x => x.1 == pl)
  | [] => rfl
  | x :: l => by
    have ih := qiA pl l; unfold ofL at *; rw [List.flatMap_cons, List.length_append, ih, List.countP_cons]; cases (x.1 == pl)
    · simp
    · simp; omega
theorem qwr : ∀ l : List PM, l.length = l.countP (fun x => x.1 == 0) + l.countP (fun x => x.1 == 1) + l.countP odd1
  | [] => rfl
  | x :: l => by
    have ih := qwr l; simp only [List.length_cons, List.countP_cons]; rw [show odd1 x = ((x.1 != 0) && (x.1 != 1)) from rfl]; by_cases h0 : x.1 = 0
    · simp only [h0]; simp; omega
    · by_cases h1 : x.1 = 1
      · simp only [h1]; simp; omega
      · simp [h0, h1]; omega
theorem qtm (l : List PM) : pmErr l = 0 ↔ l.countP (fun x => x.1 == 0) ≤ 4 ∧ l.countP (fun x => x.1 == 1) ≤ 4 ∧ l.countP odd1 = 0 := by
  unfold pmErr; rw [qiA, qiA]; constructor
  · intro h; split at h
    · cases h
    · rename_i c; split at h
      · cases h
      · rename_i d; refine ⟨by omega, by omega, ?_⟩; rw [List.countP_eq_zero]; intro x hx q; exact d (List.any_eq_true.2 ⟨x, hx, q⟩)
  · rintro ⟨a, b, c⟩
    rw [if_neg (by omega), if_neg]; intro d; obtain ⟨x, hx, q⟩ := List.any_eq_true.1 d; exact (List.countP_eq_zero.1 c x hx) q
theorem pm_len {l : List PM} (h : pmErr l = 0) : l.length ≤ 8 := by
  have := (qtm l).1 h; have := qwr l; omega
theorem pm_sub {l l' : List PM} (hs : l'.Sublist l) (h : pmErr l = 0) : pmErr l' = 0 := by
  have h1 := (qtm l).1 h; have a := hs.countP_le (p := fun x => x.1 == 0); have b := hs.countP_le (p := fun x => x.1 == 1); have c := hs.countP_le (p := odd1); exact (qtm l').2 ⟨by omega, by omega, by omega⟩
theorem qsb (r : Rules) (p : Place) (l : List PM) : (nextP r p l).2.2.1.Sublist l := by
  unfold nextP; split
  · unfold resN; split
    · show (l.take _ ++ l.drop _).Sublist l; rw [← List.eraseIdx_eq_take_drop_succ]; exact List.eraseIdx_sublist _ _
    · exact List.filter_sublist
  · exact List.filter_sublist
theorem qsp {r : Rules} {p : Place} {l : List PM} (h : (nextP r p l).2.1 = true) : (nextP r p l).1 ∈ openM r p ∧ (nextP r p l).2.2.1.length + 1 = l.length := by
  unfold nextP at *; split at h
  · rename_i c; rw [if_pos c]; unfold resN at *; split at h
    · rename_i d; rw [if_pos d]; refine ⟨d, ?_⟩; show (l.take _ ++ l.drop _).length + 1 = _; rw [List.length_append, List.length_take, List.length_drop]; omega
    · cases h
  · cases h
theorem qh9 {r : Rules} {s : List Place × List Mv} {m : Mv} (hr : qx r s.1 = 0) (hm : m ∈ openM r (lastP s.1)) (hl : s.2.length < 400) : stepG r s m = 0 := by
  unfold stepG; rw [if_pos hr, if_pos (openM_mem.1 hm).2, if_neg (by omega)]
def flatT (x : qhF) : ByteArray × Int × Int × (List (Int × Int × Int × (List (Int × Int × Int × Int × Unit)) × Unit)) × (List Int) × Bool × Bool × (List (Int × Int × Int × Bool × Unit)) × Int × Int × Int × (List (Int × Int × Unit)) × Int × Int × Game × (List Mv) × Int × Int × Int × Int × Int × Int × Int × Int × Int × Int × Bool × Int × Int × Int × Int × Int × Int × Int × (List PM) × Int × Jn × Unit :=
  (x.1.1, (x.1.2.1, (x.1.2.2.1, (x.1.2.2.2.1, (x.1.2.2.2.2.1, (x.1.2.2.2.2.2.1, (x.1.2.2.2.2.2.2.1, (x.1.2.2.2.2.2.2.2.1, (x.1.2.2.2.2.2.2.2.2.1, (x.1.2.2.2.2.2.2.2.2.2.1, (x.1.2.2.2.2.2.2.2.2.2.2.1, (x.2.1.1, (x.2.1.2.1, (x.2.1.2.2.1, ((x.2.2.1.1, (x.2.2.1.2.1, (x.2.2.1.2.2.1, ()))), (x.2.2.2.1.1, (x.2.2.2.1.2.1, (x.2.2.2.1.2.2.1,
  (x.2.2.2.1.2.2.2.1.1.1, (x.2.2.2.1.2.2.2.1.1.2.1, (x.2.2.2.1.2.2.2.1.2.1.1, (x.2.2.2.1.2.2.2.1.2.1.2.1, (x.2.2.2.1.2.2.2.1.2.2.1.1, (x.2.2.2.1.2.2.2.1.2.2.1.2.1, (x.2.2.2.1.2.2.2.1.2.2.2.1, (x.2.2.2.1.2.2.2.1.2.2.2.2.1, (x.2.2.2.1.2.2.2.1.2.2.2.2.2.1, (x.2.2.2.1.2.2.2.1.2.2.2.2.2.2.1,
  (x.2.2.2.1.2.2.2.2.1.1.1, (x.2.2.2.1.2.2.2.2.1.1.2.1, (x.2.2.2.1.2.2.2.2.1.2.1.1.1, (x.2.2.2.1.2.2.2.2.1.2.1.1.2.1, (x.2.2.2.1.2.2.2.2.1.2.1.2.1.1, (x.2.2.2.1.2.2.2.2.1.2.1.2.1.2.1, (x.2.2.2.1.2.2.2.2.2.1, x.2.2.2.2)))))))))))))))))))))))))))))))))))
def withP (x : qhF) (l : List PM) : qhF := (x.1, (x.2.1, (x.2.2.1, ((x.2.2.2.1.1, (x.2.2.2.1.2.1, (x.2.2.2.1.2.2.1, (x.2.2.2.1.2.2.2.1, (x.2.2.2.1.2.2.2.2.1, (l, ())))))), x.2.2.2.2))))
theorem dm_L1 (e : Ev) (x : qhF) : qaB e ((), (flatT x, ())) = Option.bind (Option.bind (qaz x.2.2.1) fun a => bif (a == (0 : Int)) then (Option.bind (qr x.2.2.1) fun b => some (((decide (((b.length : Nat) : Int) < (400 : Int))), ()), ())) else some ((false, ()), ())) fun b =>
    bif b.1.1 then (Option.bind (Option.bind (ql x.2.2.1) fun p => Option.bind (qbh x.1 p x.2.2.2.1.2.2.2.2.2.1) fun y => some ((y.1, (y.2.1, (y.2.2.1, ()))), ())) fun z => bif (!z.1.2.1) then some (.inr ((), (flatT (withP x z.1.2.2.1), ()))) else Option.bind (qaq (withP x z.1.2.2.1) z.1.1 e.2.2.2.1) fun w => some (.inl ((), (flatT w.1, ()))))
    else some (.inr ((), (flatT x, ()))) := by
  unfold qaB; simp only [qP, agree_self]; rfl

theorem mid_pm {r : Rules} {cr : CRule} {m : MS} {now : Int} (h : MID r cr m now) {l : List PM} (hs : l.Sublist m.pm) : MID r cr { m with pm := l } now :=
  ⟨h.rng, h.len, h.g, h.clk, h.turn, pm_sub hs h.pm, pm_len (pm_sub hs h.pm)⟩
theorem qsF {r : Rules} {cr : CRule} {now : Int} (e : Ev) (he : e.2.2.2.1 = now) : ∀ (k : Nat) (m : MS), MID r cr m now → m.pm.length < k →
    iterW (qaB e) ((), (flatT (tupM r cr m), ())) = some ((), (flatT (tupM r cr (annM r cr now k m)), ())) ∧ MID r cr (annM r cr now k m) now
  | 0, m, _, hk => absurd hk (Nat.not_lt_zero _)
  | k + 1, m, h, hk => by
    have hL := dm_L1 e (tupM r cr m); rw [show (tupM r cr m).2.2.1 = (r, (m.g.1, (m.g.2, ()))) from rfl, show (tupM r cr m).1 = r from rfl, show (tupM r cr m).2.2.2.1.2.2.2.2.2.1 = m.pm from rfl, qh8 h.g.ok, qcs h.g.ok, qat h.g.ok] at hL; simp only [Option.bind_some] at hL; unfold annM; by_cases c0 : qx r m.g.1 = 0
    · rw [c0] at hL; simp only [beq_self_eq_true, cond_true, Option.bind_some] at hL; by_cases c1 : m.g.2.length < 400
      · rw [show decide (((m.g.2.length : Nat) : Int) < 400) = true by simp; omega, cond_true, qxc r _ h.rng h.g.ok.last h.g.ok.ok _ (by have := h.few; omega), Option.bind_some] at hL; rw [if_neg (fun q => q h.pm)] at hL; simp only [Option.bind_some] at hL; rw [if_pos ⟨c0, c1⟩]; have hmid := mid_pm h (qsb r (lastP m.g.1) m.pm); by_cases c2 : (nextP r (lastP m.g.1) m.pm).2.1 = true
        · rw [c2, Bool.not_true, cond_false, he] at hL; obtain ⟨n1, n2⟩ := qsp c2; have hst : stepG r m.g (nextP r (lastP m.g.1) m.pm).1 = 0 := qh9 c0 n1 c1; have hmv : qaq (withP (tupM r cr m) (nextP r (lastP m.g.1) m.pm).2.2.1) (nextP r (lastP m.g.1) m.pm).1 now = _ := qq6 hmid hst; rw [hmv, Option.bind_some] at hL; rw [if_pos c2]; have ih := qsF e he k _ (qol hmid hst) (by show (nextP r (lastP m.g.1) m.pm).2.2.1.length < k; omega); rw [qm hL]; exact ih
        · have c3 : (nextP r (lastP m.g.1) m.pm).2.1 = false := by simpa using c2
          rw [c3, Bool.not_false, cond_true] at hL; rw [if_neg c2]; exact ⟨qk hL, hmid⟩
      · rw [show decide (((m.g.2.length : Nat) : Int) < 400) = false by simp; omega, cond_false] at hL; rw [if_neg (fun q => c1 q.2)]; exact ⟨qk hL, h⟩
    · rw [beq_f c0, cond_false, Option.bind_some, cond_false] at hL; rw [if_neg (fun q => c0 q.1)]; exact ⟨qk hL, h⟩
def unflat (y : ByteArray × Int × Int × (List (Int × Int × Int × (List (Int × Int × Int × Int × Unit)) × Unit)) × (List Int) × Bool × Bool × (List (Int × Int × Int × Bool × Unit)) × Int × Int × Int × (List (Int × Int × Unit)) × Int × Int × Game × (List Mv) × Int × Int × Int × Int × Int × Int × Int × Int × Int × Int × Bool × Int × Int × Int × Int × Int × Int × Int × (List PM) × Int × Jn × Unit) : qhF := ((y.1, (y.2.1, (y.2.2.1, (y.2.2.2.1, (y.2.2.2.2.1, (y.2.2.2.2.2.1, (y.2.2.2.2.2.2.1, (y.2.2.2.2.2.2.2.1, (y.2.2.2.2.2.2.2.2.1, (y.2.2.2.2.2.2.2.2.2.1, (y.2.2.2.2.2.2.2.2.2.2.1, ()))))))))))), ((y.2.2.2.2.2.2.2.2.2.2.2.1, (y.2.2.2.2.2.2.2.2.2.2.2.2.1, (y.2.2.2.2.2.2.2.2.2.2.2.2.2.1, ()))), ((y.2.2.2.2.2.2.2.2.2.2.2.2.2.2.1.1, (y.2.2.2.2.2.2.2.2.2.2.2.2.2.2.1.2.1, (y.2.2.2.2.2.2.2.2.2.2.2.2.2.2.1.2.2.1, ()))), ((y.2.2.2.2.2.2.2.2.2.2.2.2.2.2.2.1, (y.2.2.2.2.2.2.2.2.2.2.2.2.2.2.2.2.1, (y.2.2.2.2.2.2.2.2.2.2.2.2.2.2.2.2.2.1, (((y.2.2.2.2.2.2.2.2.2.2.2.2.2.2.2.2.2.2.1, (y.2.2.2.2.2.2.2.2.2.2.2.2.2.2.2.2.2.2.2.1, ())), ((y.2.2.2.2.2.2.2.2.2.2.2.2.2.2.2.2.2.2.2.2.1, (y.2.2.2.2.2.2.2.2.2.2.2.2.2.2.2.2.2.2.2.2.2.1, ())), ((y.2.2.2.2.2.2.2.2.2.2.2.2.2.2.2.2.2.2.2.2.2.2.1, (y.2.2.2.2.2.2.2.2.2.2.2.2.2.2.2.2.2.2.2.2.2.2.2.1, ())), (y.2.2.2.2.2.2.2.2.2.2.2.2.2.2.2.2.2.2.2.2.2.2.2.2.1, (y.2.2.2.2.2.2.2.2.2.2.2.2.2.2.2.2.2.2.2.2.2.2.2.2.2.1, (y.2.2.2.2.2.2.2.2.2.2.2.2.2.2.2.2.2.2.2.2.2.2.2.2.2.2.1, (y.2.2.2.2.2.2.2.2.2.2.2.2.2.2.2.2.2.2.2.2.2.2.2.2.2.2.2.1, ()))))))), (((y.2.2.2.2.2.2.2.2.2.2.2.2.2.2.2.2.2.2.2.2.2.2.2.2.2.2.2.2.1, (y.2.2.2.2.2.2.2.2.2.2.2.2.2.2.2.2.2.2.2.2.2.2.2.2.2.2.2.2.2.1, ())), (((y.2.2.2.2.2.2.2.2.2.2.2.2.2.2.2.2.2.2.2.2.2.2.2.2.2.2.2.2.2.2.1, (y.2.2.2.2.2.2.2.2.2.2.2.2.2.2.2.2.2.2.2.2.2.2.2.2.2.2.2.2.2.2.2.1, ())), ((y.2.2.2.2.2.2.2.2.2.2.2.2.2.2.2.2.2.2.2.2.2.2.2.2.2.2.2.2.2.2.2.2.1, (y.2.2.2.2.2.2.2.2.2.2.2.2.2.2.2.2.2.2.2.2.2.2.2.2.2.2.2.2.2.2.2.2.2.1, ())), ())), ())), (y.2.2.2.2.2.2.2.2.2.2.2.2.2.2.2.2.2.2.2.2.2.2.2.2.2.2.2.2.2.2.2.2.2.2.1, ())))))), y.2.2.2.2.2.2.2.2.2.2.2.2.2.2.2.2.2.2.2.2.2.2.2.2.2.2.2.2.2.2.2.2.2.2.2))))
structure SpecK (r : Rules) (cr : CRule) (m : MS) (now : Int) (x : MS × Int) (y : Option (qhF × Int)) : Prop where
  val : y = some (tupM r cr x.1, x.2)
  err : x.2 ≠ 0 → x.1 = m
  mid : x.2 = 0 → x.1.res = 0 → MID r cr x.1 now
  g : RG r x.1.g
  pm : pmErr x.1.pm = 0
  kept : x.1.last = m.last ∧ x.1.j = m.j
theorem SpecK.same {r : Rules} {cr : CRule} {m : MS} {now : Int} (h : MID r cr m now) {k : Int} (hk : k ≠ 0) {y : Option (qhF × Int)} (hy : y = some (tupM r cr m, k)) : SpecK r cr m now (m, k) y :=
  ⟨hy, fun _ => rfl, fun c => absurd c hk, h.g, h.pm, ⟨rfl, rfl⟩⟩
theorem SpecK.done {r : Rules} {cr : CRule} {m m' : MS} {now : Int} (h : MID r cr m' now) (h1 : m'.last = m.last) (h2 : m'.j = m.j) {y : Option (qhF × Int)} (hy : y = some (tupM r cr m', 0)) : SpecK r cr m now (m', 0) y :=
  ⟨hy, fun c => absurd rfl c, fun _ _ => h, h.g, h.pm, ⟨h1, h2⟩⟩
theorem qrG {r : Rules} {cr : CRule} {now : Int} : ∀ (k : Nat) (m : MS), (annM r cr now k m).last = m.last ∧ (annM r cr now k m).j = m.j
  | 0, m => ⟨rfl, rfl⟩
  | k + 1, m => by
    unfold annM; split
    · split
      · exact qrG k _
      · exact ⟨rfl, rfl⟩
    · exact ⟨rfl, rfl⟩
theorem bneI (a b : Int) : (a != b) = decide (a ≠ b) := by
  by_cases h : a = b
  · rw [bne_f h, decide_eq_false (fun q => q h)]
  · rw [bne_t h, decide_eq_true h]
theorem dm_eq (x : qhF) (e : Ev) : qaH x e = Option.bind (ql x.2.2.1) fun p => bif (p.2.2.1 != e.2.1) then some (x, 12) else Option.bind (qgr x.1 p) fun l => Option.bind (qw l e.2.2.2.2.1) fun b => bif (!b) then some (x, 13) else
    Option.bind (qr x.2.2.1) fun q => bif (((q.length : Nat) : Int) == (400 : Int)) then some (x, 2) else Option.bind (qaq x e.2.2.2.2.1 e.2.2.2.1) fun w => Option.bind (iterW (qaB e) ((), (flatT w.1, ()))) fun y => some (unflat y.2.1, 0) := by
  unfold qaH; simp only [qP, agree_self]
  cases ql x.2.2.1 with
  | none => rfl
  | some p => rfl
theorem quC {r : Rules} {cr : CRule} {m : MS} {e : Ev} (h : MID r cr m e.2.2.2.1) (h0 : qx r m.g.1 = 0) : SpecK r cr m e.2.2.2.1 (qdo r cr m e) (qaH (tupM r cr m) e) := by
  have ht := RG.turn m.g.2.length h.g rfl; have hv := h.g.ok.last; rw [dm_eq, show (tupM r cr m).2.2.1 = (r, (m.g.1, (m.g.2, ()))) from rfl, show (tupM r cr m).1 = r from rfl, qat h.g.ok, qcs h.g.ok]; simp only [Option.bind_some]; rw [show (lastP m.g.1).2.2.1 = (lastP m.g.1).turn from rfl, ht, qra hv]; simp only [Option.bind_some]; rw [qf9 _ _ (by have := qt6 hv; omega)]; simp only [Option.bind_some]; unfold qdo; by_cases c1 : par m.g.2.length = e.2.1
  rotate_left
  · rw [if_pos c1, bne_t c1, cond_true]; exact SpecK.same h (by decide) rfl
  rw [if_neg (fun q => q c1), bne_f c1, cond_false]; by_cases c2 : e.2.2.2.2.1 ∈ openM r (lastP m.g.1)
  rotate_left
  · rw [if_pos c2, decide_eq_false c2, Bool.not_false, cond_true]; exact SpecK.same h (by decide) rfl
  rw [if_neg (fun q => q c2), decide_eq_true c2, Bool.not_true, cond_false]; by_cases c3 : m.g.2.length = 400
  · rw [if_pos c3, c3]; exact SpecK.same h (by decide) rfl
  rw [if_neg c3, beq_f (show ¬ ((m.g.2.length : Nat) : Int) = 400 by omega), cond_false]; have hst : stepG r m.g e.2.2.2.2.1 = 0 := qh9 h0 c2 (by have := h.g.ok.most; omega); rw [qq6 h hst, Option.bind_some]; obtain ⟨l1, l2⟩ := qsF e rfl (m.pm.length + 1) _ (qol h hst) (by show m.pm.length < m.pm.length + 1; omega); rw [l1, Option.bind_some]; obtain ⟨k1, k2⟩ := qrG (r := r) (cr := cr) (now := e.2.2.2.1) (m.pm.length + 1) (moveM r cr m e.2.2.2.2.1 e.2.2.2.1); exact SpecK.done (m := m) l2 k1 k2 rfl
theorem qsQ {r : Rules} {cr : CRule} {m : MS} {e : Ev} (h : MID r cr m e.2.2.2.1) : SpecK r cr m e.2.2.2.1 (qdC m e) (qaw (tupM r cr m) e) := by
  have hy : qaw (tupM r cr m) e = Option.bind (bif (e.1 == (3 : Int)) then qau m.o e.2.2.1 e.2.1 ((m.g.2.length : Nat) : Int) else qcb m.o e.2.2.1 e.2.1 ((m.g.2.length : Nat) : Int)) fun x => bif (x.2.1 == (0 : Int)) then some (tupM r cr { m with o := x.1 }, x.2.1) else some (tupM r cr m, x.2.1) := by
    unfold qaw; simp only [qo, qn, qg, qh, qP, agree_self, show (tupM r cr m).2.2.1.1 = r from rfl, show (tupM r cr m).2.2.1.2.1 = m.g.1 from rfl, show (tupM r cr m).2.2.1.2.2.1 = m.g.2 from rfl, qcs h.g.ok, Option.bind_some]; rw [show (tupM r cr m).2.2.2.1.2.2.2.2.1 = m.o from rfl]; simp only [qj6, qkn, Option.bind_some, qP, agree_self]; cases (e.1 == (3 : Int))
    · simp only [cond_false, Option.bind_some]
      cases ((qoE m.o e.2.2.1 e.2.1 ((m.g.2.length : Nat) : Int)).2 == (0 : Int)) <;> rfl
    · simp only [cond_true, Option.bind_some]
      cases ((qpN m.o e.2.2.1 e.2.1 ((m.g.2.length : Nat) : Int)).2 == (0 : Int)) <;> rfl
  rw [hy]; unfold qdC; by_cases c : e.1 = 3
  · rw [beq_t c, cond_true, if_pos c, qj6, Option.bind_some]; simp only; by_cases c1 : (qpN m.o e.2.2.1 e.2.1 ((m.g.2.length : Nat) : Int)).2 = 0
    · rw [if_pos c1, beq_t c1, cond_true, c1]; refine SpecK.done (m := m) ?_ (by rfl) (by rfl) (by rfl); exact ⟨h.rng, h.len, h.g, h.clk, h.turn, h.pm, h.few⟩
    · rw [if_neg c1, beq_f c1, cond_false]; exact SpecK.same h c1 rfl
  · rw [beq_f c, cond_false, if_neg c, qkn, Option.bind_some]; simp only; by_cases c1 : (qoE m.o e.2.2.1 e.2.1 ((m.g.2.length : Nat) : Int)).2 = 0
    · rw [if_pos c1, beq_t c1, cond_true, c1]; refine SpecK.done (m := m) ?_ (by rfl) (by rfl) (by rfl); exact ⟨h.rng, h.len, h.g, h.clk, h.turn, h.pm, h.few⟩
    · rw [if_neg c1, beq_f c1, cond_false]; exact SpecK.same h c1 rfl
theorem da_L1 (z : (Int × Int × Unit) × Unit) (i : Int) (g : Game) : qbT z ((i, ()), (flG g, ())) = bif decide (i < z.1.1) then Option.bind (qc3 g) fun w => some (.inl ((w64 (i + 1), ()), (flG w.1, ()))) else some (.inr ((), (flG g, ()))) := rfl
theorem qua {r : Rules} (z : (Int × Int × Unit) × Unit) (n : Nat) (hz : z.1.1 = (n : Int)) (hn : n ≤ 1000000) : ∀ (k i : Nat) (s : List Place × List Mv), i + k = n → RG r s → k ≤ s.2.length →
    iterW (qbT z) (((i : Int), ()), (flG (gm r s), ())) = some ((), (flG (gm r (backN k s)), ())) ∧ RG r (backN k s)
  | 0, i, s, hi, h, hk => by
    refine ⟨qk ?_, h⟩; rw [da_L1, hz, decide_eq_false (by omega), cond_false]; rfl
  | k + 1, i, s, hi, h, hk => by
    have ih := qua z n hz hn k (i + 1) (backG s) (by omega) (h.back (by omega)) (by rw [qkU]; omega); have hL := da_L1 z (i : Int) (gm r s); rw [hz, decide_eq_true (by omega), cond_true, show gm r s = (r, (s.1, (s.2, ()))) from rfl, back_spec h.ok, if_neg (by omega), Option.bind_some, qf (by omega) (by omega)] at hL; rw [show gm r s = (r, (s.1, (s.2, ()))) from rfl, qm hL]; exact ih
theorem qoH (pl : Int) (n : Nat) : 0 ≤ qcy pl (n : Int) ∧ qcy pl (n : Int) ≤ 2 ∧ (qcy pl (n : Int)).toNat ≤ n := by
  unfold qcy; generalize (if (0 : Int) > (n : Int) then (0 : Int) else (n : Int)).tmod 2 = t; by_cases c : (if t = pl then (2 : Int) else 1) > (n : Int) ∨ pl ≠ 0 ∧ pl ≠ 1
  · rw [if_pos c]; simp
  · rw [if_neg c]; have : ¬ (if t = pl then (2 : Int) else 1) > (n : Int) := fun q => c (.inl q)
    split at this <;> rename_i q
    · rw [if_pos q]; omega
    · rw [if_neg q]; omega
theorem qlA : ∀ (k : Nat) (s : List Place × List Mv), (backN k s).2.length = s.2.length - k
  | 0, s => rfl
  | k + 1, s => by
    show (backN k (backG s)).2.length = _; rw [qlA k, qkU]; omega
theorem qmT {r : Rules} : ∀ (k : Nat) {s : List Place × List Mv}, RG r s → k ≤ s.2.length → qx r s.1 = 0 → qx r (backN k s).1 = 0
  | 0, s, h, hk, h0 => h0
  | k + 1, s, h, hk, h0 => qmT k (h.back (by omega)) (by rw [qkU]; omega) (h.back_open (by omega))
theorem qsx {r : Rules} {cr : CRule} {m : MS} {e : Ev} (h : MID r cr m e.2.2.2.1) (h0 : qx r m.g.1 = 0) : SpecK r cr m e.2.2.2.1 (qaO m e) (qaK (tupM r cr m) e) := by
  obtain ⟨a1, a2⟩ := qrd m.o e.2.2.1 e.2.1 ((m.g.2.length : Nat) : Int); unfold qaK; simp only [qP, agree_self, show (tupM r cr m).2.2.1.1 = r from rfl, show (tupM r cr m).2.2.1.2.1 = m.g.1 from rfl, show (tupM r cr m).2.2.1.2.2.1 = m.g.2 from rfl, qcs h.g.ok, Option.bind_some]; rw [show (tupM r cr m).2.2.2.1.2.2.2.2.1 = m.o from rfl]; simp only [a1, qmS, Option.bind_some, qP, agree_self]; unfold qaO; simp only; by_cases c1 : (ofAcc m.o e.2.2.1 e.2.1 ((m.g.2.length : Nat) : Int)).2 = 0
  rotate_left
  · rw [if_pos c1, bne_t c1, cond_true]; exact SpecK.same h c1 rfl
  rw [if_neg (fun q => q c1), bne_f c1, cond_false]; by_cases c2 : e.2.2.1 = 0
  · rw [if_pos c2, beq_t c2, cond_true]; exact ⟨rfl, fun q => absurd rfl q, fun _ q => (by cases q), h.g, h.pm, ⟨rfl, rfl⟩⟩
  rw [if_neg c2, beq_f c2, cond_false]; have hpl : w64 (1 - e.2.1) = 1 - e.2.1 := qf (by have := (a2 c1).2.1; omega) (by have := (a2 c1).2.1; omega); rw [hpl]; obtain ⟨p0, p1, p2⟩ := qoH (1 - e.2.1) m.g.2.length; obtain ⟨l1, l2⟩ := qua (r := r) ((qcy (1 - e.2.1) ((m.g.2.length : Nat) : Int), ((0 : Int), ())), ()) (qcy (1 - e.2.1) ((m.g.2.length : Nat) : Int)).toNat (by simp only; omega) (by omega) _ 0 m.g (Nat.zero_add _) h.g p2; have hbl := qlA (qcy (1 - e.2.1) ((m.g.2.length : Nat) : Int)).toNat m.g; have hbo := qmT (qcy (1 - e.2.1) ((m.g.2.length : Nat) : Int)).toNat h.g p2 h0; generalize (backN (qcy (1 - e.2.1) ((m.g.2.length : Nat) : Int)).toNat m.g) = G at *; have ht := RG.turn G.2.length l2 rfl; obtain ⟨f, hf⟩ := qpa (ofAcc m.o e.2.2.1 e.2.1 ((m.g.2.length : Nat) : Int)).1 ((G.2.length : Nat) : Int)
  have hc : GoodC cr (m.c.1, (m.c.2.1, (m.c.2.2.1, (par G.2.length, (e.2.2.2.1, m.c.2.2.2.2.2))))) e.2.2.2.1 := by
    have hk := h.clk; have hv := hk.v; have hs := hv.since; have := hk.now0; have hp := par_rng G.2.length; have hd := (qg2 hk.ok).del; have hv' : VC cr (m.c.1, (m.c.2.1, (m.c.2.2.1, (par G.2.length, (e.2.2.2.1, m.c.2.2.2.2.2))))) := ⟨hp, hv.fallen, ⟨by show 0 ≤ e.2.2.2.1; omega, hk.now1⟩, hv.p0, hv.p1, hv.m0, hv.m1, hv.l0, hv.l1⟩; refine ⟨hk.ok, hv', Int.le_refl _, hk.now1, hk.up, hk.run, ?_⟩; have hn := left_nn hv'; show max 0 (e.2.2.2.1 - e.2.2.2.1 - cr.2.2.1) ≤ _; omega
  refine SpecK.done (m := m) (m' := { m with g := G, o := qwj (ofAcc m.o e.2.2.1 e.2.1 ((m.g.2.length : Nat) : Int)).1 ((G.2.length : Nat) : Int), c := (m.c.1, (m.c.2.1, (m.c.2.2.1, (par G.2.length, (e.2.2.2.1, m.c.2.2.2.2.2))))), pm := [] }) ⟨h.rng, h.len, l2, hc, rfl, rfl, Nat.zero_le _⟩ rfl rfl ?_; refine (congrArg (fun z => Option.bind z _) l1).trans ?_; rw [Option.bind_some]; simp only [flG, gm]; rw [qcs l2.ok, Option.bind_some, hf]; simp only [Option.bind_some]; rw [qat l2.ok, Option.bind_some]; simp only [Option.bind_some]; rw [show (lastP G.1).2.2.1 = (lastP G.1).turn from rfl, ht]; rfl
theorem qv7 {cr : CRule} {c : Clk} {last now : Int} (hl : cr.1.length ≤ 9223372036854775807) (h : GoodC cr c last) : (lookC cr c now).2.2.2.2.2.2.1 ≤ 1 := by
  obtain ⟨e, he⟩ := qi4 cr c now hl; have hv := h.v; have hu := h.up; have h2 := he; unfold qaJ at he; rw [qgR cr c hl, Option.bind_some, if_pos h.ok, if_pos ((qsq cr c).2 hv)] at he; simp only [show ((0 : Int) != 0) = false from rfl, cond_false] at he; by_cases c1 : qe now c.2.2.2.2.1 100000000 = true
  · rw [c1, Bool.not_true, cond_false, hu] at he; simp only [show decide ((-1 : Int) < 0) = true from rfl, Bool.true_and, imp, cond_true] at he; rw [inb_iff.2 (by have := hv.turn; omega), qb] at he; cases q : decide (qz cr c now > getD' [c.1.1, c.1.2.1] c.2.2.2.1.toNat 0)
    · rw [q] at he; simp only [cond_false, Option.bind_some, Option.some.injEq, Prod.mk.injEq] at he; rw [← he.1]; show c.2.2.2.2.2.2.1 ≤ 1; omega
    · rw [q] at he; simp only [cond_true, Option.bind_some, qb, Option.some.injEq, Prod.mk.injEq] at he; rw [← he.1]; exact hv.turn.2
  · rw [show qe now c.2.2.2.2.1 100000000 = false by simpa using c1, Bool.not_false, cond_true] at he; simp only [Option.some.injEq, Prod.mk.injEq] at he; rw [← he.1]; show (0 : Int) ≤ 1; omega
theorem fall_spec {r : Rules} {p : Place} (hr : Rng qal r) (c : qad r = 0) (hv : Valid r p) {pl : Int} (hpl : pl = 0 ∨ pl = 1) : qgW r p pl = some (fallR r p pl, (0, ())) := by
  have hn : p.1.length ≤ 9223372036854775807 := by have := qba hv; omega
  have w1 : w64 ((1 : Int) - pl) = 1 - pl := qf (by omega) (by omega); have w2 : w64 ((2 : Int) - pl) = 2 - pl := qf (by omega) (by omega)
  have cp' : 1 - pl = 0 ∨ 1 - pl = 1 := by omega
  unfold qgW fallR; rw [w1, w2, qqL r p pl hr hn, qqL r p _ hr hn, qkM c hv]; simp only [if_true, if_pos hpl, if_pos cp', Option.bind_some, bne_self_eq_false, cond_false]
  cases ableR r p (1 - pl) <;> rfl
theorem qtW {r : Rules} {cr : CRule} {m : MS} {e : Ev} {last : Int} (hr : Rng qal r) (hl : cr.1.length ≤ 9223372036854775807) (hg : RG r m.g) (hk : GoodC cr m.c last) (hpm : pmErr m.pm = 0)
    (hm : ¬ (e.2.2.1 = 2) → MID r cr m e.2.2.2.1) : SpecK r cr m e.2.2.2.1 (qbA r cr m e) (qa3 (tupM r cr m) e) := by
  have ht := RG.turn m.g.2.length hg rfl; obtain ⟨le, hle⟩ := qi4 cr m.c e.2.2.2.1 hl; unfold qa3 qbA; by_cases c1 : e.2.2.1 = 2
  · rw [if_pos c1, beq_t c1, cond_true]; simp only [show (tupM r cr m).2.1 = cr from rfl, show (tupM r cr m).2.2.2.1.2.2.2.1 = m.c from rfl]; rw [hle, Option.bind_some]; simp only; by_cases c2 : (lookC cr m.c e.2.2.2.1).2.2.2.2.2.2.1 < 0
    · rw [if_pos c2, decide_eq_true c2, cond_true]; exact ⟨rfl, fun _ => rfl, fun q => (by cases q), hg, hpm, ⟨rfl, rfl⟩⟩
    · rw [if_neg c2, decide_eq_false c2, cond_false]; have hf := qv7 (now := e.2.2.2.1) hl hk; simp only [show (tupM r cr m).2.2.1.1 = r from rfl, show (tupM r cr m).2.2.1.2.1 = m.g.1 from rfl, show (tupM r cr m).2.2.1.2.2.1 = m.g.2 from rfl, show (tupM r cr m).1 = r from rfl]; rw [qat hg.ok, Option.bind_some]; have hfs := fall_spec (pl := (lookC cr m.c e.2.2.2.1).2.2.2.2.2.2.1) hr hg.ok.ok hg.ok.last (by omega); rw [pl_eta, hfs, Option.bind_some]; refine ⟨rfl, fun q => absurd rfl q, fun _ q => ?_, hg, hpm, ⟨rfl, rfl⟩⟩; exfalso; have q' : fallR r (lastP m.g.1) (lookC cr m.c e.2.2.2.1).2.2.2.2.2.2.1 = 0 := q; unfold fallR at q'
      split at q' <;> omega
  · have h := hm c1; rw [if_neg c1, beq_f c1, cond_false]; simp only [qP, agree_self, show (tupM r cr m).2.2.1.1 = r from rfl, show (tupM r cr m).2.2.1.2.1 = m.g.1 from rfl, show (tupM r cr m).2.2.1.2.2.1 = m.g.2 from rfl, qoA hg.ok, qat hg.ok, Option.bind_some]; rw [show (lastP m.g.1).2.2.1 = (lastP m.g.1).turn from rfl, ht]; have fin : ∀ b : Bool, (b = true ↔ (e.2.2.1 = 0 ∧ 3 ≤ qaC m.g.1 ∨ e.2.2.1 = 1 ∧ 20 ≤ (lastP m.g.1).quiet)) → (e.2.2.1 = 0 ∨ e.2.2.1 = 1) → SpecK r cr m e.2.2.2.1
        (if e.2.2.1 ≠ 0 ∧ e.2.2.1 ≠ 1 then (m, 1) else if par m.g.2.length ≠ e.2.1 then (m, 12) else if e.2.2.1 = 0 ∧ 3 ≤ qaC m.g.1 ∨ e.2.2.1 = 1 ∧ 20 ≤ (lastP m.g.1).quiet then ({ m with res := 3, rea := 5 }, 0) else (m, 10))
        (bif (par m.g.2.length != e.2.1) then some (tupM r cr m, (12 : Int)) else bif (!b) then some (tupM r cr m, 10) else some (tupM r cr { m with res := 3, rea := 5 }, 0)) := by
      intro b hb hn; rw [if_neg (by omega)]; by_cases c2 : par m.g.2.length = e.2.1
      rotate_left
      · rw [if_pos c2, bne_t c2, cond_true]; exact SpecK.same h (by decide) rfl
      rw [if_neg (fun q => q c2), bne_f c2, cond_false]; cases b
      · rw [if_neg (fun q => by cases hb.2 q)]; exact SpecK.same h (by decide) rfl
      · rw [if_pos (hb.1 rfl)]; exact ⟨rfl, fun q => absurd rfl q, fun _ q => (by cases q), h.g, h.pm, ⟨rfl, rfl⟩⟩
    by_cases d0 : e.2.2.1 = 0
    · have := fin (decide (3 ≤ qaC m.g.1)) (by rw [decide_eq_true_eq]; omega) (.inl d0); simp only [d0, beq_self_eq_true, gopt, cond_true, Option.bind_some, Bool.true_and]; simp only [d0] at this; rw [show decide (((qaC m.g.1 : Nat) : Int) ≥ 3) = decide (3 ≤ qaC m.g.1) from by congr 1; apply propext; omega]; cases hb : decide (3 ≤ qaC m.g.1)
      · rw [hb] at this; exact this
      · rw [hb] at this; exact this
    by_cases d1 : e.2.2.1 = 1
    · have := fin (decide (20 ≤ (lastP m.g.1).quiet)) (by rw [decide_eq_true_eq]; omega) (.inr d1); simp only [d1] at this; simp only [d1, show ((1 : Int) == 0) = false from rfl, gopt, cond_false, Option.bind_some, Bool.false_and, beq_self_eq_true, cond_true]; exact this
    · rw [if_pos ⟨d0, d1⟩]; simp only [beq_f d0, beq_f d1, gopt, cond_false, Option.bind_some, Bool.false_and, bne_t d0, bne_t d1, Bool.and_self, cond_true]; exact SpecK.same h (by decide) rfl
theorem pm_add {l : List PM} (h : pmErr l = 0) {pl : Int} (hpl : pl = 0 ∨ pl = 1) (h4 : (ofL l pl).length ≠ 4) (x : Mv) : pmErr (l ++ [(pl, (x, ()))]) = 0 := by
  obtain ⟨a, b, c⟩ := (qtm l).1 h; rw [qiA] at h4; rw [qtm]; simp only [List.countP_append, List.countP_singleton]; rcases hpl with rfl | rfl
  · exact ⟨by show _ + 1 ≤ 4; omega, by show _ + 0 ≤ 4; omega, by show _ + 0 = 0; omega⟩
  · exact ⟨by show _ + 0 ≤ 4; omega, by show _ + 1 ≤ 4; omega, by show _ + 0 = 0; omega⟩
theorem qqk {r : Rules} {cr : CRule} {m : MS} {e : Ev} (h : MID r cr m e.2.2.2.1) (hp : e.2.1 = 0 ∨ e.2.1 = 1) : SpecK r cr m e.2.2.2.1 (qah m e) (qax (tupM r cr m) e) := by
  have ht := RG.turn m.g.2.length h.g rfl; unfold qax qah; simp only [qP, agree_self, show (tupM r cr m).2.2.1.1 = r from rfl, show (tupM r cr m).2.2.1.2.1 = m.g.1 from rfl, show (tupM r cr m).2.2.1.2.2.1 = m.g.2 from rfl, qat h.g.ok, Option.bind_some]; rw [show (lastP m.g.1).2.2.1 = (lastP m.g.1).turn from rfl, ht]; by_cases c1 : par m.g.2.length = e.2.1
  · rw [if_pos c1, beq_t c1, cond_true]; exact SpecK.same h (by decide) rfl
  rw [if_neg c1, beq_f c1, cond_false, show (tupM r cr m).2.2.2.1.2.2.2.2.2.1 = m.pm from rfl, addP_spec m.pm (by have := h.few; omega), if_neg (show ¬ (pmErr m.pm ≠ 0) from fun q => q h.pm), if_neg (show ¬ (e.2.1 ≠ 0 ∧ e.2.1 ≠ 1) by omega), Option.bind_some]; by_cases c2 : (ofL m.pm e.2.1).length = 4
  · rw [if_pos c2, if_pos c2]; exact SpecK.same h (by decide) rfl
  · rw [if_neg c2, if_neg c2]; have hq := pm_add h.pm hp c2 e.2.2.2.2.1; refine SpecK.done (m := m) ?_ (by rfl) (by rfl) (by rfl); exact ⟨h.rng, h.len, h.g, h.clk, h.turn, hq, pm_len hq⟩
theorem qtp {r : Rules} {cr : CRule} {m : MS} {e : Ev} {last : Int} (hr : Rng qal r) (hl : cr.1.length ≤ 9223372036854775807) (hg : RG r m.g) (hk : GoodC cr m.c last) (hpm : pmErr m.pm = 0) (hp : e.2.1 = 0 ∨ e.2.1 = 1) (h0 : qx r m.g.1 = 0)
    (h6 : 0 ≤ e.1 ∧ e.1 ≤ 6) (hm : ¬ (e.1 = 4 ∨ e.1 = 5 ∧ e.2.2.1 = 2) → MID r cr m e.2.2.2.1) : SpecK r cr m e.2.2.2.1 (kindM r cr m e) (qb9 (tupM r cr m) e) := by
  have hy : qb9 (tupM r cr m) e = if e.1 = 0 then qaH (tupM r cr m) e else if e.1 = 1 ∨ e.1 = 3 then qaw (tupM r cr m) e else if e.1 = 2 then qaK (tupM r cr m) e else if e.1 = 5 then qa3 (tupM r cr m) e
      else if e.1 = 6 then qax (tupM r cr m) e else some (tupM r cr { m with res := 2 - e.2.1, rea := 3 }, 0) := by
    have w : w64 (2 - e.2.1) = 2 - e.2.1 := qf (by omega) (by omega)
    have et : ∀ y : Option (qhF × Int), (Option.bind y fun r6 => some ((r6.1.1, (r6.1.2.1, ((r6.1.2.2.1.1, (r6.1.2.2.1.2.1, (r6.1.2.2.1.2.2.1, ()))), r6.1.2.2.2))), r6.2)) = y := fun y => by cases y <;> rfl
    unfold qb9; by_cases c0 : e.1 = 0
    · rw [if_pos c0, beq_t c0, cond_true]; exact et _
    rw [if_neg c0, beq_f c0, cond_false]; by_cases c1 : e.1 = 1
    · rw [if_pos (.inl c1), beq_t c1]; exact et _
    rw [beq_f c1, cond_false]; by_cases c3 : e.1 = 3
    · rw [if_pos (.inr c3), beq_t c3]; exact et _
    rw [if_neg (by omega), beq_f c3, Option.bind_some]; simp only [cond_false]; by_cases c2 : e.1 = 2
    · rw [if_pos c2, beq_t c2, cond_true]; exact et _
    rw [if_neg c2, beq_f c2, cond_false]; by_cases c5 : e.1 = 5
    · rw [if_pos c5, beq_t c5, cond_true]; exact et _
    rw [if_neg c5, beq_f c5, cond_false]; by_cases c6 : e.1 = 6
    · rw [if_pos c6, beq_t c6, cond_true]; exact et _
    rw [if_neg c6, beq_f c6, cond_false, w]; rfl
  rw [hy]; unfold kindM; by_cases c0 : e.1 = 0
  · rw [if_pos c0, if_pos c0]; exact quC (hm (by omega)) h0
  rw [if_neg c0, if_neg c0]; by_cases c1 : e.1 = 1 ∨ e.1 = 3
  · rw [if_pos c1, if_pos c1]; exact qsQ (hm (by omega))
  rw [if_neg c1, if_neg c1]; by_cases c2 : e.1 = 2
  · rw [if_pos c2, if_pos c2]; exact qsx (hm (by omega)) h0
  rw [if_neg c2, if_neg c2]; by_cases c5 : e.1 = 5
  · rw [if_pos c5, if_pos c5]; exact qtW hr hl hg hk hpm (fun q => hm (by omega))
  rw [if_neg c5, if_neg c5]; by_cases c6 : e.1 = 6
  · rw [if_pos c6, if_pos c6]; exact qqk (hm (by omega)) hp
  rw [if_neg c6, if_neg c6]; exact ⟨rfl, fun q => absurd rfl q, fun _ q => absurd q (by show ¬ (2 - e.2.1 = 0); omega), hg, hpm, ⟨rfl, rfl⟩⟩
theorem qt5 {r : Rules} {cr : CRule} {m : MS} (hg : RG r m.g) : qaS (tupM r cr m) = some (tupM r cr (overM r m), ()) := by
  unfold qaS overM; simp only [show (tupM r cr m).2.2.1.1 = r from rfl, show (tupM r cr m).2.2.1.2.1 = m.g.1 from rfl, show (tupM r cr m).2.2.1.2.2.1 = m.g.2 from rfl, qh8 hg.ok, Option.bind_some, show (tupM r cr m).2.2.2.1.2.1 = m.res from rfl]; by_cases c : m.res = 0
  · by_cases d : qx r m.g.1 = 0
    · rw [if_neg (fun q => q.2 d), beq_t c, bne_f d]; rfl
    · rw [if_pos ⟨c, d⟩, beq_t c, bne_t d]; rfl
  · rw [if_neg (fun q => c q.1), beq_f c]; rfl
theorem qdW (r : Rules) (m : MS) : (overM r m).g = m.g ∧ (overM r m).pm = m.pm ∧ (overM r m).j = m.j ∧ (overM r m).last = m.last := by
  unfold overM
  split <;> exact ⟨rfl, rfl, rfl, rfl⟩
theorem qve {r : Rules} {cr : CRule} {m : MS} (h : MOK r cr m) {e : Ev} (he : EvR e) : qdZ (tupM r cr m) e = some (tupM r cr (doM r cr m e).1, (doM r cr m e).2) ∧ MOK r cr (doM r cr m e).1 := by
  have et : (tupM r cr m) = ((tupM r cr m).1, ((tupM r cr m).2.1, (((tupM r cr m).2.2.1.1, ((tupM r cr m).2.2.1.2.1, ((tupM r cr m).2.2.1.2.2.1, ()))), (tupM r cr m).2.2.2))) := rfl; obtain ⟨le, hle⟩ := qi4 cr m.c e.2.2.2.1 h.len; unfold qdZ doM; rw [← et]; simp only [show (tupM r cr m).2.1 = cr from rfl, show (tupM r cr m).2.2.2.1.2.1 = m.res from rfl, show (tupM r cr m).2.2.2.1.2.2.2.1 = m.c from rfl, show (tupM r cr m).2.2.2.2.1 = m.last from rfl, show (tupM r cr m).2.2.2.2.2.1 = m.j from rfl]; by_cases c1 : (e.1 < 0 ∨ 6 < e.1) ∨ (e.2.1 ≠ 0 ∧ e.2.1 ≠ 1)
  · rw [if_pos c1, show (((decide (e.1 < (0 : Int))) || (decide (e.1 > (6 : Int)))) || ((e.2.1 != (0 : Int)) && (e.2.1 != (1 : Int)))) = true by
      simp only [bneI, Bool.or_eq_true, Bool.and_eq_true, decide_eq_true_eq]; omega, cond_true]
    exact ⟨rfl, h⟩
  rw [if_neg c1, show (((decide (e.1 < (0 : Int))) || (decide (e.1 > (6 : Int)))) || ((e.2.1 != (0 : Int)) && (e.2.1 != (1 : Int)))) = false by
      rw [Bool.eq_false_iff]; intro q; simp only [bneI, Bool.or_eq_true, Bool.and_eq_true, decide_eq_true_eq] at q; omega, cond_false]
  by_cases c2 : e.2.2.2.1 < m.last ∨ 100000000 < e.2.2.2.1
  · rw [if_pos c2, show ((decide (e.2.2.2.1 < m.last)) || (decide (e.2.2.2.1 > (100000000 : Int)))) = true by simp only [Bool.or_eq_true, decide_eq_true_eq]; omega, cond_true]; exact ⟨rfl, h⟩
  rw [if_neg c2, show ((decide (e.2.2.2.1 < m.last)) || (decide (e.2.2.2.1 > (100000000 : Int)))) = false by rw [Bool.eq_false_iff]; intro q; simp only [Bool.or_eq_true, decide_eq_true_eq] at q; omega, cond_false]; by_cases c3 : m.res = 0
  rotate_left
  · rw [if_pos c3, bne_t c3, cond_true]; exact ⟨rfl, h⟩
  rw [if_neg (fun q => q c3), bne_f c3, cond_false]; by_cases c4 : m.j.length = 1000
  · rw [if_pos c4, c4]; exact ⟨rfl, h⟩
  rw [if_neg c4, beq_f (show ¬ ((m.j.length : Nat) : Int) = 1000 by omega), cond_false, hle, Option.bind_some]; simp only; have hk := h.clk c3; by_cases c5 : (0 ≤ (lookC cr m.c e.2.2.2.1).2.2.2.2.2.2.1 ∧ e.1 ≠ 4) ∧ ¬ (e.1 = 5 ∧ e.2.2.1 = 2)
  · rw [if_pos c5, show (((decide ((lookC cr m.c e.2.2.2.1).2.2.2.2.2.2.1 ≥ (0 : Int))) && (e.1 != (4 : Int))) && (!((e.1 == (5 : Int)) && (e.2.2.1 == (2 : Int))))) = true by
      simp only [bneI, Bool.and_eq_true, decide_eq_true_eq, Bool.not_eq_true', ← Bool.not_eq_true, beq_iff_eq]; exact c5, cond_true]
    exact ⟨rfl, h⟩
  rw [if_neg c5, show (((decide ((lookC cr m.c e.2.2.2.1).2.2.2.2.2.2.1 ≥ (0 : Int))) && (e.1 != (4 : Int))) && (!((e.1 == (5 : Int)) && (e.2.2.1 == (2 : Int))))) = false by
      rw [Bool.eq_false_iff]; intro q; simp only [bneI, Bool.and_eq_true, decide_eq_true_eq, Bool.not_eq_true', ← Bool.not_eq_true, beq_iff_eq] at q; exact c5 q, cond_false]
  have hs := qtp (e := e) h.rng h.len h.g hk h.pm (by omega) (h.opn c3) (by omega) (fun q => by
    have hf : (lookC cr m.c e.2.2.2.1).2.2.2.2.2.2.1 < 0 := by
      by_cases q1 : e.1 = 4
      · exact absurd (.inl q1) q
      · by_cases q2 : e.1 = 5 ∧ e.2.2.1 = 2
        · exact absurd (.inr q2) q
        · have := fun a => c5 ⟨⟨a, q1⟩, q2⟩; omega
    exact ⟨h.rng, h.len, h.g, good_of h.len hle hf hk.run, h.turn c3, h.pm, h.few⟩)
  obtain ⟨s1, s2, s3, s4, s5, s6⟩ := hs; rw [s1, Option.bind_some]; by_cases c6 : (kindM r cr m e).2 = 0
  rotate_left
  · rw [if_pos c6, bne_t c6, cond_true, s2 c6]; exact ⟨rfl, h⟩
  rw [if_neg (fun q => q c6), bne_f c6, cond_false]; simp only [show (tupM r cr (kindM r cr m e).1).2.2.2.2.2.1 = (kindM r cr m e).1.j from rfl]
  have hj : JOK (kindM r cr m e).1.j := by rw [s6.2]; exact h.j
  obtain ⟨j1, j2⟩ := qrj hj (by rw [s6.2]; have := h.j.1; omega) (entry_ok e he); rw [qqG e he, Option.bind_some, j1, Option.bind_some]; have ho := qt5 (r := r) (cr := cr) (m := { (kindM r cr m e).1 with last := e.2.2.2.1, j := nextJ (kindM r cr m e).1.j (qej e) }) s4; rw [show ((tupM r cr (kindM r cr m e).1).1, ((tupM r cr (kindM r cr m e).1).2.1, (((tupM r cr (kindM r cr m e).1).2.2.1.1, ((tupM r cr (kindM r cr m e).1).2.2.1.2.1, ((tupM r cr (kindM r cr m e).1).2.2.1.2.2.1, ()))), ((tupM r cr (kindM r cr m e).1).2.2.2.1, (e.2.2.2.1, (nextJ (kindM r cr m e).1.j (qej e), ())))))) = tupM r cr { (kindM r cr m e).1 with last := e.2.2.2.1, j := nextJ (kindM r cr m e).1.j (qej e) } from rfl, ho, Option.bind_some]; refine ⟨rfl, ?_⟩; show MOK r cr (doneM r (kindM r cr m e).1 e); unfold doneM
  have hg' : ∀ x : MS, (overM r x).g = x.g ∧ (overM r x).c = x.c ∧ (overM r x).pm = x.pm ∧ (overM r x).j = x.j ∧ (overM r x).last = x.last ∧ ((overM r x).res = 0 → x.res = 0 ∧ qx r x.g.1 = 0) := fun x => by
    unfold overM; split
    · rename_i q; exact ⟨rfl, rfl, rfl, rfl, rfl, fun z => absurd z q.2⟩
    · rename_i q
      exact ⟨rfl, rfl, rfl, rfl, rfl, fun z => ⟨z, by
        by_cases w : qx r x.g.1 = 0
        · exact w
        · exact absurd ⟨z, w⟩ q⟩⟩
  obtain ⟨g1, g2, g3, g4, g5, g6⟩ := hg' { (kindM r cr m e).1 with last := e.2.2.2.1, j := nextJ (kindM r cr m e).1.j (qej e) }; refine ⟨h.rng, h.len, by rw [g1]; exact s4, h.cok, fun q => ?_, fun q => ?_, fun q => ?_, by rw [g3]; exact s5, by rw [g3]; exact pm_len s5, by rw [g4]; exact j2⟩
  · rw [g2, g5]; exact (s3 c6 (g6 q).1).clk
  · rw [g1, g2]; exact (s3 c6 (g6 q).1).turn
  · rw [g1]; exact (g6 q).2

def setI {A : Type} (f : Nat → A) (K : Int) (v : A) : A × A × A × A × A × A × Unit := ((bif (K == (0 : Int)) then v else f 0), (bif (K == (1 : Int)) then v else f 1), (bif (K == (2 : Int)) then v else f 2), (bif (K == (3 : Int)) then v else f 3), (bif (K == (4 : Int)) then v else f 4), (bif (K == (5 : Int)) then v else f 5), ())
def getI {A : Type} (f : Nat → A) (d : A) (K : Int) : A := getD' [f 0, f 1, f 2, f 3, f 4, f 5] K.toNat d
theorem qmj {A : Type} (f : Nat → A) (v : A) (k : Nat) (h : k < 6) : setI f (k : Int) v = tup (fun j => if j = k then v else f j) := tup_set f v k h
theorem qfu {A : Type} (f : Nat → A) (d : A) (k : Nat) (h : k < 6) : getI f d (k : Int) = f k := tup_get f d k h
theorem inb6 {k : Nat} (h : k < 6) : inb (k : Int) 6 = true := inb_iff.2 (by omega)

def ownC (p : Place) (pl : Int) (i j : Nat) : Int := (((p.1.take i).countP (fun c => ownB pl c && (kc c == j)) : Nat) : Int)
def qfL (p : Place) (pl : Int) (n i j : Nat) : Int := ownC p pl p.1.length j + (if j < i then hk p pl j else 0)
def haveF (r : Rules) (p : Place) (pl : Int) (j : Nat) : Int := qfL p pl r.pieces.length r.pieces.length j
theorem qrI (p : Place) (pl : Int) (i j : Nat) : 0 ≤ ownC p pl i j ∧ ownC p pl i j ≤ i := by
  have : (p.1.take i).countP (fun c => ownB pl c && (kc c == j)) ≤ i := by rw [List.countP_eq_length_filter]; exact qva _ _ _
  unfold ownC; omega
theorem qrF {r : Rules} {p : Place} (hv : Valid r p) {pl : Int} (hpl : pl = 0 ∨ pl = 1) (n i j : Nat) : 0 ≤ qfL p pl n i j ∧ qfL p pl n i j ≤ 1064 := by
  have h1 := qrI p pl p.1.length j; have h2 := qh1 hv; have h3 := qs6 hv hpl j; unfold qfL
  split <;> omega

theorem A1_eq (p : Place) (pl i : Int) (f : Nat → Int) : qeH p pl ((i, ()), (tup f, ())) = bif decide (i < ((p.1.length : Nat) : Int)) then Option.bind (at? p.1 i) (fun d => req (imp (decide (d > 0)) true) (Option.bind (bif ownB pl d then req (inb (w64 ((w64 (d - 1)).tdiv 2)) 6) (req (inb (w64 ((w64 (d - 1)).tdiv 2)) 6) (some ((), (setI f (w64 ((w64 (d - 1)).tdiv 2)) (w64 (getI f 0 (w64 ((w64 (d - 1)).tdiv 2)) + 1)), ())))) else some ((), (tup f, ()))) fun x3 : Unit × ((Int × Int × Int × Int × Int × Int × Unit) × Unit) => some (Sum.inl ((w64 (i + 1), ()), (x3.2.1, ()))))) else some (Sum.inr ((), (tup f, ()))) := rfl
theorem A1_spec {r : Rules} {p : Place} (hv : Valid r p) (pl : Int) : iterW (qeH p pl) (((0 : Int), ()), (tup (fun _ => (0 : Int)), ())) = some ((), (tup (ownC p pl p.1.length), ())) := by
  have hc64 := qh1 hv; have ht6 := hv.r0.t6
  have := qV (f := qeH p pl) p.1.length (fun i => (((i : Int), ()), (tup (ownC p pl i), ()))) ((), (tup (ownC p pl p.1.length), ())) (fun i hi => by
    have hm : p.1[i] ∈ p.1 := List.getElem_mem _; have h12 := qv5 hv hm; rw [A1_eq, ltd p.1 i hi, cond_true, at?_eq _ _ (by omega) (by omega)]; simp only [Option.bind_some, Int.toNat_natCast, himp, qb]; rw [qf (n := (i : Int) + 1) (by omega) (by omega)]
    cases hq : ownB pl p.1[i] with
    | true =>
      have hp0 := qot hq
      have hk6 : kc p.1[i] < 6 := by unfold kc; omega
      have hcr := qrI p pl i (kc p.1[i]); rw [kc_eq hp0 h12.2.2, inb6 hk6, qb, qb, cond_true, qfu _ _ _ hk6, qmj _ _ _ hk6, qf (n := ownC p pl i (kc p.1[i]) + 1) (by omega) (by omega), Option.bind_some]; have : (fun j => if j = kc p.1[i] then ownC p pl i (kc p.1[i]) + 1 else ownC p pl i j) = ownC p pl (i + 1) := by
        funext j; unfold ownC; rw [List.take_succ_eq_append_getElem hi, List.countP_append, List.countP_singleton, hq, Bool.true_and]; by_cases e : j = kc p.1[i]
        · subst e; simp
        · rw [if_neg e, beq_f (fun h => e h.symm)]; simp
      rw [this]; rfl
    | false =>
      rw [cond_false, Option.bind_some]; have : ownC p pl (i + 1) = ownC p pl i := by
        funext j; unfold ownC; rw [List.take_succ_eq_append_getElem hi, List.countP_append, List.countP_singleton, hq, Bool.false_and]; simp
      rw [this]
      rfl) (by rw [A1_eq, nltd, cond_false])
  have e0 : ownC p pl 0 = fun _ => (0 : Int) := by
    funext j; unfold ownC; simp
  rw [← e0]; exact this
theorem A2_eq (p : Place) (pl i : Int) (f : Nat → Int) : qeC p pl ((i, ()), (tup f, ())) = bif decide (i < (((handP p pl).length : Nat) : Int)) then Option.bind (at? (handP p pl) i) (fun d => req (inb i 6) (req (inb i 6) (some (Sum.inl ((w64 (i + 1), ()), (setI f i (w64 (getI f 0 i + d)), ())))))) else some (Sum.inr ((), (tup f, ()))) := rfl
theorem A2_spec {r : Rules} {p : Place} (hv : Valid r p) {pl : Int} (hpl : pl = 0 ∨ pl = 1) : iterW (qeC p pl) (((0 : Int), ()), (tup (ownC p pl p.1.length), ())) = some ((), (tup (haveF r p pl), ())) := by
  have hc64 := qh1 hv; have ht6 := hv.r0.t6; have hH := qt9 hv hpl
  have := qV (f := qeC p pl) r.pieces.length (fun i => (((i : Int), ()), (tup (qfL p pl r.pieces.length i), ()))) ((), (tup (haveF r p pl), ())) (fun i hi => by
    have hhr := qrF hv hpl r.pieces.length i i; have hk1 := qs6 hv hpl i; rw [A2_eq, ltd (handP p pl) i (by omega), cond_true, at?_eq _ _ (by omega) (by omega)]; simp only [Option.bind_some, Int.toNat_natCast]; rw [show (handP p pl)[i]'(by omega) = hk p pl i from (gd_eq _ i (by omega) 0).symm, qf (n := (i : Int) + 1) (by omega) (by omega), inb6 (by omega), qb, qb, qfu _ _ _ (by omega), qmj _ _ _ (by omega), qf (n := qfL p pl r.pieces.length i i + hk p pl i) (by omega) (by omega)]; have : (fun j => if j = i then qfL p pl r.pieces.length i i + hk p pl i else qfL p pl r.pieces.length i j) = qfL p pl r.pieces.length (i + 1) := by
      funext j; unfold qfL; by_cases e : j = i
      · subst e; rw [if_pos rfl, if_neg (by omega), if_pos (by omega)]; omega
      · rw [if_neg e]; by_cases e2 : j < i
        · rw [if_pos e2, if_pos (by omega)]
        · rw [if_neg e2, if_neg (by omega)]
    rw [this]
    rfl) (by
    rw [A2_eq, show ((r.pieces.length : Nat) : Int) = (((handP p pl).length : Nat) : Int) by rw [hH], nltd, cond_false]
    rfl)
  have e0 : qfL p pl r.pieces.length 0 = ownC p pl p.1.length := by
    funext j; unfold qfL; rw [if_neg (by omega), Int.add_zero]
  rw [← e0]; exact this
theorem A4_eq (q : Piece) (b0 : Bool) (a0 k : Int) (H : Nat → Int) (b : Bool) (j : Int) : qe3 q ((b0, a0, k, ()), ()) ((), (tup H, ())) ((b, j, ()), ()) = bif decide (j < ((q.2.2.2.1.length : Nat) : Int)) then Option.bind (at? q.2.2.2.1 j) (fun w => req (imp (!b) (inb k 6)) (some (Sum.inl ((b || (decide (getI H 0 k > 0) && decide (w.2.2.2.1 > 0)), w64 (j + 1), ()), ())))) else some (Sum.inr ((b, ()), ())) := rfl
def qpr (r : Rules) (H : Nat → Int) (k : Nat) : Bool := (qgp r k).2.2.2.1.any fun w => decide (H k > 0) && decide (w.2.2.2.1 > 0)
theorem A4_spec (q : Piece) (hq : q.2.2.2.1.length ≤ 16) (b0 : Bool) (a0 : Int) (k : Nat) (hk' : k < 6) (H : Nat → Int) (b : Bool) : iterW (qe3 q ((b0, a0, (k : Int), ()), ()) ((), (tup H, ()))) ((b, (0 : Int), ()), ()) = some ((b || q.2.2.2.1.any (fun w => decide (H k > 0) && decide (w.2.2.2.1 > 0)), ()), ()) := by
  have := qV (f := qe3 q ((b0, a0, (k : Int), ()), ()) ((), (tup H, ()))) q.2.2.2.1.length (fun j => ((b || (q.2.2.2.1.take j).any (fun w => decide (H k > 0) && decide (w.2.2.2.1 > 0)), (j : Int), ()), ())) ((b || q.2.2.2.1.any (fun w => decide (H k > 0) && decide (w.2.2.2.1 > 0)), ()), ()) (fun j hj => by
    rw [A4_eq, ltd _ j hj, cond_true, at?_eq _ _ (by omega) (by omega), Option.bind_some, inb6 hk', himp, qb, qfu _ _ _ hk', qf (n := (j : Int) + 1) (by omega) (by omega), List.take_succ_eq_append_getElem hj, List.any_append, ← Bool.or_assoc]
    simp) (by rw [A4_eq, nltd, cond_false, List.take_length])
  have e : (b || (q.2.2.2.1.take 0).any (fun w => decide (H k > 0) && decide (w.2.2.2.1 > 0))) = b := by simp
  simp only [e] at this; exact this
theorem A3_eq (r : Rules) (H : Nat → Int) (b : Bool) (a k : Int) : qe5 r ((), (tup H, ())) ((b, a, k, ()), ()) = bif decide (k < ((r.2.2.2.1.length : Nat) : Int)) then Option.bind (Option.bind (at? r.2.2.2.1 k) fun d => req (inb k 6) (Option.bind (iterW (qe3 d ((b, a, k, ()), ()) ((), (tup H, ()))) ((b, (0 : Int), ()), ())) fun x12 => some ((x12.1.1, w64 (a + getI H 0 k), ()), ()))) (fun x13 : (Bool × Int × Unit) × Unit => some (Sum.inl ((x13.1.1, x13.1.2.1, w64 (k + 1), ()), ()))) else some (Sum.inr ((b, a, ()), ())) := rfl
theorem A3_spec {r : Rules} (hv : VR0 r) (H : Nat → Int) (hH : ∀ j, 0 ≤ H j ∧ H j ≤ 1064) : iterW (qe5 r ((), (tup H, ()))) ((false, (0 : Int), (0 : Int), ()), ()) = some (((List.range r.pieces.length).any (qpr r H), sumN H r.pieces.length, ()), ()) := by
  have ht6 := hv.t6; have hn : r.2.2.2.1.length = r.pieces.length := rfl
  exact qV (f := qe5 r ((), (tup H, ()))) r.pieces.length (fun k => (((List.range k).any (qpr r H), sumN H k, (k : Int), ()), ())) (((List.range r.pieces.length).any (qpr r H), sumN H r.pieces.length, ()), ()) (fun k hk => by
    have hs := qoj H 1064 k (fun j _ => hH j); have hh := hH k; rw [A3_eq, decide_eq_true (by omega), cond_true, ql6 r hk, Option.bind_some, inb6 (by omega), qb, A4_spec _ (hv.ways _ (qga r hk)) _ _ k (by omega), Option.bind_some, qfu _ _ _ (by omega), qf (n := (k : Int) + 1) (by omega) (by omega), qf (n := sumN H k + H k) (by omega) (by omega), Option.bind_some, List.range_succ, List.any_append]; simp only [List.any_cons, List.any_nil, Bool.or_false]
    rfl) (by rw [A3_eq, decide_eq_false (by omega), cond_false])
theorem A7_eq (r : Rules) (i : Int) (f : Nat → Bool) : qeQ r ((i, ()), (tup f, ())) = bif decide (i < ((r.2.2.2.1.length : Nat) : Int)) then Option.bind (at? r.2.2.2.1 i) (fun d => req (inb i 6) (req (imp (decide (d.2.2.1 > 0) && (!(getI f false i))) (inb (w64 (d.2.2.1 - 1)) 6)) (req (inb i 6) (some (Sum.inl ((w64 (i + 1), ()), (setI f i (getI f false i || (decide (d.2.2.1 > 0) && getI f false (w64 (d.2.2.1 - 1)))), ()))))))) else some (Sum.inr ((), (tup f, ()))) := rfl
theorem A7_spec {r : Rules} (hv : VR0 r) (f : Nat → Bool) : iterW (qeQ r) (((0 : Int), ()), (tup f, ())) = some ((), (tup (passL (prN r) (List.range r.pieces.length) f), ())) := by
  have ht6 := hv.t6; have hn : r.2.2.2.1.length = r.pieces.length := rfl
  exact qV (f := qeQ r) r.pieces.length (fun i => (((i : Int), ()), (tup (passL (prN r) (List.range i) f), ()))) ((), (tup (passL (prN r) (List.range r.pieces.length) f), ())) (fun i hi => by
    have hp := hv.prom _ (qga r hi); have e1 : passL (prN r) (List.range (i + 1)) f = passG (prN r) (passL (prN r) (List.range i) f) i := by
      unfold passL; rw [List.range_succ, List.foldl_append]; rfl
    rw [A7_eq, decide_eq_true (by omega), cond_true, ql6 r hi, Option.bind_some, inb6 (by omega), qb, qfu _ _ _ (by omega), qf (n := (i : Int) + 1) (by omega) (by omega), e1]; generalize passL (prN r) (List.range i) f = F; by_cases c : (qgp r i).2.2.1 > 0
    · have e2 : w64 ((qgp r i).2.2.1 - 1) = ((prN r i - 1 : Nat) : Int) := by
        unfold prN; rw [qf (by omega) (by omega)]; omega
      have h6 : prN r i - 1 < 6 := by unfold prN; omega
      rw [e2, inb6 h6, himp, qb, qb, qfu _ _ _ h6, qmj _ _ _ (by omega)]; unfold passG; rw [decide_eq_true c, decide_eq_true (show 0 < prN r i by unfold prN; omega)]; rfl
    · rw [decide_eq_false c, qmj _ _ _ (by omega)]; unfold passG; rw [decide_eq_false (show ¬ 0 < prN r i by unfold prN; omega)]
      rfl) (by rw [A7_eq, decide_eq_false (by omega), cond_false])
theorem A6_eq (r : Rules) (t : Int) (f : Nat → Bool) : qeM r ((t, ()), (tup f, ())) = bif decide (t < ((r.2.2.2.1.length : Nat) : Int)) then Option.bind (Option.bind (iterW (qeQ r) (((0 : Int), ()), (tup f, ()))) fun x20 => some ((), (x20.2.1, ()))) (fun x21 : Unit × ((Bool × Bool × Bool × Bool × Bool × Bool × Unit) × Unit) => some (Sum.inl ((w64 (t + 1), ()), (x21.2.1, ())))) else some (Sum.inr ((), (tup f, ()))) := rfl
theorem A6_spec {r : Rules} (hv : VR0 r) (g : Nat) : iterW (qeM r) (((0 : Int), ()), (tup (closN (prN r) r.pieces.length g 0), ())) = some ((), (tup (closN (prN r) r.pieces.length g r.pieces.length), ())) := by
  have ht6 := hv.t6; have hn : r.2.2.2.1.length = r.pieces.length := rfl
  exact qV (f := qeM r) r.pieces.length (fun t => (((t : Int), ()), (tup (closN (prN r) r.pieces.length g t), ()))) ((), (tup (closN (prN r) r.pieces.length g r.pieces.length), ())) (fun t ht => by
    rw [A6_eq, decide_eq_true (by omega), cond_true, A7_spec hv, Option.bind_some, Option.bind_some, qf (n := (t : Int) + 1) (by omega) (by omega)]
    rfl) (by rw [A6_eq, decide_eq_false (by omega), cond_false])
theorem A8_eq (r : Rules) (F : Nat → Bool) (H : Nat → Int) (a k : Int) : qeW r ((), (tup F, ())) ((), (tup H, ())) ((a, k, ()), ()) = bif decide (k < ((r.2.2.2.1.length : Nat) : Int)) then req (inb k 6) (Option.bind (bif getI F false k then req (inb k 6) (some ((w64 (a + getI H 0 k), ()), ())) else some ((a, ()), ())) fun x24 : (Int × Unit) × Unit => some (Sum.inl ((x24.1.1, w64 (k + 1), ()), ()))) else some (Sum.inr ((a, ()), ())) := rfl
def someF (F : Nat → Bool) (H : Nat → Int) (j : Nat) : Int := if F j = true then H j else 0
theorem A8_spec {r : Rules} (hv : VR0 r) (F : Nat → Bool) (H : Nat → Int) (hH : ∀ j, 0 ≤ H j ∧ H j ≤ 1064) : iterW (qeW r ((), (tup F, ())) ((), (tup H, ()))) (((0 : Int), (0 : Int), ()), ()) = some ((sumN (someF F H) r.pieces.length, ()), ()) := by
  have ht6 := hv.t6; have hn : r.2.2.2.1.length = r.pieces.length := rfl; have hS : ∀ j, 0 ≤ someF F H j ∧ someF F H j ≤ 1064 := fun j => by
    have := hH j; unfold someF
    split <;> omega
  exact qV (f := qeW r ((), (tup F, ())) ((), (tup H, ()))) r.pieces.length (fun k => ((sumN (someF F H) k, (k : Int), ()), ())) ((sumN (someF F H) r.pieces.length, ()), ()) (fun k hk => by
    have hs := qoj (someF F H) 1064 k (fun j _ => hS j); have hh := hH k; have e : sumN (someF F H) (k + 1) = sumN (someF F H) k + someF F H k := rfl; rw [A8_eq, decide_eq_true (by omega), cond_true, inb6 (by omega), qb, qb, qfu _ _ _ (by omega), qfu _ _ _ (by omega), qf (n := (k : Int) + 1) (by omega) (by omega), qf (n := sumN (someF F H) k + H k) (by omega) (by omega), e]; unfold someF
    cases F k with
    | true => rfl
    | false =>
      simp) (by rw [A8_eq, decide_eq_false (by omega), cond_false])
def outX (r : Rules) (H : Nat → Int) (T : Bool) (all : Int) (x : End) : Bool := ((x.2.2.2.1 || ((x.1 == 0) && (decide (all ≥ x.2.2.1) || (r.keeps && T)))) || ((x.1 == 1) && (decide (sumN (someF (closN (prN r) r.pieces.length x.2.1.toNat r.pieces.length) H) r.pieces.length > 0) || (r.keeps && T)))) || (x.1 == 2)
theorem A5_eq (r : Rules) (H : Nat → Int) (T : Bool) (all : Int) (b : Bool) (i : Int) : qeZ r ((), (tup H, ())) ((T, all, ()), ()) ((b, i, ()), ()) = bif decide (i < ((r.2.2.2.2.2.2.2.1.length : Nat) : Int)) then Option.bind (Option.bind (at? r.2.2.2.2.2.2.2.1 i) fun x => req (inb x.2.1 6) (Option.bind (iterW (qeM r) (((0 : Int), ()), (setI (fun _ => false) x.2.1 true, ()))) fun x22 => Option.bind (iterW (qeW r x22 ((), (tup H, ()))) (((0 : Int), (0 : Int), ()), ())) fun x25 => some ((((((b || x.2.2.2.1) || ((x.1 == (0 : Int)) && ((decide (all ≥ x.2.2.1)) || (r.2.2.2.2.2.2.1 && T)))) || ((x.1 == (1 : Int)) && ((decide (x25.1.1 > (0 : Int))) || (r.2.2.2.2.2.2.1 && T)))) || (x.1 == (2 : Int))), ()), ()))) (fun x26 : (Bool × Unit) × Unit => some (Sum.inl ((x26.1.1, w64 (i + 1), ()), ()))) else some (Sum.inr ((b, ()), ())) := rfl
theorem qw7 {r : Rules} (hv : VR0 r) {x : End} (hx : x ∈ r.ends) : 0 ≤ x.2.1 ∧ x.2.1.toNat < r.pieces.length := by
  have hE := (hv.ends x hx).2.2; have ht1 := hv.t1
  split at hE <;> omega
theorem A5_spec {r : Rules} (hv : VR0 r) (H : Nat → Int) (hH : ∀ j, 0 ≤ H j ∧ H j ≤ 1064) (T : Bool) (all : Int) (b : Bool) : iterW (qeZ r ((), (tup H, ())) ((T, all, ()), ())) ((b, (0 : Int), ()), ()) = some ((b || r.ends.any (outX r H T all), ()), ()) := by
  have ht6 := hv.t6; have he6 := hv.ends6
  have := qV (f := qeZ r ((), (tup H, ())) ((T, all, ()), ())) r.ends.length (fun i => ((b || (r.ends.take i).any (outX r H T all), (i : Int), ()), ())) ((b || r.ends.any (outX r H T all), ()), ()) (fun i hi => by
    have hx : r.ends[i] ∈ r.ends := List.getElem_mem _; have hg := qw7 hv hx
    have hg' : r.ends[i].2.1 = ((r.ends[i].2.1.toNat : Nat) : Int) := by omega
    have ha : at? r.2.2.2.2.2.2.2.1 (i : Int) = some r.ends[i] := by
      rw [at?_eq _ _ (by omega) (by show (i : Int) < ((r.ends.length : Nat) : Int); omega)]; rfl
    rw [A5_eq, show decide ((i : Int) < ((r.2.2.2.2.2.2.2.1.length : Nat) : Int)) = true from ltd r.ends i hi, cond_true, ha, Option.bind_some, qf (n := (i : Int) + 1) (by omega) (by omega), List.take_succ_eq_append_getElem hi, List.any_append]; generalize r.ends[i] = x at hg hg' ⊢; have e0 : setI (fun _ => false) x.2.1 true = tup (closN (prN r) r.pieces.length x.2.1.toNat 0) := by
      rw [hg', qmj _ _ _ (by omega)]; refine congrArg tup (funext fun j => ?_); show (if j = x.2.1.toNat then true else false) = (j == x.2.1.toNat); by_cases e : j = x.2.1.toNat
      · rw [beq_t e, if_pos e]
      · rw [beq_f e, if_neg e]
    rw [e0, A6_spec hv, Option.bind_some, A8_spec hv _ _ hH, Option.bind_some, show inb x.2.1 6 = true by rw [hg']; exact inb6 (by omega), qb]; simp only [Option.bind_some]; unfold outX; simp only [List.any_cons, List.any_nil, Bool.or_false, Bool.or_assoc]
    rfl) (by
    rw [A5_eq, show decide (((r.ends.length : Nat) : Int) < ((r.2.2.2.2.2.2.2.1.length : Nat) : Int)) = false from nltd r.ends, cond_false, List.take_length])
  have e : (b || (r.ends.take 0).any (outX r H T all)) = b := by simp
  simp only [e] at this; exact this
theorem qw9 (r : Rules) (p : Place) (pl : Int) : qop r p pl = Option.bind (iterW (qeH p pl) (((0 : Int), ()), (tup (fun _ => (0 : Int)), ()))) (fun x4 => req (inb pl 2) (Option.bind (iterW (qeC p pl) (((0 : Int), ()), (x4.2.1, ()))) fun x7 => Option.bind (iterW (qe5 r x7) ((false, (0 : Int), (0 : Int), ()), ())) fun x14 => Option.bind (iterW (qeZ r x7 x14) (((r.2.2.2.2.2.2.2.2.1 != (2 : Int)), (0 : Int), ()), ())) fun x27 => some x27.1.1)) := rfl
def refR (r : Rules) (p : Place) (pl : Int) : Bool := (r.blocked != 2) || r.ends.any (outX r (haveF r p pl) ((List.range r.pieces.length).any (qpr r (haveF r p pl))) (sumN (haveF r p pl) r.pieces.length))
theorem quk {r : Rules} {p : Place} (hv : Valid r p) {pl : Int} (hpl : pl = 0 ∨ pl = 1) : qop r p pl = some (refR r p pl) := by
  have hH : ∀ j, 0 ≤ haveF r p pl j ∧ haveF r p pl j ≤ 1064 := fun j => qrF hv hpl _ _ j; rw [qw9, A1_spec hv, Option.bind_some, show inb pl 2 = true from inb_iff.2 (by omega), qb, A2_spec hv hpl, Option.bind_some, A3_spec hv.r0 _ hH, Option.bind_some, A5_spec hv.r0 _ hH, Option.bind_some]; rfl
theorem qv9 (r : Rules) {p : Place} (hv : Valid r p) {pl : Int} (hpl : pl = 0 ∨ pl = 1) {k : Nat} (hk' : k < r.pieces.length) : 0 < haveF r p pl k ↔ ((∃ c ∈ p.1, ownB pl c = true ∧ kc c = k) ∨ (k < r.pieces.length ∧ hk p pl k > 0)) := by
  have h1 := qs6 hv hpl k; have h2 := qrI p pl p.1.length k; have h3 : 0 < ownC p pl p.1.length k ↔ ∃ c ∈ p.1, ownB pl c = true ∧ kc c = k := by
    unfold ownC; rw [List.take_length]; rw [show (0 : Int) < ((p.1.countP (fun c => ownB pl c && (kc c == k)) : Nat) : Int) ↔ 0 < p.1.countP (fun c => ownB pl c && (kc c == k)) by omega, List.countP_pos_iff]; simp only [Bool.and_eq_true, beq_iff_eq]
  rw [← h3]; unfold haveF qfL; rw [if_pos hk']; omega
theorem quc (r : Rules) {p : Place} (hv : Valid r p) {pl : Int} (hpl : pl = 0 ∨ pl = 1) (q : Nat → Bool) : (qa0 p pl r.pieces.length).any q = true ↔ ∃ k, k < r.pieces.length ∧ q k = true ∧ 0 < haveF r p pl k := by
  constructor
  · intro h; obtain ⟨k, hk1, hq⟩ := List.any_eq_true.1 h; have hlt := qrs hv hk1; refine ⟨k, hlt, hq, ?_⟩; rw [qv9 r hv hpl hlt]; have := (qtq (p := p) (pl := pl) (n := r.pieces.length) (fun j => j == k)).1 (List.any_eq_true.2 ⟨k, hk1, by simp⟩); obtain ⟨j, hj, hh⟩ := this
    have hj : j = k := by simpa using hj
    rw [← hj]; exact hh
  · rintro ⟨k, hlt, hq, hh⟩
    exact (qtq q).2 ⟨k, hq, (qv9 r hv hpl hlt).1 hh⟩
theorem all_eq {r : Rules} {p : Place} (hv : Valid r p) {pl : Int} : sumN (haveF r p pl) r.pieces.length = nN p pl r.pieces.length := by
  unfold nN
  rw [← qri (ownB pl) kc r.pieces.length p.1 (fun c hc hq => by
    have h3 := qv5 hv hc; have h4 := qot hq; unfold kc
    omega), ← qry]
  refine qm1 _ fun i hi => ?_; unfold haveF qfL ownC; rw [if_pos hi, List.take_length]
theorem x_eq {r : Rules} {p : Place} (hv : Valid r p) {pl : Int} (hpl : pl = 0 ∨ pl = 1) {x : End} (hx : x ∈ r.ends) : ableX r p pl x = outX r (haveF r p pl) ((List.range r.pieces.length).any (qpr r (haveF r p pl))) (sumN (haveF r p pl) r.pieces.length) x := by
  have hE := (hv.r0.ends x hx).1; have hH : ∀ j, 0 ≤ haveF r p pl j ∧ haveF r p pl j ≤ 1064 := fun j => qrF hv hpl _ _ j; have e1 : (List.range r.pieces.length).any (qpr r (haveF r p pl)) = (qa0 p pl r.pieces.length).any (qq1 r) := by
    rw [Bool.eq_iff_iff, quc r hv hpl, List.any_eq_true]; constructor
    · rintro ⟨k, hk1, ht⟩
      have hlt := List.mem_range.1 hk1; unfold qpr at ht; obtain ⟨w, hw, hq⟩ := List.any_eq_true.1 ht; rw [Bool.and_eq_true, decide_eq_true_eq, decide_eq_true_eq] at hq; exact ⟨k, hlt, List.any_eq_true.2 ⟨w, hw, bne_t (by omega)⟩, hq.1⟩
    · rintro ⟨k, hlt, ht, hh⟩
      unfold qq1 at ht; obtain ⟨w, hw, hq⟩ := List.any_eq_true.1 ht; have hwr := (hv.r0.way _ (qga r hlt) w hw).2.2.2.2
      have hq : ¬ w.2.2.2.1 = 0 := by simpa using hq
      exact ⟨k, List.mem_range.2 hlt, List.any_eq_true.2 ⟨w, hw, by rw [decide_eq_true hh, decide_eq_true (by omega)]; rfl⟩⟩
  have e2 : decide (sumN (someF (closN (prN r) r.pieces.length x.2.1.toNat r.pieces.length) (haveF r p pl)) r.pieces.length > 0) = (qa0 p pl r.pieces.length).any (bec (prN r) x.2.1.toNat (r.pieces.length + 1)) := by
    rw [Bool.eq_iff_iff, quc r hv hpl, decide_eq_true_eq]; show 0 < _ ↔ _
    rw [qvQ _ _ (fun i _ => by have := hH i; unfold someF; split <;> omega)]
    constructor
    · rintro ⟨k, hlt, h⟩
      unfold someF at h; split at h
      · rename_i hc; rw [clos_eq _ _ _ (pr_le hv.r0) k hlt] at hc; exact ⟨k, hlt, hc, h⟩
      · omega
    · rintro ⟨k, hlt, hb, hh⟩
      refine ⟨k, hlt, ?_⟩; unfold someF; rw [clos_eq _ _ _ (pr_le hv.r0) k hlt, if_pos hb]; exact hh
  unfold ableX outX; rw [e1, e2, all_eq hv]; generalize (qa0 p pl r.pieces.length).any (qq1 r) = T; generalize (qa0 p pl r.pieces.length).any (bec (prN r) x.2.1.toNat (r.pieces.length + 1)) = B; generalize decide (nN p pl r.pieces.length ≥ x.2.2.1) = C
  obtain h | h | h : x.1 = 0 ∨ x.1 = 1 ∨ x.1 = 2 := by omega
  all_goals
    rw [h]; show _ = _
    cases x.2.2.2.1 <;> cases T <;> cases B <;> cases C <;> cases r.keeps <;> rfl
theorem able_same {r : Rules} {p : Place} (hv : Valid r p) {pl : Int} (hpl : pl = 0 ∨ pl = 1) : ableR r p pl = refR r p pl := by
  unfold ableR refR; congr 1; rw [Bool.eq_iff_iff, List.any_eq_true, List.any_eq_true]; constructor
  · rintro ⟨x, hx, h⟩
    exact ⟨x, hx, by rw [← x_eq hv hpl hx]; exact h⟩
  · rintro ⟨x, hx, h⟩
    exact ⟨x, hx, by rw [x_eq hv hpl hx]; exact h⟩

abbrev qvZ := Rules × CRule × StT × Int × Unit
def tupR (r : Rules) (cr : CRule) (m : MS) : qvZ := (r, (cr, ((m.g.2, (m.res, (m.rea, (m.c, (m.o, (m.pm, ())))))), (m.last, ()))))
abbrev FlR := ByteArray × Int × Int × (List (Int × Int × Int × (List (Int × Int × Int × Int × Unit)) × Unit)) × (List Int) × Bool × Bool × (List (Int × Int × Int × Bool × Unit)) × Int × Int × Int × (List (Int × Int × Unit)) × Int × Int × (List Mv) × Int × Int × Int × Int × Int × Int × Int × Int × Int × Int × Bool × Int × Int × Int × Int × Int × Int × Int × (List PM) × Int × Unit
def flatR (x : qvZ) : FlR := (x.1.1, (x.1.2.1, (x.1.2.2.1, (x.1.2.2.2.1, (x.1.2.2.2.2.1, (x.1.2.2.2.2.2.1, (x.1.2.2.2.2.2.2.1, (x.1.2.2.2.2.2.2.2.1, (x.1.2.2.2.2.2.2.2.2.1, (x.1.2.2.2.2.2.2.2.2.2.1, (x.1.2.2.2.2.2.2.2.2.2.2.1, (x.2.1.1, (x.2.1.2.1, (x.2.1.2.2.1, (x.2.2.1.1, (x.2.2.1.2.1, (x.2.2.1.2.2.1, (x.2.2.1.2.2.2.1.1.1, (x.2.2.1.2.2.2.1.1.2.1, (x.2.2.1.2.2.2.1.2.1.1, (x.2.2.1.2.2.2.1.2.1.2.1, (x.2.2.1.2.2.2.1.2.2.1.1, (x.2.2.1.2.2.2.1.2.2.1.2.1, (x.2.2.1.2.2.2.1.2.2.2.1, (x.2.2.1.2.2.2.1.2.2.2.2.1, (x.2.2.1.2.2.2.1.2.2.2.2.2.1, (x.2.2.1.2.2.2.1.2.2.2.2.2.2.1, (x.2.2.1.2.2.2.2.1.1.1, (x.2.2.1.2.2.2.2.1.1.2.1, (x.2.2.1.2.2.2.2.1.2.1.1.1, (x.2.2.1.2.2.2.2.1.2.1.1.2.1, (x.2.2.1.2.2.2.2.1.2.1.2.1.1, (x.2.2.1.2.2.2.2.1.2.1.2.1.2.1, (x.2.2.1.2.2.2.2.2.1, x.2.2.2))))))))))))))))))))))))))))))))))
def unflatR (y : FlR) : qvZ := ((y.1, (y.2.1, (y.2.2.1, (y.2.2.2.1, (y.2.2.2.2.1, (y.2.2.2.2.2.1, (y.2.2.2.2.2.2.1, (y.2.2.2.2.2.2.2.1, (y.2.2.2.2.2.2.2.2.1, (y.2.2.2.2.2.2.2.2.2.1, (y.2.2.2.2.2.2.2.2.2.2.1, ()))))))))))), ((y.2.2.2.2.2.2.2.2.2.2.2.1, (y.2.2.2.2.2.2.2.2.2.2.2.2.1, (y.2.2.2.2.2.2.2.2.2.2.2.2.2.1, ()))), ((y.2.2.2.2.2.2.2.2.2.2.2.2.2.2.1, (y.2.2.2.2.2.2.2.2.2.2.2.2.2.2.2.1, (y.2.2.2.2.2.2.2.2.2.2.2.2.2.2.2.2.1, (((y.2.2.2.2.2.2.2.2.2.2.2.2.2.2.2.2.2.1, (y.2.2.2.2.2.2.2.2.2.2.2.2.2.2.2.2.2.2.1, ())), ((y.2.2.2.2.2.2.2.2.2.2.2.2.2.2.2.2.2.2.2.1, (y.2.2.2.2.2.2.2.2.2.2.2.2.2.2.2.2.2.2.2.2.1, ())), ((y.2.2.2.2.2.2.2.2.2.2.2.2.2.2.2.2.2.2.2.2.2.1, (y.2.2.2.2.2.2.2.2.2.2.2.2.2.2.2.2.2.2.2.2.2.2.1, ())), (y.2.2.2.2.2.2.2.2.2.2.2.2.2.2.2.2.2.2.2.2.2.2.2.1, (y.2.2.2.2.2.2.2.2.2.2.2.2.2.2.2.2.2.2.2.2.2.2.2.2.1, (y.2.2.2.2.2.2.2.2.2.2.2.2.2.2.2.2.2.2.2.2.2.2.2.2.2.1, (y.2.2.2.2.2.2.2.2.2.2.2.2.2.2.2.2.2.2.2.2.2.2.2.2.2.2.1, ()))))))), (((y.2.2.2.2.2.2.2.2.2.2.2.2.2.2.2.2.2.2.2.2.2.2.2.2.2.2.2.1, (y.2.2.2.2.2.2.2.2.2.2.2.2.2.2.2.2.2.2.2.2.2.2.2.2.2.2.2.2.1, ())), (((y.2.2.2.2.2.2.2.2.2.2.2.2.2.2.2.2.2.2.2.2.2.2.2.2.2.2.2.2.2.1, (y.2.2.2.2.2.2.2.2.2.2.2.2.2.2.2.2.2.2.2.2.2.2.2.2.2.2.2.2.2.2.1, ())), ((y.2.2.2.2.2.2.2.2.2.2.2.2.2.2.2.2.2.2.2.2.2.2.2.2.2.2.2.2.2.2.2.1, (y.2.2.2.2.2.2.2.2.2.2.2.2.2.2.2.2.2.2.2.2.2.2.2.2.2.2.2.2.2.2.2.2.1, ())), ())), ())), (y.2.2.2.2.2.2.2.2.2.2.2.2.2.2.2.2.2.2.2.2.2.2.2.2.2.2.2.2.2.2.2.2.2.1, ())))))), y.2.2.2.2.2.2.2.2.2.2.2.2.2.2.2.2.2.2.2.2.2.2.2.2.2.2.2.2.2.2.2.2.2.2)))
theorem qi5 {r : Rules} {s : List Place × List Mv} (hr : Rng qal r) (h : RG r s) : qF r s.2 = some (s.1, (0, ())) := by
  have hm := h.ok.most; rw [qpd r s.2 hr (by omega)]; unfold qlW; rw [if_pos h.ok.ok, h.reach]
theorem qoc {r : Rules} {s : List Place × List Mv} (hr : Rng qal r) (h : RG r s) : qK r s.1 = some (qx r s.1) := by
  have hm := h.ok.most; have hl := h.ok.len; exact qtB h.ok.ok hr h.ok.all (by omega) (by omega)
theorem qwq (l : List Mv) (h : l.length ≤ 100000) : qey l = some l := by
  unfold qey; rw [qI (by simp only [List.length_nil]; omega), qb]; rfl
theorem qsA {r : Rules} {s : List Place × List Mv} (h : OKG r s) : w64 (((s.1.length : Nat) : Int) - 1) = ((s.1.length - 1 : Nat) : Int) ∧ inb ((s.1.length - 1 : Nat) : Int) s.1.length = true := by
  have hm := h.most; have hl := h.len; exact ⟨qmo (by omega) (by omega), inbN s.1 (s.1.length - 1) (by omega)⟩
theorem legal_R {r : Rules} {p : Place} (hr : Rng qal r) (c : qad r = 0) (hv : Valid r p) (x : Mv) : qez r p x = some (qA r p x, (0, ())) := by
  rw [qqp r p x hr (by have := qba hv; omega), qkM c hv]; rfl
theorem make_R {r : Rules} {cr : CRule} {m : MS} {now : Int} (h : MID r cr m now) (x : Mv) : qcU (tupR r cr m) x now = some (if stepG r m.g x = 0 then (tupR r cr (moveM r cr m x now), true) else (tupR r cr m, false)) := by
  obtain ⟨l1, l2⟩ := qsA h.g.ok; obtain ⟨e, he⟩ := qpJ m.o (par m.g.2.length); obtain ⟨hp, _⟩ := qmt h.len h.clk; have hm := h.g.ok.most; unfold qcU
  simp only [qP, agree_self, show (tupR r cr m).1 = r from rfl, show (tupR r cr m).2.2.1.1 = m.g.2 from rfl, show (tupR r cr m).2.1 = cr from rfl, show (tupR r cr m).2.2.1.2.2.2.1 = m.c from rfl, show (tupR r cr m).2.2.1.2.2.2.2.1 = m.o from rfl,
    qi5 h.rng h.g, qoc h.rng h.g, Option.bind_some, l1, l2, qb, qgX]
  unfold stepG; by_cases c0 : qx r m.g.1 = 0
  rotate_left
  · rw [bne_t c0, Bool.true_or, cond_true, if_neg c0]; rfl
  rw [bne_f c0, Bool.false_or, if_pos c0]; by_cases c1 : m.g.2.length = 400
  · rw [beq_t (by omega), cond_true]; by_cases c2 : qA r (lastP m.g.1) x = true
    · rw [if_pos c2, if_pos c1]; rfl
    · rw [if_neg c2]; rfl
  rw [beq_f (by omega), cond_false]; have hla : getD' m.g.1 ((m.g.1.length - 1 : Nat) : Int).toNat (([], (([], ([], ())), ((0 : Int), ((0 : Int), ())))) : Place) = lastP m.g.1 := rfl; rw [hla, legal_R h.rng h.g.ok.ok h.g.ok.last, Option.bind_some, hp, Option.bind_some]; by_cases c2 : qA r (lastP m.g.1) x = true
  · rw [if_pos c2, if_neg c1, c2]; simp only [Bool.not_true, Bool.false_or, bne_self_eq_false, cond_false, if_true]; rw [he, Option.bind_some, qwq _ (by omega), Option.bind_some, qI (by simp only [List.length_cons, List.length_nil]; omega), qb]; rfl
  · rw [if_neg c2, show qA r (lastP m.g.1) x = false by simpa using c2]; rfl
def qeh (t : Int) : List PM → List Mv × List PM
  | [] => ([], [])
  | x :: l => bif (x.1 == t) then ([x.2.1], l) else ((qeh t l).1, x :: (qeh t l).2)
theorem qq4 (p : Nat → Bool) : ∀ (k i : Nat), fstI p (i + 1) k = fstI (fun j => p (j + 1)) i k + 1
  | 0, i => rfl
  | k + 1, i => by
    unfold fstI; rw [qq4 p k (i + 1)]
    cases p (i + 1) <;> rfl
theorem fstP_cons (x : PM) (l : List PM) (t : Int) : fstP (x :: l) t = bif (x.1 == t) then 0 else fstP l t + 1 := by
  unfold fstP; rw [List.length_cons]
  conv => lhs; unfold fstI
  rw [qq4]; rfl
theorem qti (t : Int) : ∀ l : List PM, qeh t l = if fstP l t < l.length then ([(l.getD (fstP l t) dPM).2.1], l.take (fstP l t) ++ l.drop (fstP l t + 1)) else ([], l)
  | [] => rfl
  | x :: l => by
    unfold qeh; rw [fstP_cons, qti t l]; cases (x.1 == t)
    · simp only [cond_false, List.length_cons]; by_cases c : fstP l t < l.length
      · rw [if_pos c, if_pos (by omega)]; rfl
      · rw [if_neg c, if_neg (by omega)]
    · simp only [cond_true, List.length_cons]; rw [if_pos (by omega)]; rfl
theorem qwx (r : Rules) (p : Place) (l : List PM) : nextP r p l = match (qeh p.turn l).1 with
    | [] => ((0, (0, (0, ()))), (false, (woL l p.turn, ())))
    | x :: _ => if x ∈ openM r p then (x, (true, ((qeh p.turn l).2, ()))) else ((0, (0, (0, ()))), (false, (woL l p.turn, ()))) := by
  rw [qti]; unfold nextP; by_cases c : fstP l p.turn < l.length
  · rw [if_pos c, if_pos c]; unfold resN; rfl
  · rw [if_neg c, if_neg c]
theorem qq9 (t : Int) : ∀ l : List PM, (qeh t l).1.length ≤ 1 ∧ (qeh t l).2.length ≤ l.length
  | [] => ⟨Nat.zero_le _, Nat.le_refl _⟩
  | x :: l => by
    have ih := qq9 t l; unfold qeh; cases (x.1 == t)
    · simp only [cond_false, List.length_cons]; omega
    · simp only [cond_true, List.length_cons, List.length_nil]; omega
theorem ann_L2 (X : Unit × FlR × Unit) (pm : List PM) (n : Nat) (h1 : X.2.1.2.2.2.2.2.2.2.2.2.2.2.2.2.2.2.2.2.2.2.2.2.2.2.2.2.2.2.2.2.2.2.2.2.1 = pm) (h2 : X.2.1.2.2.2.2.2.2.2.2.2.2.2.2.2.2.1.length = n) (hl : pm.length ≤ 1000) :
    iterW (qG X) ((([] : List Mv), (([] : List PM), ((0 : Int), ()))), ()) = some (((qeh (par n) pm).1, ((qeh (par n) pm).2, ())), ()) := by
  have step : ∀ (i : Nat) (hi : i < pm.length) (a : List Mv) (b : List PM), a.length ≤ 1 → b.length ≤ 1000 → qG X ((a, (b, ((i : Int), ()))), ()) = some (.inl (((bif (pm[i].1 == par n) && (((a.length : Nat) : Int) == 0) then a ++ [pm[i].2.1] else a), ((bif (pm[i].1 == par n) && (((a.length : Nat) : Int) == 0) then b else b ++ [pm[i]]), (((i + 1 : Nat) : Int), ()))), ())) := by
    intro i hi a b ha hb; unfold qG; simp only [h1, h2, qgX]; rw [show decide ((i : Int) < ((pm.length : Nat) : Int)) = true by simp; omega, cond_true, qf3 pm i hi, Option.bind_some, qf (n := (i : Int) + 1) (by omega) (by omega), qI (by simp only [List.length_cons, List.length_nil]; omega), qI (by simp only [List.length_cons, List.length_nil]; omega), qb, qb]
    cases (pm[i].1 == par n) && (((a.length : Nat) : Int) == 0) <;> rfl
  have fin : ∀ (a : List Mv) (b : List PM), qG X ((a, (b, (((pm.length : Nat) : Int), ()))), ()) = some (.inr ((a, (b, ())), ())) := by
    intro a b; unfold qG; simp only [h1]; rw [show decide (((pm.length : Nat) : Int) < ((pm.length : Nat) : Int)) = false by simp]; rfl
  have late : ∀ (k i : Nat) (x : Mv) (b : List PM), i + k = pm.length → b.length ≤ i → iterW (qG X) (([x], (b, ((i : Int), ()))), ()) = some (([x], (b ++ pm.drop i, ())), ()) := by
    intro k
    induction k with
    | zero =>
      intro i x b hi hb
      have : i = pm.length := by omega
      subst this; rw [qk (fin _ _), List.drop_length, List.append_nil]
    | succ k ih =>
      intro i x b hi hb
      have hil : i < pm.length := by omega
      have hs := step i hil [x] b (by simp) (by omega); rw [show ((([x].length : Nat) : Int) == 0) = false from rfl, Bool.and_false, cond_false, cond_false] at hs; rw [qm hs, ih (i + 1) x _ (by omega) (by simp; omega), List.drop_eq_getElem_cons hil]; simp
  have early : ∀ (k i : Nat) (b : List PM), i + k = pm.length → b.length ≤ i → iterW (qG X) (([], (b, ((i : Int), ()))), ()) = some (((qeh (par n) (pm.drop i)).1, (b ++ (qeh (par n) (pm.drop i)).2, ())), ()) := by
    intro k
    induction k with
    | zero =>
      intro i b hi hb
      have : i = pm.length := by omega
      subst this; rw [qk (fin _ _), List.drop_length]; unfold qeh; simp
    | succ k ih =>
      intro i b hi hb
      have hil : i < pm.length := by omega
      have hs := step i hil [] b (by simp) (by omega); rw [show (((([] : List Mv).length : Nat) : Int) == 0) = true from rfl, Bool.and_true] at hs; rw [List.drop_eq_getElem_cons hil]; unfold qeh; cases hq : (pm[i].1 == par n)
      · rw [hq, cond_false, cond_false] at hs; rw [qm hs, ih (i + 1) _ (by omega) (by simp; omega)]; simp
      · rw [hq, cond_true, cond_true, List.nil_append] at hs; rw [qm hs, late k (i + 1) _ b (by omega) (by omega)]; rfl
  have := early pm.length 0 [] (Nat.zero_add _) (Nat.zero_le _); rw [List.drop_zero, List.nil_append] at this; exact this
theorem ann_L3 (Y : (Bool × Unit) × FlR × Unit) (X : Unit × FlR × Unit) (pm : List PM) (n : Nat) (h1 : Y.2.1.2.2.2.2.2.2.2.2.2.2.2.2.2.2.2.2.2.2.2.2.2.2.2.2.2.2.2.2.2.2.2.2.2.1 = pm) (h2 : X.2.1.2.2.2.2.2.2.2.2.2.2.2.2.2.2.1.length = n) (hl : pm.length ≤ 1000) :
    iterW (qU Y X) ((([] : List PM), ((0 : Int), ())), ()) = some ((woL pm (par n), ()), ()) := by
  have := qqW pm 1 (qU Y X) (fun x => bif (x.1 != par n) then [x] else []) (fun a => ((a, ()), ())) [] (fun x _ => by
    cases (x.1 != par n)
    · exact Nat.zero_le _
    · exact Nat.le_refl _) (fun i hi a ha => by
    simp only [List.length_nil] at ha; unfold qU; simp only [h1, h2, qgX]; rw [show decide ((i : Int) < ((pm.length : Nat) : Int)) = true by simp; omega, cond_true, qf3 pm i hi, Option.bind_some, qf (n := (i : Int) + 1) (by omega) (by omega), qI (by simp only [List.length_cons, List.length_nil]; omega), qb]; cases (pm[i].1 != par n)
    · simp
    · rfl) (fun a => by
    unfold qU; simp only [h1]; rw [show decide (((pm.length : Nat) : Int) < ((pm.length : Nat) : Int)) = false by simp]
    rfl)
  rw [this]; have hw : ∀ l : List PM, l.flatMap (fun x => bif (x.1 != par n) then [x] else []) = woL l (par n) := by
    intro l
    induction l with
    | nil => rfl
    | cons x l ih =>
      unfold woL at *; rw [List.flatMap_cons, List.filter_cons, ih]; show (bif !(x.1 == par n) then [x] else []) ++ _ = if (!(x.1 == par n)) = true then _ else _
      cases (x.1 == par n) <;> simp
  rw [hw]; rfl

theorem ann_stepR {r : Rules} {cr : CRule} {m : MS} {now : Int} (h : MID r cr m now) : qaM now ((), (flatR (tupR r cr m), ())) = if qx r m.g.1 = 0 ∧ m.g.2.length < 400 then
      if (nextP r (lastP m.g.1) m.pm).2.1 = true then some (.inl ((), (flatR (tupR r cr (moveM r cr { m with pm := (nextP r (lastP m.g.1) m.pm).2.2.1 } (nextP r (lastP m.g.1) m.pm).1 now)), ())))
      else some (.inr (.inr (tupR r cr { m with pm := (nextP r (lastP m.g.1) m.pm).2.2.1 }, ())))
    else some (.inr (.inl ((), (flatR (tupR r cr m), ())))) := by
  have ht := RG.turn m.g.2.length h.g rfl; have hf := h.few; unfold qaM; simp only [qP, agree_self]; refine (congrArg (fun z => Option.bind z _) (show Option.bind (qF r m.g.2) (fun r2 => Option.bind (qK r r2.1) fun r3 => some ((((r3 == (0 : Int)) && (decide (((m.g.2.length : Nat) : Int) < (400 : Int)))), ()), ())) = some (((((qx r m.g.1) == (0 : Int)) && (decide (((m.g.2.length : Nat) : Int) < (400 : Int)))), ()), ()) from by rw [qi5 h.rng h.g, Option.bind_some, qoc h.rng h.g, Option.bind_some])).trans ?_; rw [Option.bind_some]; by_cases c0 : qx r m.g.1 = 0 ∧ m.g.2.length < 400
  rotate_left
  · rw [if_neg c0]; simp only
    rw [show (((qx r m.g.1) == (0 : Int)) && (decide (((m.g.2.length : Nat) : Int) < (400 : Int)))) = false by
      rw [Bool.eq_false_iff]; intro q; simp only [Bool.and_eq_true, beq_iff_eq, decide_eq_true_eq] at q; omega, cond_false]
  rw [if_pos c0]; simp only
  rw [show (((qx r m.g.1) == (0 : Int)) && (decide (((m.g.2.length : Nat) : Int) < (400 : Int)))) = true by
      simp only [Bool.and_eq_true, beq_iff_eq, decide_eq_true_eq]; omega, cond_true]
  rw [ann_L2 ((), (flatR (tupR r cr m), ())) m.pm m.g.2.length rfl rfl (by omega), Option.bind_some]; simp only; rw [qwx, ht]; have hs := qq9 (par m.g.2.length) m.pm; have hno : ∀ (z : Bool × Unit) , z.1 = false → ∀ {B : Type} (f : (List PM × Unit) × Unit → Option B), Option.bind (iterW (qU (z, (flatR (tupR r cr m), ())) ((), (flatR (tupR r cr m), ()))) ((([] : List PM), ((0 : Int), ())), ())) f = f ((woL m.pm (par m.g.2.length), ()), ()) := fun z hz B f => by
    rw [ann_L3 (z, (flatR (tupR r cr m), ())) ((), (flatR (tupR r cr m), ())) m.pm m.g.2.length rfl rfl (by omega), Option.bind_some]
  cases hsp : (qeh (par m.g.2.length) m.pm).1 with
  | nil =>
    simp only [List.length_nil]; rw [show (((0 : Nat) : Int) == 1) = false from rfl]; simp only [imp, cond_false, qb, Option.bind_some]; refine (congrArg (fun z => Option.bind z _) (hno (false, ()) rfl _)).trans ?_; rfl
  | cons x l =>
    have hl0 : l = [] := by rw [hsp] at hs; simp only [List.length_cons] at hs; exact List.length_eq_zero_iff.1 (by omega)
    subst hl0; simp only [List.length_cons, List.length_nil]; rw [show (((0 + 1 : Nat) : Int) == 1) = true from rfl, show inb (0 : Int) (0 + 1) = true from rfl]; simp only [imp, cond_true, qb]; refine (congrArg (fun z => Option.bind (Option.bind (Option.bind z _) _) _) (make_R h x)).trans ?_; rw [Option.bind_some]; by_cases c1 : x ∈ openM r (lastP m.g.1)
    · rw [if_pos c1, if_pos (qh9 c0.1 c1 c0.2)]; rfl
    · have hst : ¬ stepG r m.g x = 0 := fun q => c1 (openM_mem.2 ⟨by
        have := c0.1; unfold qx at this; by_cases w : ((qae r (lastP m.g.1) == 0) && (r.repeats != 0)) && decide (((qaC m.g.1 : Nat) : Int) ≥ r.repeats)
        · rw [w, cond_true] at this; cases this
        · rw [show (((qae r (lastP m.g.1) == 0) && (r.repeats != 0)) && decide (((qaC m.g.1 : Nat) : Int) ≥ r.repeats)) = false by simpa using w, cond_false] at this
          exact this, (step_0 q).2⟩)
      rw [if_neg c1, if_neg hst]; simp only [Option.bind_some, cond_false]; refine (congrArg (fun z => Option.bind z _) (hno (false, ()) rfl _)).trans ?_; rfl
theorem ann_R {r : Rules} {cr : CRule} {now : Int} : ∀ (k : Nat) (m : MS), MID r cr m now → m.pm.length < k →
    Option.bind (iterW (qaM now) ((), (flatR (tupR r cr m), ()))) (Sum.elim (fun x => some (unflatR x.2.1, ())) some) = some (tupR r cr (annM r cr now k m), ())
  | 0, m, _, hk => absurd hk (Nat.not_lt_zero _)
  | k + 1, m, h, hk => by
    have hL := ann_stepR h; unfold annM; by_cases c0 : qx r m.g.1 = 0 ∧ m.g.2.length < 400
    rotate_left
    · rw [if_neg c0] at hL; rw [if_neg c0, qk hL]; rfl
    rw [if_pos c0] at hL; rw [if_pos c0]; by_cases c1 : (nextP r (lastP m.g.1) m.pm).2.1 = true
    · rw [if_pos c1] at hL; rw [if_pos c1, qm hL]; obtain ⟨n1, n2⟩ := qsp c1; exact ann_R k _ (qol (mid_pm h (qsb r (lastP m.g.1) m.pm)) (qh9 c0.1 n1 c0.2)) (by show (nextP r (lastP m.g.1) m.pm).2.2.1.length < k; omega)
    · rw [if_neg c1] at hL; rw [if_neg c1, qk hL]; rfl
theorem quA {r : Rules} {cr : CRule} {m : MS} {now : Int} (h : MID r cr m now) : qde (tupR r cr m) now = some (tupR r cr (annM r cr now (m.pm.length + 1) m), ()) := ann_R _ m h (Nat.lt_succ_self _)

theorem qqE : ∀ (k : Nat) (s : List Place × List Mv), (backN k s).2 = s.2.take (s.2.length - k)
  | 0, s => by
    show s.2 = _; rw [Nat.sub_zero, List.take_length]
  | k + 1, s => by
    show (backN k (backG s)).2 = _; rw [qqE k, qkU]; show (s.2.dropLast).take _ = _; rw [List.dropLast_eq_take, List.take_take]; congr 1; omega
theorem accept_R {r : Rules} {cr : CRule} {m : MS} {e : Ev} (h : MID r cr m e.2.2.2.1) : qcC (tupR r cr m) e ((m.g.2.length : Nat) : Int) = some (tupR r cr (qaO m e).1, (qaO m e).2) := by
  obtain ⟨a1, a2⟩ := qrd m.o e.2.2.1 e.2.1 ((m.g.2.length : Nat) : Int); have hm := h.g.ok.most; unfold qcC; simp only [qP, agree_self]; rw [show (tupR r cr m).2.2.1.2.2.2.2.1 = m.o from rfl, a1, Option.bind_some]; unfold qaO; simp only; by_cases c1 : (ofAcc m.o e.2.2.1 e.2.1 ((m.g.2.length : Nat) : Int)).2 = 0
  rotate_left
  · rw [if_pos c1, bne_t c1, cond_true]
  rw [if_neg (fun q => q c1), bne_f c1, cond_false]; by_cases c2 : e.2.2.1 = 0
  · rw [if_pos c2, beq_t c2, cond_true]; rfl
  rw [if_neg c2, beq_f c2, cond_false]; have hpl : w64 (1 - e.2.1) = 1 - e.2.1 := qf (by have := (a2 c1).2.1; omega) (by have := (a2 c1).2.1; omega); obtain ⟨p0, p1, p2⟩ := qoH (1 - e.2.1) m.g.2.length; have hG := qqE (qcy (1 - e.2.1) ((m.g.2.length : Nat) : Int)).toNat m.g; have hbl := qlA (qcy (1 - e.2.1) ((m.g.2.length : Nat) : Int)).toNat m.g; have hk : w64 (((m.g.2.length : Nat) : Int) - qcy (1 - e.2.1) ((m.g.2.length : Nat) : Int)) = (((m.g.2.length - (qcy (1 - e.2.1) ((m.g.2.length : Nat) : Int)).toNat : Nat)) : Int) := by
    rw [qf (by omega) (by omega)]; omega
  rw [hpl, qmS, Option.bind_some, hk, ← hbl]; obtain ⟨f, hf⟩ := qpa (ofAcc m.o e.2.2.1 e.2.1 ((m.g.2.length : Nat) : Int)).1 (((backN (qcy (1 - e.2.1) ((m.g.2.length : Nat) : Int)).toNat m.g).2.length : Nat) : Int); rw [hf, Option.bind_some, show (tupR r cr m).2.2.1.1 = m.g.2 from rfl, show qt 0 (((backN (qcy (1 - e.2.1) ((m.g.2.length : Nat) : Int)).toNat m.g).2.length : Nat) : Int) m.g.2.length = true by simp only [qt, Bool.and_eq_true, decide_eq_true_eq]; omega, qb, Int.toNat_natCast, List.drop_zero, qgX]; rw [show m.g.2.take (backN (qcy (1 - e.2.1) ((m.g.2.length : Nat) : Int)).toNat m.g).2.length = (backN (qcy (1 - e.2.1) ((m.g.2.length : Nat) : Int)).toNat m.g).2 by rw [hbl]; exact hG.symm]; rw [qwq _ (by omega), Option.bind_some]; rfl
theorem claim_R {r : Rules} {cr : CRule} {m : MS} {e : Ev} {last : Int} (hr : Rng qal r) (hl : cr.1.length ≤ 9223372036854775807) (hg : RG r m.g) (hk : GoodC cr m.c last) : qdE (tupR r cr m) e (lookC cr m.c e.2.2.2.1) ((m.g.2.length : Nat) : Int) = some (tupR r cr (qbA r cr m e).1, (qbA r cr m e).2) := by
  obtain ⟨l1, l2⟩ := qsA hg.ok; have hm := hg.ok.most; have hll := hg.ok.len; have hla : getD' m.g.1 ((m.g.1.length - 1 : Nat) : Int).toNat (([], (([], ([], ())), ((0 : Int), ((0 : Int), ())))) : Place) = lastP m.g.1 := rfl; unfold qdE qbA; simp only [qP, agree_self, show (tupR r cr m).1 = r from rfl, show (tupR r cr m).2.2.1.1 = m.g.2 from rfl, qi5 hr hg, Option.bind_some, l1, l2, qb, hla, qgX]; by_cases c1 : e.2.2.1 = 2
  · rw [if_pos c1, beq_t c1]; simp only [Bool.true_and, cond_true]; by_cases c2 : (lookC cr m.c e.2.2.2.1).2.2.2.2.2.2.1 < 0
    · rw [if_pos c2, decide_eq_true c2, cond_true]
    · rw [if_neg c2, decide_eq_false c2, cond_false]; have hf := qv7 (now := e.2.2.2.1) hl hk; have w1 : w64 (1 - (lookC cr m.c e.2.2.2.1).2.2.2.2.2.2.1) = 1 - (lookC cr m.c e.2.2.2.1).2.2.2.2.2.2.1 := qf (by omega) (by omega); have w2 : w64 (2 - (lookC cr m.c e.2.2.2.1).2.2.2.2.2.2.1) = 2 - (lookC cr m.c e.2.2.2.1).2.2.2.2.2.2.1 := qf (by omega) (by omega)
      have cp : 1 - (lookC cr m.c e.2.2.2.1).2.2.2.2.2.2.1 = 0 ∨ 1 - (lookC cr m.c e.2.2.2.1).2.2.2.2.2.2.1 = 1 := by omega
      simp only [w1, w2]; rw [rep_eta, quk hg.ok.last cp, Option.bind_some, ← able_same hg.ok.last cp]; unfold fallR
      cases ableR r (lastP m.g.1) (1 - (lookC cr m.c e.2.2.2.1).2.2.2.2.2.2.1) <;> rfl
  · rw [if_neg c1, beq_f c1]; simp only [Bool.false_and, cond_false]; rw [qpG (r := r) hg.ok.all (by omega) (by omega)]; by_cases d : e.2.2.1 ≠ 0 ∧ e.2.2.1 ≠ 1
    · rw [if_pos d, bne_t d.1, bne_t d.2]; rfl
    rw [if_neg d, show ((e.2.2.1 != (0 : Int)) && (e.2.2.1 != (1 : Int))) = false by
      rw [Bool.eq_false_iff]; intro q; simp only [bneI, Bool.and_eq_true, decide_eq_true_eq] at q; exact d q, cond_false]
    by_cases c2 : par m.g.2.length = e.2.1
    rotate_left
    · rw [if_pos c2, bne_t (fun q => c2 q.symm), cond_true]
    rw [if_neg (fun q => q c2), bne_f c2.symm, cond_false]; have hq : (lastP m.g.1).2.2.2.1 = (lastP m.g.1).quiet := rfl; by_cases d0 : e.2.2.1 = 0
    · simp only [d0, beq_self_eq_true, gopt, cond_true, Option.bind_some, Bool.true_and]; by_cases c3 : 3 ≤ qaC m.g.1
      · rw [decide_eq_false (show ¬ ((qaC m.g.1 : Nat) : Int) < 3 by omega), if_pos (.inl ⟨trivial, c3⟩)]; rfl
      · rw [decide_eq_true (show ((qaC m.g.1 : Nat) : Int) < 3 by omega), if_neg (by omega)]; rfl
    · have d1 : e.2.2.1 = 1 := by omega
      simp only [d1, show ((1 : Int) == 0) = false from rfl, gopt, cond_false, Option.bind_some, Bool.false_and, beq_self_eq_true, Bool.true_and]; by_cases c3 : 20 ≤ (lastP m.g.1).quiet
      · rw [hq, decide_eq_false (show ¬ (lastP m.g.1).quiet < 20 by omega), if_pos (.inr ⟨trivial, c3⟩)]; rfl
      · rw [hq, decide_eq_true (show (lastP m.g.1).quiet < 20 by omega), if_neg (by omega)]; rfl
theorem qwO {r : Rules} {cr : CRule} {m : MS} {e : Ev} (h : MID r cr m e.2.2.2.1) : qbZ (tupR r cr m) e ((m.g.2.length : Nat) : Int) = some (tupR r cr (qah m e).1, (qah m e).2) := by
  have hf := h.few; unfold qbZ qah; simp only [qP, agree_self, qgX]; by_cases c1 : par m.g.2.length = e.2.1
  · rw [if_pos c1, beq_t c1.symm, cond_true]
  rw [if_neg c1, beq_f (fun q => c1 q.symm), cond_false]
  have hL := qiO m.pm (fun x => x.1 == e.2.1) (qaT (tupR r cr m) e) (fun c => ((c, ()), ())) (fun i hi c hc0 hc1 => by
    unfold qaT; simp only [show (tupR r cr m).2.2.1.2.2.2.2.2.1 = m.pm from rfl]; rw [show decide ((i : Int) < ((m.pm.length : Nat) : Int)) = true by simp; omega, cond_true, qf3 m.pm i hi, Option.bind_some, qf (n := (i : Int) + 1) (by omega) (by omega), qf (n := c + 1) (by omega) (by omega)]; cases (m.pm[i].1 == e.2.1) <;> rfl) (fun c => by
    unfold qaT; simp only [show (tupR r cr m).2.2.1.2.2.2.2.2.1 = m.pm from rfl]; rw [show decide (((m.pm.length : Nat) : Int) < ((m.pm.length : Nat) : Int)) = false by simp]
    rfl)
  rw [hL, Option.bind_some, qiA]; simp only; by_cases c2 : m.pm.countP (fun x => x.1 == e.2.1) = 4
  · rw [if_pos c2, c2]; rfl
  rw [if_neg c2, beq_f (show ¬ ((m.pm.countP (fun x => x.1 == e.2.1) : Nat) : Int) = 4 by omega), cond_false]; rw [show (tupR r cr m).2.2.1.2.2.2.2.2.1 = m.pm from rfl]; have r1 : room (([] : List PM).length + m.pm.length) 32 = true := qI (by simp only [List.length_nil]; omega); have r2 : ∀ z : PM, room (m.pm.length + [z].length) 32 = true := fun z => qI (by simp only [List.length_nil, List.length_cons]; omega); simp only [r1, r2, qb, qP, agree_self, Option.bind_some, List.nil_append]; rfl
def szM (m : MS) : Nat := m.g.2.length + m.pm.length
theorem qwp (r : Rules) (cr : CRule) (now : Int) : ∀ (k : Nat) (m : MS), szM (annM r cr now k m) ≤ szM m
  | 0, m => Nat.le_refl _
  | k + 1, m => by
    unfold annM; split
    · split
      · rename_i c; obtain ⟨_, n2⟩ := qsp c; have := qwp r cr now k (moveM r cr { m with pm := (nextP r (lastP m.g.1) m.pm).2.2.1 } (nextP r (lastP m.g.1) m.pm).1 now); have e : szM (moveM r cr { m with pm := (nextP r (lastP m.g.1) m.pm).2.2.1 } (nextP r (lastP m.g.1) m.pm).1 now) = m.g.2.length + 1 + (nextP r (lastP m.g.1) m.pm).2.2.1.length := by
          unfold szM moveM nextG; simp
        unfold szM at *; omega
      · have := (qsb r (lastP m.g.1) m.pm).length_le; unfold szM; show m.g.2.length + (nextP r (lastP m.g.1) m.pm).2.2.1.length ≤ _; omega
    · exact Nat.le_refl _
theorem kind_size (r : Rules) (cr : CRule) (m : MS) (e : Ev) : szM (kindM r cr m e).1 ≤ szM m + 1 := by
  unfold kindM; split
  · unfold qdo; split
    · exact Nat.le_succ _
    · split
      · exact Nat.le_succ _
      · split
        · exact Nat.le_succ _
        · have := qwp r cr e.2.2.2.1 (m.pm.length + 1) (moveM r cr m e.2.2.2.2.1 e.2.2.2.1); have e' : szM (moveM r cr m e.2.2.2.2.1 e.2.2.2.1) = szM m + 1 := by
            unfold szM moveM nextG; simp; omega
          show szM (annM r cr e.2.2.2.1 (m.pm.length + 1) (moveM r cr m e.2.2.2.2.1 e.2.2.2.1)) ≤ _; omega
  · split
    · unfold qdC; simp only
      repeat' split
      all_goals exact Nat.le_succ _
    · split
      · unfold qaO; simp only; split
        · exact Nat.le_succ _
        · split
          · exact Nat.le_succ _
          · unfold szM; simp only [qlA, List.length_nil]; omega
      · split
        · unfold qbA
          repeat' split
          all_goals exact Nat.le_succ _
        · split
          · unfold qah; split
            · exact Nat.le_succ _
            · split
              · exact Nat.le_succ _
              · unfold szM; simp only [List.length_append, List.length_cons, List.length_nil]; omega
          · exact Nat.le_succ _
theorem do_size (r : Rules) (cr : CRule) (m : MS) (e : Ev) : szM (doM r cr m e).1 ≤ szM m + 1 := by
  have hk := kind_size r cr m e; unfold doM
  repeat' split
  all_goals first | exact Nat.le_succ _ | skip
  unfold doneM szM at *; rw [(qdW r _).1, (qdW r _).2.1]; exact hk
theorem kind_open {r : Rules} {cr : CRule} {m : MS} {e : Ev} {last : Int} (hg : RG r m.g) (hl : cr.1.length ≤ 9223372036854775807) (hk : GoodC cr m.c last) (hp : e.2.1 = 0 ∨ e.2.1 = 1) (h0 : qx r m.g.1 = 0) (h : e.1 ≠ 0) : (kindM r cr m e).1.res ≠ 0 ∨ qx r (kindM r cr m e).1.g.1 = 0 := by
  unfold kindM; rw [if_neg h]; split
  · right; unfold qdC; simp only
    repeat' split
    all_goals exact h0
  · split
    · unfold qaO; simp only; split
      · exact .inr h0
      · split
        · exact .inl (show (3 : Int) ≠ 0 by decide)
        · exact .inr (qmT _ hg (qoH (1 - e.2.1) m.g.2.length).2.2 h0)
    · split
      · unfold qbA
        repeat' split
        all_goals first | exact .inr h0 | exact .inl (show (3 : Int) ≠ 0 by decide) | skip
      · split
        · unfold qah
          repeat' split
          all_goals exact .inr h0
        · exact .inl (by show ¬ (2 - e.2.1 = 0); omega)
def lastM (m : MS) (now : Int) : MS := { m with last := now }
theorem done_same {r : Rules} {m : MS} {e : Ev} (h : m.res ≠ 0 ∨ qx r m.g.1 = 0) (cr : CRule) : tupR r cr (doneM r m e) = tupR r cr (lastM m e.2.2.2.1) := by
  unfold doneM overM
  rw [if_neg (fun q => by rcases h with h | h
                          · exact h q.1
                          · exact q.2 h)]
  rfl
theorem qrJ (r : Rules) (cr : CRule) (m : MS) (now x : Int) {A : Type} (f : Unit × FlR × Unit → Option A) : (Option.bind (bif (x == (0 : Int)) then some ((), (flatR (tupR r cr (lastM m now)), ())) else some ((), (flatR (tupR r cr m), ()))) f) = f ((), (flatR (tupR r cr (if x = 0 then lastM m now else m)), ())) := by
  by_cases c : x = 0
  · rw [if_pos c, beq_t c]; rfl
  · rw [if_neg c, beq_f c]; rfl
theorem res_open {r : Rules} {l : List Place} (h : qx r l = 0) : qae r (lastP l) = 0 := by
  unfold qx at h; by_cases w : ((qae r (lastP l) == 0) && (r.repeats != 0)) && decide (((qaC l : Nat) : Int) ≥ r.repeats)
  · rw [w, cond_true] at h; cases h
  · rw [show (((qae r (lastP l) == 0) && (r.repeats != 0)) && decide (((qaC l : Nat) : Int) ≥ r.repeats)) = false by simpa using w, cond_false] at h; exact h
theorem ann_res (r : Rules) (cr : CRule) (now : Int) : ∀ (k : Nat) (m : MS), (annM r cr now k m).res = m.res
  | 0, m => rfl
  | k + 1, m => by
    unfold annM; split
    · split
      · exact ann_res r cr now k _
      · rfl
    · rfl
theorem qwQ {r : Rules} {cr : CRule} {m : MS} (h : MOK r cr m) {e : Ev} (hs : szM m < 400) (hj : m.j.length < 1000) : qgM (tupR r cr m) e = some (tupR r cr (doM r cr m e).1, (doM r cr m e).2) := by
  obtain ⟨le, hle⟩ := qi4 cr m.c e.2.2.2.1 h.len; unfold qgM doM; simp only [qP, agree_self, qgX, show (tupR r cr m).2.1 = cr from rfl, show (tupR r cr m).2.2.1.1 = m.g.2 from rfl, show (tupR r cr m).2.2.1.2.1 = m.res from rfl, show (tupR r cr m).2.2.1.2.2.2.1 = m.c from rfl, show (tupR r cr m).2.2.2.1 = m.last from rfl, show (tupR r cr m).2.2.1.2.2.2.2.1 = m.o from rfl]; by_cases c1 : (e.1 < 0 ∨ 6 < e.1) ∨ (e.2.1 ≠ 0 ∧ e.2.1 ≠ 1)
  · rw [if_pos c1, show (((decide (e.1 < (0 : Int))) || (decide (e.1 > (6 : Int)))) || ((e.2.1 != (0 : Int)) && (e.2.1 != (1 : Int)))) = true by
      simp only [bneI, Bool.or_eq_true, Bool.and_eq_true, decide_eq_true_eq]; omega, cond_true]
  rw [if_neg c1, show (((decide (e.1 < (0 : Int))) || (decide (e.1 > (6 : Int)))) || ((e.2.1 != (0 : Int)) && (e.2.1 != (1 : Int)))) = false by
      rw [Bool.eq_false_iff]; intro q; simp only [bneI, Bool.or_eq_true, Bool.and_eq_true, decide_eq_true_eq] at q; omega, cond_false]
  by_cases c2 : e.2.2.2.1 < m.last ∨ 100000000 < e.2.2.2.1
  · rw [if_pos c2, show ((decide (e.2.2.2.1 < m.last)) || (decide (e.2.2.2.1 > (100000000 : Int)))) = true by simp only [Bool.or_eq_true, decide_eq_true_eq]; omega, cond_true]
  rw [if_neg c2, show ((decide (e.2.2.2.1 < m.last)) || (decide (e.2.2.2.1 > (100000000 : Int)))) = false by rw [Bool.eq_false_iff]; intro q; simp only [Bool.or_eq_true, decide_eq_true_eq] at q; omega, cond_false]; by_cases c3 : m.res = 0
  rotate_left
  · rw [if_pos c3, bne_t c3, cond_true]
  rw [if_neg (fun q => q c3), bne_f c3, cond_false, if_neg (show ¬ m.j.length = 1000 by omega), hle, Option.bind_some]; simp only; have hk := h.clk c3; by_cases c5 : (0 ≤ (lookC cr m.c e.2.2.2.1).2.2.2.2.2.2.1 ∧ e.1 ≠ 4) ∧ ¬ (e.1 = 5 ∧ e.2.2.1 = 2)
  · rw [if_pos c5, show (((decide ((lookC cr m.c e.2.2.2.1).2.2.2.2.2.2.1 ≥ (0 : Int))) && (e.1 != (4 : Int))) && ((e.1 != (5 : Int)) || (e.2.2.1 != (2 : Int)))) = true by
      simp only [bneI, Bool.and_eq_true, Bool.or_eq_true, decide_eq_true_eq]; omega, cond_true]
  rw [if_neg c5, show (((decide ((lookC cr m.c e.2.2.2.1).2.2.2.2.2.2.1 ≥ (0 : Int))) && (e.1 != (4 : Int))) && ((e.1 != (5 : Int)) || (e.2.2.1 != (2 : Int)))) = false by
      rw [Bool.eq_false_iff]; intro q; simp only [bneI, Bool.and_eq_true, Bool.or_eq_true, decide_eq_true_eq] at q; omega, cond_false]
  have hmid : ¬ (e.1 = 4 ∨ e.1 = 5 ∧ e.2.2.1 = 2) → MID r cr m e.2.2.2.1 := fun q => by
    have hf : (lookC cr m.c e.2.2.2.1).2.2.2.2.2.2.1 < 0 := by
      by_cases q1 : e.1 = 4
      · exact absurd (.inl q1) q
      · by_cases q2 : e.1 = 5 ∧ e.2.2.1 = 2
        · exact absurd (.inr q2) q
        · have := fun a => c5 ⟨⟨a, q1⟩, q2⟩; omega
    exact ⟨h.rng, h.len, h.g, good_of h.len hle hf hk.run, h.turn c3, h.pm, h.few⟩
  obtain ⟨s1, s2, s3, s4, s5, s6⟩ := qtp (e := e) h.rng h.len h.g hk h.pm (by omega) (h.opn c3) (by omega) hmid; have hgoal : ∀ (y : Option (qvZ × Int)), y = some (tupR r cr (if (kindM r cr m e).2 = 0 then lastM (kindM r cr m e).1 e.2.2.2.1 else m), (kindM r cr m e).2) → e.1 ≠ 0 → y = some (tupR r cr (if (kindM r cr m e).2 ≠ 0 then (m, (kindM r cr m e).2) else (doneM r (kindM r cr m e).1 e, 0)).1, (if (kindM r cr m e).2 ≠ 0 then (m, (kindM r cr m e).2) else (doneM r (kindM r cr m e).1 e, 0)).2) := by
    intro y hy h0; rw [hy]; by_cases c6 : (kindM r cr m e).2 = 0
    · rw [if_pos c6, if_neg (fun q => q c6), c6, done_same (kind_open h.g h.len hk (by omega) (h.opn c3) h0) cr]
    · rw [if_neg c6, if_pos c6]
  by_cases c0 : e.1 = 0
  · have hmd := hmid (by omega)
    have hk' : kindM r cr m e = qdo r cr m e := by unfold kindM; rw [if_pos c0]
    rw [beq_t c0, cond_true]; by_cases d1 : par m.g.2.length = e.2.1
    rotate_left
    · have hx : qdo r cr m e = (m, 12) := by unfold qdo; rw [if_pos d1]
      rw [bne_t (fun q => d1 q.symm), cond_true, hk', hx]; rfl
    rw [bne_f d1.symm, cond_false, beq_f (show ¬ ((m.g.2.length : Nat) : Int) = 400 by unfold szM at hs; omega), cond_false, make_R hmd, Option.bind_some]; by_cases d2 : e.2.2.2.2.1 ∈ openM r (lastP m.g.1)
    rotate_left
    · have hx : qdo r cr m e = (m, 13) := by unfold qdo; rw [if_neg (fun q => q d1), if_pos d2]
      have hst : ¬ stepG r m.g e.2.2.2.2.1 = 0 := fun q => d2 (openM_mem.2 ⟨res_open (h.opn c3), (step_0 q).2⟩); rw [if_neg hst, hk', hx]; rfl
    have hst : stepG r m.g e.2.2.2.2.1 = 0 := qh9 (h.opn c3) d2 (by unfold szM at hs; omega)
    have hx : qdo r cr m e = (annM r cr e.2.2.2.1 (m.pm.length + 1) (moveM r cr m e.2.2.2.2.1 e.2.2.2.1), 0) := by unfold qdo; rw [if_neg (fun q => q d1), if_neg (fun q => q d2), if_neg (by unfold szM at hs; omega)]
    have hmv := qol hmd hst; obtain ⟨_, hmd'⟩ := qsF (r := r) (cr := cr) e rfl (m.pm.length + 1) _ hmv (by show m.pm.length < m.pm.length + 1; omega); rw [if_pos hst]; simp only [Bool.not_true, cond_false]; rw [quA hmv, Option.bind_some, hk', hx]; simp only [show (moveM r cr m e.2.2.2.2.1 e.2.2.2.1).pm.length = m.pm.length from rfl]
    have hres : (annM r cr e.2.2.2.1 (m.pm.length + 1) (moveM r cr m e.2.2.2.2.1 e.2.2.2.1)).res = 0 := by rw [ann_res]; exact c3
    generalize (annM r cr e.2.2.2.1 (m.pm.length + 1) (moveM r cr m e.2.2.2.2.1 e.2.2.2.1)) = M at *; refine (congrArg (fun z => Option.bind (Option.bind z _) _) (show Option.bind (qF r M.g.2) (fun r5 => Option.bind (qK r r5.1) fun r6 => some ((r6, ()), ())) = some ((qx r M.g.1, ()), ()) from by rw [qi5 h.rng hmd'.g, Option.bind_some, qoc h.rng hmd'.g, Option.bind_some])).trans ?_; rw [Option.bind_some]; simp only; by_cases w : qx r M.g.1 = 0
    · rw [bne_f w, cond_false, if_neg (fun q => q rfl)]; unfold doneM overM; rw [if_neg (fun q => q.2 w)]; rfl
    · rw [bne_t w, cond_true, if_neg (fun q => q rfl)]; unfold doneM overM; rw [if_pos ⟨hres, w⟩]; rfl
  refine hgoal _ ?_ c0; rw [beq_f c0, cond_false]; by_cases d1 : e.1 = 1
  · have hk' : kindM r cr m e = qdC m e := by unfold kindM; rw [if_neg c0, if_pos (Or.inl d1)]
    rw [hk', beq_t d1, cond_true, qkn, Option.bind_some]; unfold qdC; simp only [if_neg (show ¬ e.1 = 3 by omega)]; by_cases w : (qoE m.o e.2.2.1 e.2.1 ((m.g.2.length : Nat) : Int)).2 = 0
    · simp only [w, if_true, bne_self_eq_false, cond_false, Option.bind_some, Sum.elim_inl]; rfl
    · simp only [if_neg w, bne_t w, cond_true, Option.bind_some, Sum.elim_inr]
  rw [beq_f d1, cond_false]; by_cases d2 : e.1 = 2
  · have hk' : kindM r cr m e = qaO m e := by unfold kindM; rw [if_neg c0, if_neg (by omega), if_pos d2]
    rw [hk', beq_t d2, cond_true, accept_R (hmid (by omega)), Option.bind_some]; simp only [Option.bind_some, Sum.elim_inl]; refine (qrJ r cr (qaO m e).1 e.2.2.2.1 (qaO m e).2 _).trans ?_; by_cases w : (qaO m e).2 = 0
    · rw [if_pos w, if_pos w]; rfl
    · rw [if_neg w, if_neg w, show (qaO m e).1 = m from hk' ▸ s2 (by rw [hk']; exact w)]; rfl
  rw [beq_f d2, cond_false]; by_cases d3 : e.1 = 3
  · have hk' : kindM r cr m e = qdC m e := by unfold kindM; rw [if_neg c0, if_pos (Or.inr d3)]
    rw [hk', beq_t d3, cond_true, qj6, Option.bind_some]; unfold qdC; simp only [if_pos d3]; by_cases w : (qpN m.o e.2.2.1 e.2.1 ((m.g.2.length : Nat) : Int)).2 = 0
    · simp only [w, if_true, bne_self_eq_false, cond_false, Option.bind_some, Sum.elim_inl]; rfl
    · simp only [if_neg w, bne_t w, cond_true, Option.bind_some, Sum.elim_inr]
  rw [beq_f d3, cond_false]; by_cases d4 : e.1 = 4
  · have hk' : kindM r cr m e = ({ m with res := 2 - e.2.1, rea := 3 }, 0) := by unfold kindM; rw [if_neg c0, if_neg (by omega), if_neg d2, if_neg (by omega), if_neg (by omega)]
    rw [hk', beq_t d4, cond_true, qf (n := 2 - e.2.1) (by omega) (by omega)]; rfl
  rw [beq_f d4, cond_false]; by_cases d5 : e.1 = 5
  · have hk' : kindM r cr m e = qbA r cr m e := by unfold kindM; rw [if_neg c0, if_neg (by omega), if_neg d2, if_pos d5]
    rw [hk', beq_t d5, cond_true, claim_R h.rng h.len h.g hk, Option.bind_some]; simp only [Option.bind_some, Sum.elim_inl]; refine (qrJ r cr (qbA r cr m e).1 e.2.2.2.1 (qbA r cr m e).2 _).trans ?_; by_cases w : (qbA r cr m e).2 = 0
    · rw [if_pos w, if_pos w]; rfl
    · rw [if_neg w, if_neg w, show (qbA r cr m e).1 = m from hk' ▸ s2 (by rw [hk']; exact w)]; rfl
  have hk' : kindM r cr m e = qah m e := by unfold kindM; rw [if_neg c0, if_neg (by omega), if_neg d2, if_neg d5, if_pos (by omega)]
  rw [hk', beq_f d5, cond_false, qwO (hmid (by omega)), Option.bind_some]; simp only [Option.bind_some, Sum.elim_inl]; refine (qrJ r cr (qah m e).1 e.2.2.2.1 (qah m e).2 _).trans ?_; by_cases w : (qah m e).2 = 0
  · rw [if_pos w, if_pos w]; rfl
  · rw [if_neg w, if_neg w, show (qah m e).1 = m from hk' ▸ s2 (by rw [hk']; exact w)]; rfl

theorem qck {n : Int} (h : I64 n) : qgO (numS n) = some (n, (true, ())) := by
  unfold qgO; rw [atoi_num h, Option.bind_some]; simp only [gopt, Bool.not_false, cond_true]; rw [qos h, Option.bind_some]; simp
theorem read_spec {e : Ev} (h : EvR e) : qdA (qej e) = some (e, (0, ())) := by
  have hs : qqB (qej e) (ByteArray.mk #[32]) = some ((evL e).map numS) := by
    refine qu0 32 _ (by simp [evL]) (by have := qmD e h; unfold qej at this; omega) (fun x hx => ?_); obtain ⟨n, hn, rfl⟩ := List.mem_map.1 hx; intro q; have := qvd n _ q; rw [show (32 : UInt8).toNat = 32 from rfl] at this; omega
  have hloop : iterW (qs ((evL e).map numS)) (((0 : Int), ()), (((0 : Int), ((0 : Int), ((0 : Int), ((0 : Int), ((0 : Int), ((0 : Int), ((0 : Int), ()))))))), (((0 : Int), ((0 : Int), ((0 : Int), ((0 : Int), ((0 : Int), ((0 : Int), ((0 : Int), ()))))))), ()))) = some (.inl ((), (((0 : Int), ((0 : Int), ((0 : Int), ((0 : Int), ((0 : Int), ((0 : Int), ((0 : Int), ()))))))), ((e.1, (e.2.1, (e.2.2.1, (e.2.2.2.1, (e.2.2.2.2.1.1, (e.2.2.2.2.1.2.1, (e.2.2.2.2.1.2.2.1, ()))))))), ())))) := by
    have s0 : qs ((evL e).map numS) (((0 : Int), ()), (((0 : Int), ((0 : Int), ((0 : Int), ((0 : Int), ((0 : Int), ((0 : Int), ((0 : Int), ()))))))), (((0 : Int), ((0 : Int), ((0 : Int), ((0 : Int), ((0 : Int), ((0 : Int), ((0 : Int), ()))))))), ()))) = some (.inl (((1 : Int), ()), (((0 : Int), ((0 : Int), ((0 : Int), ((0 : Int), ((0 : Int), ((0 : Int), ((0 : Int), ()))))))), ((e.1, ((0 : Int), ((0 : Int), ((0 : Int), ((0 : Int), ((0 : Int), ((0 : Int), ()))))))), ())))) := by
      unfold qs; simp only [show decide ((0 : Int) < ((((evL e).map numS).length : Nat) : Int)) = true from rfl, cond_true, show at? ((evL e).map numS) (0 : Int) = some (numS e.1) from rfl, Option.bind_some, qck h.kind, show inb (0 : Int) 7 = true from rfl, qb, Bool.not_true, cond_false]; rfl
    have s1 : qs ((evL e).map numS) (((1 : Int), ()), (((0 : Int), ((0 : Int), ((0 : Int), ((0 : Int), ((0 : Int), ((0 : Int), ((0 : Int), ()))))))), ((e.1, ((0 : Int), ((0 : Int), ((0 : Int), ((0 : Int), ((0 : Int), ((0 : Int), ()))))))), ()))) = some (.inl (((2 : Int), ()), (((0 : Int), ((0 : Int), ((0 : Int), ((0 : Int), ((0 : Int), ((0 : Int), ((0 : Int), ()))))))), ((e.1, (e.2.1, ((0 : Int), ((0 : Int), ((0 : Int), ((0 : Int), ((0 : Int), ()))))))), ())))) := by
      unfold qs; simp only [show decide ((1 : Int) < ((((evL e).map numS).length : Nat) : Int)) = true from rfl, cond_true, show at? ((evL e).map numS) (1 : Int) = some (numS e.2.1) from rfl, Option.bind_some, qck h.player, show inb (1 : Int) 7 = true from rfl, qb, Bool.not_true, cond_false]; rfl
    have s2 : qs ((evL e).map numS) (((2 : Int), ()), (((0 : Int), ((0 : Int), ((0 : Int), ((0 : Int), ((0 : Int), ((0 : Int), ((0 : Int), ()))))))), ((e.1, (e.2.1, ((0 : Int), ((0 : Int), ((0 : Int), ((0 : Int), ((0 : Int), ()))))))), ()))) = some (.inl (((3 : Int), ()), (((0 : Int), ((0 : Int), ((0 : Int), ((0 : Int), ((0 : Int), ((0 : Int), ((0 : Int), ()))))))), ((e.1, (e.2.1, (e.2.2.1, ((0 : Int), ((0 : Int), ((0 : Int), ((0 : Int), ()))))))), ())))) := by
      unfold qs; simp only [show decide ((2 : Int) < ((((evL e).map numS).length : Nat) : Int)) = true from rfl, cond_true, show at? ((evL e).map numS) (2 : Int) = some (numS e.2.2.1) from rfl, Option.bind_some, qck h.n, show inb (2 : Int) 7 = true from rfl, qb, Bool.not_true, cond_false]; rfl
    have s3 : qs ((evL e).map numS) (((3 : Int), ()), (((0 : Int), ((0 : Int), ((0 : Int), ((0 : Int), ((0 : Int), ((0 : Int), ((0 : Int), ()))))))), ((e.1, (e.2.1, (e.2.2.1, ((0 : Int), ((0 : Int), ((0 : Int), ((0 : Int), ()))))))), ()))) = some (.inl (((4 : Int), ()), (((0 : Int), ((0 : Int), ((0 : Int), ((0 : Int), ((0 : Int), ((0 : Int), ((0 : Int), ()))))))), ((e.1, (e.2.1, (e.2.2.1, (e.2.2.2.1, ((0 : Int), ((0 : Int), ((0 : Int), ()))))))), ())))) := by
      unfold qs; simp only [show decide ((3 : Int) < ((((evL e).map numS).length : Nat) : Int)) = true from rfl, cond_true, show at? ((evL e).map numS) (3 : Int) = some (numS e.2.2.2.1) from rfl, Option.bind_some, qck h.now, show inb (3 : Int) 7 = true from rfl, qb, Bool.not_true, cond_false]; rfl
    have s4 : qs ((evL e).map numS) (((4 : Int), ()), (((0 : Int), ((0 : Int), ((0 : Int), ((0 : Int), ((0 : Int), ((0 : Int), ((0 : Int), ()))))))), ((e.1, (e.2.1, (e.2.2.1, (e.2.2.2.1, ((0 : Int), ((0 : Int), ((0 : Int), ()))))))), ()))) = some (.inl (((5 : Int), ()), (((0 : Int), ((0 : Int), ((0 : Int), ((0 : Int), ((0 : Int), ((0 : Int), ((0 : Int), ()))))))), ((e.1, (e.2.1, (e.2.2.1, (e.2.2.2.1, (e.2.2.2.2.1.1, ((0 : Int), ((0 : Int), ()))))))), ())))) := by
      unfold qs; simp only [show decide ((4 : Int) < ((((evL e).map numS).length : Nat) : Int)) = true from rfl, cond_true, show at? ((evL e).map numS) (4 : Int) = some (numS e.2.2.2.2.1.1) from rfl, Option.bind_some, qck h.a, show inb (4 : Int) 7 = true from rfl, qb, Bool.not_true, cond_false]; rfl
    have s5 : qs ((evL e).map numS) (((5 : Int), ()), (((0 : Int), ((0 : Int), ((0 : Int), ((0 : Int), ((0 : Int), ((0 : Int), ((0 : Int), ()))))))), ((e.1, (e.2.1, (e.2.2.1, (e.2.2.2.1, (e.2.2.2.2.1.1, ((0 : Int), ((0 : Int), ()))))))), ()))) = some (.inl (((6 : Int), ()), (((0 : Int), ((0 : Int), ((0 : Int), ((0 : Int), ((0 : Int), ((0 : Int), ((0 : Int), ()))))))), ((e.1, (e.2.1, (e.2.2.1, (e.2.2.2.1, (e.2.2.2.2.1.1, (e.2.2.2.2.1.2.1, ((0 : Int), ()))))))), ())))) := by
      unfold qs; simp only [show decide ((5 : Int) < ((((evL e).map numS).length : Nat) : Int)) = true from rfl, cond_true, show at? ((evL e).map numS) (5 : Int) = some (numS e.2.2.2.2.1.2.1) from rfl, Option.bind_some, qck h.b, show inb (5 : Int) 7 = true from rfl, qb, Bool.not_true, cond_false]; rfl
    have s6 : qs ((evL e).map numS) (((6 : Int), ()), (((0 : Int), ((0 : Int), ((0 : Int), ((0 : Int), ((0 : Int), ((0 : Int), ((0 : Int), ()))))))), ((e.1, (e.2.1, (e.2.2.1, (e.2.2.2.1, (e.2.2.2.2.1.1, (e.2.2.2.2.1.2.1, ((0 : Int), ()))))))), ()))) = some (.inl (((7 : Int), ()), (((0 : Int), ((0 : Int), ((0 : Int), ((0 : Int), ((0 : Int), ((0 : Int), ((0 : Int), ()))))))), ((e.1, (e.2.1, (e.2.2.1, (e.2.2.2.1, (e.2.2.2.2.1.1, (e.2.2.2.2.1.2.1, (e.2.2.2.2.1.2.2.1, ()))))))), ())))) := by
      unfold qs; simp only [show decide ((6 : Int) < ((((evL e).map numS).length : Nat) : Int)) = true from rfl, cond_true, show at? ((evL e).map numS) (6 : Int) = some (numS e.2.2.2.2.1.2.2.1) from rfl, Option.bind_some, qck h.c, show inb (6 : Int) 7 = true from rfl, qb, Bool.not_true, cond_false]; rfl
    have s7 : qs ((evL e).map numS) (((7 : Int), ()), (((0 : Int), ((0 : Int), ((0 : Int), ((0 : Int), ((0 : Int), ((0 : Int), ((0 : Int), ()))))))), ((e.1, (e.2.1, (e.2.2.1, (e.2.2.2.1, (e.2.2.2.2.1.1, (e.2.2.2.2.1.2.1, (e.2.2.2.2.1.2.2.1, ()))))))), ()))) = some (.inr (.inl ((), (((0 : Int), ((0 : Int), ((0 : Int), ((0 : Int), ((0 : Int), ((0 : Int), ((0 : Int), ()))))))), ((e.1, (e.2.1, (e.2.2.1, (e.2.2.2.1, (e.2.2.2.2.1.1, (e.2.2.2.2.1.2.1, (e.2.2.2.2.1.2.2.1, ()))))))), ()))))) := rfl; rw [qm s0, qm s1, qm s2, qm s3, qm s4, qm s5, qm s6, qk s7]
  unfold qdA; rw [hs, Option.bind_some, show (((((evL e).map numS).length : Nat) : Int) != 7) = false from rfl, cond_false, hloop]; rfl
noncomputable def startC (cr : CRule) (now : Int) : Clk := (((perAt cr 0).2.1, ((perAt cr 0).2.1, ())), ((0, (0, ())), ((0, (0, ())), (0, (now, (false, (-1, ())))))))
theorem qq7 (cr : CRule) (now : Int) (hl : cr.1.length ≤ 9223372036854775807) : qdt cr now = some (if chkC cr = 0 then if 0 ≤ now ∧ now ≤ 100000000 then (startC cr now, (0, ())) else (dClk, (11, ())) else (dClk, (chkC cr, ()))) := by
  unfold qdt; rw [qke cr hl, Option.bind_some]; by_cases c : chkC cr = 0
  · rw [if_pos c, bne_f c, cond_false]; have hcr := qg2 c; have hw : qe now 0 100000000 = decide (0 ≤ now ∧ now ≤ 100000000) := by
      rw [Bool.eq_iff_iff, qdn, decide_eq_true_eq]
    rw [hw]; by_cases d : 0 ≤ now ∧ now ≤ 100000000
    · rw [if_pos d, decide_eq_true d, Bool.not_true, cond_false, (qiG hcr (k := 0) (by omega) (by have := hcr.len; omega)).1, Option.bind_some]; rfl
    · rw [if_neg d, decide_eq_false d]; rfl
  · rw [if_neg c, bne_t c, cond_true]; rfl
theorem qqy {cr : CRule} (h : chkC cr = 0) : qeK cr = some cr := by
  have hcr := (qg2 h).len; unfold qeK; have : qao cr.1 = some cr.1 := by
    unfold qao; have hr : room (([] : List (Int × Int × Unit)).length + cr.1.length) 16 = true := qI (by simp only [List.length_nil]; omega); rw [hr]
    cases cr.1 with
    | nil => simp [qb, agree_self]
    | cons a l => simp [qb]
  rw [this, Option.bind_some]
theorem qqI {cr : CRule} {now : Int} (c : chkC cr = 0) (h : 0 ≤ now ∧ now ≤ 100000000) : GoodC cr (startC cr now) now := by
  have hcr := qg2 c; have hlen := hcr.len; have hd := hcr.del; obtain ⟨_, _, h2, _⟩ := qiG hcr (k := 0) (by omega) (by omega)
  have hv : VC cr (startC cr now) := ⟨⟨Int.le_refl _, by show (0 : Int) ≤ 1; omega⟩, ⟨Int.le_refl _, by show (-1 : Int) ≤ 1; omega⟩, h, ⟨Int.le_refl _, by show (0 : Int) ≤ _; omega⟩, ⟨Int.le_refl _, by show (0 : Int) ≤ _; omega⟩,
    ⟨Int.le_refl _, by show (0 : Int) ≤ 400; omega⟩, ⟨Int.le_refl _, by show (0 : Int) ≤ 400; omega⟩, ⟨by show 0 ≤ (perAt cr 0).2.1; omega, by show (perAt cr 0).2.1 ≤ _; omega⟩, ⟨by show 0 ≤ (perAt cr 0).2.1; omega, by show (perAt cr 0).2.1 ≤ _; omega⟩⟩
  refine ⟨c, hv, Int.le_refl _, h.2, rfl, rfl, ?_⟩; have hn := left_nn hv; show max 0 (now - now - cr.2.2.1) ≤ _; omega
def startB : ByteArray := ByteArray.mk #[115, 116, 97, 114, 116, 32]
def qkK (now : Int) : ByteArray := startB ++ numS now
theorem qmB {n : Int} (h : I64 n) : (qkK n).size ≤ 27 ∧ qgJ startB (numS n) = true := by
  have h1 := qrH h; have h2 : startB.size = 6 := rfl; refine ⟨by unfold qkK; rw [ByteArray.size_append]; omega, ?_⟩; unfold qgJ; rw [Nat.ble_eq]; omega
theorem start_okt {n : Int} (h : I64 n) : OKT (qkK n) := by
  refine ⟨by have := (qmB h).1; omega, fun c hc => ?_⟩; unfold qkK at hc; rw [qkY] at hc; rcases List.mem_append.1 hc with hc | hc
  · have : c ∈ [115, 116, 97, 114, 116, 32] := hc; simp only [List.mem_cons, List.not_mem_nil, or_false] at this
    rcases this with rfl | rfl | rfl | rfl | rfl | rfl <;> decide
  · have := qvd n c hc; omega
theorem jok_nil : JOK [] := ⟨Nat.zero_le _, fun i hi => absurd hi (Nat.not_lt_zero _)⟩
theorem qhA {n : Int} (h : I64 n) : qap [] (qkK n) = some (nextJ [] (qkK n), (0, ())) ∧ JOK (nextJ [] (qkK n)) := qrj jok_nil (Nat.zero_lt_succ _) (start_okt h)
def off0 : Offs := ((-1, (-1, ())), (((-1, (-1, ())), ((-1, (-1, ())), ())), ()))
noncomputable def rawM (r : Rules) (cr : CRule) (now : Int) : MS := { g := ([qaQ r], []), res := 0, rea := 0, c := startC cr now, o := off0, pm := [], last := now, j := nextJ [] (qkK now) }
noncomputable def newM (r : Rules) (cr : CRule) (now : Int) : MS := overM r (rawM r cr now)
theorem qvD {r : Rules} {cr : CRule} {now : Int} (c : qad r = 0) : qaS (tupM r cr (rawM r cr now)) = some (tupM r cr (newM r cr now), ()) := qt5 (RG.begin c)
theorem over_ok {r : Rules} {m : MS} : (overM r m).c = m.c ∧ (overM r m).o = m.o ∧ ((overM r m).res = 0 → m.res = 0 ∧ qx r m.g.1 = 0) := by
  unfold overM; split
  · rename_i q; exact ⟨rfl, rfl, fun z => absurd z q.2⟩
  · rename_i q
    exact ⟨rfl, rfl, fun z => ⟨z, by
      by_cases w : qx r m.g.1 = 0
      · exact w
      · exact absurd ⟨z, w⟩ q⟩⟩
theorem qvi {r : Rules} {cr : CRule} {now : Int} (hr : Rng qal r) (hl : cr.1.length ≤ 9223372036854775807) (c : qad r = 0) (c1 : chkC cr = 0) (h : 0 ≤ now ∧ now ≤ 100000000) : MOK r cr (newM r cr now) := by
  obtain ⟨g1, g2, g3, g4⟩ := qdW r (rawM r cr now); obtain ⟨g5, g6, g7⟩ := over_ok (r := r) (m := rawM r cr now); unfold newM; refine ⟨hr, hl, by rw [g1]; exact RG.begin c, c1, fun q => ?_, fun q => ?_, fun q => ?_, by rw [g2]; rfl, by rw [g2]; exact Nat.zero_le _, by rw [g3]; exact (qhA ⟨by omega, by omega⟩).2⟩
  · rw [g5, g4]; exact qqI c1 h
  · rw [g5, g1]; rfl
  · rw [g1]; exact (g7 q).2

theorem qwD (r : (List (Int × Int × Unit)) × Int × Int × Unit) (h1 : 1 ≤ r.1.length) (h2 : r.1.length ≤ 5) : qan r = qiC r := by
  funext x; obtain ⟨⟨i, _⟩, _⟩ := x; have hw : w64 (((r.1.length : Nat) : Int) - 1) = (r.1.length : Int) - 1 := qf (by omega) (by omega); unfold qan qiC; simp only [hw]; by_cases hi : i < (r.1.length : Int)
  · simp only [hi, decide_true, cond_true]; congr 1; funext d; have e1 : ((!qe d.1 0 400) || !qe d.2.1 1 100000000) = (((decide (d.1 < 0) || decide (d.1 > 400)) || decide (d.2.1 ≤ 0)) || decide (d.2.1 > 100000000)) := by
      unfold qe
      by_cases a1 : d.1 < 0 <;> by_cases a2 : d.1 > 400 <;> by_cases a3 : d.2.1 ≤ 0 <;> by_cases a4 : d.2.1 > 100000000 <;> simp [a1, a2, a3, a4] <;> omega
    have e2 : (!((d.1 == 0) == (i == (r.1.length : Int) - 1))) = ((decide (i < (r.1.length : Int) - 1) && d.1 == 0) || (i == (r.1.length : Int) - 1 && d.1 != 0)) := by
      by_cases a1 : d.1 = 0 <;> by_cases a2 : i = (r.1.length : Int) - 1
      · simp [a1, a2]
      · have : i < (r.1.length : Int) - 1 := by omega
        simp [a1, a2, this]
      · have b1 : (d.1 == 0) = false := by simpa using a1
        simp [b1, a2, bne]
      · have b1 : (d.1 == 0) = false := by simpa using a1
        have b2 : (i == (r.1.length : Int) - 1) = false := by simpa using a2
        simp [b1, b2, bne]
    rw [e1, e2]
  · simp [hi]
theorem qwR (r : (List (Int × Int × Unit)) × Int × Int × Unit) (h1 : 1 ≤ r.1.length) (h2 : r.1.length ≤ 5) : ∃ q, iterW (qan r) ((0, ()), ()) = some q := by
  obtain ⟨q, h, _⟩ := qmY (f := qan r) (fun x => 0 ≤ x.1.1 ∧ x.1.1 ≤ (r.1.length : Int)) (fun x => ((r.1.length : Int) - x.1.1).toNat) (fun _ => True) (by
    rintro ⟨⟨i, _⟩, _⟩ ⟨h3, h4⟩
    simp only at h3 h4; unfold qan; by_cases hi : i < (r.1.length : Int)
    · simp only [hi, decide_true, cond_true, at?_eq r.1 i h3 hi, Option.bind_some]
      cases ((!qe (r.1[i.toNat]'(by omega)).1 0 400) || !qe (r.1[i.toNat]'(by omega)).2.1 1 100000000) with
      | true => exact .inr ⟨_, rfl, trivial⟩
      | false =>
        cases (!(((r.1[i.toNat]'(by omega)).1 == 0) == (i == w64 ((r.1.length : Int) - 1)))) with
        | true => exact .inr ⟨_, rfl, trivial⟩
        | false =>
          refine .inl ⟨_, rfl, ?_, ?_⟩ <;> simp only [qf (n := i + 1) (by omega) (by omega)] <;> omega
    · exact .inr ⟨_, by simp only [hi, decide_false, cond_false]; rfl, trivial⟩) ((0, ()), ()) ⟨by simp, by simp⟩
  exact ⟨q, h⟩
theorem qwH (r : (List (Int × Int × Unit)) × Int × Int × Unit) : ∃ n, qdp r = some n ∧ qcY r = some n ∧ (n = 0 → 1 ≤ r.1.length ∧ r.1.length ≤ 5 ∧ 0 ≤ r.2.2.1 ∧ r.2.2.1 ≤ 100000000) := by
  unfold qdp qcY; have e0 : (!qe ((r.1.length : Nat) : Int) 1 5) = (decide (((r.1.length : Nat) : Int) < 1) || decide (((r.1.length : Nat) : Int) > 5)) := by
    unfold qe
    by_cases a1 : ((r.1.length : Nat) : Int) < 1 <;> by_cases a2 : ((r.1.length : Nat) : Int) > 5 <;> simp [a1, a2] <;> omega
  have e1 : ((!qe r.2.1 0 100000000) || !qe r.2.2.1 0 100000000) = (((decide (r.2.1 < 0) || decide (r.2.2.1 < 0)) || decide (r.2.1 > 100000000)) || decide (r.2.2.1 > 100000000)) := by
    unfold qe
    by_cases a1 : r.2.1 < 0 <;> by_cases a2 : r.2.2.1 < 0 <;> by_cases a3 : r.2.1 > 100000000 <;> by_cases a4 : r.2.2.1 > 100000000 <;> simp [a1, a2, a3, a4] <;> omega
  rw [e0, e1]
  cases hc : (decide (((r.1.length : Nat) : Int) < 1) || decide (((r.1.length : Nat) : Int) > 5)) with
  | true => exact ⟨2, rfl, rfl, fun h => by cases h⟩
  | false =>
    simp only [Bool.or_eq_false_iff, decide_eq_false_iff_not] at hc
    cases hd : (((decide (r.2.1 < 0) || decide (r.2.2.1 < 0)) || decide (r.2.1 > 100000000)) || decide (r.2.2.1 > 100000000)) with
    | true => exact ⟨4, rfl, rfl, fun h => by cases h⟩
    | false =>
      simp only [Bool.or_eq_false_iff, decide_eq_false_iff_not] at hd; obtain ⟨q, hq⟩ := qwR r (by omega) (by omega); rw [← qwD r (by omega) (by omega), hq]
      refine ⟨Sum.elim (fun _ => 0) id q, ?_, ?_, fun _ => by omega⟩ <;> cases q <;> rfl

theorem qmw (cr : CRule) (hl : cr.1.length ≤ 9223372036854775807) : qcY cr = some (chkC cr) := by
  obtain ⟨n, h1, h2, _⟩ := qwH cr; rw [qke cr hl] at h1; rw [h2, ← h1]
theorem sameLineM (a : List Mv) (ha : a.length ≤ 1000000000) : qfo a a = some true := by
  unfold qfo; rw [bne_self_eq_false, cond_false]
  have h1 := qam a (fun _ => false) (qc8 a a) (.inr false) (.inl ((), ())) (fun i hi => by
    unfold qc8; simp only [show decide ((i : Int) < ((a.length : Nat) : Int)) = true by simp; omega, cond_true]; rw [qf3 a i hi, Option.bind_some, Option.bind_some, qf (n := (i : Int) + 1) (by omega) (by omega)]
    simp) (by
    unfold qc8
    simp)
  rw [h1, List.any_eq_false.2 (fun _ _ => by simp), cond_false]; rfl
theorem qqX (s : StT) (h1 : s.1.length ≤ 1000000) (h2 : s.2.2.2.2.2.1.length ≤ 1000000) : qbb s s = some true := by
  unfold qbb; rw [sameLineM _ (by omega), Option.bind_some, bne_self_eq_false]; simp only [Bool.not_true, Bool.or_false, cond_false]
  have hL := qam s.2.2.2.2.2.1 (fun _ => false) (qci s s) (.inr false) (.inl ((), ())) (fun i hi => by
    unfold qci; simp only [show decide ((i : Int) < ((s.2.2.2.2.2.1.length : Nat) : Int)) = true by simp; omega, cond_true]; rw [qf3 s.2.2.2.2.2.1 i hi, Option.bind_some, Option.bind_some, qf (n := (i : Int) + 1) (by omega) (by omega)]
    simp) (by
    unfold qci
    simp)
  rw [hL, List.any_eq_false.2 (fun _ _ => by simp), cond_false]; simp

theorem look_same {cr : CRule} {c : Clk} {now : Int} (hl : cr.1.length ≤ 9223372036854775807) (h : GoodC cr c now) : lookC cr c now = c := by
  unfold lookC; rw [qty hl h]; rfl
theorem ann_nil {r : Rules} {cr : CRule} {now : Int} {m : MS} (h : m.pm = []) : annM r cr now 1 m = m := by
  unfold annM; have hn : ∀ p : Place, nextP r p [] = ((0, (0, (0, ()))), (false, ([], ()))) := fun p => rfl; rw [h, hn]; split
  · rw [if_neg (by decide)]; cases m; simp only at h; rw [h]
  · rfl
structure Moved (r : Rules) (cr : CRule) (m : MS) (x : Mv) (now : Int) (y : MS × Int) : Prop where
  ok : y.2 = 0
  g : y.1.g = nextG r m.g x
  c : y.1.c = qfd cr m.c now
  pm : y.1.pm = []
  last : y.1.last = now
  j : y.1.j.length = m.j.length + 1
  res : y.1.res = qx r (nextG r m.g x).1
theorem do_moved {r : Rules} {cr : CRule} {m : MS} (h : MOK r cr m) {e : Ev} (h0 : m.res = 0) (h1 : e.1 = 0) (h2 : e.2.1 = par m.g.2.length) (h3 : m.last ≤ e.2.2.2.1) (hj : m.j.length < 1000) (hg : GoodC cr m.c e.2.2.2.1)
    (hx : qA r (lastP m.g.1) e.2.2.2.2.1 = true) (hl : m.g.2.length < 400) (hpm : m.pm = []) : Moved r cr m e.2.2.2.2.1 e.2.2.2.1 (doM r cr m e) := by
  have hp := par_rng m.g.2.length; have hn := hg.now1; have ho := h.opn h0
  have hmem : e.2.2.2.2.1 ∈ openM r (lastP m.g.1) := openM_mem.2 ⟨by
    unfold qx at ho; by_cases w : ((qae r (lastP m.g.1) == 0) && (r.repeats != 0)) && decide (((qaC m.g.1 : Nat) : Int) ≥ r.repeats)
    · rw [w, cond_true] at ho; cases ho
    · rw [show (((qae r (lastP m.g.1) == 0) && (r.repeats != 0)) && decide (((qaC m.g.1 : Nat) : Int) ≥ r.repeats)) = false by simpa using w, cond_false] at ho
      exact ho, hx⟩
  have hk : kindM r cr m e = (moveM r cr m e.2.2.2.2.1 e.2.2.2.1, 0) := by
    unfold kindM qdo; rw [if_pos h1, if_neg (fun q => q h2.symm), if_neg (fun q => q hmem), if_neg (by omega), hpm]; rw [show ([] : List PM).length + 1 = 1 from rfl, ann_nil (by exact hpm)]
  have hd : doM r cr m e = (doneM r (moveM r cr m e.2.2.2.2.1 e.2.2.2.1) e, 0) := by
    unfold doM; rw [if_neg (by omega), if_neg (by omega), if_neg (fun q => q h0), if_neg (by omega), look_same h.len hg, if_neg (by have := hg.up; omega), hk, if_neg (fun q => q rfl)]
  rw [hd]; unfold doneM; obtain ⟨g1, g2, g3, g4⟩ := qdW r { moveM r cr m e.2.2.2.2.1 e.2.2.2.1 with last := e.2.2.2.1, j := nextJ (moveM r cr m e.2.2.2.2.1 e.2.2.2.1).j (qej e) }; refine ⟨rfl, g1, over_ok.1, by rw [g2]; exact hpm, g4, by rw [g3]; unfold nextJ; simp; rfl, ?_⟩; unfold overM; split
  · rfl
  · rename_i q; by_cases w : qx r (nextG r m.g e.2.2.2.2.1).1 = 0
    · rw [w]; exact h0
    · exact absurd ⟨h0, w⟩ q
end Go.Proofs.YtijkabgijfdpfaaGreatDoor
