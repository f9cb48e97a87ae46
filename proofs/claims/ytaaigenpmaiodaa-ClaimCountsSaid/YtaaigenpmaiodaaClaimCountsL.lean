/- The law ClaimCounts in plain Lean: it is true. Conditions: numbers in range. -/
import Derived.Test.YtaaigenpmaiodaaClaimCountsS
import Derived.Test.YtaaigenpmaiodaaGameT
namespace Go.Proofs.Ytaaigenpmaiodaa
open Go.Den
set_option linter.unusedVariables false
set_option linter.unusedSimpArgs false
set_option maxRecDepth 100000

theorem law_L1 (l : List Mv) (ps : List Place) (e : Int) (c i : Int) : law3ClaimCounts_L1 l (ps, (e, ())) ((c, i, ()), ()) = bif (decide (i < ((l.length : Nat) : Int))) then (Option.bind (at? l i) fun m =>
    req (imp (!(decide (m.1 < 0))) (inb i ps.length)) (Option.bind (gat (!(decide (m.1 < 0))) 0 (getD' ps i.toNat dP).1 m.2.1) fun v =>
    Option.bind (bif ((decide (m.1 < 0)) || (v != 0)) then some ((0, ()), ()) else some ((w64 (c + 1), ()), ())) fun y : (Int × Unit) × Unit => some (Sum.inl ((y.1.1, w64 (i + 1), ()), ()))))
  else some (Sum.inr ((c, ()), ())) := rfl
theorem law3ClaimCounts_true (r : Rules) (l : List Mv) (hr : Rng tyRules r) (hl : Rng (.sl (.st (.int .i64) (.st (.int .i64) (.st (.int .i64) .nil)))) l) : law3ClaimCounts r l = some true := by
  have hlen : l.length ≤ 9223372036854775807 := hl.1
  unfold law3ClaimCounts
  rw [claims_true, Option.bind_some, Bool.not_true, cond_false]
  have hcut : law3Cut l = some (l.take 40) := by
    unfold law3Cut
    by_cases c : 40 < l.length
    · rw [if_pos (by omega)]
      have : boundsI 0 40 l.length = true := by simp [boundsI]; omega
      rw [this, req_true]
      rfl
    · rw [if_neg (by omega)]
      have : boundsI 0 ((l.length : Nat) : Int) l.length = true := by simp [boundsI]
      rw [this, req_true, Int.toNat_natCast, List.drop_zero, List.take_length, List.take_of_length_le (by omega)]
  rw [hcut, Option.bind_some]
  cases law3Great r with
  | true => rfl
  | false =>
    rw [cond_false]
    generalize hk : l.take 40 = k
    have hk40 : k.length ≤ 40 := by rw [← hk]; simp; omega
    rw [repeats_spec r k hr (by omega), quiet_spec r k hr (by omega), places_spec r k hr (by omega)]
    simp only [Option.bind_some]
    unfold repRes quietRes runRes placesRes
    by_cases c : ruleErr r = 0
    · simp only [if_pos c]
      cases hg : gameOf r k with
      | inr e =>
        have he : ¬ e = 0 := by
          have : ∀ (k : List Mv) (s : List Place × List Mv) (e : Int), runG r k s = .inr e → ¬ e = 0 := by
            intro k
            induction k with
            | nil => intro s e h; cases h
            | cons m k ih =>
              intro s e h
              unfold runG at h
              split at h
              · exact ih _ _ h
              · rename_i c; cases h; exact c
          exact this _ _ _ hg
        simp only
        rw [bne_t he, cond_true]
        simp [dP, w64]
        decide
      | inl s =>
        have hg' : runG r k ([beginOf r], []) = .inl s := hg
        have hok := (run_ok k _ _ (begin_okG c) hg').1
        obtain ⟨hn, hpre⟩ := run_pre k _ _ hg'
        have hst := run_step k ([beginOf r], []) s (by simp) hg'
        have hlen1 : s.1.length = 1 + k.length := by rw [hn]; simp
        simp only [bne_self_eq_false, cond_false]
        have hq : ∀ i, i ≤ k.length → 0 ≤ (getD' s.1 i dP).quiet ∧ (getD' s.1 i dP).quiet ≤ i := by
          intro i
          induction i with
          | zero =>
            intro _
            rw [hpre 0 (by simp)]
            show (0 : Int) ≤ 0 ∧ (0 : Int) ≤ _
            omega
          | succ i ih =>
            intro hi
            have ih := ih (by omega)
            obtain ⟨h1, h2⟩ := hst i (by omega)
            simp only [List.length_singleton] at h1
            rw [show 1 + i = i + 1 by omega] at h1
            simp only [Nat.add_sub_cancel] at h1
            rw [h1]
            show 0 ≤ quietA _ _ ∧ quietA _ _ ≤ _
            unfold quietA
            cases (decide (cellI (getD' s.1 i dP) k[i].2.1 > 0) || decide (k[i].1 < 0)) with
            | true => simp only [cond_true]; omega
            | false => simp only [cond_false]; split <;> omega
        have hL := iterW_states (f := law3ClaimCounts_L1 k (s.1, (0, ()))) k.length (fun i => (((getD' s.1 i dP).quiet, (i : Int), ()), ())) (((getD' s.1 k.length dP).quiet, ()), ()) (fun i hi => by
          obtain ⟨h1, h2⟩ := hst i hi
          simp only [List.length_singleton] at h1 h2
          rw [show 1 + i = i + 1 by omega] at h1 h2
          simp only [Nat.add_sub_cancel] at h1 h2
          have hqi := hq i (by omega)
          have hrg := allowed_rng h2
          have hv : Valid r (getD' s.1 i dP) := by rw [gd_eq s.1 i (by omega)]; exact hok.all _ (List.getElem_mem _)
          rw [law_L1, ltd k i hi, cond_true, at?_eq k _ (by omega) (by omega), Option.bind_some, inbN s.1 i (by omega)]
          simp only [Int.toNat_natCast]
          have himp : ∀ b, imp b true = true := fun b => by cases b <;> rfl
          rw [himp, req_true, h1]
          have hto : k[i].2.1.toNat < (getD' s.1 i dP).cells.length := by show _ < (getD' s.1 i dP).1.length; omega
          have hcell : at? (getD' s.1 i dP).1 k[i].2.1 = some (cellI (getD' s.1 i dP) k[i].2.1) := by
            rw [at?_eq _ _ hrg.2.1.1 hrg.2.1.2]
            unfold cellI
            rw [List.getD_eq_getElem?_getD, List.getElem?_eq_getElem hto]
            rfl
          have hc0 : 0 ≤ cellI (getD' s.1 i dP) k[i].2.1 := by
            have hmem : cellI (getD' s.1 i dP) k[i].2.1 ∈ (getD' s.1 i dP).1 := by
              unfold cellI
              rw [List.getD_eq_getElem?_getD, List.getElem?_eq_getElem hto]
              exact List.getElem_mem _
            exact (hv.cell _ hmem).1
          have hb : (cellI (getD' s.1 i dP) k[i].2.1 != 0) = decide (cellI (getD' s.1 i dP) k[i].2.1 > 0) := by
            rw [Bool.eq_iff_iff]; simp; omega
          show _ = some (Sum.inl ((quietA (getD' s.1 i dP) k[i], _, ()), ()))
          unfold quietA
          rw [w64_id (n := (getD' s.1 i dP).quiet + 1) (by omega) (by omega), w64_id (n := (i : Int) + 1) (by omega) (by omega), if_neg (show ¬ 200 < (getD' s.1 i dP).quiet + 1 by omega)]
          cases hm : decide (k[i].1 < 0) with
          | true =>
            simp only [Bool.not_true, gat, cond_false, Option.bind_some, Bool.true_or, cond_true, Bool.or_true]
            rfl
          | false =>
            simp only [Bool.not_false, gat, cond_true, Bool.false_or, Bool.or_false]
            rw [hcell, Option.bind_some, hb]
            cases decide (cellI (getD' s.1 i dP) k[i].2.1 > 0) <;> rfl) (by
          rw [law_L1, nltd, cond_false])
        have hq0 : (getD' s.1 0 dP).quiet = 0 := by rw [hpre 0 (by simp)]; rfl
        have hL' : iterW (law3ClaimCounts_L1 k (s.1, (0, ()))) (((0 : Int), (0 : Int), ()), ()) = some (((getD' s.1 k.length dP).quiet, ()), ()) := by
          have h0 : iterW (law3ClaimCounts_L1 k (s.1, (0, ()))) (((getD' s.1 0 dP).quiet, (0 : Int), ()), ()) = some (((getD' s.1 k.length dP).quiet, ()), ()) := hL
          rw [hq0] at h0
          exact h0
        rw [hL', Option.bind_some, times3_spec hok.all (by omega) (by omega)]
        have hla : lastP s.1 = getD' s.1 k.length dP := by unfold lastP; rw [hlen1]; simp
        simp only [beq_self_eq_true, gopt, cond_true, Option.bind_some, hla, Bool.and_self]
    · simp only [if_neg c]
      rw [bne_t c, cond_true]
      simp [dP, w64]
      decide
end Go.Proofs.Ytaaigenpmaiodaa
