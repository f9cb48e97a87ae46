/- Results: the conditions, and what comes of them. No condition of its own. -/
import Derived.Test.YtocnfflklfeocaaCoreR
namespace Go.Proofs.Ytocnfflklfeocaa
open Go.Den
set_option linter.unusedVariables false
set_option linter.unusedSimpArgs false
set_option maxRecDepth 100000

def reachB (r : Rules) (p : Place) (x : End) (mover : Int) : Bool := (List.range p.1.length).any fun s => (cellI p (s : Int) == 2 * x.2.1 + mover + 1) && lastB r mover (s : Int)
def fewOf (p : Place) (x : End) (mover : Int) : Int := ((p.1.countP (fun c => c == 2 * x.2.1 + 1 - mover + 1) : Nat) : Int)
def metB (r : Rules) (p : Place) (x : End) (mover : Int) : Bool := bif x.1 == 0 then lineB r p mover x.2.2.1 else bif x.1 == 1 then reachB r p x mover else decide (fewOf p x mover < x.2.2.1)
structure EndOk (r : Rules) (x : End) : Prop where
  kind : 0 ≤ x.1 ∧ x.1 ≤ 2
  cnt : x.1 = 0 → 1 ≤ x.2.2.1 ∧ x.2.2.1 ≤ 64
  pc : 0 ≤ x.2.1 ∧ x.2.1 ≤ 6
theorem Valid.endOk {r : Rules} {p : Place} (h : Valid r p) {x : End} (hx : x ∈ r.ends) : EndOk r x := by
  obtain ⟨h1, h2, h3⟩ := h.r0.ends x hx
  have ht := h.r0.t6
  refine ⟨h1, fun e => ?_, ?_⟩
  · rw [if_neg (by omega)] at h2; exact h2
  · split at h3 <;> omega
theorem cell_get (p : Place) (i : Nat) (hi : i < p.1.length) : cellI p (i : Int) = p.1[i] := by
  unfold cellI
  rw [List.getD_eq_getElem?_getD, Int.toNat_natCast]
  simp [hi]
theorem holds_spec {r : Rules} {p : Place} (h : Valid r p) {x : End} (hx : EndOk r x) {mover : Int} (hm : mover = 0 ∨ mover = 1) : endsHolds r p x mover = some (metB r p x mover) := by
  have hr := h.r0
  have ha := hr.area
  have h64 := area_len h
  have hlen : ((p.1.length : Nat) : Int) = r.width * r.height := h.cells
  have hp := hx.pc
  unfold endsHolds metB
  by_cases k0 : x.1 = 0
  · rw [beq_t k0, cond_true, cond_true, line_spec h mover (hx.cnt k0).1 (hx.cnt k0).2]
    rfl
  · rw [beq_f k0, cond_false, cond_false]
    by_cases k1 : x.1 = 1
    · rw [beq_t k1, cond_true, cond_true]
      have hL := iterW_any (List.range p.1.length) (fun s => (cellI p (s : Int) == 2 * x.2.1 + mover + 1) && lastB r mover (s : Int)) (endsHolds_L1 p x mover r) (.inr (.inr true)) (.inl ((), ())) (fun s hs => by
        have hs' : s < p.1.length := by simpa using hs
        unfold endsHolds_L1
        simp only [show decide ((s : Int) < ((p.1.length : Nat) : Int)) = true by simp; omega, cond_true, List.getElem_range]
        rw [at_cell (p := p) (s := (s : Int)) (by omega) (by show (s : Int) < ((p.1.length : Nat) : Int); omega), Option.bind_some, isLast_spec hr mover (by omega) (by omega)]
        rw [w64_id (n := 2 * x.2.1) (by omega) (by omega), w64_id (n := 2 * x.2.1 + mover) (by omega) (by omega), w64_id (n := 2 * x.2.1 + mover + 1) (by omega) (by omega), w64_id (n := (s : Int) + 1) (by omega) (by omega)]
        cases (cellI p (s : Int) == 2 * x.2.1 + mover + 1) <;> cases lastB r mover (s : Int) <;> rfl) (by
        unfold endsHolds_L1
        simp)
      rw [hL]
      unfold reachB
      cases (List.range p.1.length).any (fun s => (cellI p (s : Int) == 2 * x.2.1 + mover + 1) && lastB r mover (s : Int)) <;> rfl
    · rw [beq_f k1, cond_false, cond_false, Option.bind_some, Sum.elim_inl]
      have hL := iter_count p.1 (fun c => c == 2 * x.2.1 + 1 - mover + 1) (endsHolds_L2 p x mover) (fun c => ((c, ()), ())) (fun i hi c c0 ci => by
        unfold endsHolds_L2
        simp only [show decide ((i : Int) < ((p.1.length : Nat) : Int)) = true by simp; omega, cond_true]
        rw [at_cell (p := p) (s := (i : Int)) (by omega) (by show (i : Int) < ((p.1.length : Nat) : Int); omega), Option.bind_some, cell_get p i hi]
        rw [w64_id (n := 2 * x.2.1) (by omega) (by omega), w64_id (n := 2 * x.2.1 + 1) (by omega) (by omega), w64_id (n := 2 * x.2.1 + 1 - mover) (by omega) (by omega), w64_id (n := 2 * x.2.1 + 1 - mover + 1) (by omega) (by omega), w64_id (n := (i : Int) + 1) (by omega) (by omega), w64_id (n := c + 1) (by omega) (by omega)]
        cases (p.1[i] == 2 * x.2.1 + 1 - mover + 1) <;> rfl) (fun c => by
        unfold endsHolds_L2
        simp)
      rw [hL]
      rfl
/-- the answer of a condition that is met -/
def endE (r : Rules) (p : Place) (i : Nat) : Option (((Unit) × (Unit)) ⊕ Int) := match r.2.2.2.2.2.2.2.1[i]? with
  | some x => bif metB r p x (1 - p.turn) then some (.inr (bif x.2.2.2.1 then 1 + p.turn else 1 + (1 - p.turn))) else none
  | none => none
def blockedV (r : Rules) (p : Place) : Int := bif r.blocked == 0 then 1 + (1 - p.turn) else bif r.blocked == 1 then 1 + p.turn else 3
def resultOf (r : Rules) (p : Place) : Int := match scan (endE r p) (.inl ((), ())) 0 r.2.2.2.2.2.2.2.1.length with
  | .inl _ => bif (r.quiet != 0) && decide (p.quiet ≥ r.quiet) then 3 else bif decide ((((movesOf r p).length : Nat) : Int) > 0) then 0 else blockedV r p
  | .inr v => v
theorem turn_w {r : Rules} {p : Place} (h : Valid r p) : w64 ((1 : Int) - p.2.2.1) = 1 - p.turn ∧ w64 ((1 : Int) + p.2.2.1) = 1 + p.turn ∧ w64 (1 + (1 - p.turn)) = 1 + (1 - p.turn) ∧ w64 (1 + p.turn) = 1 + p.turn := by
  have ht := h.turn
  refine ⟨w64_id (by show _ ≤ 1 - p.turn; omega) (by show 1 - p.turn ≤ _; omega), w64_id (by show _ ≤ 1 + p.turn; omega) (by show 1 + p.turn ≤ _; omega), w64_id (by omega) (by omega), w64_id (by omega) (by omega)⟩
theorem result_spec {r : Rules} {p : Place} (h : Valid r p) : endsResult r p = some (resultOf r p) := by
  have ht := h.turn
  obtain ⟨t1, t2, t3, t4⟩ := turn_w h
  have h6 : r.2.2.2.2.2.2.2.1.length ≤ 6 := h.r0.ends6
  unfold endsResult resultOf
  have hL := iterW_scan r.2.2.2.2.2.2.2.1.length (endsResult_L1 r p) (endE r p) (.inl ((), ())) (fun i hi => by
    unfold endsResult_L1 endE
    rw [List.getElem?_eq_getElem hi]
    simp only [show decide ((i : Int) < ((r.2.2.2.2.2.2.2.1.length : Nat) : Int)) = true by simp; omega, cond_true]
    rw [at?_eq r.2.2.2.2.2.2.2.1 (i : Int) (by omega) (by omega), Option.bind_some, t1]
    simp only [Int.toNat_natCast]
    rw [holds_spec h (h.endOk (List.getElem_mem hi)) (by omega), Option.bind_some]
    cases metB r p r.2.2.2.2.2.2.2.1[i] (1 - p.turn)
    · simp only [cond_false]
      rw [w64_id (n := (i : Int) + 1) (by omega) (by omega)]
      rfl
    · simp only [cond_true, show decide ((i : Int) ≥ 0) = true by simp, Option.bind_some]
      unfold endsWins
      rw [t3, show p.2.2.1 = p.turn from rfl, t4]
      cases (r.2.2.2.2.2.2.2.1[i]).2.2.2.1 <;> rfl) (by
    unfold endsResult_L1
    simp)
  rw [hL, Option.bind_some]
  cases scan (endE r p) (.inl ((), ())) 0 r.2.2.2.2.2.2.2.1.length with
  | inr v => rfl
  | inl u =>
    simp only [Sum.elim_inl]
    rw [show ((r.2.2.2.2.2.2.2.2.2.1 != (0 : Int)) && (decide (p.2.2.2.1 ≥ r.2.2.2.2.2.2.2.2.2.1))) = ((r.quiet != 0) && decide (p.quiet ≥ r.quiet)) from rfl]
    cases ((r.quiet != 0) && decide (p.quiet ≥ r.quiet))
    · rw [cond_false, cond_false, list_spec h, Option.bind_some]
      cases decide ((((movesOf r p).length : Nat) : Int) > 0)
      · rw [cond_false, cond_false, t1]
        unfold blockedV endsWins
        rw [t3, show p.2.2.1 = p.turn from rfl, t4, show r.2.2.2.2.2.2.2.2.1 = r.blocked from rfl]
        cases (r.blocked == 0) <;> cases (r.blocked == 1) <;> rfl
      · rfl
    · rfl
theorem iter_fold2 {A C R : Type} (n : Nat) (f : ((A × C × Int × Unit) × Unit) → Option (((A × C × Int × Unit) × Unit) ⊕ R)) (a : Nat → A) (c : Nat → C) (res : R)
    (hs : ∀ i, i < n → f ((a i, c i, (i : Int), ()), ()) = some (.inl ((a (i + 1), c (i + 1), ((i : Int) + 1), ()), ()))) (he : f ((a n, c n, (n : Int), ()), ()) = some (.inr res)) :
    iterW f ((a 0, c 0, (0 : Int), ()), ()) = some res :=
  iterW_states (f := f) n (fun i => ((a i, c i, (i : Int), ()), ())) res (fun i hi => by rw [hs i hi]; rfl) he
theorem far2 {r : Rules} (hr : VR0 r) {mover : Int} (hm : mover = 0 ∨ mover = 1) {t : Int} (h0 : 0 ≤ t) (h1 : t < r.width * r.height) : ref1Far r mover (w64 (t.tdiv r.2.1)) = lastB r mover t := by
  have := hr.w8; have := hr.h8; have := hr.w1; have := hr.h1
  have hd := div_rng hr h0 h1
  have w1 : w64 (t.tdiv r.2.1) = t.tdiv r.width := w64_id (by show _ ≤ t.tdiv r.width; omega) (by show t.tdiv r.width ≤ _; omega)
  have w2 : w64 (r.2.2.1 - 1) = r.height - 1 := w64_id (by show _ ≤ r.height - 1; omega) (by show r.height - 1 ≤ _; omega)
  unfold ref1Far lastB
  rw [w1, w2]
  rcases hm with e | e <;> rw [e] <;> simp
theorem refLoop {r : Rules} {p : Place} (h : Valid r p) {x : End} (hx : EndOk r x) (b0 : Bool) : iterW (ref1Result_L2 p x r) ((b0, (0 : Int), (0 : Int), ()), ()) = some ((b0 || ((x.1 == 1) && reachB r p x (1 - p.turn)), fewOf p x (1 - p.turn), ()), ()) := by
  have hr := h.r0
  have := hr.w1
  have ha := hr.area
  have h64 := area_len h
  have hlen : ((p.1.length : Nat) : Int) = r.width * r.height := h.cells
  have hp := hx.pc
  have ht := h.turn
  obtain ⟨t1, t2, t3, t4⟩ := turn_w h
  have hq : (r.2.1 != 0) = true := bne_t (by show ¬ r.width = 0; omega)
  have himp : ∀ b, imp b true = true := fun b => by cases b <;> rfl
  have key := iter_fold2 p.1.length (ref1Result_L2 p x r) (fun i => b0 || ((x.1 == 1) && (List.range i).any fun s => (cellI p (s : Int) == 2 * x.2.1 + (1 - p.turn) + 1) && lastB r (1 - p.turn) (s : Int))) (fun i => (((p.1.take i).countP (fun c => c == 2 * x.2.1 + 1 - (1 - p.turn) + 1) : Nat) : Int)) ((b0 || ((x.1 == 1) && reachB r p x (1 - p.turn)), fewOf p x (1 - p.turn), ()), ()) (fun i hi => by
    unfold ref1Result_L2
    simp only [show decide ((i : Int) < ((p.1.length : Nat) : Int)) = true by simp; omega, cond_true]
    rw [at_cell (p := p) (s := (i : Int)) (by omega) (by show (i : Int) < ((p.1.length : Nat) : Int); omega), Option.bind_some, hq, himp, req_true, t1, far2 hr (by omega) (by omega) (by omega)]
    rw [show p.2.2.1 = p.turn from rfl, w64_id (n := 2 * x.2.1) (by omega) (by omega), w64_id (n := 2 * x.2.1 + (1 - p.turn)) (by omega) (by omega), w64_id (n := 2 * x.2.1 + (1 - p.turn) + 1) (by omega) (by omega), w64_id (n := 2 * x.2.1 + p.turn) (by omega) (by omega), w64_id (n := 2 * x.2.1 + p.turn + 1) (by omega) (by omega), w64_id (n := (i : Int) + 1) (by omega) (by omega)]
    have hcl : (p.1.take i).countP (fun c => c == 2 * x.2.1 + 1 - (1 - p.turn) + 1) ≤ i := Nat.le_trans List.countP_le_length (by simp; omega)
    rw [w64_id (n := (((p.1.take i).countP (fun c => c == 2 * x.2.1 + 1 - (1 - p.turn) + 1) : Nat) : Int) + 1) (by omega) (by omega)]
    rw [List.range_succ, List.any_append, List.take_succ_eq_append_getElem hi, List.countP_append, ← cell_get p i hi]
    simp only [List.any_cons, List.any_nil, Bool.or_false, List.countP_cons, List.countP_nil]
    rw [show 2 * x.2.1 + 1 - (1 - p.turn) + 1 = 2 * x.2.1 + p.turn + 1 by omega]
    have e1 : (bif ((x.1 == 1 && cellI p (i : Int) == 2 * x.2.1 + (1 - p.turn) + 1) && lastB r (1 - p.turn) (i : Int)) then some ((true, ()), ()) else some (((b0 || ((x.1 == 1) && (List.range i).any fun s => (cellI p (s : Int) == 2 * x.2.1 + (1 - p.turn) + 1) && lastB r (1 - p.turn) (s : Int))), ()), ())) = some (((b0 || ((x.1 == 1) && ((List.range i).any (fun s => (cellI p (s : Int) == 2 * x.2.1 + (1 - p.turn) + 1) && lastB r (1 - p.turn) (s : Int)) || ((cellI p (i : Int) == 2 * x.2.1 + (1 - p.turn) + 1) && lastB r (1 - p.turn) (i : Int))))), ()), ()) := by
      generalize (List.range i).any (fun s => (cellI p (s : Int) == 2 * x.2.1 + (1 - p.turn) + 1) && lastB r (1 - p.turn) (s : Int)) = q
      cases b0 <;> cases (x.1 == 1) <;> cases (cellI p (i : Int) == 2 * x.2.1 + (1 - p.turn) + 1) <;> cases lastB r (1 - p.turn) (i : Int) <;> cases q <;> rfl
    rw [e1, Option.bind_some]
    cases (cellI p (i : Int) == 2 * x.2.1 + p.turn + 1) <;> simp) (by
    unfold ref1Result_L2
    simp only [show decide (((p.1.length : Nat) : Int) < ((p.1.length : Nat) : Int)) = false by simp, cond_false, List.take_length]
    rfl)
  simpa using key
theorem refResult_spec {r : Rules} {p : Place} (h : Valid r p) : ref1Result r p = some (resultOf r p) := by
  have ht := h.turn
  obtain ⟨t1, t2, t3, t4⟩ := turn_w h
  have h6 : r.2.2.2.2.2.2.2.1.length ≤ 6 := h.r0.ends6
  have hbl := h.r0.blocked
  unfold ref1Result resultOf
  have hL := iterW_scan r.2.2.2.2.2.2.2.1.length (ref1Result_L1 r p) (endE r p) (.inl ((), ())) (fun i hi => by
    have hx := h.endOk (List.getElem_mem hi)
    unfold ref1Result_L1 endE
    rw [List.getElem?_eq_getElem hi]
    simp only [show decide ((i : Int) < ((r.2.2.2.2.2.2.2.1.length : Nat) : Int)) = true by simp; omega, cond_true]
    rw [at?_eq r.2.2.2.2.2.2.2.1 (i : Int) (by omega) (by omega), Option.bind_some, t1]
    simp only [Int.toNat_natCast]
    obtain ⟨x, hxe⟩ : ∃ x, r.2.2.2.2.2.2.2.1[i] = x := ⟨_, rfl⟩
    rw [show r.ends[i] = r.2.2.2.2.2.2.2.1[i] from rfl, hxe] at hx
    simp only [hxe]
    have hl : gopt (x.1 == 0) false (ref1Lined r p (1 - p.turn) x.2.2.1) = some ((x.1 == 0) && lineB r p (1 - p.turn) x.2.2.1) := by
      by_cases k0 : x.1 = 0
      · rw [beq_t k0, lined_spec h (1 - p.turn) (hx.cnt k0).1 (hx.cnt k0).2, lined_line h (hx.cnt k0).1]; rfl
      · rw [beq_f k0]; rfl
    rw [hl, Option.bind_some, refLoop h hx, Option.bind_some, t2, t3, w64_id (n := (i : Int) + 1) (by omega) (by omega)]
    have hk : x.1 = 0 ∨ x.1 = 1 ∨ x.1 = 2 := by have := hx.kind; omega
    unfold metB
    rcases hk with k | k | k <;> rw [k] <;> simp only [show ((0 : Int) == 0) = true from rfl, show ((0 : Int) == 1) = false from rfl, show ((0 : Int) == 2) = false from rfl, show ((1 : Int) == 0) = false from rfl, show ((1 : Int) == 1) = true from rfl, show ((1 : Int) == 2) = false from rfl, show ((2 : Int) == 0) = false from rfl, show ((2 : Int) == 1) = false from rfl, show ((2 : Int) == 2) = true from rfl, Bool.true_and, Bool.false_and, Bool.or_false, Bool.false_or, cond_true, cond_false]
    · cases lineB r p (1 - p.turn) x.2.2.1 <;> cases x.2.2.2.1 <;> rfl
    · cases reachB r p x (1 - p.turn) <;> cases x.2.2.2.1 <;> rfl
    · cases decide (fewOf p x (1 - p.turn) < x.2.2.1) <;> cases x.2.2.2.1 <;> rfl) (by
    unfold ref1Result_L1
    simp)
  rw [hL, Option.bind_some]
  cases scan (endE r p) (.inl ((), ())) 0 r.2.2.2.2.2.2.2.1.length with
  | inr v => rfl
  | inl u =>
    simp only [Sum.elim_inl]
    rw [show ((r.2.2.2.2.2.2.2.2.2.1 != (0 : Int)) && (decide (p.2.2.2.1 ≥ r.2.2.2.2.2.2.2.2.2.1))) = ((r.quiet != 0) && decide (p.quiet ≥ r.quiet)) from rfl]
    cases ((r.quiet != 0) && decide (p.quiet ≥ r.quiet))
    · rw [cond_false, cond_false, refMoves_spec h, Option.bind_some]
      cases decide ((((movesOf r p).length : Nat) : Int) > 0)
      · rw [cond_false, cond_false, t1, t2, t3]
        have hb : r.blocked = 0 ∨ r.blocked = 1 ∨ r.blocked = 2 := by omega
        unfold blockedV
        rw [show r.2.2.2.2.2.2.2.2.1 = r.blocked from rfl]
        rcases hb with e | e | e <;> rw [e] <;> rfl
      · rfl
    · rfl
end Go.Proofs.Ytocnfflklfeocaa
