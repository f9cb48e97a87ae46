/- The operations that leave the world alone, continued: addresses, loads, slices, calls. No condition of its own. -/
import Derived.Test.YtocnfflklfeocaaDen4
import Derived.Laws.Cover3
import Derived.Laws.Pointers
import Derived.WideLaws
namespace Go.Den
open Go.Eng
set_option linter.unusedVariables false
set_option linter.unusedSectionVars false
set_option linter.unusedSimpArgs false
variable [CT : Ctx]

section
variable {P : Program} {env : Env} {F : Fr} {σ : AState} {γ : Gh} {a : Act} {w : World} {tg : Tag} {o : Oper} {α : Type} {k : PV → Option α} {res : α}

theorem Rep.slen {S : Nat → Prop} (e : Ty) : ∀ (x : D e) (c : List Value), Rep w S e x [] c → c.length = e.size := fun x c h => Rep.length e h
theorem indexAt_slice {t e : TypeId} {inf : TypeInfo} (hu : P.underlying t = some (.slice e)) (hi : P.info? e = some inf) {ρ : Operand → Value} {x i : Operand} {ad : Addr} {len cap : Nat} {ki : IntKind} {n : Int}
    (ho : o.op = .indexAddr t x i) (e1 : ρ x = .slice (some ad) len cap) (e2 : ρ i = .int ki n) (hb : 0 ≤ n ∧ n < (len : Int)) (w' : World) :
    (execOp ρ o).run P w' = .ok (.value (.pointer (some (ad.add (n.toNat * inf.size))))) w' := by
  obtain ⟨dst, op, type, pos, after, guard⟩ := o
  simp only at ho
  subst ho
  simp [execOp, Instr.indexAt, e1, e2, asIntOf, underlying, sizeOf, typeInfo, hu, hi, hb, go_sem]
theorem indexAt_array {t e : TypeId} {inf : TypeInfo} {len : Nat} (hu : P.underlying t = some (.array len e)) (hi : P.info? e = some inf) {ρ : Operand → Value} {x i : Operand} {ad : Addr} {ki : IntKind} {n : Int}
    (ho : o.op = .indexAddr t x i) (e1 : ρ x = .pointer (some ad)) (e2 : ρ i = .int ki n) (hb : 0 ≤ n ∧ n < (len : Int)) (w' : World) :
    (execOp ρ o).run P w' = .ok (.value (.pointer (some (ad.add (n.toNat * inf.size))))) w' := by
  obtain ⟨dst, op, type, pos, after, guard⟩ := o
  simp only at ho
  subst ho
  simp [execOp, Instr.indexAt, Instr.sureAddr, e1, e2, asIntOf, underlying, sizeOf, typeInfo, hu, hi, hb, go_sem]
theorem toList_some {A : Type} {o : Option A} {b : A} (h : o.toList = [b]) : o = some b := by cases o <;> simp_all
/-- an owned row of at least one element -/
theorem arr_spec (r : ORel F σ.objs γ w) {p : Nat} {i : TypeId} {e : Ty} {xs : List (D e)} {fz : Bool} (h : σ.objs[p]? = some (.arr i e xs fz)) (hn : xs ≠ []) : ∃ b cap us, (γ p).2 = some b ∧ (γ p).1 = .slice (some ⟨b, 0, none⟩) xs.length cap ∧ xs.length ≤ cap ∧ CellsAt w ⟨b, 0, none⟩ us ∧ RepL (fun x c => Rep w (Imm σ.objs γ w) e x [] c) xs us := by
  obtain ⟨us, h1, h2⟩ := r.rep p _ h
  obtain ⟨b, cap, h3, h4, h5, h6⟩ := h1.cells (fun hl => hn (List.eq_nil_of_length_eq_zero hl))
  exact ⟨b, cap, us, toList_some h3, h4, h5, h6, h2⟩
theorem splitK_some {k : Nat → Option α} {n : Int} {res : α} : ∀ {m j : Nat}, splitK n k m j = some res → ∃ j', k j' = some res
  | 0, j, h => ⟨j, h⟩
  | m + 1, j, h => by
    unfold splitK at h
    cases hb : (n == (j : Int)) with
    | true => rw [hb] at h; exact ⟨j, h⟩
    | false => rw [hb] at h; exact splitK_some h
theorem splitK_at {k : Nat → Option α} {n : Int} {res : α} : ∀ {m j : Nat}, splitK n k m j = some res → (j : Int) ≤ n → n ≤ (j + m : Nat) → k n.toNat = some res
  | 0, j, h, h1, h2 => by
    have : n.toNat = j := by omega
    rw [this]; exact h
  | m + 1, j, h, h1, h2 => by
    unfold splitK at h
    by_cases hb : n = (j : Int)
    · have : n.toNat = j := by omega
      rw [this]
      simpa [hb] using h
    · have : (n == (j : Int)) = false := by simpa using hb
      rw [this] at h
      exact splitK_at h (by omega) (by omega)
theorem st_indexAddr (r : Rel F σ γ a w) {t : TypeId} {x i : Operand} (ho : o.op = .indexAddr t x i) (h : ((ev σ tg x).bind fun v => (ev σ tg i).bind fun w => (asInt w).bind fun q => idxAddr P σ (tagB σ tg) t v (constIdx i) q.2 k) = some res) : StR P σ γ a w tg o k res := by
  simp only [Option.bind_eq_some_iff] at h
  obtain ⟨pv, h1, iv, h2, ⟨ki, n⟩, h3, h4⟩ := h
  unfold idxAddr at h4
  split at h4
  · rename_i e hu
    cases pv with
    | c c =>
      have h6 : idxSl P (tagB σ tg) e n k σ c = some res := h4
      cases c with
      | sl τ xs =>
        simp only [idxSl, chk_some] at h6
        obtain ⟨hc, h7⟩ := h6
        obtain ⟨inf, hi, hsz⟩ := cellsIs_spec hc
        obtain ⟨d, h8, h9⟩ := Option.bind_eq_some_iff.1 h7
        refine StR.of h9 fun hT => ?_
        rw [tagB_spec.2 hT] at h8
        have h8' : at? xs n = some d := h8
        unfold at? at h8'
        have hnn : 0 ≤ n := by
          by_cases hn : 0 ≤ n
          · exact hn
          · simp [hn] at h8'
        simp only [hnn, decide_true, cond_true] at h8'
        have hlt := lt_of_get h8'
        have e2 := ev_int r hT h2 h3
        obtain ⟨_, ao, cap, us, e1, hcap, hrep, hne⟩ := ev_sound r hT h1
        obtain ⟨ad, rfl, hS, hcell⟩ := hne (fun hx => by subst hx; simp at hlt)
        simp only [List.cons.injEq, and_true] at e1
        refine ⟨_, fun w' _ => indexAt_slice hu hi ho e1 e2 ⟨hnn, by simp only; omega⟩ w', ?_⟩
        have hx := hrep.get (Rep.slen τ) h8'
        rw [hsz]
        refine ⟨_, _, rfl, by rw [add_block]; exact hS.1, fun _ => by rw [add_block]; exact hS, CellsAt.part hcell (n.toNat * τ.size) τ.size, cellsOf_spec τ hx⟩
      | os p =>
        simp only [idxSl, Option.bind_eq_some_iff] at h6
        obtain ⟨ob, hob, h7⟩ := h6
        cases ob with
        | arr ti τ xs fz =>
          simp only [chk_some, req_some] at h7
          obtain ⟨hc, hb, h8⟩ := h7
          obtain ⟨inf, hi, hsz⟩ := cellsIs_spec hc
          refine StR.of h8 fun hT => ?_
          have hb' := inb_spec (imp_true hb hT)
          have e2 := ev_int r hT h2 h3
          obtain ⟨hp1, e1, _⟩ := ev_sound r hT h1
          have hne : xs ≠ [] := fun hx => by subst hx; simp at hb'; omega
          obtain ⟨b, cap, us, hg2, hg1, hcap, hcell, hrep⟩ := arr_spec r.o hob hne
          rw [hg1] at e1
          refine ⟨_, fun w' _ => indexAt_slice hu hi ho e1 e2 hb' w', hp1, b, hg2, ?_, _, _, _, hg1, by omega⟩
          rw [adr_add, hsz]; simp
        | _ => simp at h7
      | _ => simp [idxSl] at h6
    | vw p sz lo m =>
      simp only [idxW, Option.bind_eq_some_iff] at h4
      obtain ⟨ob, hob, h7⟩ := h4
      cases ob with
      | arr ti τ xs fz =>
        simp only [chk_some, req_some, Bool.and_eq_true] at h7
        obtain ⟨⟨hc, hsz'⟩, hb, h8⟩ := h7
        obtain ⟨inf, hi, hsz⟩ := cellsIs_spec hc
        refine StR.of h8 fun hT => ?_
        have hb' := inb_spec (imp_true hb hT)
        have e2 := ev_int r hT h2 h3
        obtain ⟨hp1, ao0, n0, c0, ao, cap, hg, hlo, e1, hcap, hpos, _⟩ := ev_sound r hT h1
        obtain ⟨b, hg2, hao⟩ := hpos (by omega)
        subst hao
        have hn0 : n0 = xs.length := by
          obtain ⟨us, h9, _⟩ := r.o.rep p _ hob
          rcases h9 with ⟨_, ⟨ao1, h10⟩, h11, _⟩ | ⟨b1, cap1, cur, _, h10, _⟩
          · rw [hg] at h10
            simp only [Value.slice.injEq] at h10
            omega
          · rw [hg] at h10
            simp only [Value.slice.injEq] at h10
            exact h10.2.1
        refine ⟨_, fun w' _ => indexAt_slice hu hi ho e1 e2 hb' w', hp1, b, hg2, ?_, _, _, _, hg, by omega⟩
        rw [adr_add, hsz]; simp [Nat.add_mul]
      | _ => simp at h7
    | _ => simp [idxW] at h4
  · rename_i len e hu
    simp only [Option.bind_eq_some_iff, chk_some] at h4
    obtain ⟨inf, hi, hz, h5⟩ := h4
    split at h5
    · rename_i m hm
      simp only [chk_some, Option.bind_eq_some_iff] at h5
      obtain ⟨hb, u, h6, h7⟩ := h5
      have hb' := inb_spec hb
      have hnm : n = m := by
        cases i <;> simp only [constIdx] at hm <;> try (cases hm; done)
        rename_i z
        cases z <;> simp only [constIdx, Option.some.injEq] at hm <;> try (cases hm; done)
        subst hm
        simp only [ev, constPV, Option.some.injEq] at h2
        subst h2
        simp only [asInt, Option.some.injEq, Prod.mk.injEq] at h3
        exact h3.2.symm
      subst hnm
      refine StR.of h7 fun hT => ?_
      obtain ⟨ad, e1, hu2⟩ := fieldA_spec h6 (ev_sound r hT h1)
      exact ⟨_, fun w' _ => indexAt_array hu hi ho e1 (ev_int r hT h2 h3) hb' w', hu2⟩
    · cases pv with
      | c c =>
        cases c <;> simp only [idxV] at h5 <;> try (cases h5; done)
        rename_i p off
        by_cases hap : apartAt σ p off (len * inf.size) = true
        · simp only [hap, cond_true, chk_some, Bool.not_eq_true'] at h5
          obtain ⟨hl0, h5⟩ := h5
          have hl0 : len ≠ 0 := fun e => by subst e; simp at hl0
          obtain ⟨hb, h6⟩ := req_some.1 h5
          obtain ⟨j0, hj0⟩ := splitK_some h6
          refine ⟨⟨_, hj0⟩, fun hT => ?_⟩
          have hb' := inb_spec (imp_true hb hT)
          have h7 := splitK_at h6 (by omega) (by omega)
          obtain ⟨hp1, b, hg, e1⟩ := ev_sound r hT h1
          refine ⟨.c (.ptr p (off + n.toNat * inf.size)), ⟨_, fun w' _ => indexAt_array hu hi ho e1 (ev_int r hT h2 h3) hb' w', ?_⟩, h7⟩
          exact ⟨hp1, b, hg, by rw [adr_add]⟩
        · simp only [Bool.eq_false_iff.2 hap, cond_false] at h5
          obtain ⟨hb, h6⟩ := req_some.1 h5
          refine StR.of h6 fun hT => ?_
          have hb' := inb_spec (imp_true hb hT)
          obtain ⟨hp1, b, hg, e1⟩ := ev_sound r hT h1
          refine ⟨_, fun w' _ => indexAt_array hu hi ho e1 (ev_int r hT h2 h3) hb' w', hp1, b, hg, hb'.1, hb'.2, ?_⟩
          rw [adr_add]; simp
      | rp l =>
        simp only [idxV, chk_some, req_some, Bool.and_eq_true, Option.bind_eq_some_iff] at h5
        obtain ⟨⟨hs1, hl⟩, hb, c, hs, h6⟩ := h5
        have hs1 := Nat.eq_of_beq_eq_true hs1
        have hl := Nat.eq_of_beq_eq_true hl
        refine StR.of h6 fun hT => ?_
        have hb' := inb_spec (imp_true hb hT)
        obtain ⟨ad, us, e1, h0, hS, hcell, hv⟩ := ev_sound r hT h1
        have hlt : n.toNat < l.length := by omega
        obtain ⟨v, h7, h8⟩ := hv.get (List.getElem?_eq_getElem hlt)
        rw [selC_spec hs (List.getElem?_eq_getElem hlt)] at h8
        refine ⟨_, fun w' _ => indexAt_array hu hi ho e1 (ev_int r hT h2 h3) hb' w', ?_⟩
        refine ⟨_, [v], rfl, by rw [add_block]; exact h0, fun _ => by rw [add_block]; exact hS (fun e => by rw [e] at h7; simp at h7), ?_, ⟨v, [], rfl, h8, rfl⟩⟩
        have := CellsAt.part hcell (n.toNat * inf.size) 1
        rw [hs1, Nat.mul_one] at this ⊢
        have hd : (us.drop n.toNat).take 1 = [v] := by
          rw [List.drop_eq_getElem_cons (lt_of_get h7)]
          simp [(List.getElem?_eq_some_iff.1 h7).2]
        rw [hd] at this
        exact this
      | _ => simp [idxV] at h5
  · cases h4

theorem loadAt_of {ρ : Operand → Value} {t : TypeId} {x : Operand} {ad : Addr} {v : Value} {w' : World} (ho : o.op = .load t x) (e1 : ρ x = .pointer (some ad)) (h : (loadVar t ad).run P w' = .ok v w') : (execOp ρ o).run P w' = .ok (.value v) w' := by
  obtain ⟨dst, op, type, pos, after, guard⟩ := o
  simp only at ho
  subst ho
  simp only [execOp, Instr.loadAt, Instr.sureAddr, e1, Sem.run_bind, Sem.run_pure, Result.andThen_ok, h]
theorem Chg.cells {ex : List Nat} {w w' : World} {ad : Addr} {us : List Value} (h : CellsAt w ad us) (hc : Chg [] w w') (hl : us ≠ [] → ad.block < w.heap.size) : CellsAt w' ad us := by
  by_cases hn : us = []
  · subst hn; intro j v hv; simp at hv
  · exact CellsAt.mono h (hc.block _ (hl hn) (by simp))
/-- what a load gives -/
theorem loadPV_spec (r : ORel F σ.objs γ w) {t : TypeId} {pv u : PV} {v : Value} (h : loadPV P σ t pv = some u) (hv : PR σ.objs γ w pv v) : ∃ ad x, v = .pointer (some ad) ∧ (∀ w', Chg [] w w' → (loadVar t ad).run P w' = .ok x w') ∧ PR σ.objs γ w u x := by
  cases pv with
  | c c =>
    cases c <;> simp only [loadPV] at h <;> try (cases h; done)
    rename_i p off
    obtain ⟨ob, hob, h2⟩ := Option.bind_eq_some_iff.1 h
    cases ob with
    | box cs =>
      simp only at h2
      obtain ⟨hp1, b, hg, rfl⟩ := hv
      obtain ⟨b', T, cells, hgg, hheap, hvl⟩ := r.rep p _ hob
      have hbb : b' = b := by rw [hgg] at hg; simpa using hg
      subst hbb
      obtain ⟨x, _, h4, h5⟩ := partPV_spec (P := P) h2 hvl
      refine ⟨_, x, rfl, fun w' hc => h5 w' _ ?_, h4⟩
      have hlt := (Array.getElem?_eq_some_iff.1 hheap).1
      exact Chg.cells (ex := []) (cellsAt_blk hheap off) hc (fun _ => hlt)
    | bld tb c =>
      simp only [chk_some] at h2
      obtain ⟨ho1, h3⟩ := h2
      obtain rfl := Nat.eq_of_beq_eq_true ho1
      obtain ⟨hp1, b, hg, rfl⟩ := hv
      obtain ⟨b', pp, vv, hgg, hheap, hpp, hvc⟩ := r.rep p _ hob
      have hbb : b' = b := by rw [hgg] at hg; simpa using hg
      subst hbb
      obtain ⟨x, _, h4, h5⟩ := partPV_spec (P := P) (cs := [vv]) h3 ⟨vv, [], rfl, hvc, rfl⟩
      refine ⟨_, x, rfl, fun w' hc => h5 w' _ ?_, h4⟩
      have hlt := (Array.getElem?_eq_some_iff.1 hheap).1
      exact Chg.cells (ex := []) (cellsAt_blk hheap 1) hc (fun _ => hlt)
    | _ => simp at h2
  | rp l =>
    simp only [loadPV] at h
    obtain ⟨ad, us, rfl, h0, hS, hcell, hvl⟩ := hv
    obtain ⟨x, _, h4, h5⟩ := partPV_spec (P := P) h hvl
    exact ⟨ad, x, rfl, fun w' hc => h5 w' _ (by rw [List.drop_zero]; exact Chg.cells (ex := []) hcell hc (fun _ => h0)), h4⟩
  | ep p sz i off =>
    simp only [loadPV] at h
    obtain ⟨ob, hob, h2⟩ := Option.bind_eq_some_iff.1 h
    cases ob with
    | arr ti e xs fz =>
      simp only [chk_some] at h2
      obtain ⟨hsz, h3⟩ := h2
      have hsz := Nat.eq_of_beq_eq_true hsz
      subst hsz
      obtain ⟨hp1, b, hg, rfl, ao0, n0, c0, hg0, hlt0⟩ := hv
      have hlt : i < xs.length := by rw [← ObR.len (r.rep p _ hob) hg0]; exact hlt0
      obtain ⟨b', cap, us, hg2, _, _, hcell, hrep⟩ := arr_spec r hob (fun e => by subst e; simp at hlt)
      have hbb : b' = b := by rw [hg2] at hg; simpa using hg
      subst hbb
      have hx := hrep.get (Rep.slen e) (j := i) (x := getD' xs i (dflt e)) (by simp [getD', hlt])
      obtain ⟨x, _, h4, h5⟩ := partPV_spec (P := P) h3 (cellsOf_spec e hx)
      refine ⟨_, x, rfl, fun w' hc => h5 w' _ ?_, h4⟩
      have h6 := CellsAt.drop (CellsAt.part hcell (i * e.size) e.size) off
      rw [adr_add, adr_add, Nat.zero_add] at h6
      exact Chg.cells (ex := []) h6 hc (fun _ => r.lt p b' hp1 hg2)
    | _ => simp at h2
  | pa p off sz cnt inner i =>
    simp only [loadPV] at h
    obtain ⟨ob, hob, h2⟩ := Option.bind_eq_some_iff.1 h
    cases ob with
    | box cs =>
      simp only [Option.bind_eq_some_iff, chk_some, Bool.and_eq_true, Bool.not_eq_true', Option.some.injEq] at h2
      obtain ⟨ag, hag, ⟨rfl, hlen⟩, c, hs, rfl⟩ := h2
      obtain ⟨hp1, b, hg, hi0, hi1, rfl⟩ := hv
      obtain ⟨b', T, cells, hgg, hheap, hvl⟩ := r.rep p _ hob
      have hbb : b' = b := by rw [hgg] at hg; simpa using hg
      subst hbb
      have hlen := Nat.eq_of_beq_eq_true hlen
      have hcg := col_get (cs := cs) (sz := sz) (inner := inner) (off := off) (j := i.toNat) hlen (by omega)
      have hlt : i.toNat < (col cs off sz inner cnt).length := by omega
      rw [List.getElem?_eq_getElem hlt, selC_spec hs (List.getElem?_eq_getElem hlt)] at hcg
      obtain ⟨x, h7, h8⟩ := hvl.get hcg.symm
      refine ⟨_, x, rfl, fun w' hc => ?_, h8⟩
      have hbl := (Array.getElem?_eq_some_iff.1 hheap).1
      have hcw : w'.heap[b']? = some (.cells cells T (0, 0)) := (hc.block b' hbl (by simp)).trans hheap
      have h9 : w'.cell? ⟨b', off + i.toNat * sz + inner, none⟩ = some x := by
        have : cells[off + i.toNat * sz + inner]? = some x := by simpa using h7
        simp [World.cell?, hcw, this]
      simp [loadVar, aggOf_run hag, h9, go_sem]
    | _ => simp at h2
  | _ => simp [loadPV] at h
theorem st_load (r : Rel F σ γ a w) {t : TypeId} {x : Operand} (ho : o.op = .load t x) (h : ((ev σ tg x).bind fun v => (loadPV P σ t v).bind k) = some res) : StR P σ γ a w tg o k res := by
  simp only [Option.bind_eq_some_iff] at h
  obtain ⟨pv, h1, u, h2, h3⟩ := h
  refine StR.of h3 fun hT => ?_
  obtain ⟨ad, v, e1, h4, h5⟩ := loadPV_spec r.o h2 (ev_sound r hT h1)
  exact ⟨v, fun w' hc => loadAt_of ho e1 (h4 w' (hc (by simp [isLoad, ho]))), h5⟩

/-! ### slices -/
theorem optI_spec (r : Rel F σ γ a w) (hT : tagT σ tg) {d n : Int} {x : Option Operand} (h : optI σ tg d x = some n) : (x = none ∧ n = d) ∨ ∃ y ki, x = some y ∧ a.eval y = .int ki n := by
  cases x with
  | none => simp only [optI, Option.some.injEq] at h; exact .inl ⟨rfl, h.symm⟩
  | some y =>
    simp only [optI, Option.bind_eq_some_iff, Option.some.injEq] at h
    obtain ⟨v, h1, q, h2, rfl⟩ := h
    exact .inr ⟨y, q.1, rfl, ev_int r hT h1 h2⟩
theorem elemOf_spec {t e : TypeId} (h : elemOf P t = some e) : P.underlying t = some (.slice e) := by
  simp only [elemOf, Option.bind_eq_some_iff] at h
  obtain ⟨d, h1, h2⟩ := h
  cases d <;> simp at h2
  rw [h1, h2]
theorem sliceBounds_run {isS : Bool} {len cap : Nat} {lo hi : Option Value} {l h : Int} (hl : (lo = none ∧ l = 0) ∨ ∃ ki, lo = some (.int ki l)) (hh : (hi = none ∧ h = (len : Int)) ∨ ∃ ki, hi = some (.int ki h)) (hb : boundsI l h len = true) (hcap : len ≤ cap) (w' : World) :
    (Instr.sliceBounds isS len cap lo hi none).run P w' = .ok (l.toNat, h.toNat, cap) w' := by
  simp only [boundsI, Bool.and_eq_true, decide_eq_true_eq] at hb
  obtain ⟨b1, b2, b3⟩ := hb
  have h1 : 0 ≤ h ∧ h ≤ (cap : Int) := by omega
  have h2 : 0 ≤ l ∧ l ≤ ((h.toNat : Nat) : Int) := by omega
  rcases hh with ⟨rfl, rfl⟩ | ⟨kh, rfl⟩ <;> rcases hl with ⟨rfl, rfl⟩ | ⟨kl, rfl⟩
  · simp [Instr.sliceBounds, go_sem]
  · have h3 : 0 ≤ l ∧ l ≤ (len : Int) := by omega
    simp [Instr.sliceBounds, Instr.sliceBound, asIntOf, h3, go_sem]
  · simp [Instr.sliceBounds, Instr.sliceBound, asIntOf, h1, go_sem]
  · simp [Instr.sliceBounds, Instr.sliceBound, asIntOf, h1, h2, go_sem]
    intro hlt
    omega
theorem isConst0_spec {x : Option Operand} (h : isConst0 x = true) : ∃ ki, x = some (.const (.int ki 0)) := by
  unfold isConst0 at h
  split at h
  · exact ⟨_, rfl⟩
  · cases h
theorem slice_e0 {t e : TypeId} {inf : TypeInfo} (hu : P.underlying t = some (.slice e)) (hi : P.info? e = some inf) {x : Operand} {hi' mx : Option Operand} (ho : o.op = .slice t x none hi' mx) (h1 : isConst0 hi' = true) (h2 : isConst0 mx = true)
    {ao : Option Addr} {len cap : Nat} (e1 : a.eval x = .slice ao len cap) (w' : World) : (execOp a.eval o).run P w' = .ok (.value (.slice ao 0 0)) w' := by
  obtain ⟨k1, rfl⟩ := isConst0_spec h1
  obtain ⟨k2, rfl⟩ := isConst0_spec h2
  obtain ⟨dst, op, type, pos, after, guard⟩ := o
  simp only at ho
  subst ho
  have ec : ∀ ki, a.eval (.const (.int ki 0)) = .int ki 0 := fun _ => rfl
  have ec1 := ec k1
  have ec2 := ec k2
  generalize a.eval = ρ at e1 ec1 ec2 ⊢
  simp [execOp, Instr.sliceAt, Instr.slice, Instr.sliceBounds, Instr.sliceBound, underlying, sizeOf, typeInfo, hu, hi, e1, ec1, ec2, asIntOf, go_sem]
theorem CellsAt.nil {w : World} {ad : Addr} : CellsAt w ad [] := fun j v hv => by simp at hv
/-- a part of a slice, as data -/
theorem slice_rep {S : Nat → Prop} {e : Ty} {xs : List (D e)} {l h : Int} {ao : Option Addr} {cap : Nat} {us : List Value} (hcap : xs.length ≤ cap) (hrep : RepL (fun x c => Rep w S e x [] c) xs us) (hne : xs ≠ [] → ∃ ad, ao = some ad ∧ S ad.block ∧ CellsAt w ad us) (hb : boundsI l h xs.length = true) :
    Rep w S (.sl e) ((xs.take h.toNat).drop l.toNat) [] [.slice (if cap = l.toNat then ao else ao.map (·.add (l.toNat * e.size))) (h.toNat - l.toNat) (cap - l.toNat)] := by
  simp only [boundsI, Bool.and_eq_true, decide_eq_true_eq] at hb
  obtain ⟨b1, b2, b3⟩ := hb
  have hlen : ((xs.take h.toNat).drop l.toNat).length = h.toNat - l.toNat := by simp; omega
  refine ⟨rfl, _, cap - l.toNat, _, by rw [hlen], by rw [hlen]; omega, (hrep.take (Rep.slen e) h.toNat).drop (Rep.slen e) l.toNat, fun hn => ?_⟩
  have hx : xs ≠ [] := fun e => hn (by rw [e, List.take_nil, List.drop_nil])
  obtain ⟨ad, rfl, hS, hc⟩ := hne hx
  have hlt : l.toNat < h.toNat := by
    rcases Nat.lt_or_ge l.toNat h.toNat with h1 | h1
    · exact h1
    · exact absurd (List.eq_nil_of_length_eq_zero (by rw [hlen]; omega)) hn
  have hcl : cap ≠ l.toNat := by omega
  rw [if_neg hcl]
  exact ⟨_, rfl, by rw [add_block]; exact hS, CellsAt.drop (CellsAt.take hc _) _⟩
theorem slice_run {t e : TypeId} {inf : TypeInfo} (hu : P.underlying t = some (.slice e)) (hi : P.info? e = some inf) {x : Operand} {lo hi' : Option Operand} (ho : o.op = .slice t x lo hi' none)
    {ao : Option Addr} {len cap : Nat} {l h : Int} (e1 : a.eval x = .slice ao len cap) (hl : (lo = none ∧ l = 0) ∨ ∃ y ki, lo = some y ∧ a.eval y = .int ki l) (hh : (hi' = none ∧ h = (len : Int)) ∨ ∃ y ki, hi' = some y ∧ a.eval y = .int ki h)
    (hb : boundsI l h len = true) (hcap : len ≤ cap) (w' : World) :
    (execOp a.eval o).run P w' = .ok (.value (.slice (if cap = l.toNat then ao else ao.map (·.add (l.toNat * inf.size))) (h.toNat - l.toNat) (cap - l.toNat))) w' := by
  have hl' : (lo.map a.eval = none ∧ l = 0) ∨ ∃ ki, lo.map a.eval = some (.int ki l) := by
    rcases hl with ⟨rfl, rfl⟩ | ⟨y, ki, rfl, hy⟩
    · exact .inl ⟨rfl, rfl⟩
    · exact .inr ⟨ki, by simp [hy]⟩
  have hh' : (hi'.map a.eval = none ∧ h = (len : Int)) ∨ ∃ ki, hi'.map a.eval = some (.int ki h) := by
    rcases hh with ⟨rfl, rfl⟩ | ⟨y, ki, rfl, hy⟩
    · exact .inl ⟨rfl, rfl⟩
    · exact .inr ⟨ki, by simp [hy]⟩
  have hsb := sliceBounds_run (P := P) (isS := true) hl' hh' hb hcap w'
  have hsr : (sizeOf e).run P w' = .ok inf.size w' := by simp [sizeOf, typeInfo, hi, go_sem]
  obtain ⟨dst, op, type, pos, after, guard⟩ := o
  simp only at ho
  subst ho
  simp only [execOp, Instr.sliceAt, Sem.run_bind, run_underlying hu, Result.andThen_ok, Instr.slice, e1, Option.map_none, hsb, hsr, Sem.run_pure]
theorem st_slice (r : Rel F σ γ a w) {t : TypeId} {x : Operand} {lo hi mx : Option Operand} (ho : o.op = .slice t x lo hi mx) (h : sliceS P σ tg t x lo hi mx k = some res) : StR P σ γ a w tg o k res := by
  simp only [sliceS, Option.bind_eq_some_iff] at h
  obtain ⟨pv, h1, h2⟩ := h
  split at h2
  · rename_i s
    simp only [chk_some, Bool.and_eq_true, Option.bind_eq_some_iff, req_some] at h2
    obtain ⟨⟨hm, hu⟩, l, hl, hh, hhh, hb, h3⟩ := h2
    refine StR.of h3 fun hT => ⟨_, fun w' _ => ?_, rfl⟩
    have e1 : a.eval x = .string s := ev_sound r hT h1
    have hb' := imp_true hb hT
    have hu' : P.underlying t = some .string := by
      split at hu
      · assumption
      · cases hu
    cases mx with
    | some _ => cases hm
    | none =>
    have hl' : (lo.map a.eval = none ∧ l = 0) ∨ ∃ ki, lo.map a.eval = some (.int ki l) := by
      rcases optI_spec r hT hl with ⟨rfl, rfl⟩ | ⟨y, ki, rfl, hy⟩
      · exact .inl ⟨rfl, rfl⟩
      · exact .inr ⟨ki, by simp [hy]⟩
    have hh' : (hi.map a.eval = none ∧ hh = (s.size : Int)) ∨ ∃ ki, hi.map a.eval = some (.int ki hh) := by
      rcases optI_spec r hT hhh with ⟨rfl, rfl⟩ | ⟨y, ki, rfl, hy⟩
      · exact .inl ⟨rfl, rfl⟩
      · exact .inr ⟨ki, by simp [hy]⟩
    have hsb := sliceBounds_run (P := P) (isS := false) hl' hh' hb' (Nat.le_refl s.size) w'
    obtain ⟨dst, op, type, pos, after, guard⟩ := o
    simp only at ho
    subst ho
    simp only [execOp, Instr.sliceAt, Sem.run_bind, run_underlying hu', Result.andThen_ok, Instr.slice, e1, Option.map_none, hsb, Sem.run_pure, Option.isSome_none, Bool.false_eq_true, if_false]
  · rename_i e xs
    simp only [Option.bind_eq_some_iff, chk_some] at h2
    obtain ⟨i, hu, hc, h3⟩ := h2
    have hu := elemOf_spec hu
    obtain ⟨inf, hinf, hsz⟩ := cellsIs_spec hc
    by_cases hm : mx.isNone = true
    · simp only [hm, cond_true, Option.bind_eq_some_iff, req_some] at h3
      obtain ⟨l, hl, hh, hhh, hb, h4⟩ := h3
      have hmx : mx = none := by simpa using hm
      subst hmx
      refine StR.of h4 fun hT => ?_
      obtain ⟨_, ao, cap, us, e1, hcap, hrep, hne⟩ := ev_sound r hT h1
      simp only [List.cons.injEq, and_true] at e1
      have hb' := imp_true hb hT
      refine ⟨_, fun w' _ => slice_run hu hinf ho e1 (optI_spec r hT hl) (optI_spec r hT hhh) hb' hcap w', ?_⟩
      rw [hsz]
      exact slice_rep hcap hrep hne hb'
    · simp only [Bool.eq_false_iff.2 hm, cond_false, chk_some, Bool.and_eq_true] at h3
      obtain ⟨⟨hlo, hh0, hm0⟩, h4⟩ := h3
      have hlo' : lo = none := by simpa using hlo
      subst hlo'
      refine StR.of h4 fun hT => ?_
      obtain ⟨_, ao, cap, us, e1, _⟩ := ev_sound r hT h1
      simp only [List.cons.injEq, and_true] at e1
      exact ⟨_, fun w' _ => slice_e0 hu hinf ho hh0 hm0 e1 w', ao, rfl⟩
  · rename_i p
    simp only [Option.bind_eq_some_iff] at h2
    obtain ⟨i, hu, ob, hob, h3⟩ := h2
    cases ob with
    | arr ti e xs fz =>
      simp only [chk_some, Bool.and_eq_true] at h3
      obtain ⟨⟨hc, hlo, hh0, hm0⟩, h4⟩ := h3
      have hlo' : lo = none := by simpa using hlo
      subst hlo'
      obtain ⟨inf, hinf, hsz⟩ := cellsIs_spec hc
      refine StR.of h4 fun hT => ?_
      obtain ⟨_, _, ao, n, c, e1⟩ := ev_sound r hT h1
      exact ⟨_, fun w' _ => slice_e0 (elemOf_spec hu) hinf ho hh0 hm0 e1 w', ao, rfl⟩
    | _ => simp at h3
  · obtain ⟨i, hu, h2⟩ := Option.bind_eq_some_iff.1 h2
    by_cases hmn : mx.isNone = true
    · have hmx : mx = none := by simpa using hmn
      subst hmx
      simp only [Option.isNone_none, cond_true, Option.bind_eq_some_iff, chk_some, req_some, Bool.and_eq_true] at h2
      obtain ⟨⟨hc, hlo⟩, hh, hhh, hb, h4⟩ := h2
      have hlo' : lo = none := by simpa using hlo
      subst hlo'
      obtain ⟨inf, hinf, hsz⟩ := sized_spec hc
      refine StR.of h4 fun hT => ?_
      have e1 : a.eval x = .slice none 0 0 := ev_sound r hT h1
      have hb' : hh = 0 := by simpa using imp_true hb hT
      subst hb'
      have := fun w' => slice_run (elemOf_spec hu) hinf ho e1 (l := 0) (h := 0) (.inl ⟨rfl, rfl⟩) (optI_spec r hT hhh) (by decide) (Nat.le_refl _) w'
      exact ⟨.slice none 0 0, fun w' _ => this w', rfl⟩
    · simp only [Bool.eq_false_iff.2 hmn, cond_false, chk_some, Bool.and_eq_true] at h2
      obtain ⟨⟨hc, hlo, hh0, hm0⟩, h4⟩ := h2
      have hlo' : lo = none := by simpa using hlo
      subst hlo'
      obtain ⟨inf, hinf, hsz⟩ := sized_spec hc
      refine StR.of h4 fun hT => ?_
      have e1 : a.eval x = .slice none 0 0 := ev_sound r hT h1
      exact ⟨_, fun w' _ => slice_e0 (elemOf_spec hu) hinf ho hh0 hm0 e1 w', none, rfl⟩
  · cases h2

/-! ### functions, lengths -/
theorem st_len (r : Rel F σ γ a w) {x : Operand} {t : TypeId} {args : Array Operand} {ats : Array TypeId} (ho : o.op = .call ⟨.builtin .len, args, ats⟩) (ha : args.toList = [x]) (hat : ats.toList = [t]) (h : lenS P σ tg o x t k = some res) : StR P σ γ a w tg o k res := by
  have ha' : args = #[x] := by rw [← Array.toList_inj, ha]
  have hat' : ats = #[t] := by rw [← Array.toList_inj, hat]
  subst ha'; subst hat'
  have key : ∀ (i : TypeId) (ao : Option Addr) (n c : Nat), elemOf P t = some i → a.eval x = .slice ao n c → ∀ w', (execOp a.eval o).run P w' = .ok (.value (.int .i64 (n : Int))) w' := by
    intro i ao n c hu e1 w'
    have hu := elemOf_spec hu
    obtain ⟨dst, op, type, pos, after, guard⟩ := o
    simp only at ho
    subst ho
    rw [BigFrame.execOp_builtin, BigFrame.builtin_len]
    have : (#[x].map a.eval) = #[.slice ao n c] := by simp only [List.map_toArray, List.map_cons, List.map_nil, e1]
    rw [this]
    simp [Builtin.len_, run_underlying hu, goInt, go_sem]
  simp only [lenS, Option.bind_eq_some_iff] at h
  obtain ⟨pv, h1, h2⟩ := h
  split at h2
  · rename_i e xs
    obtain ⟨i, hu, h3⟩ := Option.bind_eq_some_iff.1 h2
    refine StR.of h3 fun hT => ?_
    obtain ⟨_, ao, cap, us, e1, _⟩ := ev_sound r hT h1
    simp only [List.cons.injEq, and_true] at e1
    exact ⟨_, fun w' _ => key i _ _ _ hu e1 w', rfl⟩
  · rename_i p
    simp only [Option.bind_eq_some_iff] at h2
    obtain ⟨i, hu, ob, hob, h3⟩ := h2
    cases ob with
    | arr ti e xs fz =>
      refine StR.of h3 fun hT => ?_
      obtain ⟨_, e1, _⟩ := ev_sound r hT h1
      obtain ⟨us, h5, _⟩ := r.o.rep p _ hob
      rcases h5 with ⟨_, ⟨ao, h6⟩, h7, _⟩ | ⟨b, cap, cur, _, h6, _⟩
      · rw [h6] at e1
        rw [h7]
        exact ⟨_, fun w' _ => key i _ _ _ hu e1 w', rfl⟩
      · rw [h6] at e1
        exact ⟨_, fun w' _ => key i _ _ _ hu e1 w', rfl⟩
    | _ => simp at h3
  · obtain ⟨i, hu, h3⟩ := Option.bind_eq_some_iff.1 h2
    refine StR.of h3 fun hT => ?_
    obtain ⟨ao, e1⟩ := ev_sound r hT h1
    exact ⟨_, fun w' _ => key i _ _ _ hu e1 w', rfl⟩
  · obtain ⟨i, hu, h3⟩ := Option.bind_eq_some_iff.1 h2
    refine StR.of h3 fun hT => ?_
    obtain ⟨_, ao0, n0, c0, ao, cap, _, _, e1, _⟩ := ev_sound r hT h1
    exact ⟨_, fun w' _ => key i _ _ _ hu e1 w', rfl⟩
  · exact st_scalar r (fun cs b e => by rw [ho] at e; cases e) (fun z hz => by rw [ho] at hz; simpa [Op.operands, Call.operands] using hz) h2
theorem u8s_spec {e : Ty} {xs : List (D e)} {ns : List Int} (h : u8s e xs = some ns) : e = .int .u8 ∧ HEq xs ns := by
  unfold u8s at h
  split at h
  · exact ⟨rfl, heq_of_eq (Option.some.inj h)⟩
  · cases h
theorem u8s_cells {w : World} {S : Nat → Prop} : ∀ {ns : List Int} {us : List Value}, RepL (fun (x : D (.int .u8)) c => Rep w S (.int .u8) x [] c) ns us → us = ns.map (Value.int .u8)
  | [], us, h => h
  | n :: ns, us, ⟨c, r, h1, h2, h3⟩ => by
    subst h1
    rw [h2.2, u8s_cells h3]
    rfl
theorem bytesTy_spec {src dst : TypeId} (h : (bytesTy P src && strTy P dst) = true) : ∃ e, P.underlying src = some (.slice e) ∧ P.underlying e = some (.int .u8) ∧ P.underlying dst = some .string := by
  simp only [Bool.and_eq_true, bytesTy, strTy] at h
  obtain ⟨h1, h2⟩ := h
  split at h1
  · rename_i e he
    split at h1
    · rename_i he2
      split at h2
      · rename_i hd
        exact ⟨e, he, he2, hd⟩
      · cases h2
    · cases h1
  · cases h1
theorem conv_run {src dst e : TypeId} (hs : P.underlying src = some (.slice e)) (he : P.underlying e = some (.int .u8)) (hd : P.underlying dst = some .string) {w : World} {ao : Option Addr} {ns : List Int} {cap : Nat}
    (hc : ns ≠ [] → ∃ a, ao = some a ∧ CellsAt w a (ns.map (Value.int .u8))) : (convert src dst (.slice ao ns.length cap)).run P w = .ok (.string (strOf ns)) w := by
  rw [run_convert_bytes_string w src dst e ao ns.length cap hs he hd]
  have key : ∀ a : Addr, CellsAt w a (ns.map (Value.int .u8)) → (Conv.bytesToString (.slice (some a) ns.length cap)).run P w = .ok (.string (strOf ns)) w := fun a ha => by
    have hl := run_loadCells_list (P := P) w a (ns.map (Value.int .u8)) ha
    rw [List.length_map] at hl
    exact run_bytesToString w a ns.length cap ns hl
  by_cases h0 : ns = []
  · subst h0
    cases ao with
    | none => rfl
    | some a => exact key a (fun j v hj => by simp at hj)
  · obtain ⟨a, rfl, ha⟩ := hc h0
    exact key a ha
theorem st_conv (r : Rel F σ γ a w) {src dst : TypeId} {x : Operand} (ho : o.op = .convert src dst x) (h : convS P σ tg o src dst x k = some res) : StR P σ γ a w tg o k res := by
  have key : ∀ {w' : World} {e : TypeId} {ao : Option Addr} {ns : List Int} {cap : Nat}, P.underlying src = some (.slice e) → P.underlying e = some (.int .u8) → P.underlying dst = some .string → a.eval x = .slice ao ns.length cap →
      (ns ≠ [] → ∃ a, ao = some a ∧ CellsAt w' a (ns.map (Value.int .u8))) → (execOp a.eval o).run P w' = .ok (.value (.string (strOf ns))) w' := by
    intro w' e ao ns cap hs he hd e1 hc
    have := conv_run hs he hd (cap := cap) hc
    obtain ⟨dst', op, type, pos, after, guard⟩ := o
    simp only at ho
    subst ho
    simp only [execOp, Sem.run_bind, e1]
    rw [this]
    rfl
  simp only [convS, Option.bind_eq_some_iff] at h
  obtain ⟨pv, h1, h2⟩ := h
  split at h2
  · rename_i e xs
    simp only [chk_some, Option.bind_eq_some_iff] at h2
    obtain ⟨hty, ns, hns, h3⟩ := h2
    obtain ⟨el, hs, he, hd⟩ := bytesTy_spec hty
    obtain ⟨rfl, hxs⟩ := u8s_spec hns
    obtain rfl := eq_of_heq hxs
    refine StR.of h3 fun hT => ?_
    obtain ⟨_, ao, cap, us, e1, hcap, hrep, hne⟩ := ev_sound r hT h1
    simp only [List.cons.injEq, and_true] at e1
    have hus := u8s_cells hrep
    refine ⟨_, fun w' hc => key hs he hd e1 fun h0 => ?_, rfl⟩
    obtain ⟨b, h4, h5, h6⟩ := hne h0
    refine ⟨b, h4, ?_⟩
    rw [← hus]
    exact CellsAt.mono h6 ((hc (by simp [isLoad, ho])).block _ h5.lt (by simp))
  · rename_i p
    simp only [chk_some, Option.bind_eq_some_iff] at h2
    obtain ⟨hty, ob, hob, h3⟩ := h2
    cases ob with
    | arr ti e xs fz =>
      obtain ⟨ns, hns, h3⟩ := Option.bind_eq_some_iff.1 h3
      obtain ⟨el, hs, he, hd⟩ := bytesTy_spec hty
      obtain ⟨rfl, hxs⟩ := u8s_spec hns
      obtain rfl := eq_of_heq hxs
      refine StR.of h3 fun hT => ?_
      obtain ⟨_, e1, _⟩ := ev_sound r hT h1
      obtain ⟨us, h5, hrep⟩ := r.o.rep p _ hob
      have hus := u8s_cells hrep
      subst hus
      by_cases h0 : xs = []
      · subst h0
        rcases h5 with ⟨_, ⟨ao, h6⟩, h7, _⟩ | ⟨b, cap, cur, _, h6, _⟩
        · rw [h6] at e1
          exact ⟨_, fun w' hc => key (ns := []) hs he hd e1 (fun h => absurd rfl h), rfl⟩
        · rw [h6] at e1
          exact ⟨_, fun w' hc => key (ns := []) hs he hd e1 (fun h => absurd rfl h), rfl⟩
      · obtain ⟨b, cap, h6, h7, h8, h9⟩ := h5.cells (fun h => h0 (List.length_eq_zero_iff.1 h))
        rw [h7] at e1
        have hlt := OwnR.lt h5 b (by rw [h6]; simp)
        refine ⟨_, fun w' hc => key hs he hd e1 fun _ => ⟨_, rfl, ?_⟩, rfl⟩
        exact CellsAt.mono h9 ((hc (by simp [isLoad, ho])).block _ hlt (by simp))
    | _ => simp at h3
  · exact st_scalar r (fun cs b e => by rw [ho] at e; cases e) (fun z hz => by rw [ho] at hz; simpa [Op.operands] using hz) h2
theorem capsOf_spec : ∀ {vs : List PV} {caps : List (Nat × Nat)} {us : List Value}, capsOf vs = some caps → vs.length = us.length → (∀ (i : Nat) (v : PV) (u : Value), vs[i]? = some v → us[i]? = some u → PR σ.objs γ w v u) → capsLt σ.objs.length caps ∧ PtrL γ caps us
  | [], caps, us, h, hl, _ => by
    simp only [capsOf, Option.some.injEq] at h
    subst h
    have : us = [] := List.eq_nil_of_length_eq_zero (by simpa using hl.symm)
    subst this
    exact ⟨trivial, rfl⟩
  | v :: vs, caps, [], h, hl, _ => by simp at hl
  | v :: vs, caps, u :: us, h, hl, hp => by
    unfold capsOf at h
    split at h
    · cases ‹_ :: _ = []›
    · rename_i p off q heq
      simp only [List.cons.injEq] at heq
      obtain ⟨rfl, rfl⟩ := heq
      simp only [Option.bind_eq_some_iff, Option.some.injEq] at h
      obtain ⟨l, h1, rfl⟩ := h
      obtain ⟨hlt, b, hg, e1⟩ := hp 0 _ _ rfl rfl
      obtain ⟨h2, h3⟩ := capsOf_spec h1 (by simpa using hl) (fun i v u hv hu => hp (i + 1) v u (by simpa using hv) (by simpa using hu))
      exact ⟨⟨hlt, h2⟩, b, us, by rw [e1], hg, h3⟩
    · cases h
theorem st_makeFunc (r : Rel F σ γ a w) {f : FuncId} {first captured : Array Operand} (ho : o.op = .makeFunc (.func f) first captured) (h : chk first.isEmpty ((evs σ tg captured.toList).bind fun vs => (capsOf vs).bind fun caps => k (.c (.fn f caps))) = some res) : StR P σ γ a w tg o k res := by
  simp only [chk_some, Option.bind_eq_some_iff] at h
  obtain ⟨hf, vs, h1, caps, h2, h3⟩ := h
  have hf' : first = #[] := by simpa using hf
  subst hf'
  refine StR.of h3 fun hT => ?_
  obtain ⟨hl, hp⟩ := evs_spec r hT h1
  obtain ⟨h4, h5⟩ := capsOf_spec (us := captured.toList.map a.eval) h2 (by simp [hl]) (fun i v u hv hu => by
    simp only [List.getElem?_map, Option.map_eq_some_iff] at hu
    obtain ⟨x, hx, rfl⟩ := hu
    exact hp i x v hx hv)
  refine ⟨.func (.func f) #[] (captured.toList.map a.eval).toArray, fun w' _ => ?_, h4, _, rfl, h5⟩
  obtain ⟨dst, op, type, pos, after, guard⟩ := o
  simp only at ho
  subst ho
  simp only [execOp, Instr.makeFunc, Sem.run_bind, Sem.run_pure, Result.andThen_ok]
  rw [toArray_map]
  simp

/-! ### slices against nil -/
theorem agree_spec {a b : Option α} {r : α} (h : agree a b = some r) : a = some r ∧ b = some r := by
  unfold agree at h
  split at h
  · rename_i e; exact ⟨h, e ▸ h⟩
  · cases h
theorem emptyOf_spec (r : ORel F σ.objs γ w) {pv : PV} {em : Bool} {v : Value} (h : emptyOf σ pv = some em) (hv : PR σ.objs γ w pv v) : ∃ ao n c, v = .slice ao n c ∧ (ao = none → em = true) := by
  cases pv with
  | c c =>
    cases c with
    | sl e xs =>
      simp only [emptyOf, Option.some.injEq] at h
      obtain ⟨_, ao, cap, us, e1, _, _, hne⟩ := hv
      simp only [List.cons.injEq, and_true] at e1
      refine ⟨ao, _, _, e1, fun hao => ?_⟩
      by_cases hx : xs = []
      · rw [← h, hx]; rfl
      · obtain ⟨ad, h1, _⟩ := hne hx
        rw [hao] at h1; cases h1
    | os p =>
      simp only [emptyOf, Option.bind_eq_some_iff] at h
      obtain ⟨ob, hob, h⟩ := h
      cases ob with
      | arr i e xs fz =>
        simp only [Option.some.injEq] at h
        obtain ⟨_, e1, ao, n, c, e2⟩ := hv
        refine ⟨ao, n, c, e2, fun hao => ?_⟩
        by_cases hx : xs = []
        · rw [← h, hx]; rfl
        · obtain ⟨b, cap, us, _, h3, _⟩ := arr_spec r hob hx
          rw [e2, h3, Value.slice.injEq] at e1
          rw [hao] at e1; cases e1.1
      | _ => simp at h
    | e0 =>
      simp only [emptyOf, Option.some.injEq] at h
      obtain ⟨ao, e1⟩ := hv
      exact ⟨ao, 0, 0, e1, fun _ => h.symm⟩
    | _ => simp [emptyOf] at h
  | _ => simp [emptyOf] at h
theorem st_nil (r : Rel F σ γ a w) {op : BinOp} {t t' : TypeId} {x y : Operand} (ho : o.op = .binOp op t x y t') {neg : Bool} (hop : op = .eql ∧ neg = false ∨ op = .neq ∧ neg = true) (h : nilS P σ tg o t neg x y k = some res) : StR P σ γ a w tg o k res := by
  unfold nilS at h
  by_cases hq : (isNilP y && (isPtr (ev σ tg x) && ptrTy P t)) = true
  · simp only [hq, cond_true] at h
    simp only [Bool.and_eq_true] at hq
    obtain ⟨hy, hx, ht⟩ := hq
    have hy : y = .const (.pointer none) := by
      unfold isNilP at hy
      split at hy
      · rfl
      · cases hy
    subst hy
    refine StR.of h fun hT => ?_
    cases hev : ev σ tg x with
    | none => rw [hev] at hx; cases hx
    | some pv =>
      rw [hev] at hx
      unfold isPtr at hx
      split at hx
      · rename_i p q heq
        simp only [Option.some.injEq] at heq
        subst heq
        obtain ⟨_, b, _, e1⟩ := ev_sound r hT hev
        have hu : P.underlying t = some (.pointer (P.pointee t)) := by
          unfold ptrTy at ht
          split at ht
          · rename_i e he; simp [Program.pointee, he]
          · cases ht
        refine ⟨.bool neg, fun w' _ => ?_, rfl⟩
        have he := run_equal_pointer_nil (P := P) w' t (some ⟨b, q, none⟩) hu
        obtain ⟨dst, op', type, pos, after, guard⟩ := o
        simp only at ho
        subst ho
        have ec : a.eval (.const (.pointer none)) = .pointer none := rfl
        generalize a.eval = ρ at e1 ec ⊢
        rcases hop with ⟨rfl, rfl⟩ | ⟨rfl, rfl⟩
        · simp [execOp, eqGuard, binOp, e1, ec, he, go_sem]
        · simp [execOp, eqGuard, binOp, e1, ec, he, go_sem]
      · cases hx
  rw [Bool.not_eq_true] at hq
  simp only [hq, cond_false] at h
  split at h
  · rename_i em hem
    obtain ⟨i, hu, h1⟩ := Option.bind_eq_some_iff.1 h
    have hu := elemOf_spec hu
    have hy : y = .const (.slice none 0 0) := by
      by_cases hn : isNilC y = true
      · unfold isNilC at hn
        split at hn
        · rfl
        · cases hn
      · simp only [Bool.eq_false_iff.2 hn, cond_false] at hem; cases hem
    subst hy
    simp only [isNilC, cond_true] at hem
    obtain ⟨pv, h2, h3⟩ := Option.bind_eq_some_iff.1 hem
    refine ⟨?_, fun hT => ?_⟩
    · cases em
      · exact ⟨_, h1⟩
      · exact ⟨_, (agree_spec h1).1⟩
    · obtain ⟨ao, n, c, e1, hao⟩ := emptyOf_spec r.o h3 (ev_sound r hT h2)
      have hrun : ∀ w', (execOp a.eval o).run P w' = .ok (.value (.bool (ao.isNone != neg))) w' := fun w' => by
        have he := run_equal_slice_nil (P := P) w' t i ao n c hu
        obtain ⟨dst, op', type, pos, after, guard⟩ := o
        simp only at ho
        subst ho
        have ec : a.eval (.const (.slice none 0 0)) = .slice none 0 0 := rfl
        generalize a.eval = ρ at e1 ec ⊢
        rcases hop with ⟨rfl, rfl⟩ | ⟨rfl, rfl⟩
        · simp [execOp, eqGuard, binOp, e1, ec, he, go_sem]
        · simp [execOp, eqGuard, binOp, e1, ec, he, go_sem]
      refine ⟨.c (.v (.bool (ao.isNone != neg))), ⟨_, fun w' _ => hrun w', rfl⟩, ?_⟩
      cases ao with
      | none =>
        rw [hao rfl] at h1
        have := (agree_spec h1).1
        cases neg <;> exact this
      | some ad =>
        have : k (.c (.v (.bool neg))) = some res := by
          cases em
          · exact h1
          · exact (agree_spec h1).2
        cases neg <;> exact this
  · split at h
    · rename_i b hb
      simp only [chk_some] at h
      obtain ⟨hi, h1⟩ := h
      have hu : P.underlying t = some (.interface (P.methodsAt t)) := by
        unfold ifaceTy at hi
        split at hi
        · rename_i ms hm; simp [Program.methodsAt, hm]
        · cases hi
      have hy : y = .const .nilIface := by
        by_cases hn : isNilI y = true
        · unfold isNilI at hn
          split at hn
          · rfl
          · cases hn
        · simp only [Bool.eq_false_iff.2 hn, cond_false] at hb; cases hb
      subst hy
      simp only [isNilI, cond_true] at hb
      obtain ⟨pv, h2, h3⟩ := Option.bind_eq_some_iff.1 hb
      refine StR.of h1 fun hT => ?_
      have e1 := ev_sound r hT h2
      obtain ⟨v, e2, hv⟩ : ∃ v, a.eval x = v ∧ ((b = false ∧ v = .nilIface) ∨ (b = true ∧ ∃ t p, v = .iface t p)) := by
        unfold asErr at h3
        split at h3
        · simp only [Option.some.injEq] at h3
          subst h3
          exact ⟨_, rfl, e1⟩
        · cases h3
      have ec : a.eval (.const .nilIface) = .nilIface := rfl
      refine ⟨_, fun w' _ => ?_, rfl⟩
      obtain ⟨dst, op', type, pos, after, guard⟩ := o
      simp only at ho
      subst ho
      generalize a.eval = ρ at e2 ec ⊢
      rcases hv with ⟨rfl, rfl⟩ | ⟨rfl, te, pe, rfl⟩
      · have he := run_equal_nil_nil (P := P) w' t hu
        rcases hop with ⟨rfl, rfl⟩ | ⟨rfl, rfl⟩
        · simp [execOp, eqGuard, binOp, e2, ec, he, go_sem]
        · simp [execOp, eqGuard, binOp, e2, ec, he, go_sem]
      · have he := run_equal_held_nil (P := P) w' t te pe hu
        rcases hop with ⟨rfl, rfl⟩ | ⟨rfl, rfl⟩
        · simp [execOp, eqGuard, binOp, e2, ec, he, go_sem]
        · simp [execOp, eqGuard, binOp, e2, ec, he, go_sem]
    · exact st_scalar r (fun cs b e => by rw [ho] at e; cases e) (fun z hz => by rw [ho] at hz; simpa [Op.operands] using hz) h
end
end Go.Den
