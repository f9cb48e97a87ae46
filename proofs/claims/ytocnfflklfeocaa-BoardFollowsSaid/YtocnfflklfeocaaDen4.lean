/- The operations that leave the world alone, continued: memory that is read, calls. No condition of its own. -/
import Derived.Test.YtocnfflklfeocaaDen3
namespace Go.Den
open Go.Eng
set_option linter.unusedVariables false
set_option linter.unusedSectionVars false
set_option linter.unusedSimpArgs false
variable [CT : Ctx]

section
variable {P : Program} {env : Env} {F : Fr} {σ : AState} {γ : Gh} {a : Act} {w : World} {tg : Tag} {o : Oper} {α : Type} {k : PV → Option α} {res : α}

theorem cellsIs_spec {t : TypeId} {n : Nat} (h : cellsIs P t n = true) : ∃ i, P.info? t = some i ∧ i.size = n := by
  unfold cellsIs at h
  split at h
  · rename_i i hi; exact ⟨i, hi, Nat.eq_of_beq_eq_true h⟩
  · cases h
theorem flatIs_spec {t : TypeId} (h : flatIs P t = true) : aggOf P t = some false := by
  unfold flatIs at h
  split at h
  · rename_i b hb; rw [hb]; simp at h; rw [h]
  · cases h
theorem inb_spec {i : Int} {n : Nat} (h : inb i n = true) : 0 ≤ i ∧ i < (n : Int) := by simpa [inb] using h
theorem lt_of_get {A : Type} {l : List A} {i : Nat} {x : A} (h : l[i]? = some x) : i < l.length := (List.getElem?_eq_some_iff.1 h).1

theorem aggIs_spec' {t : TypeId} (h : aggIs P t = true) : aggOf P t = some true := by
  unfold aggIs at h
  split at h
  · rename_i b hb; rw [hb, h]
  · cases h
theorem selW_spec {l : List Cv} {sz len i : Nat} (hi : i < len) (hl : len * sz = l.length) : ∀ {m : Nat} {cs : List Cv}, m ≤ sz → selW l sz len i m = some cs → cs = (l.drop (i * sz + (sz - m))).take m
  | 0, cs, _, h => by simp only [selW, Option.some.injEq] at h; subst h; simp
  | m + 1, cs, hm, h => by
    simp only [selW, chk_some, Option.bind_eq_some_iff, Option.some.injEq] at h
    obtain ⟨hc, c, h1, r, h2, rfl⟩ := h
    have hc := Nat.eq_of_beq_eq_true hc
    have hg := col_get hc hi
    have hle : i * sz + sz ≤ l.length := by
      rw [← hl, ← Nat.succ_mul]
      exact Nat.mul_le_mul_right _ hi
    have hlt : i * sz + (sz - (m + 1)) < l.length := by omega
    rw [Nat.zero_add, List.getElem?_eq_getElem hlt] at hg
    have := selC_spec h1 hg
    rw [List.drop_eq_getElem_cons hlt, List.take_succ_cons, this, selW_spec hi hl (by omega) h2]
    congr 3
    omega
theorem st_index (r : Rel F σ γ a w) {t : TypeId} {x i : Operand} (ho : o.op = .index t x i) (h : idxS P σ tg t x i k = some res) : StR P σ γ a w tg o k res := by
  simp only [idxS, Option.bind_eq_some_iff] at h
  obtain ⟨pv, h1, iv, h2, ⟨ki, n⟩, h3, h4⟩ := h
  split at h4
  · rename_i l
    split at h4
    · rename_i len e hu
      by_cases hag : aggIs P e = true
      · simp only [hag, cond_true, Option.bind_eq_some_iff, chk_some, req_some] at h4
        obtain ⟨inf, hi, hl, hb, ds, hs, h5⟩ := h4
        refine StR.of h5 fun hT => ?_
        have e2 := ev_int r hT h2 h3
        obtain ⟨cs, e1, hv⟩ := ev_sound r hT h1
        have hb' := inb_spec (imp_true hb hT)
        have hl := Nat.eq_of_beq_eq_true hl
        have hds := selW_spec (i := n.toNat) (by omega) hl (Nat.le_refl _) hs
        rw [Nat.sub_self, Nat.add_zero] at hds
        have hle : n.toNat * inf.size + inf.size ≤ l.length := by
          rw [← hl, ← Nat.succ_mul]
          exact Nat.mul_le_mul_right _ (by omega)
        have hp : partPV P e l (n.toNat * inf.size) = some (.agg ((l.drop (n.toNat * inf.size)).take inf.size)) := by
          simp only [partPV, aggIs_spec' hag, hi, Option.bind_some, cond_true, chk, Nat.ble_eq_true_of_le hle]
        obtain ⟨v, h6, h7, _⟩ := partPV_spec (P := P) hp hv
        rw [← hds] at h7
        refine ⟨v, fun w' _ => ?_, h7⟩
        have hsr : (sizeOf e).run P w' = .ok inf.size w' := by simp [sizeOf, typeInfo, hi, go_sem]
        have h6 := h6 w'
        rw [Array.toArray_toList] at h6
        obtain ⟨dst, op, type, pos, after, guard⟩ := o
        simp only at ho
        subst ho
        generalize a.eval = ρ at e1 e2 ⊢
        simp only [execOp, Instr.index, Sem.run_bind, e1, e2, asIntOf, Sem.run_pure, Result.andThen_ok, run_underlying hu, hb', and_self, if_true, hsr, h6]
      rw [Bool.not_eq_true] at hag
      simp only [hag, cond_false] at h4
      simp only [chk_some, Bool.and_eq_true, req_some, Option.bind_eq_some_iff] at h4
      obtain ⟨⟨hc, hl, hf⟩, hb, c, hs, h5⟩ := h4
      obtain ⟨inf, hi, hsz⟩ := cellsIs_spec hc
      refine StR.of h5 fun hT => ?_
      have e2 := ev_int r hT h2 h3
      obtain ⟨cs, e1, hv⟩ := ev_sound r hT h1
      have hb' := inb_spec (imp_true hb hT)
      have hlen : len = l.length := Nat.eq_of_beq_eq_true hl
      have hlt : n.toNat < l.length := by omega
      have hsel := selC_spec hs (List.getElem?_eq_getElem hlt)
      obtain ⟨v, h6, h7⟩ := hv.get (List.getElem?_eq_getElem hlt)
      rw [hsel] at h7
      refine ⟨v, fun w' _ => ?_, h7⟩
      have hag := flatIs_spec hf
      have h6' : cs[n.toNat]? = some v := by simpa using h6
      have hsr : (sizeOf e).run P w' = .ok inf.size w' := by simp [sizeOf, typeInfo, hi, go_sem]
      have hpart : (part e cs n.toNat).run P w' = .ok v w' := by simp [part, aggOf_run hag, h6', go_sem]
      obtain ⟨dst, op, type, pos, after, guard⟩ := o
      simp only at ho
      subst ho
      generalize a.eval = ρ at e1 e2 ⊢
      simp only [execOp, Instr.index, Sem.run_bind, e1, e2, asIntOf, Sem.run_pure, Result.andThen_ok, run_underlying hu, hb', and_self, if_true, hsr, hsz, Nat.mul_one, hpart]
    · cases h4
  · rename_i s
    split at h4
    · rename_i hu
      obtain ⟨b, h5, h6⟩ := Option.bind_eq_some_iff.1 h4
      refine StR.of h6 fun hT => ⟨.int .u8 (b.toNat : Int), fun w' _ => ?_, rfl⟩
      have e2 := ev_int r hT h2 h3
      have e1 : a.eval x = .string s := ev_sound r hT h1
      rw [tagB_spec.2 hT] at h5
      have h5' : strAt s n = some b := h5
      unfold strAt at h5'
      have hnn : 0 ≤ n := by
        by_cases hn : 0 ≤ n
        · exact hn
        · simp [hn] at h5'
      simp only [hnn, decide_true, cond_true] at h5'
      obtain ⟨dst, op, type, pos, after, guard⟩ := o
      simp only at ho
      subst ho
      generalize a.eval = ρ at e1 e2 ⊢
      simp [execOp, Instr.index, e1, e2, asIntOf, run_underlying hu, hnn, h5', go_sem]
    · cases h4
  · cases h4

/-! ### builds -/
theorem evs_spec (r : Rel F σ γ a w) (hT : tagT σ tg) : ∀ {l : List Operand} {vs : List PV}, evs σ tg l = some vs → vs.length = l.length ∧ ∀ (i : Nat) (x : Operand) (v : PV), l[i]? = some x → vs[i]? = some v → PR σ.objs γ w v (a.eval x)
  | [], vs, h => by simp only [evs, Option.some.injEq] at h; subst h; exact ⟨rfl, fun i x v hx => by simp at hx⟩
  | x :: l, vs, h => by
    simp only [evs, Option.bind_eq_some_iff, Option.some.injEq] at h
    obtain ⟨v, h1, us, h2, rfl⟩ := h
    obtain ⟨e, ih⟩ := evs_spec r hT h2
    refine ⟨by simp [e], fun i y u hy hu => ?_⟩
    cases i with
    | zero => simp at hy hu; subst hy; subst hu; exact ev_sound r hT h1
    | succ i => exact ih i y u (by simpa using hy) (by simpa using hu)
theorem cellOk_spec {c : Cv} {v : Value} (h : cellOk c = true) (hv : VR σ.objs γ w c v) : v.oneCell' = true := by
  cases c with
  | v x => simp only [VR] at hv; subst hv; exact h
  | sl e xs => obtain ⟨_, ao, cap, us, e1, _⟩ := hv; simp at e1; rw [e1]; rfl
  | os o => obtain ⟨_, _, ao, n, c, rfl⟩ := hv; rfl
  | ptr o off => obtain ⟨_, b, _, rfl⟩ := hv; rfl
  | fn f caps => obtain ⟨_, l, rfl, _⟩ := hv; rfl
  | e0 => obtain ⟨ao, rfl⟩ := hv; rfl
  | er b => rcases hv with ⟨_, rfl⟩ | ⟨_, _, _, rfl⟩ <;> rfl
theorem cellsPV_spec {pv : PV} {l : List Cv} {v : Value} (h : cellsPV pv = some l) (hv : PR σ.objs γ w pv v) : VRL σ.objs γ w l v.cells.toList := by
  cases pv with
  | c c =>
    simp only [cellsPV, chk_some, Option.some.injEq] at h
    obtain ⟨h0, rfl⟩ := h
    have h1 : v.cells = #[v] := by
      have := cellOk_spec h0 hv
      cases v <;> first | rfl | (simp [Value.oneCell'] at this)
    rw [h1]
    exact ⟨v, [], rfl, hv, rfl⟩
  | agg l' =>
    simp only [cellsPV, Option.some.injEq] at h
    subst h
    obtain ⟨cs, rfl, h1⟩ := hv
    exact h1
  | _ => simp [cellsPV] at h

theorem fill_eq (off : Nat) : ∀ (vs : List Value) (cells : Array Value) (i : Nat), off + i + vs.length ≤ cells.size → (List.foldl (fun cs (p : Value × Nat) => cs.setIfInBounds (off + p.2) p.1) cells (vs.zipIdx i)).toList = cells.toList.take (off + i) ++ vs ++ cells.toList.drop (off + i + vs.length)
  | [], cells, i, _ => by simp
  | v :: vs, cells, i, h => by
    simp only [List.zipIdx_cons, List.foldl_cons]
    rw [fill_eq off vs _ (i + 1) (by simp at h ⊢; omega)]
    simp only [Array.toList_setIfInBounds, List.length_cons]
    have hlt : off + i < cells.toList.length := by simp at h ⊢; omega
    rw [show off + (i + 1) = off + i + 1 by omega]
    have h1 : (cells.toList.set (off + i) v).take (off + i + 1) = cells.toList.take (off + i) ++ [v] := by
      rw [List.take_add_one, List.getElem?_set_self hlt, List.take_set_of_le (Nat.le_refl _)]
      rfl
    have h2 : (cells.toList.set (off + i) v).drop (off + i + 1 + vs.length) = cells.toList.drop (off + i + (vs.length + 1)) := by
      rw [List.drop_set_of_lt (by omega)]
      congr 1; omega
    rw [h1, h2]
    simp
theorem partsOf_spec (r : Rel F σ γ a w) (hT : tagT σ tg) : ∀ {l : List (Nat × Operand)} {ps : List (Nat × List Cv)}, partsOf σ tg l = some ps → ps.length = l.length ∧ ∀ (j : Nat) (p : Nat × Operand) (q : Nat × List Cv), l[j]? = some p → ps[j]? = some q → q.1 = p.1 ∧ VRL σ.objs γ w q.2 (a.eval p.2).cells.toList
  | [], ps, h => by simp only [partsOf, Option.some.injEq] at h; subst h; exact ⟨rfl, fun i x v hx => by simp at hx⟩
  | (i, x) :: l, ps, h => by
    simp only [partsOf, Option.bind_eq_some_iff, Option.some.injEq] at h
    obtain ⟨v, h1, c, h2, q, h3, rfl⟩ := h
    obtain ⟨e, ih⟩ := partsOf_spec r hT h3
    refine ⟨by simp [e], fun j p u hp hu => ?_⟩
    cases j with
    | zero => simp at hp hu; subst hp; subst hu; exact ⟨rfl, cellsPV_spec h2 (ev_sound r hT h1)⟩
    | succ j => exact ih j p u (by simpa using hp) (by simpa using hu)
theorem fillC_spec {place : Nat → Option (Nat × Nat)} : ∀ {ps : List (Nat × List Cv)} {vals : List (Nat × Value)} {cs l : List Cv} {cells : Array Value}, fillC place cs ps = some l → VRL σ.objs γ w cs cells.toList → ps.length = vals.length →
    (∀ (j : Nat) (p : Nat × Value) (q : Nat × List Cv), vals[j]? = some p → ps[j]? = some q → q.1 = p.1 ∧ VRL σ.objs γ w q.2 p.2.cells.toList) → ∃ out, Instr.fill place cells vals = some out ∧ VRL σ.objs γ w l out.toList
  | [], [], cs, l, cells, h, hv, _, _ => by simp only [fillC, Option.some.injEq] at h; subst h; exact ⟨cells, rfl, hv⟩
  | (i, c) :: ps, (i', v) :: vals, cs, l, cells, h, hv, hl, hp => by
    simp only [fillC, Option.bind_eq_some_iff, chk_some, Bool.and_eq_true] at h
    obtain ⟨⟨off, sz⟩, h1, ⟨h2, h3⟩, h4⟩ := h
    obtain ⟨rfl, hc⟩ := hp 0 _ _ rfl rfl
    have e2 : c.length = sz := Nat.eq_of_beq_eq_true h2
    have e3 : off + c.length ≤ cs.length := Nat.le_of_ble_eq_true h3
    have lc := hc.length
    have lcs := hv.length
    simp only [Array.length_toList] at lc lcs
    have hz : v.cells.size = sz := by omega
    have hfit : ¬ (off + v.cells.size > cells.size) := by omega
    have hf : (v.cells.zipIdx.foldl (fun cs (p : Value × Nat) => cs.setIfInBounds (off + p.2) p.1) cells).toList = cells.toList.take off ++ v.cells.toList ++ cells.toList.drop (off + v.cells.toList.length) := by
      have := fill_eq off v.cells.toList cells 0 (by simp; omega)
      simp only [Nat.add_zero] at this
      rw [← this]
      rw [← Array.foldl_toList]
      congr 2
      simp
    have hv' : VRL σ.objs γ w (cs.take off ++ c ++ cs.drop (off + c.length)) (v.cells.zipIdx.foldl (fun cs (p : Value × Nat) => cs.setIfInBounds (off + p.2) p.1) cells).toList := by
      rw [hf]
      refine ((hv.take off).append hc).append ?_
      have : off + c.length = off + v.cells.toList.length := by simp; omega
      rw [this]
      exact hv.drop _
    obtain ⟨out, h5, h6⟩ := fillC_spec h4 hv' (by simpa using hl) (fun j p q hj hq => hp (j + 1) p q (by simpa using hj) (by simpa using hq))
    refine ⟨out, ?_, h6⟩
    simp only [Instr.fill, h1]
    rw [if_neg (by simp [hz, hfit]; omega)]
    exact h5
  | [], _ :: _, _, _, _, _, _, hl, _ => by simp at hl
  | _ :: _, [], _, _, _, _, _, hl, _ => by simp at hl
theorem zeroCs_spec {t : TypeId} {l : List Cv} (h : zeroCs P t = some l) : ∃ i z, P.info? t = some i ∧ i.zero = some z ∧ VRL σ.objs γ w l z.cells.toList := by
  simp only [zeroCs, Option.bind_eq_some_iff, Option.some.injEq] at h
  obtain ⟨i, h1, z, h2, rfl⟩ := h
  exact ⟨i, z, h1, h2, VRL.cvs _⟩
theorem st_build (r : Rel F σ γ a w) {t : TypeId} {parts : Array (Nat × Operand)} (ho : o.op = .build t parts) (h : ((zeroCs P t).bind fun z => (partsOf σ tg parts.toList).bind fun ps => chk (placesOk P t) ((fillC (placeOf P t) z ps).bind fun l => k (.agg l))) = some res) : StR P σ γ a w tg o k res := by
  simp only [Option.bind_eq_some_iff, chk_some] at h
  obtain ⟨zc, h1, ps, h2, h3, l, h4, h5⟩ := h
  refine StR.of h5 fun hT => ?_
  obtain ⟨i, z, hi, hz, hzv⟩ := zeroCs_spec (P := P) (σ := σ) (γ := γ) (w := w) h1
  obtain ⟨e1, h6⟩ := partsOf_spec r hT h2
  obtain ⟨out, h7, h8⟩ := fillC_spec (vals := (parts.map fun (p : Nat × Operand) => (p.1, a.eval p.2)).toList) h4 hzv (by simp [e1]) (fun j p q hp hq => by
    simp only [Array.toList_map, List.getElem?_map, Option.map_eq_some_iff] at hp
    obtain ⟨p', hp', rfl⟩ := hp
    exact h6 j p' q hp' hq)
  refine ⟨.agg out, fun w' _ => ?_, out, rfl, h8⟩
  obtain ⟨dst, op, type, pos, after, guard⟩ := o
  simp only at ho
  subst ho
  have hzr : (zeroValue t).run P w' = .ok z w' := by simp [zeroValue, typeInfo, hi, hz, go_sem]
  have hb : (Instr.build t (parts.map fun (p : Nat × Operand) => (p.1, a.eval p.2))).run P w' = .ok (.agg out) w' := by
    generalize hvals : (parts.map fun (p : Nat × Operand) => (p.1, a.eval p.2)) = vals at h7
    unfold placesOk at h3
    have hpl : placeOf P t = placeOf P t := rfl
    split at h3
    · rename_i fs hu
      have hpe : placeOf P t = fun i => (fs[i]?).bind fun (f : Field) => (P.info? f.type).bind fun inf => some (f.offset, inf.size) := by funext i; simp [placeOf, hu]
      rw [hpe] at h7
      have hm : ∃ places : Array (Nat × Nat), (fs.mapM fun (f : Field) => (do pure (f.offset, ← sizeOf f.type) : Sem (Nat × Nat))).run P w' = .ok places w' ∧ (fun (i : Nat) => places[i]?) = fun (i : Nat) => (fs[i]?).bind fun (f : Field) => (P.info? f.type).bind fun inf => some (f.offset, inf.size) := by
        have hall : ∀ f ∈ fs.toList, ∃ inf, P.info? f.type = some inf := fun f hf => by
          have := List.all_eq_true.1 h3 f hf
          exact Option.isSome_iff_exists.1 this
        refine ⟨(fs.toList.map fun (f : Field) => (f.offset, ((P.info? f.type).map (·.size)).getD 0)).toArray, ?_, ?_⟩
        · rw [Array.mapM_eq_mapM_toList]
          have := mapM_list_run (P := P) (w := w') (fun f : Field => (do pure (f.offset, ← sizeOf f.type) : Sem (Nat × Nat))) fs.toList (fs.toList.map fun (f : Field) => (f.offset, ((P.info? f.type).map (·.size)).getD 0)) (fun j f y hf hy => by
            simp only [List.getElem?_map, hf, Option.map_some, Option.some.injEq] at hy
            subst hy
            obtain ⟨inf, hinf⟩ := hall f (List.mem_of_getElem? hf)
            simp [sizeOf, typeInfo, hinf, go_sem]) (by simp)
          simp only [Sem.run_map] 
          rw [this]
          simp
        · funext i
          simp only [List.getElem?_toArray, List.getElem?_map]
          cases hf : fs[i]? with
          | none => simp [hf]
          | some f =>
            obtain ⟨inf, hinf⟩ := hall f (by simpa using Array.mem_of_getElem? hf)
            simp [hf, hinf]
      obtain ⟨places, hm1, hm2⟩ := hm
      unfold Instr.build
      simp only [Sem.run_bind, hzr, Result.andThen_ok, run_underlying hu, hm1, hm2, h7, Sem.run_pure]
    · rename_i m e hu
      obtain ⟨inf, hinf⟩ := Option.isSome_iff_exists.1 h3
      have hpe : placeOf P t = fun i => some (i * inf.size, inf.size) := by funext i; simp [placeOf, hu, hinf]
      rw [hpe] at h7
      have hsr : (sizeOf e).run P w' = .ok inf.size w' := by simp [sizeOf, typeInfo, hinf, go_sem]
      unfold Instr.build
      simp only [Sem.run_bind, hzr, Result.andThen_ok, run_underlying hu, hsr, h7, Sem.run_pure]
    · cases h3
  simp only [execOp, Sem.run_bind]
  rw [hb]
  rfl
end
end Go.Den
