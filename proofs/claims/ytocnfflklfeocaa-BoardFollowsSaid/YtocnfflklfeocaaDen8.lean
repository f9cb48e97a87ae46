/- The operations that make or write memory, continued: rows. No condition of its own. -/
import Derived.Test.YtocnfflklfeocaaDen7
namespace Go.Den
open Go.Eng
set_option linter.unusedVariables false
set_option linter.unusedSectionVars false
set_option linter.unusedSimpArgs false
variable [CT : Ctx]

theorem cvs_cv1 {vs : List Value} {c : Cv} (h : cv1 (cvs vs) = some c) : ∃ v, vs = [v] ∧ c = .v v := by
  cases vs with
  | nil => cases h
  | cons v r => cases r with
    | nil => simp only [cvs, cv1, Option.some.injEq] at h; exact ⟨v, rfl, h.symm⟩
    | cons _ _ => cases h
theorem cvs_take : ∀ (vs : List Value) (n : Nat), (cvs vs).take n = cvs (vs.take n)
  | [], n => by simp [cvs]
  | v :: r, 0 => by simp [cvs]
  | v :: r, n + 1 => by simp [cvs, cvs_take r n]
theorem cvs_drop : ∀ (vs : List Value) (n : Nat), (cvs vs).drop n = cvs (vs.drop n)
  | [], n => by simp [cvs]
  | v :: r, 0 => by simp [cvs]
  | v :: r, n + 1 => by simp [cvs, cvs_drop r n]
/-- plain data -/
theorem zero_rep {w : World} {S : Nat → Prop} (τ : Ty) : ∀ {x : D τ} {vs : List Value}, toD [] τ (cvs vs) = some x → Rep w S τ x [] vs := by
  induction τ with
  | int k =>
    intro x vs h
    obtain ⟨c, h1, h2⟩ := Option.bind_eq_some_iff.1 h
    obtain ⟨v, rfl, rfl⟩ := cvs_cv1 h1
    have := cvInt_spec h2
    simp only [Cv.v.injEq] at this
    exact ⟨rfl, by rw [this]⟩
  | bool =>
    intro x vs h
    obtain ⟨c, h1, h2⟩ := Option.bind_eq_some_iff.1 h
    obtain ⟨v, rfl, rfl⟩ := cvs_cv1 h1
    have := cvBool_spec h2
    simp only [Cv.v.injEq] at this
    exact ⟨rfl, by rw [this]⟩
  | str =>
    intro x vs h
    obtain ⟨c, h1, h2⟩ := Option.bind_eq_some_iff.1 h
    obtain ⟨v, rfl, rfl⟩ := cvs_cv1 h1
    have := cvStr_spec h2
    simp only [Cv.v.injEq] at this
    exact ⟨rfl, by rw [this]⟩
  | nil =>
    intro x vs h
    cases vs with
    | nil => exact ⟨rfl, rfl⟩
    | cons _ _ => cases h
  | sl e _ =>
    intro x vs h
    obtain ⟨c, h1, h2⟩ := Option.bind_eq_some_iff.1 h
    obtain ⟨v, rfl, rfl⟩ := cvs_cv1 h1
    obtain ⟨rfl, rfl⟩ := ofSl_v h2
    exact ⟨rfl, none, 0, [], rfl, Nat.le_refl _, rfl, fun hn => absurd rfl hn⟩
  | osl i e _ =>
    intro x vs h
    obtain ⟨c, h1, h2⟩ := Option.bind_eq_some_iff.1 h
    obtain ⟨v, rfl, rfl⟩ := cvs_cv1 h1
    obtain ⟨rfl, rfl⟩ := ofOsl_v h2
    exact ⟨_, [], rfl, .inl ⟨rfl, ⟨_, rfl⟩, rfl, rfl⟩, rfl⟩
  | obx e _ =>
    intro x vs h
    obtain ⟨bl, h1, _⟩ := Option.bind_eq_some_iff.1 h
    obtain ⟨o, off, _, _, hob⟩ := ownB_spec h1
    simp at hob
  | err =>
    intro x vs h
    obtain ⟨c, h1, h2⟩ := Option.bind_eq_some_iff.1 h
    obtain ⟨v, rfl, rfl⟩ := cvs_cv1 h1
    exact ⟨rfl, v, rfl, cvErr_spec (objs := []) (γ := ⟨fun _ => (undef, none), fun _ => False⟩) (w := w) h2 rfl⟩
  | bld t i =>
    intro x vs h
    obtain ⟨c, h1, _⟩ := Option.bind_eq_some_iff.1 h
    obtain ⟨o, off, _, _, hob⟩ := bldC_spec h1
    simp at hob
  | st f q ihf ihq =>
    intro x vs h
    simp only [toD, Option.bind_eq_some_iff] at h
    obtain ⟨x1, h1, x2, h2, hx⟩ := h
    have hx : (x1, x2) = x := Option.some.inj hx
    subst hx
    rw [cvs_take] at h1
    rw [cvs_drop] at h2
    exact ⟨_, _, [], [], (List.take_append_drop f.size vs).symm, rfl, ihf h1, ihq h2⟩
theorem made_flatten (z : Array Value) (hz : 0 < z.size) : ∀ n : Nat, (madeCells z (n * z.size)).toList = (List.replicate n z.toList).flatten
  | 0 => by simp [madeCells]
  | n + 1 => by
    have ih := made_flatten z hz n
    simp only [madeCells, Array.toList_map, Array.toList_range] at ih ⊢
    rw [List.replicate_succ, List.flatten_cons, ← ih, show (n + 1) * z.size = z.size + n * z.size by rw [Nat.add_mul]; omega, List.range_add, List.map_append, List.map_map]
    congr 1
    · apply List.ext_getElem
      · simp
      · intro i h1 h2
        simp at h2
        simp [Nat.mod_eq_of_lt h2, h2]
    · apply List.map_congr_left
      intro i _
      simp
theorem RepL.replicate' {A : Type} {R : A → List Value → Prop} {d : A} {cd : List Value} (hd : R d cd) (n : Nat) : RepL R (List.replicate n d) (List.replicate n cd).flatten := RepL.replicate hd n

section
variable {P : Program} {env : Env} {F : Fr} {σ : AState} {γ : Gh} {a : Act} {w : World} {o : Oper} {α : Type} {k : AState → Option α} {res : α} {Q : Exit → Act → World → Prop}

theorem zeroOf_spec {i : TypeId} {τ : Ty} {x : D τ} (h : zeroOf P i τ = some x) : ∃ inf z, P.info? i = some inf ∧ inf.zero = some z ∧ inf.size = τ.size ∧ z.cells.size = τ.size ∧ 0 < τ.size ∧ ∀ (w : World) (S : Nat → Prop), Rep w S τ x [] z.cells.toList := by
  simp only [zeroOf, Option.bind_eq_some_iff, chk_some, Bool.and_eq_true, Bool.not_eq_true'] at h
  obtain ⟨inf, h1, z, h2, ⟨h3, h4, h5⟩, h6⟩ := h
  have h3 := Nat.eq_of_beq_eq_true h3
  refine ⟨inf, z, h1, h2, h3, Nat.eq_of_beq_eq_true h4, ?_, fun w S => zero_rep τ h6⟩
  rcases Nat.eq_zero_or_pos τ.size with h | h
  · rw [h3, h] at h5; cases h5
  · exact h
/-- a new row -/
theorem ef_row {objs1 : List OB} {i : TypeId} {τ : Ty} {xs : List (D τ)} {cells : Array Value} {σ' : AState} (r : Rel F σ γ a w) (f1 : Frz F σ.prO σ.objs γ w objs1) {cap : Nat} (hcap : xs.length ≤ cap) (hcm : cap ≤ maxLen) (hsz : cells.size = cap * τ.size)
    (hrep : RepL (fun x c => Rep w (Imm objs1 γ w) τ x [] c) xs (cells.toList.take (xs.length * τ.size)))
    (hrun : (execOp a.eval o).run P w = .ok (.value (.slice (some ⟨w.heap.size, 0, none⟩) xs.length cap)) (w.alloc (.cells cells i)))
    (hput : AState.new { σ with objs := objs1 } o.dst (.arr i τ xs false) (.c (.os objs1.length)) = some σ') (hk : k σ' = some res) : EfA P F σ γ a w o k res Q := by
  have hc := alloc_chg w (.cells cells i)
  obtain ⟨ho, K⟩ := push_fresh (news := [.arr i τ xs false]) (gs := [(.slice (some ⟨w.heap.size, 0, none⟩) xs.length cap, some w.heap.size)]) (M := [w.heap.size]) f1.o hc rfl (by simp) (by simp) (fun b hb => by
      simp at hb; subst hb; exact ⟨Nat.le_refl _, by rw [alloc_size]; omega⟩) (fun K j ob g hj hg => by
      obtain ⟨rfl, rfl⟩ := one_lt hj
      obtain ⟨_, rfl⟩ := one_lt hg
      exact ⟨⟨_, .inr ⟨w.heap.size, cap, cells, rfl, rfl, Row.of (by have := alloc_blk w cells i; unfold Blk at this; simpa using this), hcap, hcm, hsz, rfl⟩, RepL.keep K hrep⟩, rfl⟩)
  have hK : Keep σ.objs γ w (objs1 ++ [.arr i τ xs false]) _ _ σ.objs.length := f1.keep.trans (by rw [← f1.len]; exact K)
  obtain ⟨h1, h2⟩ := ef_put r hK ho (f1.same.trans sameLen_append (by rw [f1.len]; exact Nat.le_refl _)) (fun o' ho' hp => by rw [List.getElem?_append_left (by rw [f1.len]; exact ho')]; exact f1.prot o' hp) hput (v := .slice (some ⟨w.heap.size, 0, none⟩) xs.length cap)
    ⟨by simp, by have := upd_ge (γ := γ) (n := objs1.length) (j := 0) (gs := [(Value.slice (some ⟨w.heap.size, 0, none⟩) xs.length cap, some w.heap.size)]) rfl; rw [Nat.add_zero] at this; rw [this], _, _, _, rfl⟩
  exact EfA.val hrun hc hk h1 h2
theorem room_spec {n b : Nat} (h : room n b = true) (hb : Nat.beq b 0 = false) : n * b ≤ 140737488355328 ∧ n ≤ 140737488355328 := by
  have h1 := Nat.le_of_ble_eq_true h
  have h2 : 0 < b := by
    rcases Nat.eq_zero_or_pos b with h | h
    · subst h; cases hb
    · exact h
  exact ⟨h1, Nat.le_trans (Nat.le_mul_of_pos_right n h2) h1⟩
theorem ef_make (r : Rel F σ γ a w) {t : TypeId} {l c : Operand} (ho : o.op = .makeSlice t l c) (h : makeE P σ o t l c k = some res) : EfA P F σ γ a w o k res Q := by
  simp only [makeE, Option.bind_eq_some_iff, chk_some, req_some, Bool.and_eq_true, Bool.not_eq_true'] at h
  obtain ⟨i, hu, τ, hτ, z, hz, u, h1, ⟨kn, n⟩, h2, v, h3, ⟨km, m⟩, h4, inf, hinf, ⟨hby, hpure⟩, ⟨hn0, hnm, hroom⟩, σ', h5, h6⟩ := h
  have hu := elemOf_spec hu
  obtain ⟨inf', zv, hi, hzv, hsz, hzs, hpos, hzr⟩ := zeroOf_spec hz
  rw [hinf] at hi
  cases hi
  have hnm : n = m := by simpa using hnm
  subst hnm
  have hn0 : 0 ≤ n := by simpa using hn0
  obtain ⟨hr1, hr2⟩ := room_spec hroom hby
  have e1 := ev_int r (tagT_nil σ) h1 h2
  have e2 := ev_int r (tagT_nil σ) h3 h4
  have hb2 : (inf.bytes : Int) * n ≤ 281474976710656 := by
    have : ((n.toNat * inf.bytes : Nat) : Int) ≤ (140737488355328 : Nat) := Int.ofNat_le.2 hr1
    rw [Int.natCast_mul, Int.toNat_of_nonneg hn0, Int.mul_comm] at this
    omega
  have hrun0 := run_make (P := P) w t i inf zv hu hinf hzv kn km n n hn0 (Int.le_refl _) hb2 (by omega)
  refine ef_row (xs := List.replicate n.toNat z) (cells := madeCells zv.cells (n.toNat * inf.size)) (cap := n.toNat) r (Frz.refl r.o σ.prO) (by simp) (by unfold maxLen; omega) (by simp [madeCells, hsz]) ?_ ?_ h5 h6
  · rw [hsz, ← hzs, made_flatten _ (by omega)]
    rw [List.take_of_length_le]
    · exact RepL.replicate (R := fun x c => Rep w (Imm σ.objs γ w) τ x [] c) (hzr w _) _
    · simp [hzs]
  · obtain ⟨dst, op, type, pos, after, guard⟩ := o
    simp only at ho
    subst ho
    simp only [execOp, Sem.run_bind, e1, e2, hrun0, Result.andThen_ok, Sem.run_pure, List.length_replicate]
theorem litE_spec {S : Nat → Prop} {τ : Ty} (r : ORel F σ.objs γ w) (hS : ∀ k, Imm σ.objs γ w k → S k) (hpure : τ.pure = true) : ∀ {ps : List (Nat × List Cv)} {vals : List (Nat × Value)} {xs ys : List (D τ)} {cells : Array Value}, litE σ.objs τ xs ps = some ys → RepL (fun x c => Rep w S τ x [] c) xs cells.toList → ps.length = vals.length →
    (∀ (j : Nat) (p : Nat × Value) (q : Nat × List Cv), vals[j]? = some p → ps[j]? = some q → q.1 = p.1 ∧ VRL σ.objs γ w q.2 p.2.cells.toList) → (∀ o ∈ litIds τ ps, ∀ b, (γ o).2 = some b → S b) →
    ∃ out, Instr.fill (fun i => some (i * τ.size, τ.size)) cells vals = some out ∧ RepL (fun x c => Rep w S τ x [] c) ys out.toList ∧ ys.length = xs.length ∧ out.size = cells.size
  | [], [], xs, ys, cells, h, hv, _, _, _ => by simp only [litE, Option.some.injEq] at h; subst h; exact ⟨cells, rfl, hv, rfl, rfl⟩
  | (i, c) :: ps, (i', v) :: vals, xs, ys, cells, h, hv, hl, hp, hids => by
    simp only [litE, Option.bind_eq_some_iff, chk_some] at h
    obtain ⟨d, h1, h2, h4⟩ := h
    have h2 : i < xs.length := by simpa [Nat.blt_eq] using h2
    obtain ⟨rfl, hc⟩ := hp 0 _ _ rfl rfl
    obtain ⟨hd, _⟩ := toD_spec (S := S) r hS τ h1 hc (fun o ho => hids o (by rw [idsD_pure (objs' := []) τ hpure] at ho; simp [litIds, ho]))
    rw [Ty.pure_ids τ hpure] at hd
    have hd : Rep w S τ d [] v.cells.toList := hd
    have lc := Rep.length τ hd
    have lx := hv.length (Rep.slen τ)
    have hz : v.cells.size = τ.size := by simpa using lc
    have hfit : i * τ.size + τ.size ≤ cells.size := by
      have : i * τ.size + τ.size ≤ xs.length * τ.size := by rw [← Nat.succ_mul]; exact Nat.mul_le_mul_right _ h2
      simp only [Array.length_toList] at lx
      omega
    have hf : (v.cells.zipIdx.foldl (fun cs (p : Value × Nat) => cs.setIfInBounds (i * τ.size + p.2) p.1) cells).toList = cells.toList.take (i * τ.size) ++ v.cells.toList ++ cells.toList.drop (i * τ.size + v.cells.toList.length) := by
      have := fill_eq (i * τ.size) v.cells.toList cells 0 (by simp; omega)
      simp only [Nat.add_zero] at this
      rw [← this]
      rw [← Array.foldl_toList]
      congr 2
      simp
    have hset := hv.set (Rep.slen τ) hd i h2
    rw [← lc, lc] at hf
    obtain ⟨out, h5, h6, h7, h8⟩ := litE_spec (cells := v.cells.zipIdx.foldl (fun cs (p : Value × Nat) => cs.setIfInBounds (i * τ.size + p.2) p.1) cells) r hS hpure h4 (by rw [hf]; exact hset) (by simpa using hl) (fun j p q hj hq => hp (j + 1) p q (by simpa using hj) (by simpa using hq)) (fun o ho => hids o (by simp [litIds, ho]))
    refine ⟨out, ?_, h6, by simpa using h7, ?_⟩
    · simp only [Instr.fill]
      rw [if_neg (by simp [hz]; omega)]
      exact h5
    · rw [h8]
      have := congrArg List.length hf
      simp only [Array.length_toList, List.length_append, List.length_take, List.length_drop] at this
      omega
  | [], _ :: _, _, _, _, _, _, hl, _, _ => by simp at hl
  | _ :: _, [], _, _, _, _, _, hl, _, _ => by simp at hl
theorem ef_build (r : Rel F σ γ a w) {t : TypeId} {len : Nat} {parts : Array (Nat × Operand)} (ho : o.op = .buildSlice t len parts) (h : buildE P σ o t len parts k = some res) : EfA P F σ γ a w o k res Q := by
  simp only [buildE, Option.bind_eq_some_iff, chk_some, Bool.and_eq_true] at h
  obtain ⟨i, hu, τ, hτ, z, hz, ps, h1, ⟨hle, hpure⟩, xs, h2, objs1, h3, σ', h4, h5⟩ := h
  have hu := elemOf_spec hu
  obtain ⟨inf, zv, hi, hzv, hsz, hzs, hpos, hzr⟩ := zeroOf_spec hz
  obtain ⟨e1, h6⟩ := partsOf_spec r (tagT_nil σ) h1
  obtain ⟨f1, f2⟩ := freezeL_spec r.o h3
  have hle := Nat.le_of_ble_eq_true hle
  have hmade : (madeCells zv.cells (len * inf.size)).toList = (List.replicate len zv.cells.toList).flatten := by
    rw [hsz, ← hzs]; exact made_flatten _ (by omega) len
  obtain ⟨out, h7, h8, h9, h10⟩ := litE_spec (S := Imm objs1 γ w) (cells := madeCells zv.cells (len * inf.size)) (vals := (parts.map fun (p : Nat × Operand) => (p.1, a.eval p.2)).toList) r.o f1.keep.imm hpure h2 (by
      rw [hmade]; exact RepL.replicate (R := fun x c => Rep w (Imm objs1 γ w) τ x [] c) (hzr w _) len) (by simp [e1]) (fun j p q hp hq => by
    simp only [Array.toList_map, List.getElem?_map, Option.map_eq_some_iff] at hp
    obtain ⟨p', hp', rfl⟩ := hp
    exact h6 j p' q hp' hq) f2
  have hlen : xs.length = len := by simpa using h9
  have hosz : out.size = len * τ.size := by rw [h10]; simp [madeCells, hsz]
  refine ef_row (xs := xs) (cells := out) (cap := len) r f1 (by omega) ?_ hosz ?_ ?_ h4 h5
  · unfold maxLen
    have : len ≤ len * τ.size := Nat.le_mul_of_pos_right len hpos
    omega
  · rw [List.take_of_length_le]
    · exact h8
    · simp only [Array.length_toList, hosz, hlen]; exact Nat.le_refl _
  · obtain ⟨dst, op, type, pos, after, guard⟩ := o
    simp only at ho
    subst ho
    rw [hlen]
    have hsr : (sizeOf i).run P w = .ok inf.size w := by simp [sizeOf, typeInfo, hi, go_sem]
    have hzr' : (zeroValue i).run P w = .ok zv w := by simp [zeroValue, typeInfo, hi, hzv, go_sem]
    rw [← hsz] at h7 hle hpos
    have hb : (Instr.buildSlice t len (parts.map fun (p : Nat × Operand) => (p.1, a.eval p.2))).run P w = .ok (.slice (some ⟨w.heap.size, 0, none⟩) len len) (w.alloc (.cells out i)) := by
      generalize (parts.map fun (p : Nat × Operand) => (p.1, a.eval p.2)) = vals at h7
      have hng : ¬ (len * inf.size > 2 ^ 24) := by omega
      unfold Instr.buildSlice
      simp only [Sem.run_bind, run_underlying hu, Result.andThen_ok, hsr]
      rw [if_neg hng]
      by_cases h0 : len * inf.size = 0
      · have hl0 : len = 0 := by
          rcases Nat.mul_eq_zero.1 h0 with h | h
          · exact h
          · omega
        subst hl0
        simp only [Nat.zero_mul, if_true, Sem.run_pure, Result.andThen_ok, Sem.run_bind]
        have hm0 : madeCells zv.cells 0 = #[] := by simp [madeCells]
        rw [Nat.zero_mul, hm0] at h7
        simp [h7, newRow, go_sem]
      · simp only [h0, if_false, Sem.run_bind, hzr', Result.andThen_ok, Sem.run_pure]
        have hm1 : ((Array.range (len * inf.size)).map (zv.cells[· % zv.cells.size]!)) = madeCells zv.cells (len * inf.size) := rfl
        rw [hm1, h7]
        simp [newRow, go_sem]
    simp only [execOp, Sem.run_bind]
    rw [hb]
    rfl
end
end Go.Den
