/- Data out of cells and cells out of data. No condition of its own. -/
import Derived.Test.YtocnfflklfeocaaDen1
namespace Go.Den
open Go.Eng
set_option linter.unusedVariables false
set_option linter.unusedSectionVars false
set_option linter.unusedSimpArgs false
variable [CT : Ctx]

theorem add_add (a : Addr) (j k : Nat) : (a.add j).add k = a.add (j + k) := by
  unfold Addr.add
  by_cases h : j = 0
  · subst h; simp
  · by_cases g : k = 0
    · subst g; simp [h]
    · simp [h, g, Nat.add_assoc]
theorem CellsAt.part {w : World} {a : Addr} {us : List Value} (h : CellsAt w a us) (k m : Nat) : CellsAt w (a.add k) ((us.drop k).take m) := by
  intro j v hv
  rw [add_add]
  refine h (k + j) v ?_
  rw [List.getElem?_take] at hv
  split at hv
  · simpa using hv
  · cases hv
theorem CellsAt.drop {w : World} {a : Addr} {us : List Value} (h : CellsAt w a us) (k : Nat) : CellsAt w (a.add k) (us.drop k) := by
  intro j v hv
  rw [add_add]
  exact h (k + j) v (by simpa using hv)
theorem cellsAt_blk {w : World} {b : Nat} {cur : Array Value} {i : TypeId} {fz : Nat × Nat} (h : w.heap[b]? = some (.cells cur i fz)) (off : Nat) : CellsAt w ⟨b, off, none⟩ (cur.toList.drop off) := by
  intro j v hv
  rw [adr_add]
  have : cur[off + j]? = some v := by simpa using hv
  simp [World.cell?, h, this]
theorem CellsAt.take {w : World} {a : Addr} {us : List Value} (h : CellsAt w a us) (m : Nat) : CellsAt w a (us.take m) := by
  intro j v hv
  rw [List.getElem?_take] at hv
  split at hv
  · exact h j v hv
  · cases hv
theorem CellsAt.appendL {w : World} {a : Addr} {us vs : List Value} (h : CellsAt w a (us ++ vs)) : CellsAt w a us := by
  have := CellsAt.take h us.length
  simpa using this
theorem Row.blk {w : World} {b : Nat} {cur : Array Value} {i : TypeId} (h : Row w b cur i) (off : Nat) : CellsAt w ⟨b, off, none⟩ (cur.toList.drop off) := by
  obtain ⟨fz, h, _⟩ := h
  exact cellsAt_blk h off
theorem OwnR.cells {w : World} {i : TypeId} {size : Nat} {v : Value} {M : List Nat} {n : Nat} {us : List Value} (h : OwnR w i size v M n us) (hn : n ≠ 0) : ∃ b cap, M = [b] ∧ v = .slice (some ⟨b, 0, none⟩) n cap ∧ n ≤ cap ∧ CellsAt w ⟨b, 0, none⟩ us := by
  rcases h with ⟨_, _, h, _⟩ | ⟨b, cap, cur, h1, h2, h3, h4, h5, h6, h7⟩
  · exact absurd h hn
  · refine ⟨b, cap, h1, h2, h4, ?_⟩
    have := CellsAt.take (h3.blk 0) (n * size)
    rw [List.drop_zero, h7] at this
    exact this
theorem OwnR.lt {w : World} {i : TypeId} {size : Nat} {v : Value} {M : List Nat} {n : Nat} {us : List Value} (h : OwnR w i size v M n us) : ∀ b ∈ M, b < w.heap.size := by
  intro b hb
  rcases h with ⟨h, _⟩ | ⟨b', cap, cur, h1, h2, h3, _⟩
  · rw [h] at hb; cases hb
  · rw [h1] at hb
    simp at hb
    subst hb
    exact h3.lt
/-- an owned row as data -/
theorem OwnR.sl {w : World} {S : Nat → Prop} {i : TypeId} {e : Ty} {v : Value} {M : List Nat} {xs : List (D e)} {us : List Value} (h : OwnR w i e.size v M xs.length us) (hr : RepL (fun x c => Rep w S e x [] c) xs us) (hM : ∀ b ∈ M, S b) : Rep w S (.sl e) xs [] [v] := by
  refine ⟨rfl, ?_⟩
  by_cases hx : xs = []
  · subst hx
    simp only [RepL] at hr
    subst hr
    rcases h with ⟨_, ⟨ao, rfl⟩, _⟩ | ⟨b, cap, cur, h1, rfl, h3, h4, _⟩
    · exact ⟨ao, 0, [], rfl, Nat.le_refl _, rfl, fun h => absurd rfl h⟩
    · exact ⟨_, cap, [], rfl, h4, rfl, fun h => absurd rfl h⟩
  · obtain ⟨b, cap, h1, h2, h3, h4⟩ := h.cells (fun hn => hx (List.eq_nil_of_length_eq_zero hn))
    exact ⟨_, cap, us, by rw [h2], h3, hr, fun _ => ⟨_, rfl, hM b (by simp [h1]), h4⟩⟩

theorem castL_spec {e e' : Ty} {xs : List (D e')} {ys : List (D e)} (h : castL e e' xs = some ys) : ∃ he : e' = e, he ▸ xs = ys := by
  unfold castL at h
  split at h
  · rename_i he; exact ⟨he, Option.some.inj h⟩
  · cases h

theorem ofSl_v {e : Ty} {objs : List OB} {x : Value} {xs : List (D e)} (h : ofSl e objs (.v x) = some xs) : x = .slice none 0 0 ∧ xs = [] := by
  cases x with
  | slice a l c =>
    cases a with
    | some a => simp [ofSl] at h
    | none =>
      cases l with
      | succ l => simp [ofSl] at h
      | zero =>
        cases c with
        | succ c => simp [ofSl] at h
        | zero => simp only [ofSl, Option.some.injEq] at h; exact ⟨rfl, h.symm⟩
  | _ => simp [ofSl] at h
theorem ofOsl_v {i : TypeId} {e : Ty} {objs : List OB} {x : Value} {xs : List (D e)} (h : ofOsl i e objs (.v x) = some xs) : x = .slice none 0 0 ∧ xs = [] := by
  cases x with
  | slice a l c =>
    cases a with
    | some a => simp [ofOsl] at h
    | none =>
      cases l with
      | succ l => simp [ofOsl] at h
      | zero =>
        cases c with
        | succ c => simp [ofOsl] at h
        | zero => simp only [ofOsl, Option.some.injEq] at h; exact ⟨rfl, h.symm⟩
  | _ => simp [ofOsl] at h
section
variable {F : Fr} {objs : List OB} {γ : Gh} {w : World} {S : Nat → Prop}

theorem ofSl_spec (r : ORel F objs γ w) (hS : ∀ k, Imm objs γ w k → S k) {e : Ty} {c : Cv} {xs : List (D e)} {v : Value} (h : ofSl e objs c = some xs) (hv : VR objs γ w c v) (hids : ∀ o, c = .os o → ∀ b, (γ o).2 = some b → S b) : Rep w S (.sl e) xs [] [v] := by
  cases c with
  | v x =>
    simp only [VR] at hv
    obtain ⟨rfl, rfl⟩ := ofSl_v h
    subst hv
    exact ⟨rfl, none, 0, [], rfl, Nat.le_refl _, rfl, fun hn => absurd rfl hn⟩
  | sl e' ys =>
    simp only [ofSl] at h
    obtain ⟨rfl, h⟩ := castL_spec h
    subst h
    exact Rep.mono hS (fun _ _ => rfl) _ hv (by simp)
  | os o =>
    simp only [ofSl, Option.bind_eq_some_iff] at h
    obtain ⟨ob, ho, h⟩ := h
    cases ob with
    | arr i e' ys fz =>
      simp only at h
      obtain ⟨rfl, h⟩ := castL_spec h
      subst h
      obtain ⟨us, h1, h2⟩ := r.rep o _ ho
      have hv' := hv.2.1
      subst hv'
      exact OwnR.sl h1 (h2.mono fun x c hx => Rep.mono hS (fun _ _ => rfl) _ hx (by simp)) (fun b hb => hids o rfl b (by simpa using hb))
    | _ => simp at h
  | ptr o off => simp [ofSl] at h
  | fn f caps => simp [ofSl] at h
  | er b => simp [ofSl] at h
  | e0 =>
    simp only [ofSl, Option.some.injEq] at h
    subst h
    obtain ⟨ao, rfl⟩ := hv
    exact ⟨rfl, ao, 0, [], rfl, Nat.le_refl _, rfl, fun hn => absurd rfl hn⟩

theorem ownB_spec {objs : List OB} {cs l : List Cv} (h : ownB objs cs = some l) : ∃ o off, cs = [.ptr o off] ∧ off = 0 ∧ objs[o]? = some (.box l) := by
  unfold ownB at h
  split at h
  · rename_i o off
    split at h
    · rename_i l' ho
      cases hb : Nat.beq off 0 with
      | false => rw [hb] at h; cases h
      | true =>
        rw [hb] at h
        simp only [cond_true, Option.some.injEq] at h
        subst h
        exact ⟨o, off, rfl, Nat.eq_of_beq_eq_true hb, ho⟩
    · cases h
  · cases h
theorem bldC_spec {objs : List OB} {t : TypeId} {cs : List Cv} {c : Cv} (h : bldC objs t cs = some c) : ∃ o off, cs = [.ptr o off] ∧ off = 0 ∧ objs[o]? = some (.bld t c) := by
  unfold bldC at h
  split at h
  · rename_i o off
    split at h
    · rename_i t' c' ho
      cases hb : (Nat.beq off 0 && Nat.beq t' t) with
      | false => rw [hb] at h; cases h
      | true =>
        rw [hb] at h
        simp only [cond_true, Option.some.injEq] at h
        subst h
        simp only [Bool.and_eq_true] at hb
        obtain rfl := Nat.eq_of_beq_eq_true hb.2
        exact ⟨o, off, rfl, Nat.eq_of_beq_eq_true hb.1, ho⟩
    · cases h
  · cases h
theorem cvErr_spec {objs : List OB} {γ : Gh} {w : World} {c : Cv} {x : Bool} {v : Value} (h : cvErr c = some x) (hv : VR objs γ w c v) : (x = false ∧ v = .nilIface) ∨ (x = true ∧ ∃ t p, v = .iface t p) := by
  cases c with
  | v y =>
    cases y with
    | nilIface => simp only [cvErr, Option.some.injEq] at h; subst h; exact .inl ⟨rfl, hv⟩
    | _ => simp [cvErr] at h
  | er b => simp only [cvErr, Option.some.injEq] at h; subst h; exact hv
  | _ => simp [cvErr] at h
theorem u8_rep {w : World} {S : Nat → Prop} : ∀ {xs : List (D (.int .u8))} {us : List Value}, RepL (fun x c => Rep w S (.int .u8) x [] c) xs us → us = List.map (α := Int) (Value.int .u8) xs
  | [], us, h => h
  | x :: xs, us, ⟨c, r, e, h1, h2⟩ => by
    rw [e, h1.2, u8_rep h2]
    rfl
theorem rep_u8 {w : World} {S : Nat → Prop} : ∀ xs : List (D (.int .u8)), RepL (fun x c => Rep w S (.int .u8) x [] c) xs (List.map (α := Int) (Value.int .u8) xs)
  | [] => rfl
  | x :: xs => ⟨[.int .u8 x], _, rfl, ⟨rfl, rfl⟩, rep_u8 xs⟩
def blocks (γ : Gh) (l : List Nat) : List Nat := l.flatMap fun o => (γ o).2.toList
theorem ofOsl_spec (r : ORel F objs γ w) (hS : ∀ k, Imm objs γ w k → S k) {i : TypeId} {e : Ty} {c : Cv} {xs : List (D e)} {v : Value} (h : ofOsl i e objs c = some xs) (hv : VR objs γ w c v) :
    Rep w S (.osl i e) xs (blocks γ (osId c)) [v] ∧ ∀ o, c = .os o → Mut objs o := by
  cases c with
  | v x =>
    simp only [VR] at hv
    obtain ⟨rfl, rfl⟩ := ofOsl_v h
    subst hv
    exact ⟨⟨_, [], rfl, .inl ⟨rfl, ⟨_, rfl⟩, rfl, rfl⟩, rfl⟩, fun o ho => by cases ho⟩
  | sl e' ys => simp [ofOsl] at h
  | os o =>
    simp only [ofOsl, Option.bind_eq_some_iff] at h
    obtain ⟨ob, ho, h⟩ := h
    cases ob with
    | arr i' e' ys fz =>
      cases fz
      · simp only [chk_some] at h
        obtain ⟨hi, h⟩ := h
        have hi' := Nat.eq_of_beq_eq_true hi
        subst hi'
        obtain ⟨rfl, h⟩ := castL_spec h
        subst h
        obtain ⟨us, h1, h2⟩ := r.rep o _ ho
        have hv' := hv.2.1
        subst hv'
        refine ⟨⟨_, us, rfl, ?_, h2.mono fun x c hx => Rep.mono hS (fun _ _ => rfl) _ hx (by simp)⟩, fun o' ho' => by cases ho'; exact ⟨_, ho, rfl⟩⟩
        simpa [blocks, osId] using h1
      · simp at h
    | _ => simp at h
  | ptr o off => simp [ofOsl] at h
  | fn f caps => simp [ofOsl] at h
  | er b => simp [ofOsl] at h
  | e0 =>
    simp only [ofOsl, Option.some.injEq] at h
    subst h
    obtain ⟨ao, rfl⟩ := hv
    exact ⟨⟨_, [], rfl, .inl ⟨rfl, ⟨_, rfl⟩, rfl, rfl⟩, rfl⟩, fun o ho => by cases ho⟩

theorem cv1_spec {l : List Cv} {c : Cv} (h : cv1 l = some c) : l = [c] := by
  cases l with
  | nil => cases h
  | cons a r => cases r with
    | nil => simp only [cv1, Option.some.injEq] at h; rw [h]
    | cons _ _ => cases h
theorem cvInt_spec {k : IntKind} {c : Cv} {x : Int} (h : cvInt k c = some x) : c = .v (.int k x) := by
  cases c with
  | v y =>
    cases y with
    | int k' n =>
      simp only [cvInt, chk_some, Option.some.injEq] at h
      obtain ⟨h1, rfl⟩ := h
      obtain rfl := sameKind_eq h1
      rfl
    | _ => simp [cvInt] at h
  | _ => simp [cvInt] at h
theorem cvBool_spec {c : Cv} {x : Bool} (h : cvBool c = some x) : c = .v (.bool x) := by
  cases c with
  | v y =>
    cases y with
    | bool b => simp only [cvBool, Option.some.injEq] at h; subst h; rfl
    | _ => simp [cvBool] at h
  | _ => simp [cvBool] at h
theorem cvStr_spec {c : Cv} {x : ByteArray} (h : cvStr c = some x) : c = .v (.string x) := by
  cases c with
  | v y =>
    cases y with
    | string b => simp only [cvStr, Option.some.injEq] at h; subst h; rfl
    | _ => simp [cvStr] at h
  | _ => simp [cvStr] at h
theorem VRL.one' {c : Cv} {cs : List Value} (h : VRL objs γ w [c] cs) : ∃ v, cs = [v] ∧ VR objs γ w c v := by
  obtain ⟨v, q, rfl, h2, h3⟩ := h
  simp only [VRL] at h3
  subst h3
  exact ⟨v, rfl, h2⟩
/-- DATA OUT OF CELLS -/
theorem toD_spec (r : ORel F objs γ w) (hS : ∀ k, Imm objs γ w k → S k) (τ : Ty) : ∀ {l : List Cv} {x : D τ} {cs : List Value}, toD objs τ l = some x → VRL objs γ w l cs →
    (∀ o ∈ idsD objs τ l, ∀ b, (γ o).2 = some b → S b) → Rep w S τ x (blocks γ (idsO objs τ l)) cs ∧ ∀ o ∈ idsO objs τ l, Mut objs o := by
  induction τ with
  | int k =>
    intro l x cs h hv _
    obtain ⟨c, h1, h2⟩ := Option.bind_eq_some_iff.1 h
    obtain rfl := cv1_spec h1
    obtain ⟨v, rfl, h3⟩ := hv.one'
    rw [cvInt_spec h2] at h3
    exact ⟨⟨rfl, by rw [h3]⟩, fun o ho => by simp [idsO] at ho⟩
  | bool =>
    intro l x cs h hv _
    obtain ⟨c, h1, h2⟩ := Option.bind_eq_some_iff.1 h
    obtain rfl := cv1_spec h1
    obtain ⟨v, rfl, h3⟩ := hv.one'
    rw [cvBool_spec h2] at h3
    exact ⟨⟨rfl, by rw [h3]⟩, fun o ho => by simp [idsO] at ho⟩
  | str =>
    intro l x cs h hv _
    obtain ⟨c, h1, h2⟩ := Option.bind_eq_some_iff.1 h
    obtain rfl := cv1_spec h1
    obtain ⟨v, rfl, h3⟩ := hv.one'
    rw [cvStr_spec h2] at h3
    exact ⟨⟨rfl, by rw [h3]⟩, fun o ho => by simp [idsO] at ho⟩
  | err =>
    intro l x cs h hv _
    obtain ⟨c, h1, h2⟩ := Option.bind_eq_some_iff.1 h
    obtain rfl := cv1_spec h1
    obtain ⟨v, rfl, h3⟩ := hv.one'
    exact ⟨⟨rfl, v, rfl, cvErr_spec h2 h3⟩, fun o ho => by simp [idsO] at ho⟩
  | bld t i =>
    intro l x cs h hv hids
    obtain ⟨c, h1, h2⟩ := Option.bind_eq_some_iff.1 h
    obtain ⟨o, off, rfl, rfl, hob⟩ := bldC_spec h1
    obtain ⟨v, rfl, h3⟩ := hv.one'
    obtain ⟨b, p, v', hg, hheap, hp, hvc⟩ := r.rep o _ hob
    obtain ⟨_, b', hgb, rfl⟩ := h3
    rw [hg] at hgb
    cases hgb
    obtain ⟨⟨v2, us, e2, h6, h7⟩, h5⟩ := ofOsl_spec (S := S) r hS h2 hvc
    cases e2
    have e1 : idsO objs (.bld t i) [Cv.ptr o 0] = o :: osId c := by simp [idsO, ptrId, h1]
    rw [e1]
    refine ⟨⟨b, blocks γ (osId c), p, v', us, by simp [blocks, hg], rfl, hheap, hp, h6, u8_rep h7⟩, fun o' ho' => ?_⟩
    rcases List.mem_cons.1 ho' with rfl | ho'
    · exact ⟨_, hob, rfl⟩
    · refine h5 o' ?_
      cases c <;> simp [osId] at ho'
      rw [ho']
  | nil =>
    intro l x cs h hv _
    cases l with
    | nil =>
      simp only [VRL] at hv
      subst hv
      exact ⟨⟨rfl, rfl⟩, fun o ho => by simp [idsO] at ho⟩
    | cons _ _ => cases h
  | sl e _ =>
    intro l x cs h hv hids
    obtain ⟨c, h1, h2⟩ := Option.bind_eq_some_iff.1 h
    obtain rfl := cv1_spec h1
    obtain ⟨v, rfl, h3⟩ := hv.one'
    exact ⟨ofSl_spec r hS h2 h3 fun o ho b hb => hids o (by subst ho; simp [idsD, cv1, osId]) b hb, fun o ho => by simp [idsO] at ho⟩
  | osl i e _ =>
    intro l x cs h hv hids
    obtain ⟨c, h1, h2⟩ := Option.bind_eq_some_iff.1 h
    obtain rfl := cv1_spec h1
    obtain ⟨v, rfl, h3⟩ := hv.one'
    obtain ⟨h4, h5⟩ := ofOsl_spec (S := S) r hS h2 h3
    have e1 : idsO objs (.osl i e) [c] = osId c := rfl
    rw [e1]
    refine ⟨h4, fun o ho => h5 o ?_⟩
    cases c <;> simp [osId] at ho
    rw [ho]
  | obx e ih =>
    intro l x cs h hv hids
    obtain ⟨bl, h1, h2⟩ := Option.bind_eq_some_iff.1 h
    obtain ⟨o, off, rfl, rfl, hob⟩ := ownB_spec h1
    obtain ⟨v, rfl, h3⟩ := hv.one'
    obtain ⟨b, T, cells, hg, hheap, hvl⟩ := r.rep o _ hob
    obtain ⟨_, b', hgb, rfl⟩ := h3
    rw [hg] at hgb
    cases hgb
    have e1 : idsO objs (.obx e) [Cv.ptr o 0] = o :: idsO objs e bl := by simp [idsO, ptrId, h1]
    have e2 : idsD objs (.obx e) [Cv.ptr o 0] = idsD objs e bl := by simp [idsD, h1]
    rw [e2] at hids
    obtain ⟨h4, h5⟩ := ih h2 hvl hids
    rw [e1]
    refine ⟨⟨b, _, T, cells, ?_, rfl, hheap, h4⟩, fun o' ho' => ?_⟩
    · simp [blocks, hg]
    · rcases List.mem_cons.1 ho' with rfl | ho'
      · exact ⟨_, hob, rfl⟩
      · exact h5 o' ho'
  | st f q ihf ihq =>
    intro l x cs h hv hids
    simp only [toD, Option.bind_eq_some_iff] at h
    obtain ⟨x1, h1, x2, h2, hx⟩ := h
    have hx : (x1, x2) = x := Option.some.inj hx
    subst hx
    obtain ⟨r1, m1⟩ := ihf h1 (hv.take f.size) (fun o ho => hids o (by simp [idsD, ho]))
    obtain ⟨r2, m2⟩ := ihq h2 (hv.drop f.size) (fun o ho => hids o (by simp [idsD, ho]))
    refine ⟨⟨_, _, _, _, (List.take_append_drop f.size cs).symm, ?_, r1, r2⟩, fun o ho => ?_⟩
    · simp [blocks, idsO]
    · simp only [idsO, List.mem_append] at ho
      exact ho.elim (m1 o) (m2 o)

/-- CELLS OF DATA -/
theorem cellsOf_spec {objs : List OB} {γ : Gh} {w : World} : ∀ (τ : Ty) {x : D τ} {cs : List Value}, Rep w (Imm objs γ w) τ x [] cs → VRL objs γ w (cellsOf τ x) cs
  | .int k, _, _, h => ⟨_, _, h.2, rfl, rfl⟩
  | .bool, _, _, h => ⟨_, _, h.2, rfl, rfl⟩
  | .str, _, _, h => ⟨_, _, h.2, rfl, rfl⟩
  | .nil, _, _, h => h.2
  | .sl e, xs, cs, h => by
    obtain ⟨_, ao, cap, us, h1, h2⟩ := h
    exact ⟨_, _, h1, ⟨rfl, ao, cap, us, rfl, h2⟩, rfl⟩
  | .osl i e, xs, cs, h => by
    obtain ⟨v, us, h1, h2, h3⟩ := h
    exact ⟨_, _, h1, OwnR.sl h2 h3 (by simp), rfl⟩
  | .obx _, _, _, ⟨_, _, _, _, h, _⟩ => by cases h
  | .err, b, _, ⟨_, v, h, h2⟩ => ⟨v, [], h, h2, rfl⟩
  | .bld _ _, _, _, ⟨_, _, _, _, _, h, _⟩ => by cases h
  | .st f r, x, cs, h => by
    obtain ⟨c1, c2, M1, M2, h1, h2, h3, h4⟩ := h
    obtain ⟨rfl, rfl⟩ : M1 = [] ∧ M2 = [] := by simpa using h2.symm
    subst h1
    exact (cellsOf_spec f h3).append (cellsOf_spec r h4)
theorem cellsOf_length : ∀ (τ : Ty) (x : D τ), (cellsOf τ x).length = τ.size
  | .int k, _ => rfl
  | .bool, _ => rfl
  | .str, _ => rfl
  | .nil, _ => rfl
  | .sl e, _ => rfl
  | .osl _ _, _ => rfl
  | .obx _, _ => rfl
  | .err, _ => rfl
  | .bld _ _, _ => rfl
  | .st f r, x => by simp [cellsOf, cellsOf_length f, cellsOf_length r, Ty.size]
theorem cc_length : ∀ (τ : Ty) (x : D τ) (n : Nat), (cc τ x n).1.length = τ.size
  | .int k, _, _ => rfl
  | .bool, _, _ => rfl
  | .str, _, _ => rfl
  | .nil, _, _ => rfl
  | .sl e, _, _ => rfl
  | .osl _ _, _, _ => rfl
  | .obx _, _, _ => rfl
  | .err, _, _ => rfl
  | .bld _ _, _, _ => rfl
  | .st f r, x, n => by simp [cc, cc_length f, cc_length r, Ty.size]

/-- NEW OBJECTS FOR DATA: what their ghosts are -/
theorem cc_spec {w : World} {S : Nat → Prop} : ∀ (τ : Ty) {x : D τ} {M : List Nat} {cs : List Value}, Rep w S τ x M cs → ∀ n : Nat, ∃ gs : List (Value × Option Nat), gs.length = (cc τ x n).2.length ∧ M = gs.flatMap (fun g => g.2.toList) ∧
    ∀ (objs : List OB) (γ : Gh), (∀ k, S k → Imm objs γ w k) → (∀ j g, gs[j]? = some g → γ (n + j) = g) → n + gs.length ≤ objs.length →
      VRL objs γ w (cc τ x n).1 cs ∧ (∀ (j : Nat) ob g, (cc τ x n).2[j]? = some ob → gs[j]? = some g → ObR objs γ w ob g ∧ mutOb ob = true)
  | .int k, x, M, cs, h, n => ⟨[], rfl, by simp [h.1], fun objs γ hS _ _ => ⟨⟨_, _, h.2, rfl, rfl⟩, fun j ob g ho => by simp [cc] at ho⟩⟩
  | .bool, x, M, cs, h, n => ⟨[], rfl, by simp [h.1], fun objs γ hS _ _ => ⟨⟨_, _, h.2, rfl, rfl⟩, fun j ob g ho => by simp [cc] at ho⟩⟩
  | .str, x, M, cs, h, n => ⟨[], rfl, by simp [h.1], fun objs γ hS _ _ => ⟨⟨_, _, h.2, rfl, rfl⟩, fun j ob g ho => by simp [cc] at ho⟩⟩
  | .nil, x, M, cs, h, n => ⟨[], rfl, by simp [h.1], fun objs γ hS _ _ => ⟨h.2, fun j ob g ho => by simp [cc] at ho⟩⟩
  | .sl e, x, M, cs, h, n => ⟨[], rfl, by simp [h.1], fun objs γ hS _ _ => by
      have h' := Rep.mono hS (fun _ _ => rfl) (.sl e) h (by simp [h.1])
      obtain ⟨_, ao, cap, us, h1, h2⟩ := h'
      exact ⟨⟨_, _, h1, ⟨rfl, ao, cap, us, rfl, h2⟩, rfl⟩, fun j ob g ho => by simp [cc] at ho⟩⟩
  | .osl i e, xs, M, cs, h, n => by
    obtain ⟨v, us, h1, h2, h3⟩ := h
    have hM : ∃ o : Option Nat, M = o.toList := by
      rcases h2 with ⟨h, _⟩ | ⟨b, _, _, h, _⟩
      · exact ⟨none, h⟩
      · exact ⟨some b, h⟩
    obtain ⟨o, rfl⟩ := hM
    refine ⟨[(v, o)], rfl, by simp, fun objs γ hS hg hn => ⟨⟨v, [], h1, ⟨by simp at hn; omega, ?_, ?_⟩, rfl⟩, fun j ob g ho hj => ?_⟩⟩
    · have := hg 0 _ rfl
      rw [Nat.add_zero] at this
      rw [this]
    · rcases h2 with ⟨_, ⟨ao, rfl⟩, _⟩ | ⟨b, cap, cur, _, rfl, _⟩
      · exact ⟨_, _, _, rfl⟩
      · exact ⟨_, _, _, rfl⟩
    · have hj0 : j = 0 := by
        cases j with
        | zero => rfl
        | succ j => simp at hj
      subst hj0
      simp only [List.getElem?_cons_zero, Option.some.injEq] at hj
      subst hj
      simp only [cc, List.getElem?_cons_zero, Option.some.injEq] at ho
      subst ho
      exact ⟨⟨us, h2, h3.mono fun x c hx => Rep.mono hS (fun _ _ => rfl) _ hx (by simp)⟩, rfl⟩
  | .obx e, x, M, cs, h, n => by
    obtain ⟨b, M', T, cells, h1, h2, h3, h4⟩ := h
    obtain ⟨gs, l1, m1, p1⟩ := cc_spec e h4 (n + 1)
    refine ⟨(.pointer (some ⟨b, 0, none⟩), some b) :: gs, by simp [cc, l1], by rw [h1, m1]; simp, fun objs γ hS hg hn => ?_⟩
    simp only [List.length_cons] at hn
    obtain ⟨p2, p3⟩ := p1 objs γ hS (fun j g hj => by
      have := hg (j + 1) g (by simpa using hj)
      rwa [show n + (j + 1) = n + 1 + j by omega] at this) (by omega)
    have e0 := hg 0 _ rfl
    rw [Nat.add_zero] at e0
    refine ⟨⟨_, _, h2, ⟨by omega, b, by rw [e0], rfl⟩, rfl⟩, fun j ob g ho hj => ?_⟩
    cases j with
    | zero =>
      simp only [List.getElem?_cons_zero, Option.some.injEq] at hj
      subst hj
      simp only [cc, List.getElem?_cons_zero, Option.some.injEq] at ho
      subst ho
      exact ⟨⟨b, T, cells, rfl, h3, p2⟩, rfl⟩
    | succ j => exact p3 j ob g (by simpa [cc] using ho) (by simpa using hj)
  | .err, b, M, cs, h, n => ⟨[], rfl, by simp [h.1], fun objs γ hS _ _ => by
      obtain ⟨_, v, h1, h2⟩ := h
      exact ⟨⟨v, [], h1, h2, rfl⟩, fun j ob g ho => by simp [cc] at ho⟩⟩
  | .bld t i, xs, M, cs, h, n => by
    obtain ⟨b, M', p, v, us, h1, h2, h3, h4, h5, h6⟩ := h
    have hM : ∃ o : Option Nat, M' = o.toList := by
      rcases h5 with ⟨h, _⟩ | ⟨b, _, _, h, _⟩
      · exact ⟨none, h⟩
      · exact ⟨some b, h⟩
    obtain ⟨o, rfl⟩ := hM
    refine ⟨[(.pointer (some ⟨b, 0, none⟩), some b), (v, o)], rfl, by simp [h1], fun objs γ hS hg hn => ?_⟩
    simp only [List.length_cons, List.length_nil] at hn
    have e0 := hg 0 _ rfl
    have e1 := hg 1 _ rfl
    rw [Nat.add_zero] at e0
    refine ⟨⟨_, _, h2, ⟨by omega, b, by rw [e0], rfl⟩, rfl⟩, fun j ob g ho hj => ?_⟩
    cases j with
    | zero =>
      simp only [List.getElem?_cons_zero, Option.some.injEq] at hj
      subst hj
      simp only [cc, List.getElem?_cons_zero, Option.some.injEq] at ho
      subst ho
      refine ⟨⟨b, p, v, rfl, h3, h4, by omega, by rw [e1], ?_⟩, rfl⟩
      rcases h5 with ⟨_, ⟨ao, rfl⟩, _⟩ | ⟨b, cap, cur, _, rfl, _⟩
      · exact ⟨_, _, _, rfl⟩
      · exact ⟨_, _, _, rfl⟩
    | succ j =>
      cases j with
      | zero =>
        simp only [Nat.zero_add, List.getElem?_cons_succ, List.getElem?_cons_zero, Option.some.injEq] at hj
        subst hj
        simp only [cc, Nat.zero_add, List.getElem?_cons_succ, List.getElem?_cons_zero, Option.some.injEq] at ho
        subst ho
        refine ⟨⟨us, h5, ?_⟩, rfl⟩
        rw [h6]
        exact rep_u8 xs
      | succ j => simp at hj
  | .st f r, x, M, cs, h, n => by
    obtain ⟨c1, c2, M1, M2, h1, h2, h3, h4⟩ := h
    obtain ⟨g1, l1, m1, p1⟩ := cc_spec f h3 n
    obtain ⟨g2, l2, m2, p2⟩ := cc_spec r h4 (n + (cc f x.1 n).2.length)
    refine ⟨g1 ++ g2, by simp [cc, l1, l2], by simp [h2, m1, m2], fun objs γ hS hg hn => ?_⟩
    rw [List.length_append] at hn
    obtain ⟨a1, b1⟩ := p1 objs γ hS (fun j g hj => hg j g (by
      rw [List.getElem?_append_left (List.getElem?_eq_some_iff.1 hj).1]; exact hj)) (by omega)
    obtain ⟨a2, b2⟩ := p2 objs γ hS (fun j g hj => by
      have := hg (g1.length + j) g (by rw [List.getElem?_append_right (by omega)]; simpa using hj)
      rw [← l1, Nat.add_assoc]
      exact this) (by omega)
    subst h1
    refine ⟨a1.append a2, fun j ob g ho hj => ?_⟩
    simp only [cc] at ho
    by_cases hlt : j < g1.length
    · rw [List.getElem?_append_left (by omega)] at ho
      rw [List.getElem?_append_left hlt] at hj
      exact b1 j ob g ho hj
    · rw [List.getElem?_append_right (by omega)] at ho
      rw [List.getElem?_append_right (by omega)] at hj
      exact b2 (j - g1.length) ob g (by rw [l1]; exact ho) hj
end

/-! ### values that are one of two, one of several -/
section
variable {objs : List OB} {γ : Gh} {w : World}
theorem mergeC_spec {b : Bool} {x y z : Cv} {v : Value} (h : mergeC b x y = some z) : (b = true → VR objs γ w x v → VR objs γ w z v) ∧ (b = false → VR objs γ w y v → VR objs γ w z v) := by
  unfold mergeC at h
  split at h
  · rename_i k a k' c
    simp only [chk_some, Option.some.injEq] at h
    obtain ⟨h1, rfl⟩ := h
    obtain rfl := sameKind_eq h1
    exact ⟨fun hb hv => by subst hb; exact hv, fun hb hv => by subst hb; exact hv⟩
  · cases h; exact ⟨fun hb hv => by subst hb; exact hv, fun hb hv => by subst hb; exact hv⟩
  · cases h; exact ⟨fun hb hv => by subst hb; exact hv, fun hb hv => by subst hb; exact hv⟩
  · simp only [Option.bind_eq_some_iff, Option.some.injEq] at h
    obtain ⟨ys', h1, rfl⟩ := h
    obtain ⟨rfl, h1⟩ := castL_spec h1
    subst h1
    exact ⟨fun hb hv => by subst hb; exact hv, fun hb hv => by subst hb; exact hv⟩
  · cases h
theorem mergeL_spec {b : Bool} : ∀ {x y z : List Cv} {v : List Value}, mergeL b x y = some z → (b = true → VRL objs γ w x v → VRL objs γ w z v) ∧ (b = false → VRL objs γ w y v → VRL objs γ w z v)
  | [], [], z, v, h => by simp only [mergeL, Option.some.injEq] at h; subst h; exact ⟨fun _ h => h, fun _ h => h⟩
  | x :: l, y :: r, z, v, h => by
    simp only [mergeL, Option.bind_eq_some_iff, Option.some.injEq] at h
    obtain ⟨c, h1, q, h2, rfl⟩ := h
    refine ⟨fun hb ⟨u, p, e, h3, h4⟩ => ⟨u, p, e, (mergeC_spec h1).1 hb h3, (mergeL_spec h2).1 hb h4⟩, fun hb ⟨u, p, e, h3, h4⟩ => ⟨u, p, e, (mergeC_spec h1).2 hb h3, (mergeL_spec h2).2 hb h4⟩⟩
  | [], _ :: _, z, v, h => by simp [mergeL] at h
  | _ :: _, [], z, v, h => by simp [mergeL] at h
theorem mergeV_spec {b : Bool} {x y z : PV} {v : Value} (h : mergeV b x y = some z) : (b = true → PR objs γ w x v → PR objs γ w z v) ∧ (b = false → PR objs γ w y v → PR objs γ w z v) := by
  unfold mergeV at h
  split at h
  · simp only [Option.bind_eq_some_iff, Option.some.injEq] at h
    obtain ⟨c, h1, rfl⟩ := h
    exact ⟨fun hb hv => (mergeC_spec h1).1 hb hv, fun hb hv => (mergeC_spec h1).2 hb hv⟩
  · simp only [Option.bind_eq_some_iff, Option.some.injEq] at h
    obtain ⟨c, h1, rfl⟩ := h
    exact ⟨fun hb ⟨cs, e, hv⟩ => ⟨cs, e, (mergeL_spec h1).1 hb hv⟩, fun hb ⟨cs, e, hv⟩ => ⟨cs, e, (mergeL_spec h1).2 hb hv⟩⟩
  · cases h
theorem intsOf_get {k : IntKind} : ∀ {l : List Cv} {ns : List Int} {i : Nat} {c : Cv}, intsOf k l = some ns → l[i]? = some c → c = .v (.int k (getD' ns i 0))
  | [], _, _, _, _, hi => by simp at hi
  | c0 :: r, ns, i, c, h, hi => by
    unfold intsOf at h
    split at h
    · cases ‹_ :: _ = []›
    · rename_i k' n r' heq
      simp only [List.cons.injEq] at heq
      obtain ⟨rfl, rfl⟩ := heq
      simp only [chk_some, Option.bind_eq_some_iff, Option.some.injEq] at h
      obtain ⟨h1, ms, h2, rfl⟩ := h
      obtain rfl := sameKind_eq h1
      cases i with
      | zero => simp at hi; subst hi; rfl
      | succ i => simpa [getD'] using intsOf_get h2 (by simpa using hi)
    · cases h
theorem boolsOf_get : ∀ {l : List Cv} {ns : List Bool} {i : Nat} {c : Cv}, boolsOf l = some ns → l[i]? = some c → c = .v (.bool (getD' ns i false))
  | [], _, _, _, _, hi => by simp at hi
  | c0 :: r, ns, i, c, h, hi => by
    unfold boolsOf at h
    split at h
    · cases ‹_ :: _ = []›
    · rename_i n r' heq
      simp only [List.cons.injEq] at heq
      obtain ⟨rfl, rfl⟩ := heq
      simp only [Option.bind_eq_some_iff, Option.some.injEq] at h
      obtain ⟨ms, h2, rfl⟩ := h
      cases i with
      | zero => simp at hi; subst hi; rfl
      | succ i => simpa [getD'] using boolsOf_get h2 (by simpa using hi)
    · cases h
theorem strsOf_get : ∀ {l : List Cv} {ns : List ByteArray} {i : Nat} {c : Cv}, strsOf l = some ns → l[i]? = some c → c = .v (.string (getD' ns i ByteArray.empty))
  | [], _, _, _, _, hi => by simp at hi
  | c0 :: r, ns, i, c, h, hi => by
    unfold strsOf at h
    split at h
    · cases ‹_ :: _ = []›
    · rename_i n r' heq
      simp only [List.cons.injEq] at heq
      obtain ⟨rfl, rfl⟩ := heq
      simp only [Option.bind_eq_some_iff, Option.some.injEq] at h
      obtain ⟨ms, h2, rfl⟩ := h
      cases i with
      | zero => simp at hi; subst hi; rfl
      | succ i => simpa [getD'] using strsOf_get h2 (by simpa using hi)
    · cases h
theorem slsOf_get {e : Ty} : ∀ {l : List Cv} {ns : List (List (D e))} {i : Nat} {c : Cv}, slsOf e l = some ns → l[i]? = some c → c = .sl e (getD' ns i [])
  | [], _, _, _, _, hi => by simp at hi
  | c0 :: r, ns, i, c, h, hi => by
    unfold slsOf at h
    split at h
    · cases ‹_ :: _ = []›
    · rename_i e' n r' heq
      simp only [List.cons.injEq] at heq
      obtain ⟨rfl, rfl⟩ := heq
      simp only [Option.bind_eq_some_iff, Option.some.injEq] at h
      obtain ⟨xs, h1, ms, h2, rfl⟩ := h
      obtain ⟨rfl, h1⟩ := castL_spec h1
      subst h1
      cases i with
      | zero => simp at hi; subst hi; rfl
      | succ i => simpa [getD'] using slsOf_get h2 (by simpa using hi)
    · cases h
theorem selC_spec {l : List Cv} {i : Nat} {c d : Cv} (h : selC l i = some c) (hi : l[i]? = some d) : d = c := by
  unfold selC at h
  split at h
  · simp only [Option.bind_eq_some_iff, Option.some.injEq] at h
    obtain ⟨ns, h1, rfl⟩ := h
    exact intsOf_get h1 hi
  · simp only [Option.bind_eq_some_iff, Option.some.injEq] at h
    obtain ⟨ns, h1, rfl⟩ := h
    exact boolsOf_get h1 hi
  · simp only [Option.bind_eq_some_iff, Option.some.injEq] at h
    obtain ⟨ns, h1, rfl⟩ := h
    exact strsOf_get h1 hi
  · simp only [Option.bind_eq_some_iff, Option.some.injEq] at h
    obtain ⟨ns, h1, rfl⟩ := h
    exact slsOf_get h1 hi
  · cases h
theorem col_get {cs : List Cv} {sz inner : Nat} : ∀ {n off j : Nat}, (col cs off sz inner n).length = n → j < n → (col cs off sz inner n)[j]? = cs[off + j * sz + inner]?
  | 0, _, j, _, hj => by omega
  | n + 1, off, j, h, hj => by
    simp only [col] at h ⊢
    split at h
    · rename_i c q hc
      have h0 : cs[off + inner]? = some c := by
        have := congrArg (fun l : List Cv => l[0]?) hc
        simpa using this
      simp only [List.length_cons, Nat.add_right_cancel_iff] at h
      cases j with
      | zero => simp [h0]
      | succ j =>
        simp only [List.getElem?_cons_succ]
        rw [col_get h (by omega), show off + sz + j * sz + inner = off + (j + 1) * sz + inner by rw [Nat.add_mul]; omega]
    · simp at h
end
end Go.Den
