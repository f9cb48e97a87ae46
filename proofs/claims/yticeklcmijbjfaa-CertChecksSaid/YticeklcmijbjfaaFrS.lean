/- Arguments whose slices, inner ones too, are no longer than a process's memory. No condition of its own. -/
import Derived.Test.YticeklcmijbjfaaFr
import Derived.Test.YticeklcmijbjfaaDenF
namespace Go.Eng
open Go.RowKit
set_option linter.unusedVariables false
set_option linter.unusedSimpArgs false

mutual
/-- elements take bytes -/
def posB (P : Program) : Nat → Ty → TypeId → Bool
  | 0, _, _ => false
  | n + 1, .sl e, t => match P.underlying t with | some (.slice u) => Nat.ble 1 (P.bytesOf u) && posB P n e u | _ => false
  | n + 1, .nil, t => true
  | n + 1, .st f r, t => match P.underlying t with
    | some (.struct fs) => posAll P n (.st f r) (fs.toList.map fun f => f.type)
    | some (.array m e) => posAll P n (.st f r) ((List.range m).map fun _ => e)
    | _ => false
  | _ + 1, _, _ => true
def posAll (P : Program) : Nat → Ty → List TypeId → Bool
  | 0, _, _ => false
  | _ + 1, .nil, _ => true
  | n + 1, .st f r, t :: l => posB P n f t && posAll P n r l
  | _ + 1, _, _ => false
end
/-- all slices are shorter than 2^47 -/
def Small : (τ : Ty) → D τ → Prop
  | .sl e, (_, _, xs) => xs.length < 140737488355328 ∧ ∀ x ∈ xs, Small e x
  | .st f r, (x, y) => Small f x ∧ Small r y
  | .int _, _ => True
  | .bool, _ => True
  | .str, _ => True
  | .nil, _ => True
theorem cellsAt_uniq {w : World} {a : Addr} {us vs : List Value} (h1 : CellsAt w a us) (h2 : CellsAt w a vs) (hl : us.length = vs.length) : us = vs := by
  apply List.ext_getElem hl
  intro j hj1 hj2
  have e1 := h1 j us[j] (List.getElem?_eq_getElem hj1)
  have e2 := h2 j vs[j] (List.getElem?_eq_getElem hj2)
  rw [e1] at e2
  exact Option.some.inj e2
section
variable {H : Type} {ec : TypeId × Value → H} {P : Program} {w : World} {base : Nat} {sp : Nat → Bool} {held : Bool}
theorem weightsEach_get {ts : List TypeId} {ds : List (DataW H)} {B : Nat} : (∀ m ∈ DataW.weightsEach P ts ds, m ≤ B) → ∀ {i : Nat} {t : TypeId} {d : DataW H}, ts[i]? = some t → ds[i]? = some d → ∀ m ∈ d.weights P t, m ≤ B := by
  intro h i t d ht hd m hm
  exact h m (DataW.weights_mem_each ht hd m hm)
theorem weightsAll_get {u : TypeId} {B : Nat} : ∀ {ds : List (DataW H)}, (∀ m ∈ DataW.weightsAll P u ds, m ≤ B) → ∀ {i : Nat} {d : DataW H}, ds[i]? = some d → ∀ m ∈ d.weights P u, m ≤ B
  | [], _, i, d, hd, _, _ => by simp at hd
  | d0 :: r, h, 0, d, hd, m, hm => by
    simp only [List.getElem?_cons_zero, Option.some.injEq] at hd
    subst hd
    exact h m (by simp [DataW.weightsAll, hm])
  | d0 :: r, h, i + 1, d, hd, m, hm => weightsAll_get (ds := r) (fun m hm => h m (by simp [DataW.weightsAll, hm])) (i := i) (by simpa using hd) m hm
theorem small_both : ∀ n : Nat,
    (∀ (τ : Ty) (t : TypeId) (fuel : Nat) (cs : List Value) (x : DataW H × List MemPlace) (y : D τ), fits P n τ t = true → posB P n τ t = true → DataW.trod ec P w base sp held fuel t cs = some x → cs = enc τ y → Ok w τ y → (∀ m ∈ x.1.weights P t, m ≤ reachBytes) → Small τ y) ∧
    (∀ (τ : Ty) (off : Nat) (l : List (TypeId × Nat)) (cs : List Value) (y : D τ), fitsAll P n τ off l = true → posAll P n τ (l.map Prod.fst) = true →
      (∀ q ∈ l, ∃ fuel x, DataW.trod ec P w base sp held fuel q.1 ((cs.drop q.2).take (P.cellsOf q.1)) = some x ∧ ∀ m ∈ x.1.weights P q.1, m ≤ reachBytes) → cs.drop off = enc τ y → Ok w τ y → Small τ y) := by
  intro n
  induction n with
  | zero => exact ⟨fun τ t _ _ _ _ h => by simp [fits] at h, fun τ _ _ _ _ h => by simp [fitsAll] at h⟩
  | succ n ih =>
    refine ⟨?_, ?_⟩
    · intro τ t fuel cs x y hf hp h he ho hw
      have agg : ∀ (f r : Ty) (y : D (.st f r)), fits P (n + 1) (.st f r) t = true → posB P (n + 1) (.st f r) t = true → cs = enc (.st f r) y → Ok w (.st f r) y → Small (.st f r) y := by
        intro f r y hf hp he ho
        simp only [fits] at hf
        simp only [posB] at hp
        split at hf
        · rename_i fs hu
          rw [hu] at hp
          simp only [Bool.and_eq_true] at hf
          obtain ⟨xs, m, _, hx, hl, hxs, hi⟩ := DataW.trod_struct hu h
          rw [hx] at hw
          simp only [DataW.weights, hu] at hw
          refine ih.2 (.st f r) 0 _ cs y hf.2 (by simpa [Function.comp_def] using hp) (fun q hq => ?_) (by simpa using he) ho
          obtain ⟨fd, hfm, rfl⟩ := List.mem_map.1 hq
          obtain ⟨i, hlt, hget⟩ := List.mem_iff_getElem.1 hfm
          have hfi : fs[i]? = some fd := by simp [← hget]
          have hlt2 : i < xs.length := by rw [hxs]; simpa using hlt
          obtain ⟨z, hz⟩ := getElem_of_some hlt2
          exact ⟨m, z, (hi i fd hfi).trans hz, weightsEach_get hw (i := i) (by
            rw [List.getElem?_map, List.getElem?_eq_getElem hlt, hget]; rfl) (by rw [List.getElem?_map, hz]; rfl)⟩
        · rename_i m e hu
          rw [hu] at hp
          simp only [Bool.and_eq_true] at hf
          obtain ⟨xs, fu, _, hx, hl, hxs, hi⟩ := DataW.trod_array hu h
          rw [hx] at hw
          simp only [DataW.weights, hu] at hw
          refine ih.2 (.st f r) 0 _ cs y hf.2 (by simpa [Function.comp_def] using hp) (fun q hq => ?_) (by simpa using he) ho
          obtain ⟨i, him, rfl⟩ := List.mem_map.1 hq
          have him := List.mem_range.1 him
          obtain ⟨z, hz⟩ := getElem_of_some (l := xs) (i := i) (by omega)
          exact ⟨fu, z, (hi i him).trans hz, weightsAll_get hw (i := i) (by rw [List.getElem?_map, hz]; rfl)⟩
        · cases hf
      cases τ with
      | int k => trivial
      | bool => trivial
      | str => trivial
      | nil => trivial
      | st f r => exact agg f r y hf hp he ho
      | sl e =>
        obtain ⟨ao, cap, xs⟩ := y
        simp only [fits] at hf
        simp only [posB] at hp
        split at hf
        · rename_i u hu
          rw [hu] at hp
          simp only [Bool.and_eq_true] at hf hp
          have hsz := beq_true hf.1
          have hb1 := Nat.le_of_ble_eq_true hp.1
          obtain ⟨o1, o2, o3⟩ := ho
          rcases DataW.trod_slice hu h with ⟨h1, _⟩ | ⟨a, len, cap', elems, rest, m, _, h1, hx, _, hl, hm, hlen, hel, _, _⟩
          · rw [he] at h1
            simp only [enc, List.cons.injEq, Value.slice.injEq] at h1
            have hz : xs = [] := List.length_eq_zero_iff.1 (by simpa using h1.1.2.1)
            subst hz
            exact ⟨by simp, fun x hx => by cases hx⟩
          · rw [he] at h1
            simp only [enc, List.cons.injEq, Value.slice.injEq] at h1
            have hao : ao = some a := by simpa using h1.1.1
            have hlx : xs.length = len := by simpa using h1.1.2.1
            rw [hx] at hw
            simp only [DataW.weights, hu, List.mem_cons, List.mem_append] at hw
            have hr := reachBytes_lt
            refine ⟨?_, fun z hz => ?_⟩
            · have h5 := hw _ (.inl rfl)
              simp only [List.length_map] at h5
              have h6 : (elems.length + rest.length) * 1 ≤ (elems.length + rest.length) * P.bytesOf u := Nat.mul_le_mul_left _ hb1
              omega
            · obtain ⟨i, hi, rfl⟩ := List.mem_iff_getElem.1 hz
              obtain ⟨_, o5, o6⟩ := o3 i hi
              have h2 := hel i (by omega)
              obtain ⟨el, hel2⟩ := getElem_of_some (l := elems) (i := i) (by omega)
              rw [hel2] at h2
              cases hc : w.cells? base (a.add (i * P.cellsOf u)) (P.cellsOf u) with
              | none => rw [hc] at h2; cases h2
              | some us =>
                rw [hc] at h2
                simp only [Option.bind_some] at h2
                obtain ⟨c1, c2⟩ := cells_at hc
                have hue : us = enc e xs[i] := by
                  refine cellsAt_uniq c2 ?_ (by rw [c1, hsz, enc_length])
                  rw [hsz]
                  subst hao
                  exact o5
                exact ih.1 e u m us el xs[i] hf.2 hp.2 h2 hue o6 (fun k hk => by
                  have := weightsAll_get (P := P) (u := u) (ds := elems.map (·.1)) (B := reachBytes) (fun m hm => hw m (.inr (.inl hm))) (i := i) (d := el.1) (by rw [List.getElem?_map, hel2]; rfl)
                  exact this k hk)
        · cases hf
    · intro τ off l cs y hf hp hq he ho
      cases τ with
      | nil => trivial
      | int k => trivial
      | bool => trivial
      | str => trivial
      | sl e => cases l <;> simp [fitsAll] at hf
      | st f r =>
        obtain ⟨y1, y2⟩ := y
        cases l with
        | nil => simp [fitsAll] at hf
        | cons q l =>
          obtain ⟨t, o⟩ := q
          simp only [fitsAll, Bool.and_eq_true] at hf
          simp only [List.map_cons, posAll, Bool.and_eq_true] at hp
          obtain ⟨h1, h2, h3, h4⟩ := hf
          have e1 := beq_true h1
          have e2 := beq_true h2
          subst e1
          obtain ⟨fuel, x, hx, hwx⟩ := hq (t, o) List.mem_cons_self
          simp only at hx hwx
          simp only [enc] at he
          have hl1 := enc_length f y1
          refine ⟨ih.1 f t fuel _ x y1 h3 hp.1 hx (by rw [e2, he, ← hl1, List.take_left]) ho.1 hwx, ih.2 r (o + f.size) l cs y2 h4 hp.2 (fun q hm => hq q (List.mem_cons_of_mem _ hm)) (by rw [← List.drop_drop, he, ← hl1, List.drop_left]) ho.2⟩
theorem small_arg {τ : Ty} {t : TypeId} {ts : List TypeId} {ds : List (DataW H)} {j : Nat} {y : D τ} {d : DataW H} {ps : List MemPlace} (hf : (fits P 30 τ t && posB P 30 τ t) = true)
    (hs : (DataW.weightsEach P ts ds).all (· ≤ reachBytes) = true) (ht : ts[j]? = some t) (hd : ds[j]? = some d) (h : DataW.Trod ec P w base sp held t (handV τ y) d ps) (ho : Ok w τ y) : Small τ y := by
  rw [Bool.and_eq_true] at hf
  obtain ⟨fuel, h⟩ := h
  refine (small_both 30).1 τ t fuel _ _ y hf.1 hf.2 h ?_ ho (weightsEach_get (fun m hm => by simpa using List.all_eq_true.1 hs m hm) ht hd)
  cases τ with
  | sl e => obtain ⟨ao, cap, xs⟩ := y; rfl
  | int k => rfl
  | bool => rfl
  | str => rfl
  | nil => rfl
  | st f r => simp [handV, Value.cells]
end
end Go.Eng
namespace Go.Den
open Go.Eng
/-- all lists are shorter than 2^47 -/
def SmallD : (τ : Ty) → D τ → Prop
  | .sl e, (xs : List (D e)) => xs.length < 140737488355328 ∧ ∀ x ∈ xs, SmallD e x
  | .st f r, x => SmallD f x.1 ∧ SmallD r x.2
  | .int _, _ => True
  | .bool, _ => True
  | .str, _ => True
  | .nil, _ => True
  | .osl _ _, _ => True
  | .obx _, _ => True
theorem small_of : ∀ (τ : Eng.Ty) {y : Eng.D τ}, Eng.Small τ y → SmallD (tyE τ) (dE τ y)
  | .int _, _, _ => trivial
  | .bool, _, _ => trivial
  | .str, _, _ => trivial
  | .nil, _, _ => trivial
  | .sl e, (ao, cap, xs), h => by
    refine ⟨by simp only [dE, List.length_map]; exact h.1, fun x hx => ?_⟩
    obtain ⟨y, hy, rfl⟩ := List.mem_map.1 hx
    exact small_of e (h.2 y hy)
  | .st f r, (x, y), h => ⟨small_of f h.1, small_of r h.2⟩
end Go.Den
