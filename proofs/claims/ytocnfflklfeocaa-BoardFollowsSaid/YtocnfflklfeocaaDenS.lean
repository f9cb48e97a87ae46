/- Sorts by a comparing function, from the shelf, as what the interpreter asks. No condition of its own. -/
import Derived.Test.YtocnfflklfeocaaDenF
import Derived.Shelf.SlSortCmp.NoneTotal
namespace Go.Den
open Go.Eng Go.Sort Go.Proofs Go.Shelf Go.Lib
set_option linter.unusedVariables false
set_option linter.unusedSectionVars false
set_option linter.unusedSimpArgs false
instance (τ : Ty) : Inhabited (D τ) := ⟨dflt τ⟩

theorem flat_get {α : Type} [Inhabited α] (enc : α → List Value) (k : Nat) (hk : ∀ x, (enc x).length = k) : ∀ (l : List α) (t : Nat), t < l.length * k → (l.map enc).flatten[t]? = some ((enc l[t / k]!)[t % k]!)
  | [], t, h => by simp at h
  | x :: l, t, h => by
    rw [List.map_cons, List.flatten_cons]
    have k0 : 0 < k := by
      rcases Nat.eq_zero_or_pos k with e | e
      · subst e; simp at h
      · exact e
    by_cases ht : t < k
    · rw [List.getElem?_append_left (by rw [hk]; exact ht), Nat.div_eq_of_lt ht, Nat.mod_eq_of_lt ht]
      simp [hk, ht]
    · rw [List.getElem?_append_right (by rw [hk]; omega), hk, flat_get enc k hk l (t - k) (by rw [List.length_cons, Nat.add_mul] at h; omega)]
      obtain ⟨u, rfl⟩ : ∃ u, t = u + k := ⟨t - k, by omega⟩
      rw [Nat.add_sub_cancel, Nat.add_div_right _ k0, Nat.add_mod_right]
      simp
theorem flen {α : Type} (enc : α → List Value) (k : Nat) (hk : ∀ x, (enc x).length = k) : ∀ l : List α, ((l.map enc).flatten).length = l.length * k
  | [] => by simp
  | x :: l => by rw [List.map_cons, List.flatten_cons, List.length_append, hk, flen enc k hk l, List.length_cons, Nat.add_mul]; omega
theorem flatK_list {α : Type} [Inhabited α] (enc : α → List Value) (k : Nat) (hk : ∀ x, (enc x).length = k) (l : List α) : flatK enc k l.toArray = ((l.map enc).flatten).toArray := by
  have hl := flen enc k hk l
  refine ext_get! (by simp [hl]) fun t ht => ?_
  have ht' : t < l.toArray.size * k := by simpa using ht
  rw [get_flatK _ _ _ _ ht']
  have := flat_get enc k hk l t (by simpa using ht')
  simp [this]

variable [CT : Ctx]
theorem flat_mk {w : World} {S : Nat → Prop} : ∀ (τ : Ty) (x : D τ), τ.flat = true → Rep w S τ x [] (cellsV τ x)
  | .int k, x, _ => ⟨rfl, rfl⟩
  | .bool, x, _ => ⟨rfl, rfl⟩
  | .str, x, _ => ⟨rfl, rfl⟩
  | .nil, x, _ => ⟨rfl, rfl⟩
  | .sl e, x, h => by cases h
  | .osl i e, x, h => by cases h
  | .obx _, x, h => by cases h
  | .err, x, h => by cases h
  | .bld _ _, x, h => by cases h
  | .st f r, x, h => by
    simp only [Ty.flat, Bool.and_eq_true] at h
    exact ⟨_, _, [], [], rfl, rfl, flat_mk f x.1 h.1, flat_mk r x.2 h.2⟩
theorem repL_flat {w : World} {S : Nat → Prop} {τ : Ty} (hf : τ.flat = true) : ∀ {xs : List (D τ)} {us : List Value}, RepL (fun x c => Rep w S τ x [] c) xs us → us = (xs.map (cellsV τ)).flatten
  | [], us, h => h
  | x :: xs, us, ⟨c, r, e, h1, h2⟩ => by
    rw [e, flat_rep τ hf h1, repL_flat hf h2]; rfl
theorem flat_repL {w : World} {S : Nat → Prop} {τ : Ty} (hf : τ.flat = true) : ∀ (xs : List (D τ)), RepL (fun x c => Rep w S τ x [] c) xs (xs.map (cellsV τ)).flatten
  | [] => rfl
  | x :: xs => ⟨_, _, rfl, flat_mk τ x hf, flat_repL hf xs⟩
theorem chg_grow {w w' : World} (h : Chg (CT := ⟨[], [], true⟩) [] w w') : ∃ q os', w' = grow (w.drewN q) os' := by
  refine ⟨w'.drawn - w.drawn, w'.heap.extract w.heap.size w'.heap.size, ?_⟩
  obtain ⟨heap, tape, drawn, os, output⟩ := w
  obtain ⟨heap', tape', drawn', os', output'⟩ := w'
  obtain ⟨h1, h2, h3, h4, h5, h6⟩ := h
  simp only at h1 h2 h3 h4 h5 h6
  subst h1 h2 h3
  have h6 := h6 trivial
  have : heap' = heap ++ heap'.extract heap.size heap'.size := by
    apply Array.ext_getElem?
    intro j
    rw [Array.getElem?_append]
    by_cases hj : j < heap.size
    · rw [if_pos hj]; exact h5 j hj (by simp)
    · rw [if_neg hj, Array.getElem?_extract]
      by_cases hj2 : j < heap'.size
      · rw [if_pos (by omega)]; congr 1; omega
      · rw [if_neg (by omega), Array.getElem?_eq_none (by omega)]
  show World.mk heap' tape' drawn' os' output' = World.mk (heap ++ heap'.extract heap.size heap'.size) tape' (drawn + (drawn' - drawn)) os' output'
  rw [← this]
  congr 1
  omega

section
variable {P : Program} {ρ : Ren}
/-- slices.SortFunc at structs without slices, by a function that tells all elements apart -/
theorem srt_structs (L : SlLaysF0.n6 P ρ) {f : FuncId} (hf6 : ρ.f 6 = f) {τ : Ty} {i : TypeId} (hi : ρ.t 24 = i) (hflat : τ.flat = true) (hagg : τ.isAgg = true) (aE : ∀ w, (isAgg i).run P w = .ok true w) (zE : ∀ w, (Go.sizeOf i).run P w = .ok τ.size w) {g : FuncId} {res : List Ty} {φ : DL [τ, τ] → Option Int} {tot : Option (DL [τ, τ] → Int)}
    (hc : ConOK (CT := ⟨[], [], true⟩) P g ⟨[τ, τ], true, res, .int .i64, φ, tot⟩) (cf : D τ → D τ → Int) (hcf : ∀ x y, φ (x, y, ()) = some (cf x y)) (hO : SWO (ltOf cf)) (hT : ∀ x y, (ltOf cf) x y = false → (ltOf cf) y x = false → x = y) (eg : ∀ args w, (callFunc g args).run P w = .ok (.enter g args) w) :
    SrtOK P f ⟨i, τ, some g, fun xs => xs.mergeSort fun x y => !(ltOf cf) y x⟩ := by
  subst hf6; subst hi
  refine ⟨hflat, fun xs => List.length_mergeSort xs, fun w S v M xs us hlen hown hrep => ?_⟩
  simp only at hown hrep ⊢
  have hsz : ∀ x : D τ, (cellsV τ x).length = τ.size := fun x => Rep.length τ (flat_mk (w := w) (S := S) τ x hflat)
  have hus := repL_flat hflat hrep
  rcases hown with ⟨rfl, ⟨ao, rfl⟩, h3, h4⟩ | ⟨b, cap, cur, rfl, rfl, hb, hcap, hcap2, hcs, htake⟩
  · have hxs : xs = [] := List.length_eq_zero_iff.1 h3
    subst hxs
    refine (AnyF.slices_SortFunc_none L ao 0 _ w).mono ?_
    rintro e w' ⟨rfl, rfl⟩
    exact ⟨rfl, Chg.refl _ _, us, .inl ⟨rfl, ⟨ao, rfl⟩, rfl, h4⟩, by subst h4; simp [RepL]⟩
  · have hrow := hb
    obtain ⟨fz, hb, hfz⟩ := hb
    have hcmp : CmpLays P g #[] (cellsV τ) τ.size cf b 0 xs.toArray.size w := fun m os dk hdk x y => by
      have := ConOK.calls (CT := ⟨[], [], true⟩) hc (sortWorldK (cellsV τ) τ.size w b 0 m dk os) (fun _ => False) (#[.agg (cellsV τ x).toArray, .agg (cellsV τ y).toArray] ++ #[]) (x, y, ()) (cf x y) (fun _ h => h.elim) (tabR_nil (CT := ⟨[], [], true⟩) rfl rfl)
        ⟨_, _, rfl, ⟨_, flat_mk τ x hflat, by simp [oneV, hagg]⟩, _, _, rfl, ⟨_, flat_mk τ y hflat, by simp [oneV, hagg]⟩, rfl⟩ (hcf x y)
      refine this.mono ?_
      rintro e w' ⟨v, rfl, hch, M', cs, _, _, hr, hv⟩
      refine ⟨?_, chg_grow hch⟩
      rw [hv, hr.2]
      rfl
    have hblk : b < w.heap.size := (Array.getElem?_eq_some_iff.1 hb).1
    have hul : us.length = xs.length * τ.size := by rw [hus]; exact flen _ _ hsz xs
    have hnc : xs.length * τ.size ≤ cur.size := by rw [hcs]; exact Nat.mul_le_mul_right _ hcap
    have hH : HoldsK (cellsV τ) τ.size w b 0 xs.toArray := by
      intro j hj
      rw [size_flatK] at hj
      rw [flatK_list _ _ hsz, ← hus]
      have hj' : j < us.length := by rw [hul]; simpa using hj
      refine ⟨?_, by rw [Nat.zero_add]; exact hrow.fro (by omega)⟩
      simp only [World.cell?, hb, Nat.zero_add]
      have : cur[j]? = us[j]? := by
        rw [← htake, List.getElem?_take, if_pos (by rw [← hul]; exact hj'), Array.getElem?_toList]
      simp [this, hj']
    have := AnyQ.slices_SortFunc_total L τ.size aE zE (cellsV τ) hsz (fun x v hv => Rep.one τ (flat_mk (w := w) (S := S) τ x hflat) v hv) cf hO g #[] b 0 cap xs.toArray w eg hcmp hH hblk (by simpa using hlen) hT
    simp only [List.size_toArray] at this
    refine this.mono ?_
    rintro e w' ⟨rfl, n, os, rfl⟩
    have hl := List.length_mergeSort (le := fun x y => !ltOf cf y x) xs
    generalize hys : xs.mergeSort (fun x y => !ltOf cf y x) = ys at hl ⊢
    simp only [hys]
    have hyl : ((ys.map (cellsV τ)).flatten).length = xs.length * τ.size := by rw [flen _ _ hsz ys, hl]
    have hheap : ∀ j, j < w.heap.size → (sortWorldK (cellsV τ) τ.size w b 0 n ys.toArray os).heap[j]? = if b = j then some (.cells (putCells id 0 (flatK (cellsV τ) τ.size ys.toArray) cur) (ρ.t 24) fz) else w.heap[j]? := fun j hj => by
      simp only [sortWorldK, putRowK, putRow, grow, mapBlock, Sort.ahead]
      rw [Array.getElem?_append_left (by simpa using hj), Array.getElem?_modify]
      by_cases e : b = j
      · subst e; simp [hb, onCells]
      · simp [e]
    refine ⟨trivial, ⟨rfl, rfl, rfl, ?_, fun j hj hn => ?_, ?_⟩, _, .inr ⟨b, cap, putCells id 0 (flatK (cellsV τ) τ.size ys.toArray) cur, rfl, rfl, ?_, hcap, hcap2, ?_, rfl⟩, ?_⟩
    · simp [sortWorldK, putRowK, putRow, grow, mapBlock, Sort.ahead]
    · rw [hheap j hj, if_neg (fun e => hn (by simp [e]))]
    · simp [sortWorldK, putRowK, putRow, grow, mapBlock, Sort.ahead]
    · exact ⟨fz, by rw [hheap b hblk, if_pos rfl], by simpa [putCells] using hfz⟩
    · simp [putCells, hcs]
    · have : (putCells id 0 (flatK (cellsV τ) τ.size ys.toArray) cur).toList.take (xs.length * τ.size) = (ys.map (cellsV τ)).flatten := by
        apply List.ext_getElem?
        intro j
        rw [List.getElem?_take]
        by_cases hj : j < xs.length * τ.size
        · rw [if_pos hj, Array.getElem?_toList, flatK_list _ _ hsz]
          have h1 : j < cur.size := by omega
          simp [putCells, Array.getElem?_mapIdx, h1, hyl, hj]
        · rw [if_neg hj, List.getElem?_eq_none (by rw [hyl]; omega)]
      rw [this]
      exact flat_repL hflat ys
end
end Go.Den
