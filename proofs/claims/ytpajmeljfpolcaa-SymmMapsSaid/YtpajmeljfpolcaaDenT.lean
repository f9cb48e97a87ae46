/- The sort of integers, from the shelf, as what the interpreter asks. No condition of its own. -/
import Derived.Test.YtpajmeljfpolcaaDenS
import Derived.Shelf.Sort.Plain
import Derived.Shelf.Slices.In.SortNone
namespace Go.Den
open Go.Eng Go.Sort Go.Proofs Go.Shelf Go.Lib
set_option linter.unusedVariables false
set_option linter.unusedSimpArgs false

theorem ints_cells : ∀ xs : List Int, (xs.map (cellsV (.int .i64))).flatten = xs.map (Value.int .i64)
  | [] => rfl
  | x :: xs => congrArg (Value.int .i64 x :: ·) (ints_cells xs)
theorem srt_ints_go {P : Program} {ρ : Ren} (L : Lays.n189 P ρ) (i : TypeId) (w : World) (v : Value) (M : List Nat) (zs : List Int) (us : List Value) (hlen : zs.length < 4611686018427387904) (hown : OwnR w i 1 v M zs.length us) (hus : us = zs.map (Value.int .i64)) :
    Calls P (ρ.f 189) #[v] w (fun e w' => e = .returned (.tuple #[]) ∧ Chg M w w' ∧ ∃ us', OwnR w' i 1 v M zs.length us' ∧ us' = (zs.mergeSort fun x y => decide (x ≤ y)).map (Value.int .i64)) := by
  rcases hown with ⟨rfl, ⟨ao, rfl⟩, h3, h4⟩ | ⟨b, cap, cur, rfl, rfl, hb, hcap, hcap2, hcs, htake⟩
  · have hxs : zs = [] := List.length_eq_zero_iff.1 h3
    subst hxs
    refine (Any.slices_Sort_int_none L ao 0 w).mono ?_
    rintro e w' ⟨rfl, rfl⟩
    exact ⟨rfl, Chg.refl _ _, [], .inl ⟨rfl, ⟨ao, rfl⟩, rfl, rfl⟩, by simp⟩
  · have hblk : b < w.heap.size := (Array.getElem?_eq_some_iff.1 hb).1
    rw [Nat.mul_one] at hcs htake
    have hH : Holds (Value.int .i64) w b 0 zs.toArray := by
      intro j hj
      have hj' : j < zs.length := by simpa using hj
      refine ⟨?_, by simp [World.frozen?, hb]⟩
      simp only [World.cell?, hb, Nat.zero_add]
      have : cur[j]? = us[j]? := by
        rw [← htake, List.getElem?_take, if_pos hj', Array.getElem?_toList]
      simp [this, hus, hj']
    refine (Any.slices_Sort_int L b 0 cap zs w hH hblk hlen).mono ?_
    rintro e w' ⟨rfl, n, os, rfl⟩
    have hl := List.length_mergeSort (le := fun x y => decide (x ≤ y)) zs
    generalize zs.mergeSort (fun x y => decide (x ≤ y)) = ys at hl ⊢
    have hheap : ∀ j, j < w.heap.size → (grow (putRow (Value.int .i64) (Sort.ahead w n) b 0 ys.toArray) os).heap[j]? = if b = j then some (.cells (putCells (Value.int .i64) 0 ys.toArray cur) i (0, 0)) else w.heap[j]? := fun j hj => by
      simp only [putRow, grow, mapBlock, Sort.ahead]
      rw [Array.getElem?_append_left (by simpa using hj), Array.getElem?_modify]
      by_cases e : b = j
      · subst e; simp [hb, onCells]
      · simp [e]
    refine ⟨rfl, ⟨rfl, rfl, rfl, ?_, fun j hj hn => ?_, ?_⟩, _, .inr ⟨b, cap, putCells (Value.int .i64) 0 ys.toArray cur, rfl, rfl, ?_, hcap, hcap2, ?_, rfl⟩, ?_⟩
    · simp [putRow, grow, mapBlock, Sort.ahead]
    · rw [hheap j hj, if_neg (fun e => hn (by simp [e]))]
    · simp [putRow, grow, mapBlock, Sort.ahead]
    · rw [hheap b hblk, if_pos rfl]
    · simp [putCells, hcs]
    · rw [Nat.mul_one]
      apply List.ext_getElem?
      intro j
      rw [List.getElem?_take]
      by_cases hj : j < zs.length
      · rw [if_pos hj, Array.getElem?_toList]
        have h1 : j < cur.size := by omega
        have h2 : j < ys.length := by omega
        simp [putCells, Array.getElem?_mapIdx, h1, h2]
      · rw [if_neg hj, List.getElem?_eq_none (by rw [List.length_map]; omega)]
/-- slices.Sort at []int -/
theorem srt_ints {P : Program} {ρ : Ren} (L : Lays.n189 P ρ) {f : FuncId} (hf : ρ.f 189 = f) (i : TypeId) :
    SrtOK P f ⟨i, .int .i64, none, fun xs : List Int => xs.mergeSort fun x y => decide (x ≤ y)⟩ := by
  subst hf
  refine ⟨rfl, fun xs => List.length_mergeSort xs, fun w S v M xs us hlen hown hrep => ?_⟩
  refine (srt_ints_go L i w v M xs us hlen hown ((repL_flat (τ := .int .i64) rfl hrep).trans (ints_cells xs))).mono ?_
  rintro e w' ⟨h1, h2, us', h3, h4⟩
  refine ⟨h1, h2, us', h3, ?_⟩
  have := flat_repL (w := w') (S := fun _ => False) (τ := .int .i64) rfl (List.mergeSort (α := Int) xs fun x y => decide (x ≤ y))
  rw [h4, ← ints_cells]
  exact this
end Go.Den
