/- The frame of a law's row: what the arguments are (by a description of their types), and that the law's row follows from its walk. No condition of its own. -/
import Derived.WalkKit
import Derived.ProofKit
import Derived.OpenShut
import Derived.ShutString
import Derived.ChangeOld
import Derived.Below
import Derived.Carry
import Derived.SizedLaws
import Derived.JoinedCond
import Derived.Test.YtocnfflklfeocaaEng
namespace Go.Eng
open Go.ChangeShapes Go.WideShapes Go.ChangeAt Go.RowKit

/-- a description of a plain data type -/
inductive Ty where
  | int (k : IntKind)
  | bool
  | str
  | sl (e : Ty)
  | nil
  | st (f : Ty) (r : Ty)

/-- what it holds: a slice with its address and capacity -/
def D : Ty → Type
  | .int _ => Int
  | .bool => Bool
  | .str => ByteArray
  | .sl e => Option Addr × Nat × List (D e)
  | .nil => Unit
  | .st f r => D f × D r

def Ty.size : Ty → Nat
  | .nil => 0
  | .st f r => f.size + r.size
  | _ => 1

/-- its cells -/
def enc : (τ : Ty) → D τ → List Value
  | .int k, n => [.int k n]
  | .bool, b => [.bool b]
  | .str, s => [.string s]
  | .sl _, (ao, cap, xs) => [.slice ao xs.length cap]
  | .nil, _ => []
  | .st f r, (x, y) => enc f x ++ enc r y

/-- what memory and the numbers owe -/
def Ok (w : World) : (τ : Ty) → D τ → Prop
  | .int k, n => InR k n
  | .bool, _ => True
  | .str, s => s.size ≤ maxLen
  | .sl e, (ao, cap, xs) => xs.length ≤ cap ∧ cap ≤ maxLen ∧ ∀ i (h : i < xs.length), ao.isSome = true ∧ CellsAt w ((adr ao).add (i * e.size)) (enc e xs[i]) ∧ Ok w e xs[i]
  | .nil, _ => True
  | .st f r, (x, y) => Ok w f x ∧ Ok w r y

mutual
/-- the description fits the type -/
def fits (P : Program) : Nat → Ty → TypeId → Bool
  | 0, _, _ => false
  | _ + 1, .int k, t => match P.underlying t with | some (.int k') => sameKind k k' | _ => false
  | _ + 1, .bool, t => match P.underlying t with | some .bool => true | _ => false
  | _ + 1, .str, t => match P.underlying t with | some .string => true | _ => false
  | n + 1, .sl e, t => match P.underlying t with | some (.slice u) => Nat.beq (P.cellsOf u) e.size && fits P n e u | _ => false
  | n + 1, τ, t => match P.underlying t with
    | some (.struct fs) => Nat.beq (P.cellsOf t) τ.size && fitsAll P n τ 0 (fs.toList.map fun f => (f.type, f.offset))
    | some (.array m e) => Nat.beq (P.cellsOf t) τ.size && fitsAll P n τ 0 ((List.range m).map fun i => (e, i * P.cellsOf e))
    | _ => false
def fitsAll (P : Program) : Nat → Ty → Nat → List (TypeId × Nat) → Bool
  | 0, _, _, _ => false
  | _ + 1, .nil, _, [] => true
  | n + 1, .st f r, off, (t, o) :: l => Nat.beq o off && (Nat.beq (P.cellsOf t) f.size && (fits P n f t && fitsAll P n r (off + f.size) l))
  | _ + 1, _, _, _ => false
end

theorem InR.of_wf {k : IntKind} {n : Int} (h : (Lit.int k n).wf = true) : InR k n := by
  cases k <;> simpa [Lit.wf, IntKind.min, IntKind.max, IntKind.signed, IntKind.bits, InR] using h

theorem enc_length : ∀ (τ : Ty) (x : D τ), (enc τ x).length = τ.size
  | .int _, _ => rfl
  | .bool, _ => rfl
  | .str, _ => rfl
  | .sl _, (_, _, _) => rfl
  | .nil, _ => rfl
  | .st f r, (x, y) => by simp [enc, Ty.size, enc_length f x, enc_length r y]

section
variable {H : Type} {ec : TypeId × Value → H} {P : Program} {w : World} {base : Nat} {sp : Nat → Bool} {held : Bool}

theorem mapM_some {α β : Type} {f : α → Option β} : ∀ {l : List α} {ys : List β}, l.mapM f = some ys → ys.length = l.length ∧ ∀ (i : Nat) (x : α), l[i]? = some x → ∃ y, f x = some y ∧ ys[i]? = some y
  | [], ys, h => by simp at h; subst h; exact ⟨rfl, fun i x hx => by simp at hx⟩
  | a :: l, ys, h => by
    simp only [List.mapM_cons, Option.bind_eq_bind] at h
    cases ha : f a with
    | none => rw [ha] at h; cases h
    | some b =>
      rw [ha] at h
      simp only [Option.bind_some] at h
      cases hl : l.mapM f with
      | none => rw [hl] at h; cases h
      | some r =>
        rw [hl] at h
        cases h
        obtain ⟨e, ih⟩ := mapM_some hl
        refine ⟨by simp [e], fun i x hx => ?_⟩
        cases i with
        | zero => simp at hx; subst hx; exact ⟨b, ha, rfl⟩
        | succ i => exact ih i x (by simpa using hx)

theorem cells_at {a : Addr} : ∀ {m : Nat} {cs : List Value}, w.cells? base a m = some cs → cs.length = m ∧ CellsAt w a cs := by
  intro m cs h
  unfold World.cells? at h
  split at h
  · obtain ⟨e, hi⟩ := mapM_some h
    refine ⟨by simpa using e, fun j v hv => ?_⟩
    have hj : j < m := by
      rcases Nat.lt_or_ge j m with h1 | h1
      · exact h1
      · rw [List.getElem?_eq_none (by rw [e]; simpa using h1)] at hv; cases hv
    obtain ⟨y, h1, h2⟩ := hi j j (by simp [hj])
    rw [hv] at h2
    cases h2
    exact h1
  · cases h

theorem getElem_of_some {α : Type} {l : List α} {i : Nat} (h : i < l.length) : ∃ x, l[i]? = some x := ⟨l[i], by simp [h]⟩

theorem choose_list {α : Type} {Q : Nat → α → Prop} : ∀ n : Nat, (∀ i, i < n → ∃ x, Q i x) → ∃ l : List α, l.length = n ∧ ∀ (i : Nat) (h : i < l.length), Q i l[i]
  | 0, _ => ⟨[], rfl, fun i h => by simp at h⟩
  | n + 1, h => by
    obtain ⟨l, e, hl⟩ := choose_list n (fun i hi => h i (by omega))
    obtain ⟨x, hx⟩ := h n (by omega)
    refine ⟨l ++ [x], by simp [e], fun i hi => ?_⟩
    by_cases h2 : i < l.length
    · rw [List.getElem_append_left h2]; exact hl i h2
    · have : i = n := by simp at hi; omega
      subst this
      have e2 : (l ++ [x])[i] = x := by simp [← e]
      rw [e2]; exact hx

theorem open_agg {n : Nat}
    (ih : ∀ (τ : Ty) (off : Nat) (l : List (TypeId × Nat)) (cs : List Value), fitsAll P n τ off l = true →
      (∀ q ∈ l, ∃ fuel x, DataW.trod ec P w base sp held fuel q.1 ((cs.drop q.2).take (P.cellsOf q.1)) = some x) → cs.length = off + τ.size → ∃ y : D τ, cs.drop off = enc τ y ∧ Ok w τ y)
    {τ : Ty} {t : TypeId} {fuel : Nat} {cs : List Value} {x : DataW H × List MemPlace}
    (hf : (match P.underlying t with
      | some (.struct fs) => Nat.beq (P.cellsOf t) τ.size && fitsAll P n τ 0 (fs.toList.map fun f => (f.type, f.offset))
      | some (.array m e) => Nat.beq (P.cellsOf t) τ.size && fitsAll P n τ 0 ((List.range m).map fun i => (e, i * P.cellsOf e))
      | _ => false) = true) (h : DataW.trod ec P w base sp held fuel t cs = some x) : ∃ y : D τ, cs = enc τ y ∧ Ok w τ y := by
  split at hf
  · rename_i fs hu
    simp only [Bool.and_eq_true] at hf
    obtain ⟨xs, m, _, _, hl, hxs, hi⟩ := DataW.trod_struct hu h
    obtain ⟨y, e, o⟩ := ih τ 0 _ cs hf.2 (fun q hq => by
      obtain ⟨f, hfm, rfl⟩ := List.mem_map.1 hq
      obtain ⟨i, hlt, hget⟩ := List.mem_iff_getElem.1 hfm
      have hfi : fs[i]? = some f := by simp [← hget]
      have hlt2 : i < xs.length := by rw [hxs]; simpa using hlt
      obtain ⟨z, hz⟩ := getElem_of_some hlt2
      exact ⟨m, z, (hi i f hfi).trans hz⟩) (by rw [hl, beq_true hf.1]; omega)
    exact ⟨y, by simpa using e, o⟩
  · rename_i m e hu
    simp only [Bool.and_eq_true] at hf
    obtain ⟨xs, fu, _, _, hl, hxs, hi⟩ := DataW.trod_array hu h
    obtain ⟨y, e, o⟩ := ih τ 0 _ cs hf.2 (fun q hq => by
      obtain ⟨i, him, rfl⟩ := List.mem_map.1 hq
      have him := List.mem_range.1 him
      obtain ⟨z, hz⟩ := getElem_of_some (l := xs) (i := i) (by omega)
      exact ⟨fu, z, (hi i him).trans hz⟩) (by rw [hl, beq_true hf.1]; omega)
    exact ⟨y, by simpa using e, o⟩
  · cases hf

theorem open_both : ∀ n : Nat,
    (∀ (τ : Ty) (t : TypeId) (fuel : Nat) (cs : List Value) (x : DataW H × List MemPlace), fits P n τ t = true → DataW.trod ec P w base sp held fuel t cs = some x → ∃ y : D τ, cs = enc τ y ∧ Ok w τ y) ∧
    (∀ (τ : Ty) (off : Nat) (l : List (TypeId × Nat)) (cs : List Value), fitsAll P n τ off l = true →
      (∀ q ∈ l, ∃ fuel x, DataW.trod ec P w base sp held fuel q.1 ((cs.drop q.2).take (P.cellsOf q.1)) = some x) → cs.length = off + τ.size → ∃ y : D τ, cs.drop off = enc τ y ∧ Ok w τ y) := by
  intro n
  induction n with
  | zero => exact ⟨fun τ t _ _ _ h => by simp [fits] at h, fun τ _ _ _ h => by simp [fitsAll] at h⟩
  | succ n ih =>
    refine ⟨?_, ?_⟩
    · intro τ t fuel cs x hf h
      cases τ with
      | int k =>
        simp only [fits] at hf
        split at hf
        · rename_i k' hu
          obtain rfl := sameKind_eq hf
          obtain ⟨m, rfl, _, hw⟩ := DataW.trod_int hu h
          exact ⟨m, rfl, InR.of_wf hw⟩
        · cases hf
      | bool =>
        simp only [fits] at hf
        split at hf
        · rename_i hu
          obtain ⟨b, rfl, _⟩ := DataW.trod_bool hu h
          exact ⟨b, rfl, trivial⟩
        · cases hf
      | str =>
        simp only [fits] at hf
        split at hf
        · rename_i hu
          obtain ⟨s, rfl, _, hs⟩ := DataW.trod_string hu h
          exact ⟨s, rfl, hs⟩
        · cases hf
      | sl e =>
        simp only [fits] at hf
        split at hf
        · rename_i u hu
          simp only [Bool.and_eq_true] at hf
          have hsz := beq_true hf.1
          rcases DataW.trod_slice hu h with ⟨rfl, _⟩ | ⟨a, len, cap, elems, rest, m, _, rfl, _, _, hl, hm, hlen, hel, _, _⟩
          · exact ⟨(none, 0, []), rfl, Nat.le_refl _, Nat.zero_le _, fun i hi => absurd hi (Nat.not_lt_zero _)⟩
          · have hex : ∀ i, i < len → ∃ z : D e, CellsAt w (a.add (i * e.size)) (enc e z) ∧ Ok w e z := by
              intro i hi
              have h1 := hel i hi
              obtain ⟨z, hz⟩ := getElem_of_some (l := elems) (i := i) (by omega)
              rw [hz] at h1
              cases hc : w.cells? base (a.add (i * P.cellsOf u)) (P.cellsOf u) with
              | none => rw [hc] at h1; cases h1
              | some us =>
                rw [hc] at h1
                simp only [Option.bind_some] at h1
                obtain ⟨y, rfl, hy⟩ := ih.1 e u m us z hf.2 h1
                rw [hsz] at hc
                exact ⟨y, (cells_at hc).2, hy⟩
            obtain ⟨xs, hx, hq⟩ := choose_list len hex
            subst hx
            exact ⟨(some a, cap, xs), rfl, hl, hm, fun i hi => ⟨rfl, hq i hi⟩⟩
        · cases hf
      | nil => simp only [fits] at hf; exact open_agg ih.2 hf h
      | st f r => simp only [fits] at hf; exact open_agg ih.2 hf h
    · intro τ off l cs hf hq hl
      cases τ with
      | nil =>
        cases l with
        | nil =>
          refine ⟨(), ?_, trivial⟩
          simp only [Ty.size, Nat.add_zero] at hl
          rw [← hl]
          exact List.drop_length
        | cons _ _ => simp [fitsAll] at hf
      | st f r =>
        cases l with
        | nil => simp [fitsAll] at hf
        | cons q l =>
          obtain ⟨t, o⟩ := q
          simp only [fitsAll, Bool.and_eq_true] at hf
          obtain ⟨h1, h2, h3, h4⟩ := hf
          have e1 := beq_true h1
          have e2 := beq_true h2
          subst e1
          obtain ⟨fuel, x, hx⟩ := hq (t, o) List.mem_cons_self
          simp only at hx
          rw [e2] at hx
          obtain ⟨y, ey, oy⟩ := ih.1 f t fuel _ x h3 hx
          simp only [Ty.size] at hl
          obtain ⟨z, ez, oz⟩ := ih.2 r (o + f.size) l cs h4 (fun q hm => hq q (List.mem_cons_of_mem _ hm)) (by omega)
          refine ⟨(y, z), ?_, oy, oz⟩
          simp only [enc]
          rw [← ey, ← ez, ← List.drop_drop]
          rw [List.take_append_drop]
      | int k => cases l <;> simp [fitsAll] at hf
      | bool => cases l <;> simp [fitsAll] at hf
      | str => cases l <;> simp [fitsAll] at hf
      | sl e => cases l <;> simp [fitsAll] at hf

/-- AN ARGUMENT, OPENED -/
theorem open_arg {τ : Ty} {t : TypeId} {v : Value} {d : DataW H} {ps : List MemPlace} (n : Nat) (hf : fits P n τ t = true) (h : DataW.Trod ec P w base sp held t v d ps) : ∃ y : D τ, v.cells.toList = enc τ y ∧ Ok w τ y := by
  obtain ⟨fuel, h⟩ := h
  exact (open_both n).1 τ t fuel _ _ hf h
end

/-! ### the row -/
theorem cell_value {P : Program} {W : World} {r : Reach} {base : Nat} {t : TypeId} {v u : Value} (h : Value.okWide P W r base t v) (ha : aggOf P t = some false) (hc : v.cells.toList = [u]) : v = u := by
  unfold aggOf at ha
  unfold Value.okWide at h
  cases hu : P.underlying t with
  | none => rw [hu] at ha; cases ha
  | some d =>
    rw [hu] at h ha
    cases v with
    | agg cs => exfalso; cases d <;> simp_all [Cell.okWide, Cell.ok]
    | _ => simpa [Value.cells] using hc
theorem agg_value {P : Program} {W : World} {r : Reach} {base : Nat} {t : TypeId} {v : Value} {cs : List Value} (h : Value.okWide P W r base t v) (ha : aggOf P t = some true) (hc : v.cells.toList = cs) : v = .agg cs.toArray := by
  unfold aggOf at ha
  unfold Value.okWide at h
  cases hu : P.underlying t with
  | none => rw [hu] at ha; cases ha
  | some d =>
    rw [hu] at h ha
    cases d <;> first | (cases ha; done) | skip
    all_goals
      obtain ⟨us, rfl, _, _⟩ := h
      simp only [Value.cells] at hc
      rw [← hc]

/-- an argument as it is handed over -/
def handV : (τ : Ty) → D τ → Value
  | .nil, _ => .agg #[]
  | .st f r, x => .agg (enc (.st f r) x).toArray
  | .int k, n => .int k n
  | .bool, b => .bool b
  | .str, s => .string s
  | .sl _, (ao, cap, xs) => .slice ao xs.length cap
def isAggTy : Ty → Bool
  | .nil => true
  | .st _ _ => true
  | _ => false
/-- the form's own reach, at a slice that is handed over -/
theorem slice_sized {H : Type} {ec : TypeId × Value → H} {P : Program} {w : World} {base : Nat} {sp : Nat → Bool} {held : Bool} {ts : List TypeId} {ds : List (DataW H)} {j : Nat} {t e : TypeId} {τ : Ty} {y : D (.sl τ)} {d : DataW H} {ps : List MemPlace}
    (hs : (DataW.weightsEach P ts ds).all (· ≤ reachBytes) = true) (ht : ts[j]? = some t) (hd : ds[j]? = some d) (hu : P.underlying t = some (.slice e)) (h : DataW.Trod ec P w base sp held t (handV (.sl τ) y) d ps) : y.2.2.length * P.bytesOf e < 140737488355328 := by
  obtain ⟨ao, cap, xs⟩ := y
  obtain ⟨fuel, h⟩ := h
  show xs.length * P.bytesOf e < _
  have hr := reachBytes_lt
  rcases DataW.trod_slice hu h with ⟨h1, _⟩ | ⟨a, len, cap', elems, rest, m, _, h1, h2, _, _, _, h3, _⟩
  · simp only [handV, Value.cells, List.cons.injEq, Value.slice.injEq] at h1
    have : xs.length = 0 := by simpa using h1.1.2.1
    rw [this]; omega
  · simp only [handV, Value.cells, List.cons.injEq, Value.slice.injEq] at h1
    have hlen : xs.length = len := by simpa using h1.1.2.1
    simp only [Prod.mk.injEq] at h2
    rw [h2.1] at hd
    have h4 := sized_slice hs ht hd hu
    simp only [List.length_map] at h4
    have h5 : xs.length * P.bytesOf e ≤ (elems.length + rest.length) * P.bytesOf e := Nat.mul_le_mul_right _ (by omega)
    omega
theorem open_val {H : Type} {ec : TypeId × Value → H} {P : Program} {w : World} {base b : Nat} {sp : Nat → Bool} {held : Bool} {r : Reach} (τ : Ty) {t : TypeId} {v : Value} {d : DataW H} {ps : List MemPlace}
    (hf : (fits P 30 τ t && (match aggOf P t with | some a => beqB a (isAggTy τ) | none => false)) = true) (hv : Value.okWide P w r b t v) (h : DataW.Trod ec P w base sp held t v d ps) : ∃ y : D τ, v = handV τ y ∧ Ok w τ y := by
  simp only [Bool.and_eq_true] at hf
  obtain ⟨y, hc, ho⟩ := open_arg 30 hf.1 h
  refine ⟨y, ?_, ho⟩
  have h2 := hf.2
  split at h2
  · rename_i a ha
    cases τ with
    | nil =>
      have : a = true := by cases a <;> simp_all [beqB, isAggTy]
      subst this
      rw [agg_value hv ha hc]; rfl
    | st f r =>
      have : a = true := by cases a <;> simp_all [beqB, isAggTy]
      subst this
      rw [agg_value hv ha hc]; rfl
    | int k =>
      have : a = false := by cases a <;> simp_all [beqB, isAggTy]
      subst this
      exact cell_value hv ha hc
    | bool =>
      have : a = false := by cases a <;> simp_all [beqB, isAggTy]
      subst this
      exact cell_value hv ha hc
    | str =>
      have : a = false := by cases a <;> simp_all [beqB, isAggTy]
      subst this
      exact cell_value hv ha hc
    | sl e =>
      have : a = false := by cases a <;> simp_all [beqB, isAggTy]
      subst this
      obtain ⟨ao, cap, xs⟩ := y
      exact cell_value hv ha hc
  · cases h2

theorem Ok.ints {w : World} {ao : Option Addr} {cap : Nat} {xs : List Int} (h : Ok w (.sl (.int .i64)) (ao, cap, xs)) : Ints w ao xs ∧ (∀ x ∈ xs, InR .i64 x) ∧ xs.length ≤ 9223372036854775807 := by
  obtain ⟨h1, h2, h3⟩ := h
  refine ⟨fun i hi => ?_, fun x hx => ?_, Nat.le_trans h1 h2⟩
  · obtain ⟨a, b, c⟩ := h3 i hi
    refine ⟨a, ?_⟩
    have := b 0 (.int .i64 (xs.getD i 0)) (by simp [enc, hi]; rfl)
    simpa [Addr.add, Ty.size] using this
  · obtain ⟨i, hi, rfl⟩ := List.mem_iff_getElem.1 hx
    exact (h3 i hi).2.2
section
variable {H : Type} {ec : TypeId × Value → H} {P : Program}

def readAll (P : Program) : List TypeId → Bool
  | [] => true
  | t :: r => (P.readableRec t && Nat.blt t P.types.size) && readAll P r

theorem trodAll_below (hl : laidOutB P = true) {W W' : World} (bel : Below W.heap.size W W') : ∀ (ts : List TypeId) (vs : List Value) (ds : List (DataW H)) (p : List MemPlace), readAll P ts = true →
    DataW.TrodAll ec P W 0 (fun _ => true) true ts vs ds p → DataW.TrodAll ec P W' 0 (fun b => decide (b < W.heap.size)) true ts vs ds p
  | [], [], [], p, _, h => h
  | t :: ts, v :: vs, d :: ds, ps, hr, ⟨p, q, h1, h2, e⟩ => by
    simp only [readAll, Bool.and_eq_true] at hr
    have lt : ∀ x ∈ p, x.block < W.heap.size := by obtain ⟨m, hm⟩ := h1; exact DataW.trod_lt m _ _ _ hm
    exact ⟨p, q, Below.trod hl hr.1.1 (by simpa [Nat.blt_eq] using hr.1.2) h1 bel lt, trodAll_below hl bel ts vs ds q hr.2 h2, e⟩

/-- FROM THE WALK TO THE ROW's POST: a law. -/
theorem law_post {s : ChangeSpec} {fn : Func} {tb : TypeId} (hl : laidOutB P = true) (hr : readAll P fn.params.toList = true) (hres : fn.resultTypes = #[tb]) (hb : P.underlying tb = some .bool) (hv : s.vars = [])
    {W W' : World} {args : Array Value} {ds gs : List (DataW H)} {before : List MemPlace}
    (hs : s.fn H (ds ++ gs) = { results := [.lit (.bool true)], args := ds })
    (hW : DataW.Whole ec P fn.params.toList s.vars false W args.toList ds gs before) (bel : Below W.heap.size W W') :
    s.post ec P fn false true false false W args (.bool true) W' := by
  obtain ⟨p, q, hA, hV, hps, h1, h2⟩ := hW
  refine ⟨ds, gs, before, [], p, [], ⟨p, q, hA, hV, hps, h1, h2⟩, ?_, ?_, ?_, bel.frame _, fun h => by cases h⟩
  · rw [hs, hres]
    exact trodAll_mk1 (shut_bool hb true)
  · rw [hs]
    exact trodAll_below hl bel _ _ _ _ hr hA
  · rw [hv, hs]; rfl
end
end Go.Eng
