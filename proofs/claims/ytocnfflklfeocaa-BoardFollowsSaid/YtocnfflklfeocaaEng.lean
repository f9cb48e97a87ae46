/- An engine of lemmas for walks: a stepper over code positions and a short list of live slots, whose steps the kernel evaluates; its soundness. No condition of its own. -/
import Derived.WalkKit
import Derived.Deep.Quiet
import Derived.Below
import Derived.Deep.LoopGhost
import Derived.StillTail
import Derived.Laws.StructEq
import Derived.Laws.CopyRow
/-- what contracts hang on: the package-level tables that the program reads; the variables that hold a number or an error, whichever (true: an error); does the count of draws not sink? -/
class Go.Den.Ctx where
  tabs : List (Nat × List Go.Value)
  opens : List (Nat × Bool)
  drawsUp : Bool
namespace Go.Eng
set_option linter.unusedSimpArgs false
set_option linter.unusedVariables false
set_option linter.unusedSectionVars false

abbrev Store := List (Nat × Value)

def get : Store → Nat → Option Value
  | [], _ => none
  | (i, v) :: r, t => bif Nat.beq i t then some v else get r t
def del : Store → Nat → Store
  | [], _ => []
  | (i, v) :: r, t => bif Nat.beq i t then del r t else (i, v) :: del r t
def set (s : Store) (d : Nat) (v : Value) : Store := (d, v) :: del s d
def setO (s : Store) (d : Option Nat) (v : Value) : Store := match d with | some d => set s d v | none => s
def keep : List Nat → Store → Store
  | [], _ => []
  | k :: r, s => match get s k with | some v => (k, v) :: keep r s | none => keep r s

def ev (s : Store) : Operand → Value
  | .tmp t => (get s t).getD undef
  | .const v => v
  | .global g => .pointer (some ⟨g, 0, none⟩)
  | .func f => .func (.func f) #[] #[]
def has (s : Store) : Operand → Bool
  | .tmp t => (get s t).isSome
  | _ => true
def hasAll (s : Store) : List Operand → Bool
  | [] => true
  | x :: r => has s x && hasAll s r

def Sat (n : Nat) (a : Act) (s : Store) : Prop := a.tmps.size = n ∧ a.defers = [] ∧ ∀ t v, get s t = some v → a.tmps[t]? = some v

theorem beq_true {a b : Nat} (h : Nat.beq a b = true) : a = b := Nat.eq_of_beq_eq_true h

theorem get_set_same (s : Store) (d : Nat) (v : Value) : get (set s d v) d = some v := by
  simp [get, set]
theorem get_del {s : Store} {d t : Nat} {v : Value} (h : get (del s d) t = some v) : d ≠ t ∧ get s t = some v := by
  induction s with
  | nil => simp [del, get] at h
  | cons x r ih =>
    obtain ⟨i, u⟩ := x
    simp only [del] at h
    by_cases hi : Nat.beq i d = true
    · simp only [hi, cond_true] at h
      have := ih h
      refine ⟨this.1, ?_⟩
      have hid := beq_true hi
      have : Nat.beq i t = false := by
        cases hb : Nat.beq i t
        · rfl
        · exact absurd ((beq_true hb) ▸ hid.symm) this.1
      simp [get, this, ih h]
    · have hi' : Nat.beq i d = false := Bool.eq_false_iff.2 hi
      simp only [hi', cond_false, get] at h ⊢
      by_cases ht : Nat.beq i t = true
      · simp only [ht, cond_true] at h ⊢
        refine ⟨fun e => ?_, h⟩
        subst e
        rw [ht] at hi'; cases hi'
      · have ht' : Nat.beq i t = false := Bool.eq_false_iff.2 ht
        simp only [ht', cond_false] at h ⊢
        exact ih h
theorem get_set_of {s : Store} {d t : Nat} {v u : Value} (h : get (set s d v) t = some u) : (d = t ∧ v = u) ∨ (d ≠ t ∧ get s t = some u) := by
  simp only [set, get] at h
  by_cases ht : Nat.beq d t = true
  · simp only [ht, cond_true, Option.some.injEq] at h
    exact .inl ⟨beq_true ht, h⟩
  · have ht' : Nat.beq d t = false := Bool.eq_false_iff.2 ht
    simp only [ht', cond_false] at h
    exact .inr (get_del h)
theorem get_keep {ks : List Nat} {s : Store} {t : Nat} {v : Value} (h : get (keep ks s) t = some v) : get s t = some v := by
  induction ks with
  | nil => simp [keep, get] at h
  | cons k r ih =>
    simp only [keep] at h
    split at h
    · rename_i u hu
      simp only [get] at h
      by_cases hk : Nat.beq k t = true
      · simp only [hk, cond_true, Option.some.injEq] at h
        rw [← beq_true hk, ← h]; exact hu
      · have hk' : Nat.beq k t = false := Bool.eq_false_iff.2 hk
        simp only [hk', cond_false] at h
        exact ih h
    · exact ih h

theorem Sat.eval {n : Nat} {a : Act} {s : Store} (h : Sat n a s) {x : Operand} (hx : has s x = true) : a.eval x = ev s x := by
  cases x with
  | tmp t =>
    simp only [has, Option.isSome_iff_exists] at hx
    obtain ⟨v, hv⟩ := hx
    have := h.2.2 t v hv
    simp [Act.eval, ev, hv, Array.getD_eq_getD_getElem?, this]
  | const v => rfl
  | global g => rfl
  | func f => rfl
theorem Sat.put {n : Nat} {a : Act} {s : Store} (h : Sat n a s) {d : Nat} (hd : d < n) (v : Value) : Sat n (a.put (some d) v) (set s d v) := by
  refine ⟨by simp [Act.put, h.1], h.2.1, fun t u hu => ?_⟩
  rcases get_set_of hu with ⟨rfl, rfl⟩ | ⟨hne, hg⟩
  · simp [Act.put, h.1, hd]
  · simp only [Act.put]
    rw [Array.getElem?_setIfInBounds_ne hne]
    exact h.2.2 t u hg
theorem Sat.putO {n : Nat} {a : Act} {s : Store} (h : Sat n a s) {d : Option Nat} (hd : d.all (Nat.blt · n) = true) (v : Value) : Sat n (a.put d v) (setO s d v) := by
  cases d with
  | none => exact h
  | some d => exact h.put (by simpa [Nat.blt_eq] using hd) v
theorem Sat.keep {n : Nat} {a : Act} {s : Store} (h : Sat n a s) (ks : List Nat) : Sat n a (keep ks s) :=
  ⟨h.1, h.2.1, fun t v hv => h.2.2 t v (get_keep hv)⟩
/-- A store that is weaker: each of its slots stands in the other. -/
theorem Sat.weak {n : Nat} {a : Act} {s t : Store} (h : Sat n a s) (ht : Eng.keep (t.map (·.1)) s = t) : Sat n a t := ht ▸ h.keep _

/-! ### one operation -/
inductive Dir where
  | bit (b : Bool)
  | raw
  | ans (v : Value)
  | ld (v : Value)
  | lds (vs : List Value)
  | call (v : Value)

def All : List Prop → Prop
  | [] => True
  | p :: r => p ∧ All r
theorem All.append {l r : List Prop} (h : All (l ++ r)) : All l ∧ All r := by
  induction l with
  | nil => exact ⟨trivial, h⟩
  | cons p l ih => exact ⟨⟨h.1, (ih h.2).1⟩, (ih h.2).2⟩

def InR : IntKind → Int → Prop
  | .i8, n => -128 ≤ n ∧ n ≤ 127
  | .i16, n => -32768 ≤ n ∧ n ≤ 32767
  | .i32, n => -2147483648 ≤ n ∧ n ≤ 2147483647
  | .i64, n => -9223372036854775808 ≤ n ∧ n ≤ 9223372036854775807
  | .u8, n => 0 ≤ n ∧ n ≤ 255
  | .u16, n => 0 ≤ n ∧ n ≤ 65535
  | .u32, n => 0 ≤ n ∧ n ≤ 4294967295
  | .u64, n => 0 ≤ n ∧ n ≤ 18446744073709551615
theorem InR.wrap {k : IntKind} {n : Int} (h : InR k n) : k.wrap n = n := by
  cases k <;> simp only [InR] at h <;> simp [IntKind.wrap, IntKind.signed, IntKind.bits] <;> omega

def sameKind : IntKind → IntKind → Bool
  | .i8, .i8 | .i16, .i16 | .i32, .i32 | .i64, .i64 | .u8, .u8 | .u16, .u16 | .u32, .u32 | .u64, .u64 => true
  | _, _ => false
theorem sameKind_eq {k k' : IntKind} (h : sameKind k k' = true) : k = k' := by cases k <;> cases k' <;> first | rfl | cases h

def aggOf (P : Program) (t : TypeId) : Option Bool := match P.underlying t with
  | some (.struct _) => some true
  | some (.array _ _) => some true
  | some _ => some false
  | none => none
theorem aggOf_run {P : Program} {t : TypeId} {b : Bool} (h : aggOf P t = some b) (w : World) : (isAgg t).run P w = .ok b w := by
  unfold aggOf at h
  cases hu : P.underlying t with
  | none => simp [hu] at h
  | some d => cases d <;> simp [hu] at h <;> simp [isAgg, underlying, hu, ← h, go_sem]

mutual
/-- whether two plain values are equal, cell by cell -/
def eqT (P : Program) : Nat → TypeId → List Value → List Value → Option Bool
  | 0, _, _, _ => none
  | n + 1, t, xs, ys => match P.underlying t with
    | some .bool => match xs, ys with | [.bool a], [.bool b] => some (a == b) | _, _ => none
    | some (.int _) => match xs, ys with | [.int k a], [.int k' b] => bif sameKind k k' then some (a == b) else none | _, _ => none
    | some .string => match xs, ys with | [.string a], [.string b] => some (a == b) | _, _ => none
    | some (.struct fs) => bif P.stoodInHeld t || fs.toList.any (fun f => f.name == "_") then none else eqL P n (fs.toList.map fun f => (f.type, f.offset)) xs ys
    | some (.array m e) => match P.info? e with | some i => eqL P n ((List.range m).map fun j => (e, j * i.size)) xs ys | none => none
    | _ => none
def eqL (P : Program) : Nat → List (TypeId × Nat) → List Value → List Value → Option Bool
  | 0, _, _, _ => none
  | _ + 1, [], _, _ => some true
  | n + 1, (t, o) :: l, xs, ys => match P.info? t, aggOf P t with
    | some i, some true => match eqT P n t ((xs.drop o).take i.size) ((ys.drop o).take i.size), eqL P n l xs ys with
      | some b, some r => some (b && r)
      | _, _ => none
    | some _, some false => match eqT P n t ((xs.drop o).take 1) ((ys.drop o).take 1), eqL P n l xs ys with
      | some b, some r => some (b && r)
      | _, _ => none
    | _, _ => none
end

def scale (m : Nat) : Nat → Nat
  | 1 => m
  | s => m * s
theorem scale_eq (m s : Nat) : scale m s = m * s := by
  unfold scale
  split
  · simp
  · rfl
/-- the address behind a slice (whatever, if it is nil) -/
def adr (ao : Option Addr) : Addr := match ao with
  | some a => a
  | none => ⟨0, 0, none⟩
/-- Sums, differences, products and quotients whose result fits; addresses of elements. -/
def arith (P : Program) (s : Store) : Op → Option (Value × List Prop)
  | .binOp .add _ x y _ => match ev s x, ev s y with
    | .int k a, .int k' b => bif sameKind k k' then some (.int k (a + b), [InR k (a + b)]) else none
    | _, _ => none
  | .binOp .sub _ x y _ => match ev s x, ev s y with
    | .int k a, .int k' b => bif sameKind k k' then some (.int k (a - b), [InR k (a - b)]) else none
    | _, _ => none
  | .binOp .mul _ x y _ => match ev s x, ev s y with
    | .int k a, .int k' b => bif sameKind k k' then some (.int k (a * b), [InR k (a * b)]) else none
    | _, _ => none
  | .binOp .quo _ x y _ => match ev s x, ev s y with
    | .int k a, .int k' b => bif sameKind k k' then some (.int k (a / b), [InR k a, 0 ≤ a, 0 < b]) else none
    | _, _ => none
  | .binOp .rem _ x y _ => match ev s x, ev s y with
    | .int k a, .int k' b => bif sameKind k k' then some (.int k (a % b), [0 ≤ a, 0 < b]) else none
    | _, _ => none
  | .unOp .neg _ x => match ev s x with
    | .int k a => some (.int k (-a), [InR k (-a)])
    | _ => none
  | .convert src dst x => match P.underlying src, P.underlying dst, ev s x with
    | some _, some (.int k), .int _ n => some (.int k n, [InR k n])
    | _, _, _ => none
  | .indexAddr t x i => match P.underlying t, ev s x, ev s i with
    | some (.slice e), .slice ao len _, .int _ n => match P.info? e with
      | some inf => some (.pointer (some ((adr ao).add (scale n.toNat inf.size))), [0 ≤ n ∧ n < (len : Int), ao.isSome = true])
      | none => none
    | some (.array len e), .pointer (some a), .int _ n => match P.info? e with
      | some inf => some (.pointer (some (a.add (scale n.toNat inf.size))), [0 ≤ n ∧ n < (len : Int)])
      | none => none
    | _, _, _ => none
  | _ => none

/-- slice expressions; equality of plain structs and arrays -/
def extra (P : Program) (s : Store) : Op → Option (Value × List Prop)
  | .slice t x none (some h) none => match P.underlying t, ev s x, ev s h with
    | some (.slice e), .slice ao _ cap, .int _ n => match P.info? e with
      | some _ => some (.slice ao n.toNat cap, [0 ≤ n ∧ n ≤ (cap : Int)])
      | none => none
    | _, _, _ => none
  | .binOp .eql t x y _ => match ev s x, ev s y with
    | .agg xs, .agg ys => bif P.eqGuardType P.depth t || !(match aggOf P t with | some b => b | none => false) then none else match eqT P 40 t xs.toList ys.toList with
      | some b => some (.bool b, [])
      | none => none
    | _, _ => none
  | .binOp .neq t x y _ => match ev s x, ev s y with
    | .agg xs, .agg ys => bif P.eqGuardType P.depth t || !(match aggOf P t with | some b => b | none => false) then none else match eqT P 40 t xs.toList ys.toList with
      | some b => some (.bool (!b), [])
      | none => none
    | _, _ => none
  | _ => none

def pureOf (P : Program) : Sem Next → Option Value
  | .pure (.value v) => some v
  | .program k => pureOf P (k P)
  | _ => none
theorem pureOf_run {P : Program} {m : Sem Next} {v : Value} (h : pureOf P m = some v) (w : World) : m.run P w = .ok (.value v) w := by
  induction m with
  | pure a => cases a <;> simp only [pureOf] at h <;> first | (cases h; rfl) | cases h
  | program k ih => simp only [pureOf] at h; simp only [Sem.run]; exact ih P h
  | _ => simp [pureOf] at h

/-- a function that has a body, and is entered -/
def bodied (P : Program) (f : FuncId) : Bool := match P.funcs[f]? with
  | some fn => fn.body.isSome && !(fn.name == "runtime.NumGoroutine")
  | none => false
theorem callFunc_run {P : Program} {f : FuncId} (h : bodied P f = true) (args : Array Value) (w : World) : (callFunc f args).run P w = .ok (.enter f args) w := by
  unfold bodied at h
  split at h
  · rename_i fn hf
    simp only [Bool.and_eq_true, Bool.not_eq_true'] at h
    have hb : fn.body.isNone = false := by cases hbb : fn.body <;> simp_all
    have h2 : ¬ fn.name = "runtime.NumGoroutine" := by simpa using h.2
    simp [callFunc, hf, h2, go_sem]
    intro hn
    simp [hn] at hb
  · cases h

/-- the function and the arguments of a call -/
def callOf (s : Store) : Op → Option (FuncId × Array Value)
  | .call ⟨.value x, args, _⟩ => match ev s x with
    | .func (.func f) first captured => some (f, (first.toList ++ (args.toList.map (ev s)) ++ captured.toList).toArray)
    | _ => none
  | _ => none
theorem callOf_exec {s : Store} {o : Oper} {f : FuncId} {args : Array Value} (h : callOf s o.op = some (f, args)) : execOp (ev s) o = callFunc f args := by
  obtain ⟨dst, op, type, pos, after, guard⟩ := o
  cases op with
  | call c =>
    obtain ⟨callee, xs, ts⟩ := c
    cases callee with
    | value x =>
      simp only [callOf] at h
      split at h
      · rename_i g first captured hx
        cases h
        simp only [execOp, resolve, hx, Deferred.ofValue]
        show (Sem.bind (Sem.pure _) _) = _
        simp only [Sem.bind, invoke]
        congr 1
        simp
      · cases h
    | _ => simp [callOf] at h
  | _ => simp [callOf] at h

def CellsAt (w : World) (a : Addr) (vs : List Value) : Prop := ∀ j v, vs[j]? = some v → w.cell? (a.add j) = some v

/-- an operation that leaves the world alone, or a quiet call: its value and what is owed -/
def stepOp (P : Program) (C : World → Prop) (s : Store) (o : Oper) : Option Dir → Option (Value × List Prop)
  | some (.ans v) => some (v, [∀ w, C w → (execOp (ev s) o).run P w = .ok (.value v) w])
  | some (.ld v) => match o.op with
    | .load t x => match ev s x, aggOf P t with
      | .pointer (some a), some false => some (v, [∀ w, C w → w.cell? a = some v])
      | _, _ => none
    | _ => none
  | some (.lds vs) => match o.op with
    | .load t x => match ev s x, aggOf P t, P.info? t with
      | .pointer (some a), some true, some i => bif Nat.beq i.size vs.length then some (.agg vs.toArray, [∀ w, C w → CellsAt w a vs]) else none
      | _, _, _ => none
    | _ => none
  | some (.call v) => match callOf s o.op with
    | some (f, args) => bif bodied P f then some (v, [∀ w, C w → Calls P f args w fun e w' => e = .returned v ∧ C w']) else none
    | none => none
  | some .raw => match pureOf P (execOp (ev s) o) with
    | some v => some (v, [])
    | none => none
  | some (.bit b) => match extra P s o.op with
    | some (.bool c, []) => some (.bool b, [c = b])
    | _ => match pureOf P (execOp (ev s) o) with
      | some (.bool c) => some (.bool b, [c = b])
      | _ => none
  | none => match arith P s o.op with
    | some r => some r
    | none => match extra P s o.op with
      | some r => some r
      | none => match pureOf P (execOp (ev s) o) with
        | some v => some (v, [])
        | none => none

theorem loadCellsFrom_run {P : Program} {w : World} {a : Addr} : ∀ (vs : List Value) (i : Nat) (acc : Array Value), (∀ j v, vs[j]? = some v → w.cell? (a.add (i + j)) = some v) →
    (loadCellsFrom a i vs.length acc).run P w = .ok (acc ++ vs.toArray) w
  | [], i, acc, _ => by simp [loadCellsFrom, go_sem]
  | v :: r, i, acc, h => by
    have h0 := h 0 v rfl
    have ih := loadCellsFrom_run (P := P) (w := w) (a := a) r (i + 1) (acc.push v) (fun j u hu => by
      have := h (j + 1) u hu
      rw [show i + 1 + j = i + (j + 1) by omega]; exact this)
    show (Sem.bind (load (a.add i)) _).run P w = _
    simp only [load, Sem.bind, Sem.run]
    simp only [Nat.add_zero] at h0
    rw [h0]
    simp only
    rw [ih]
    simp


theorem arith_run {P : Program} {s : Store} {o : Oper} {v : Value} {φ : List Prop} (h : arith P s o.op = some (v, φ)) (hφ : All φ) (w : World) : (execOp (ev s) o).run P w = .ok (.value v) w := by
  obtain ⟨dst, op, type, pos, after, guard⟩ := o
  cases op with
  | binOp b t x y t' =>
    cases b <;> simp only [arith] at h <;> (try cases h) <;> (split at h) <;> (try cases h)
    all_goals
      rename_i k a k' b hx hy
      by_cases hk : sameKind k k' = true
      · simp only [hk, cond_true, Option.some.injEq, Prod.mk.injEq] at h
        obtain ⟨rfl, rfl⟩ := h
        obtain rfl := sameKind_eq hk
        first
          | (have hw := InR.wrap hφ.1
             simp [execOp, eqGuard, binOp, hx, hy, Op.intArith, hw, go_sem]; done)
          | (have h0 := hφ.1; have h1 := hφ.2.1
             have hne : ¬ b = 0 := by omega
             simp [execOp, eqGuard, binOp, hx, hy, Op.intDiv, hne, go_sem, Int.tmod_eq_emod_of_nonneg h0]; done)
          | (have h0 := hφ.2.1; have h1 := hφ.2.2.1
             have hne : ¬ b = 0 := by omega
             have hd : a.tdiv b = a / b := Int.tdiv_eq_ediv_of_nonneg h0
             have hw : k.wrap (a / b) = a / b := InR.wrap (by
               have hr := hφ.1
               have l1 : 0 ≤ a / b := Int.ediv_nonneg h0 (by omega)
               have l2 : a / b ≤ a := Int.ediv_le_self b h0
               cases k <;> simp only [InR] at hr ⊢ <;> omega)
             simp [execOp, eqGuard, binOp, hx, hy, Op.intDiv, hne, go_sem, hd, hw]; done)
      · simp only [Bool.eq_false_iff.2 hk, cond_false] at h; cases h
  | unOp u t x =>
    cases u <;> simp only [arith] at h <;> (try cases h) <;> (split at h) <;> (try cases h)
    rename_i k a hx
    have hw := InR.wrap hφ.1
    simp [execOp, Op.unary, hx, Op.intArith, hw, go_sem]
  | convert src dst x =>
    simp only [arith] at h
    split at h
    · rename_i d k k' n hs hu hx
      cases h
      have hw := InR.wrap hφ.1
      simp [execOp, convert, underlying, hx, hs, hu, Conv.intToInt, hw, go_sem]
    · cases h
  | indexAddr t x i =>
    simp only [arith] at h
    split at h
    · rename_i e ao len cap k n hu hx hi
      split at h
      · rename_i inf hinf
        cases h
        have hb := hφ.1
        have ho := hφ.2.1
        cases ao with
        | none => cases ho
        | some a =>
        simp only [scale_eq, adr]
        simp [execOp, Instr.indexAt, hx, hi, asIntOf, underlying, sizeOf, typeInfo, hu, hinf, hb, go_sem]
      · cases h
    · rename_i len e a k n hu hx hi
      split at h
      · rename_i inf hinf
        cases h
        have hb := hφ.1
        simp only [scale_eq]
        simp [execOp, Instr.indexAt, Instr.sureAddr, hx, hi, asIntOf, underlying, sizeOf, typeInfo, hu, hinf, hb, go_sem]
      · cases h
    · cases h
  | _ => simp [arith] at h


/-- a value out of its cells -/
def valC (P : Program) (t : TypeId) (cs : List Value) : Value := match aggOf P t with
  | some true => .agg cs.toArray
  | _ => cs.headD undef

theorem part_run {P : Program} {t : TypeId} {cs : List Value} {o : Nat} {i : TypeInfo} (hi : P.info? t = some i) (w : World) :
    (aggOf P t = some true → (part t cs.toArray o).run P w = .ok (.agg ((cs.drop o).take i.size).toArray) w) ∧
    (aggOf P t = some false → ∀ u, (cs.drop o).take 1 = [u] → (part t cs.toArray o).run P w = .ok u w) := by
  refine ⟨fun ha => ?_, fun ha u hu => ?_⟩
  · simp [part, aggOf_run ha, sizeOf, typeInfo, hi, go_sem]
  · have : cs[o]? = some u := by
      have := congrArg (fun l : List Value => l[0]?) hu
      simpa using this
    simp [part, aggOf_run ha, this, go_sem]

theorem eq_leaf {P : Program} {n : Nat} {t : TypeId} {xs ys : List Value} {b : Bool} (ha : aggOf P t = some false) (h : eqT P n t xs ys = some b) : ∃ u v, xs = [u] ∧ ys = [v] := by
  cases n with
  | zero => simp [eqT] at h
  | succ n =>
    simp only [eqT] at h
    unfold aggOf at ha
    cases hu : P.underlying t with
    | none => rw [hu] at ha; cases ha
    | some d =>
      rw [hu] at h ha
      cases d <;> simp only at h ha <;> first | (cases h; done) | (cases ha; done) | skip
      all_goals
        split at h
        · exact ⟨_, _, rfl, rfl⟩
        · cases h

def eqFold (d : Nat) (xs ys : List Value) : List (TypeId × Nat) → Sem Bool
  | [] => pure true
  | q :: l => do
    let a ← part q.1 xs.toArray q.2
    let c ← part q.1 ys.toArray q.2
    let e ← Op.equalIn d q.1 a c
    if (!e) = true then pure false else eqFold d xs ys l

theorem eqT_run {P : Program} : ∀ (n : Nat),
    (∀ (d : Nat) (t : TypeId) (xs ys : List Value) (b : Bool) (w : World), n ≤ d → eqT P n t xs ys = some b → (Op.equalIn d t (valC P t xs) (valC P t ys)).run P w = .ok b w) ∧
    (∀ (d : Nat) (l : List (TypeId × Nat)) (xs ys : List Value) (b : Bool) (w : World), n ≤ d → eqL P n l xs ys = some b →
      (eqFold d xs ys l).run P w = .ok b w) := by
  intro n
  induction n with
  | zero => exact ⟨fun _ _ _ _ _ _ _ h => by simp [eqT] at h, fun _ _ _ _ _ _ _ h => by simp [eqL] at h⟩
  | succ n ih =>
    refine ⟨?_, ?_⟩
    · intro d t xs ys b w hd h
      cases d with
      | zero => omega
      | succ d =>
      simp only [eqT] at h
      cases hu : P.underlying t with
      | none => rw [hu] at h; cases h
      | some D =>
        rw [hu] at h
        cases D <;> simp only at h <;> first | (cases h; done) | skip
        case bool =>
          split at h
          · cases h
            simp [valC, aggOf, hu, Op.equalIn, underlying, go_sem]
          · cases h
        case int k =>
          split at h
          · rename_i k1 a k2 c
            by_cases hk : sameKind k1 k2 = true
            · simp only [hk, cond_true, Option.some.injEq] at h
              subst h
              obtain rfl := sameKind_eq hk
              simp [valC, aggOf, hu, Op.equalIn, underlying, go_sem]
            · simp only [Bool.eq_false_iff.2 hk, cond_false] at h; cases h
          · cases h
        case string =>
          split at h
          · cases h
            simp [valC, aggOf, hu, Op.equalIn, underlying, go_sem]
          · cases h
        case struct fs =>
          by_cases hc : (P.stoodInHeld t || fs.toList.any (fun f => f.name == "_")) = true
          · simp only [hc, cond_true] at h; cases h
          · simp only [Bool.eq_false_iff.2 hc, cond_false] at h
            have hc' := Bool.eq_false_iff.2 hc
            rw [Bool.or_eq_false_iff] at hc'
            have hfo : P.fieldsOf t = fs := by simp [Program.fieldsOf, hu]
            have hs := run_equalIn_struct (P := P) w d t xs.toArray ys.toArray (by rw [hfo]; exact hu) hc'.1
            rw [hfo] at hs
            have hv : valC P t xs = .agg xs.toArray ∧ valC P t ys = .agg ys.toArray := by simp [valC, aggOf, hu]
            rw [hv.1, hv.2, hs]
            have hf := ih.2 d (fs.toList.map fun f => (f.type, f.offset)) xs ys b w (by omega) h
            rw [← hf]
            congr 1
            have hnb : ∀ f ∈ fs.toList, f.name ≠ "_" := by
              intro f hf e
              have := hc'.2
              rw [List.any_eq_false] at this
              exact this f hf (by simp [e])
            generalize fs.toList = l at hnb
            induction l with
            | nil => rfl
            | cons f l ihl =>
              simp only [Op.eqFields, List.map_cons, eqFold]
              rw [if_pos (hnb f List.mem_cons_self), ihl (fun g hg => hnb g (List.mem_cons_of_mem _ hg))]
        case array m e =>
          split at h
          · rename_i i hi
            have hv : valC P t xs = .agg xs.toArray ∧ valC P t ys = .agg ys.toArray := by simp [valC, aggOf, hu]
            rw [hv.1, hv.2]
            have hf := ih.2 d ((List.range m).map fun j => (e, j * i.size)) xs ys b w (by omega) h
            rw [← hf]
            have hsz : (sizeOf e).run P w = .ok i.size w := by simp [sizeOf, typeInfo, hi, go_sem]
            simp only [Op.equalIn, Sem.run_bind, run_underlying hu, Result.andThen_ok, hsz, Std.Legacy.Range.forIn_eq_forIn_range', Std.Legacy.Range.size, Nat.sub_zero, Nat.add_sub_cancel, Nat.div_one]
            rw [List.range_eq_range']
            generalize 0 = z
            clear hf h hu hsz
            induction m generalizing z w with
            | zero => simp [eqFold]
            | succ m ihm =>
              rw [List.range'_succ]
              simp only [List.forIn_cons, List.map_cons, eqFold, Sem.run_bind, Sem.run_ite]
              generalize (part e xs.toArray (z * i.size)).run P w = r1
              cases r1 with
              | ok a w1 =>
                simp only [Result.andThen_ok]
                generalize (part e ys.toArray (z * i.size)).run P w1 = r2
                cases r2 with
                | ok b w2 =>
                  simp only [Result.andThen_ok]
                  generalize (Op.equalIn d e a b).run P w2 = r3
                  cases r3 with
                  | ok r w3 =>
                    cases r
                    · simp only [Result.andThen_ok, Bool.not_false, if_true, Sem.run_pure]
                    · simp only [Result.andThen_ok, Bool.not_true, Bool.false_eq_true, if_false, Sem.run_pure]
                      exact ihm w3 (z + 1)
                  | halt x w3 => simp [Result.andThen]
                | halt x w2 => simp [Result.andThen]
              | halt x w1 => simp [Result.andThen]
          · cases h
    · intro d l xs ys b w hd h
      cases l with
      | nil => simp only [eqL] at h; cases h; rfl
      | cons q l =>
        obtain ⟨t, o⟩ := q
        simp only [eqL] at h
        split at h
        · rename_i i hi ha
          split at h
          · rename_i c r h1 h2
            cases h
            have p1 := (part_run (P := P) (cs := xs) (o := o) hi w).1 ha
            have p2 := (part_run (P := P) (cs := ys) (o := o) hi w).1 ha
            have e1 := ih.1 d t _ _ c w (by omega) h1
            have e2 := ih.2 d l xs ys r w (by omega) h2
            simp only [valC, ha] at e1
            simp only [eqFold, Sem.run_bind, p1, p2, Result.andThen_ok, e1]
            cases c <;> simp [e2]
          · cases h
        · rename_i i hi ha
          split at h
          · rename_i c r h1 h2
            cases h
            obtain ⟨u, v, hu, hv⟩ := eq_leaf ha h1
            have p1 := (part_run (P := P) (cs := xs) (o := o) hi w).2 ha u hu
            have p2 := (part_run (P := P) (cs := ys) (o := o) hi w).2 ha v hv
            have e1 := ih.1 d t _ _ c w (by omega) h1
            have e2 := ih.2 d l xs ys r w (by omega) h2
            simp only [valC, ha, hu, hv, List.headD_cons] at e1
            simp only [eqFold, Sem.run_bind, p1, p2, Result.andThen_ok, e1]
            cases c <;> simp [e2]
          · cases h
        · cases h

theorem extra_run {P : Program} {s : Store} {o : Oper} {v : Value} {φ : List Prop} (h : extra P s o.op = some (v, φ)) (hφ : All φ) (w : World) : (execOp (ev s) o).run P w = .ok (.value v) w := by
  obtain ⟨dst, op, type, pos, after, guard⟩ := o
  cases op with
  | slice t x lo hi mx =>
    cases lo with
    | some _ => simp [extra] at h
    | none =>
    cases hi with
    | none => simp [extra] at h
    | some hi =>
    cases mx with
    | some _ => simp [extra] at h
    | none =>
    simp only [extra] at h
    split at h
    · rename_i e ao len cap k n hu hx hy
      split at h
      · rename_i inf hinf
        cases h
        have hb := hφ.1
        have hz : (if cap = 0 then ao else Option.map (fun x => x.add 0) ao) = ao := by
          split
          · rfl
          · cases ao <;> simp [Addr.add]
        simp [execOp, Instr.sliceAt, Instr.slice, Instr.sliceBounds, Instr.sliceBound, underlying, sizeOf, typeInfo, hu, hinf, hx, hy, asIntOf, hb, hz, go_sem]
      · cases h
    · cases h
  | binOp b t x y t' =>
    cases b <;> simp only [extra] at h <;> (try cases h)
    all_goals
      split at h
      · rename_i xs ys hx hy
        by_cases hg : (P.eqGuardType P.depth t || !(match aggOf P t with | some b => b | none => false)) = true
        · simp only [hg, cond_true] at h; cases h
        · have hg0 := Bool.eq_false_iff.2 hg
          simp only [hg0, cond_false] at h
          rw [Bool.or_eq_false_iff] at hg0
          have hg' := hg0.1
          split at h
          · rename_i c hc
            cases h
            have hag : aggOf P t = some true := by
              have h2 := hg0.2
              cases ha : aggOf P t with
              | none => rw [ha] at h2; cases h2
              | some b => rw [ha] at h2; cases b <;> simp_all
            have he := (eqT_run (P := P) 40).1 Op.maxDepth t xs.toList ys.toList c w (by decide) hc
            simp only [valC, hag] at he
            simp [execOp, eqGuard, binOp, hx, hy, Op.equal, he, hg', go_sem]
          · cases h
      · cases h
  | _ => simp [extra] at h

def noSel : Op → Bool
  | .select _ _ => false
  | _ => true
theorem noSel_spec {o : Op} (h : noSel o = true) : ∀ cs b, o ≠ .select cs b := by
  intro cs b e; subst e; cases h

theorem loadAt_run {P : Program} {s : Store} {o : Oper} {t : TypeId} {x : Operand} {a : Addr} {v : Value} {w : World} (ho : o.op = .load t x) (hx : ev s x = .pointer (some a)) (ht : aggOf P t = some false) (hc : w.cell? a = some v) :
    (execOp (ev s) o).run P w = .ok (.value v) w := by
  obtain ⟨dst, op, type, pos, after, guard⟩ := o
  simp only at ho
  subst ho
  simp [execOp, Instr.loadAt, hx, Instr.sureAddr, loadVar, aggOf_run ht, hc, go_sem]

theorem loadAgg_run {P : Program} {s : Store} {o : Oper} {t : TypeId} {x : Operand} {a : Addr} {vs : List Value} {i : TypeInfo} {w : World} (ho : o.op = .load t x) (hx : ev s x = .pointer (some a)) (ht : aggOf P t = some true) (hi : P.info? t = some i) (hs : i.size = vs.length) (hc : CellsAt w a vs) :
    (execOp (ev s) o).run P w = .ok (.value (.agg vs.toArray)) w := by
  obtain ⟨dst, op, type, pos, after, guard⟩ := o
  simp only at ho
  subst ho
  have hl := loadCellsFrom_run (P := P) (w := w) (a := a) vs 0 #[] (fun j v hv => by rw [Nat.zero_add]; exact hc j v hv)
  simp [execOp, Instr.loadAt, hx, Instr.sureAddr, loadVar, aggOf_run ht, sizeOf, typeInfo, hi, loadCells, hs, hl, go_sem]

/-- WHAT A STEP SHOWS: the operation is quiet in the class. -/
theorem stepOp_quiet {P : Program} {C : World → Prop} {n : Nat} {s : Store} {o : Oper} {dir : Option Dir} {v : Value} {φ : List Prop} {a : Act}
    (h : stepOp P C s o dir = some (v, φ)) (hφ : All φ) (hs : Sat n a s) (hh : hasAll s o.op.operands.toList = true) (hn : noSel o.op = true) :
    ∃ u, (∀ w, C w → o.quietAt P a C w u) ∧ u = v := by
  have hall : ∀ x ∈ o.op.operands, a.eval x = ev s x := by
    intro x hx
    have : ∀ (l : List Operand), hasAll s l = true → ∀ x ∈ l, has s x = true := by
      intro l
      induction l with
      | nil => intro _ x hx; cases hx
      | cons y r ih =>
        intro hl x hx
        simp only [hasAll, Bool.and_eq_true] at hl
        rcases List.mem_cons.1 hx with rfl | hx
        · exact hl.1
        · exact ih hl.2 x hx
    exact hs.eval (this _ hh x (Array.mem_toList_iff.2 hx))
  have he : execOp a.eval o = execOp (ev s) o := execOp_congr o (noSel_spec hn) hall
  refine ⟨v, fun w hw => ?_, rfl⟩
  unfold Oper.quietAt
  rw [he]
  have hval : (execOp (ev s) o).run P w = .ok (.value v) w → Oper.quietUpon P C w v ((execOp (ev s) o).run P w) := fun e => by rw [e]; exact ⟨rfl, rfl⟩
  cases dir with
  | none =>
    simp only [stepOp] at h
    split at h
    · rename_i r hr
      cases h
      exact hval (arith_run hr hφ w)
    · split at h
      · rename_i r hr
        cases h
        exact hval (extra_run hr hφ w)
      · split at h
        · rename_i u hu
          cases h
          exact hval (pureOf_run hu w)
        · cases h
  | some d =>
    cases d with
    | ans u => simp only [stepOp] at h; cases h; exact hval (hφ.1 w hw)
    | ld u =>
      simp only [stepOp] at h
      split at h
      · rename_i t x ho
        split at h
        · rename_i ad hx ht
          cases h
          exact hval (loadAt_run ho hx ht (hφ.1 w hw))
        · cases h
      · cases h
    | lds vs =>
      simp only [stepOp] at h
      split at h
      · rename_i t x ho
        split at h
        · rename_i ad i hx ht hi
          by_cases hb : Nat.beq i.size vs.length = true
          · simp only [hb, cond_true, Option.some.injEq, Prod.mk.injEq] at h
            obtain ⟨rfl, rfl⟩ := h
            exact hval (loadAgg_run ho hx ht hi (beq_true hb) (hφ.1 w hw))
          · simp only [Bool.eq_false_iff.2 hb, cond_false] at h; cases h
        · cases h
      · cases h
    | call u =>
      simp only [stepOp] at h
      split at h
      · rename_i f args hc
        by_cases hb : bodied P f = true
        · simp only [hb, cond_true, Option.some.injEq, Prod.mk.injEq] at h
          obtain ⟨rfl, rfl⟩ := h
          rw [callOf_exec hc, callFunc_run hb]
          exact ⟨rfl, hφ.1 w hw⟩
        · simp only [Bool.eq_false_iff.2 hb, cond_false] at h; cases h
      · cases h
    | raw =>
      simp only [stepOp] at h
      split at h
      · rename_i u hu; cases h; exact hval (pureOf_run hu w)
      · cases h
    | bit b =>
      simp only [stepOp] at h
      split at h
      · rename_i c hc
        cases h
        have := hφ.1
        subst this
        exact hval (extra_run hc trivial w)
      · split at h
        · rename_i c hc
          cases h
          have := hφ.1
          subst this
          exact hval (pureOf_run hc w)
        · cases h

/-! ### a list of operations -/
def dirOf : List (Nat × Dir) → Nat → Option Dir
  | [], _ => none
  | (i, d) :: r, t => bif Nat.beq i t then some d else dirOf r t
def dirO (ds : List (Nat × Dir)) : Option Nat → Option Dir
  | some d => dirOf ds d
  | none => none
def beqB : Bool → Bool → Bool
  | true, b => b
  | false, b => !b
def wantedS (ops : Array Oper) (s : Store) (o : Oper) : Option Bool := match o.guard with
  | none => some true
  | some (j, want) => match ops[j]? with
    | some oj => match oj.dst with
      | some d => match get s d with
        | some (.bool b) => some (beqB b want)
        | some (.tuple _) => some false
        | _ => none
      | none => none
    | none => none
theorem wantedS_spec {ops : Array Oper} {s : Store} {o : Oper} {n : Nat} {a : Act} {b : Bool} (hs : Sat n a s) (h : wantedS ops s o = some b) : Region.wanted o (yielded ops a.tmps) = b := by
  unfold wantedS at h
  unfold Region.wanted
  split at h
  · rename_i hg; cases h; simp [hg]
  · rename_i j want hg
    simp only [hg]
    split at h
    · rename_i oj hoj
      split at h
      · rename_i d hd
        have hy : yielded ops a.tmps j = match a.tmps[d]? with | some (.bool b) => some b | _ => none := by simp [yielded, hoj, hd]; rfl
        split at h
        · rename_i c hc
          cases h
          rw [hy, hs.2.2 d _ hc]
          cases c <;> cases want <;> rfl
        · rename_i c hc
          cases h
          rw [hy, hs.2.2 d _ hc]
          rfl
        · cases h
      · cases h
    · cases h

/-- one operation of a region: the store behind it and what is owed -/
def opS (P : Program) (C : World → Prop) (n : Nat) (ops : Array Oper) (ds : List (Nat × Dir)) (s : Store) (o : Oper) : Option (Store × List Prop) :=
  match wantedS ops s o with
  | some true => bif hasAll s o.op.operands.toList && (noSel o.op && o.dst.all (Nat.blt · n)) then
      match stepOp P C s o (dirO ds o.dst) with
      | some (v, φ) => some (setO s o.dst v, φ)
      | none => none
    else none
  | some false => bif o.dst.all (Nat.blt · n) then some (setO s o.dst undef, []) else none
  | none => none

theorem opS_quiet {P : Program} {C : World → Prop} {n : Nat} {ops : Array Oper} {ds : List (Nat × Dir)} {s s' : Store} {o : Oper} {φ : List Prop} {a : Act} {K : Act → Prop}
    (h : opS P C n ops ds s o = some (s', φ)) (hφ : All φ) (hs : Sat n a s) (hk : ∀ a', Sat n a' s' → K a') :
    if Region.wanted o (yielded ops a.tmps) then o.quiet P a C K else K (a.put o.dst undef) := by
  unfold opS at h
  split at h
  · rename_i hw
    rw [wantedS_spec hs hw, if_pos rfl]
    by_cases hc : (hasAll s o.op.operands.toList && (noSel o.op && o.dst.all (Nat.blt · n))) = true
    · simp only [hc, cond_true] at h
      simp only [Bool.and_eq_true] at hc
      split at h
      · rename_i v ψ hst
        cases h
        obtain ⟨u, hq, rfl⟩ := stepOp_quiet hst hφ hs hc.1 hc.2.1
        exact ⟨u, hq, hk _ (hs.putO hc.2.2 u)⟩
      · cases h
    · simp only [Bool.eq_false_iff.2 hc, cond_false] at h; cases h
  · rename_i hw
    rw [wantedS_spec hs hw, if_neg (by simp)]
    by_cases hc : (o.dst.all (Nat.blt · n)) = true
    · simp only [hc, cond_true, Option.some.injEq, Prod.mk.injEq] at h
      obtain ⟨rfl, rfl⟩ := h
      exact hk _ (hs.putO hc undef)
    · simp only [Bool.eq_false_iff.2 hc, cond_false] at h; cases h
  · cases h

def runOps (P : Program) (C : World → Prop) (n : Nat) (ops : Array Oper) (ds : List (Nat × Dir)) : List Oper → Store → Option (Store × List Prop)
  | [], s => some (s, [])
  | o :: r, s => match opS P C n ops ds s o with
    | some (s1, φ) => match runOps P C n ops ds r s1 with
      | some (s2, ψ) => some (s2, φ ++ ψ)
      | none => none
    | none => none

theorem runOps_quiet {P : Program} {C : World → Prop} {n : Nat} {ops : Array Oper} {ds : List (Nat × Dir)} {K : Act → Prop} : ∀ (l : List Oper) {s s' : Store} {φ : List Prop} {a : Act},
    runOps P C n ops ds l s = some (s', φ) → All φ → Sat n a s → (∀ a', Sat n a' s' → K a') → wpQuiet P ops C K l a
  | [], s, s', φ, a, h, hφ, hs, hk => by
    simp only [runOps] at h; cases h; exact hk a hs
  | o :: r, s, s', φ, a, h, hφ, hs, hk => by
    simp only [runOps] at h
    split at h
    · rename_i s1 φ1 h1
      split at h
      · rename_i s2 ψ h2
        cases h
        obtain ⟨p1, p2⟩ := All.append hφ
        exact opS_quiet h1 p1 hs fun a' ha' => runOps_quiet r h2 p2 ha' hk
      · cases h
    · cases h


/-! ### positions in the code -/
def child (i : Nat) : Code → Code
  | .seq a b => match i with | 0 => a | _ => b
  | .cond _ a b => match i with | 0 => a | _ => b
  | .block _ b => b
  | .loop b => b
  | .scope b => b
  | _ => .skip
def sub : List Nat → Code → Code
  | [], c => c
  | i :: p, c => sub p (child i c)
theorem sub_snoc (p : List Nat) (i : Nat) (c : Code) : sub (p ++ [i]) c = child i (sub p c) := by
  induction p generalizing c with
  | nil => rfl
  | cons j p ih => simp only [List.cons_append, sub]; exact ih _
def opsOf : Code → Array Oper
  | .region _ ops _ => ops
  | _ => #[]

inductive It where
  | code (p : List Nat)
  | blk (id : Nat)
  | lp (K : Act → World → Prop)
  | ops (p : List Nat) (i : Nat)
  | rnd (p : List Nat) (m : Nat)
  | any (p : List Nat) (m : Nat) (l : List Bool)

def fall (P : Program) (B : Code) (Q : Exit → Act → World → Prop) : List It → Exit → Act → World → Prop
  | [], e, a, w => Q e a w
  | .code p :: k, .normal, a, w => (sub p B).wp P (fall P B Q k) a w
  | .blk _ :: k, .normal, a, w => fall P B Q k .normal a w
  | .lp K :: _, .normal, a, w => K a w
  | .ops p i :: k, .normal, a, w => wpList P (opsOf (sub p B)) (fall P B Q k) ((opsOf (sub p B)).toList.drop i) a w
  | .rnd p m :: k, .normal, a, w => Code.rounds P (sub (p ++ [0]) B) (fall P B Q k) m a w
  | .any p m l :: k, .normal, a, w => wpAny P .any (opsOf (sub p B)) (fall P B Q k) m l.toArray a w
  | .blk id' :: k, .exit id, a, w => bif Nat.beq id id' then fall P B Q k .normal a w else fall P B Q k (.exit id) a w
  | _ :: k, e, a, w => fall P B Q k e a w

inductive Md where
  | n | x (id : Nat) | r

def Md.exit : Md → Exit
  | .n => .normal
  | .x id => .exit id
  | .r => .ret

structure Cfg where
  m : Md
  k : List It
  s : Store

def stepK (P : Program) (C : World → Prop) (n : Nat) (B : Code) (ds : List (Nat × Dir)) : Cfg → Option (Cfg × List Prop)
  | ⟨.n, .code p :: k, s⟩ => match sub p B with
    | .skip => some (⟨.n, k, s⟩, [])
    | .label _ => some (⟨.n, k, s⟩, [])
    | .seq _ _ => some (⟨.n, .code (p ++ [0]) :: .code (p ++ [1]) :: k, s⟩, [])
    | .block id _ => some (⟨.n, .code (p ++ [0]) :: .blk id :: k, s⟩, [])
    | .cond c _ _ => bif has s c then match ev s c with
        | .bool true => some (⟨.n, .code (p ++ [0]) :: k, s⟩, [])
        | .bool false => some (⟨.n, .code (p ++ [1]) :: k, s⟩, [])
        | _ => none
      else none
    | .loop _ => some (⟨.n, .rnd p 100000 :: k, s⟩, [])
    | .exit id => some (⟨.x id, k, s⟩, [])
    | .ret => some (⟨.r, k, s⟩, [])
    | .region _ _ false => some (⟨.n, .ops p 0 :: k, s⟩, [])
    | .region _ ops true => bif Region.lexB .any ops then match runOps P C n ops ds ops.toList s with
        | some (s', φ) => some (⟨.n, k, s'⟩, (P.follows .mixedOrders = true) :: (∀ w : World, C w → C w.drew) :: φ)
        | none => none
      else none
    | _ => none
  | ⟨.n, .blk _ :: k, s⟩ => some (⟨.n, k, s⟩, [])
  | ⟨.n, .rnd p (m + 1) :: k, s⟩ => some (⟨.n, .code (p ++ [0]) :: .rnd p m :: k, s⟩, [])
  | ⟨.n, .ops p i :: k, s⟩ => match (opsOf (sub p B))[i]? with
    | some o => match opS P C n (opsOf (sub p B)) ds s o with
      | some (s', φ) => some (⟨.n, .ops p (i + 1) :: k, s'⟩, φ)
      | none => none
    | none => some (⟨.n, k, s⟩, [])
  | ⟨.x id, .blk id' :: k, s⟩ => bif Nat.beq id id' then some (⟨.n, k, s⟩, []) else some (⟨.x id, k, s⟩, [])
  | ⟨.x id, _ :: k, s⟩ => some (⟨.x id, k, s⟩, [])
  | _ => none

def runK (P : Program) (C : World → Prop) (n : Nat) (B : Code) (ds : List (Nat × Dir)) : Nat → Cfg → Option (Cfg × List Prop)
  | 0, c => some (c, [])
  | N + 1, c => match stepK P C n B ds c with
    | some (c1, φ) => match runK P C n B ds N c1 with
      | some (c2, ψ) => some (c2, φ ++ ψ)
      | none => none
    | none => none

section
variable {P : Program} {B : Code} {Q : Exit → Act → World → Prop} {C : World → Prop} {n : Nat} {ds : List (Nat × Dir)}

theorem fall_ret (k : List It) (a : Act) (w : World) (h : Q .ret a w) : fall P B Q k .ret a w := by
  induction k with
  | nil => exact h
  | cons it k ih => cases it <;> exact ih

theorem wpList_drop {ops : Array Oper} {R : Exit → Act → World → Prop} {i : Nat} {o : Oper} {a : Act} {w : World} (ho : ops[i]? = some o)
    (h : if Region.wanted o (yielded ops a.tmps) then o.wp P a w (wpList P ops R (ops.toList.drop (i + 1))) R else wpList P ops R (ops.toList.drop (i + 1)) (a.put o.dst undef) w) :
    wpList P ops R (ops.toList.drop i) a w := by
  have hi : i < ops.toList.length := by
    have : i < ops.size := by
      rcases Nat.lt_or_ge i ops.size with h | h
      · exact h
      · simp [Array.getElem?_eq_none h] at ho
    simpa using this
  have hg : ops.toList[i] = o := by
    have : ops.toList[i]? = some o := by simpa using ho
    rw [List.getElem?_eq_getElem hi] at this
    exact Option.some.inj this
  rw [List.drop_eq_getElem_cons hi, hg]
  unfold wpList
  split
  · rename_i hw; rw [if_pos hw] at h; exact .inl h
  · rename_i hw; rw [if_neg hw] at h; exact h

theorem stepK_sound {c c' : Cfg} {φ : List Prop} (h : stepK P C n B ds c = some (c', φ)) (hφ : All φ) {w : World} (hw : C w)
    (hk : ∀ w' a, C w' → Sat n a c'.s → fall P B Q c'.k c'.m.exit a w') : ∀ a, Sat n a c.s → fall P B Q c.k c.m.exit a w := by
  intro a hs
  obtain ⟨m, k, s⟩ := c
  cases m with
  | r => cases k <;> simp [stepK] at h
  | x id =>
    cases k with
    | nil => simp [stepK] at h
    | cons it k =>
      cases it with
      | blk id' =>
        simp only [stepK] at h
        show (bif Nat.beq id id' then _ else _)
        cases hb : Nat.beq id id' <;> simp only [hb, cond_true, cond_false] at h ⊢ <;> (cases h; exact hk w a hw hs)
      | code p => simp only [stepK] at h; cases h; exact hk w a hw hs
      | lp K => simp only [stepK] at h; cases h; exact hk w a hw hs
      | ops p i => simp only [stepK] at h; cases h; exact hk w a hw hs
      | rnd p m => simp only [stepK] at h; cases h; exact hk w a hw hs
      | any p m l => simp only [stepK] at h; cases h; exact hk w a hw hs
  | n =>
    cases k with
    | nil => simp [stepK] at h
    | cons it k =>
      cases it with
      | blk id => simp only [stepK] at h; cases h; exact hk w a hw hs
      | lp K => simp [stepK] at h
      | any p m l => simp [stepK] at h
      | rnd p m =>
        cases m with
        | zero => simp [stepK] at h
        | succ m =>
          simp only [stepK] at h
          cases h
          have h1 : (sub (p ++ [0]) B).wp P (fall P B Q (.rnd p m :: k)) a w := hk w a hw hs
          show Code.rounds P (sub (p ++ [0]) B) (fall P B Q k) (m + 1) a w
          rw [rounds_succ]
          refine wp_mono h1 fun e a' w' hq => ?_
          cases e <;> exact hq
      | ops p i =>
        simp only [stepK] at h
        show wpList P _ _ _ a w
        split at h
        · rename_i o ho
          split at h
          · rename_i s' ψ hop
            cases h
            refine wpList_drop ho ?_
            have hq := opS_quiet (K := fun a' => ∀ w', C w' → wpList P (opsOf (sub p B)) (fall P B Q k) ((opsOf (sub p B)).toList.drop (i + 1)) a' w') hop hφ hs
              (fun a' ha' w' hw' => hk w' a' hw' ha')
            split
            · rename_i hwt
              rw [if_pos hwt] at hq
              exact Oper.wp_of_quiet (K := fun a' => ∀ w', C w' → wpList P (opsOf (sub p B)) (fall P B Q k) ((opsOf (sub p B)).toList.drop (i + 1)) a' w') hw (fun a' w' hw' h' => h' w' hw') hq
            · rename_i hwt
              rw [if_neg hwt] at hq
              exact hq w hw
          · cases h
        · rename_i ho
          cases h
          have : (opsOf (sub p B)).toList.drop i = [] := by
            rw [List.drop_eq_nil_iff]
            simpa using ho
          rw [this]
          exact hk w a hw hs
      | code p =>
        simp only [stepK] at h
        show (sub p B).wp P _ a w
        split at h
        · rename_i hc; cases h; rw [hc]; exact wp_skip (hk w a hw hs)
        · rename_i l hc; cases h; rw [hc]; exact wp_label (hk w a hw hs)
        · rename_i x y hc
          cases h
          rw [hc]
          refine wp_seq ?_
          have h1 := hk w a hw hs
          have e0 : sub (p ++ [0]) B = x := by rw [sub_snoc, hc]; rfl
          have e1 : sub (p ++ [1]) B = y := by rw [sub_snoc, hc]; rfl
          simp only [Md.exit] at h1
          have h2 : (sub (p ++ [0]) B).wp P (fall P B Q (.code (p ++ [1]) :: k)) a w := h1
          rw [e0] at h2
          refine wp_mono h2 fun e a' w' hq => ?_
          cases e with
          | normal =>
            have h3 : (sub (p ++ [1]) B).wp P (fall P B Q k) a' w' := hq
            rw [e1] at h3
            exact h3
          | _ => exact hq
        · rename_i id b hc
          cases h
          rw [hc]
          refine wp_block ?_
          have h1 := hk w a hw hs
          have e0 : sub (p ++ [0]) B = b := by rw [sub_snoc, hc]; rfl
          have h2 : (sub (p ++ [0]) B).wp P (fall P B Q (.blk id :: k)) a w := h1
          rw [e0] at h2
          refine wp_mono h2 fun e a' w' hq => ?_
          cases e with
          | exit id' =>
            have h3 : (bif Nat.beq id' id then fall P B Q k .normal a' w' else fall P B Q k (.exit id') a' w') := hq
            simp only [Exit.inBlock]
            split
            · rename_i he
              subst he
              simpa using h3
            · rename_i he
              have : Nat.beq id' id = false := Bool.eq_false_iff.2 fun hb => he (beq_true hb)
              simpa [this] using h3
          | _ => exact hq
        · rename_i c x y hc
          by_cases hh : has s c = true
          · simp only [hh, cond_true] at h
            rw [hc]
            split at h
            · rename_i he
              cases h
              have h1 := hk w a hw hs
              have e0 : sub (p ++ [0]) B = x := by rw [sub_snoc, hc]; rfl
              have h2 : (sub (p ++ [0]) B).wp P (fall P B Q k) a w := h1
              rw [e0] at h2
              exact wp_cond_true ((hs.eval hh).trans he) h2
            · rename_i he
              cases h
              have h1 := hk w a hw hs
              have e0 : sub (p ++ [1]) B = y := by rw [sub_snoc, hc]; rfl
              have h2 : (sub (p ++ [1]) B).wp P (fall P B Q k) a w := h1
              rw [e0] at h2
              exact wp_cond_false ((hs.eval hh).trans he) h2
            · cases h
          · simp only [Bool.eq_false_iff.2 hh, cond_false] at h; cases h
        · rename_i c hc
          cases h
          rw [hc]
          have h1 : Code.rounds P (sub (p ++ [0]) B) (fall P B Q k) 100000 a w := hk w a hw hs
          have e0 : sub (p ++ [0]) B = c := by rw [sub_snoc, hc]; rfl
          rw [e0] at h1
          exact wp_loop_rounds 100000 h1
        · rename_i id hc; cases h; rw [hc]; exact wp_exit (hk w a hw hs)
        · rename_i hc; cases h; rw [hc]; exact wp_ret (hk w a hw hs)
        · rename_i id ops hc
          cases h
          have h1 := hk w a hw hs
          have h2 : wpList P (opsOf (sub p B)) (fall P B Q k) ((opsOf (sub p B)).toList.drop 0) a w := h1
          rw [hc] at h2 ⊢
          exact wp_region_list h2
        · rename_i id ops hc
          rw [hc]
          by_cases hB : Region.lexB .any ops = true
          · simp only [hB, cond_true] at h
            split at h
            · rename_i s' ψ hr
              cases h
              refine wp_region_quiet (C := C) hφ.1 hB (hφ.2.1 w hw) ?_
              exact runOps_quiet (K := fun a' => ∀ w', C w' → fall P B Q k .normal a' w') _ hr hφ.2.2 hs (fun a' ha' w' hw' => hk w' a' hw' ha')
            · cases h
          · simp only [Bool.eq_false_iff.2 hB, cond_false] at h; cases h
        · cases h

theorem runK_sound : ∀ (N : Nat) {c c' : Cfg} {φ : List Prop}, runK P C n B ds N c = some (c', φ) → All φ → ∀ {w : World}, C w →
    (∀ w' a, C w' → Sat n a c'.s → fall P B Q c'.k c'.m.exit a w') → ∀ a, Sat n a c.s → fall P B Q c.k c.m.exit a w
  | 0, c, c', φ, h, hφ, w, hw, hk => by simp only [runK] at h; cases h; exact fun a hs => hk w a hw hs
  | N + 1, c, c', φ, h, hφ, w, hw, hk => by
    simp only [runK] at h
    split at h
    · rename_i c1 φ1 h1
      split at h
      · rename_i c2 ψ h2
        cases h
        obtain ⟨p1, p2⟩ := All.append hφ
        exact stepK_sound h1 p1 hw fun w' a' hw' hs' => runK_sound N h2 p2 hw' hk a' hs'
      · cases h
    · cases h

/-- what is asked at a panic does not look at the slots -/
def PanicOk (Q : Exit → Act → World → Prop) : Prop := ∀ c a (dst : Option Tmp) v w, Q (.panic c) (a.put dst v) w → Q (.panic c) a w
theorem PanicOk.fall (h : PanicOk Q) (k : List It) : PanicOk (fall P B Q k) := by
  induction k with
  | nil => exact h
  | cons it k ih => cases it <;> exact ih
theorem PanicOk.body {fn : Func} {R : Ending → World → Prop} : PanicOk (bodyPost P fn R) := by
  intro c a dst v w h
  refine ⟨?_, h.2⟩
  have := h.1
  cases dst <;> exact this

/-- THE JUDGEMENT: from this position, with these slots known, in this world. -/
def G (P : Program) (n : Nat) (B : Code) (Q : Exit → Act → World → Prop) (m : Md) (k : List It) (s : Store) (w : World) : Prop :=
  PanicOk Q → ∀ a, Sat n a s → fall P B Q k m.exit a w

/-- N steps in one world; the slots that are kept are named. -/
theorem run {m m' : Md} {k k' : List It} {s s' : Store} {w : World} {φ : List Prop} (ds : List (Nat × Dir)) (N : Nat) (ks : List Nat)
    (h : (runK P (fun u => u = w) n B ds N ⟨m, k, s⟩).map (fun r => (r.1.m, r.1.k, keep ks r.1.s, r.2)) = some (m', k', s', φ))
    (hφ : All φ) (hk : G P n B Q m' k' s' w) : G P n B Q m k s w := by
  intro hp a ha
  cases hr : runK P (fun u => u = w) n B ds N ⟨m, k, s⟩ with
  | none => rw [hr] at h; cases h
  | some r =>
    obtain ⟨⟨m1, k1, s1⟩, ψ⟩ := r
    rw [hr] at h
    simp only [Option.map_some, Option.some.injEq, Prod.mk.injEq] at h
    obtain ⟨rfl, rfl, rfl, rfl⟩ := h
    exact runK_sound (C := fun u => u = w) N hr hφ rfl (fun w' a' hw' hs' => by subst hw'; exact hk hp a' (hs'.keep ks)) a ha

/-- N steps in a class of worlds (draws; quiet calls that make memory). -/
theorem runC (C : World → Prop) {m m' : Md} {k k' : List It} {s s' : Store} {w : World} {φ : List Prop} (ds : List (Nat × Dir)) (N : Nat) (ks : List Nat)
    (h : (runK P C n B ds N ⟨m, k, s⟩).map (fun r => (r.1.m, r.1.k, keep ks r.1.s, r.2)) = some (m', k', s', φ))
    (hφ : All φ) (hw : C w) (hk : ∀ w', C w' → G P n B Q m' k' s' w') : G P n B Q m k s w := by
  intro hp a ha
  cases hr : runK P C n B ds N ⟨m, k, s⟩ with
  | none => rw [hr] at h; cases h
  | some r =>
    obtain ⟨⟨m1, k1, s1⟩, ψ⟩ := r
    rw [hr] at h
    simp only [Option.map_some, Option.some.injEq, Prod.mk.injEq] at h
    obtain ⟨rfl, rfl, rfl, rfl⟩ := h
    exact runK_sound (C := C) N hr hφ hw (fun w' a' hw' hs' => hk w' hw' hp a' (hs'.keep ks)) a ha

theorem via {m m' : Md} {k k' : List It} {s s' : Store} {w : World} (h : ∀ Q', G P n B Q' m' k' s' w → G P n B Q' m k s w) (h' : G P n B Q m' k' s' w) : G P n B Q m k s w := h Q h'
theorem conv {m : Md} {k : List It} {s s' : Store} {w : World} (h : G P n B Q m k s' w) (e : s = s') : G P n B Q m k s w := e ▸ h
theorem weak {m : Md} {k : List It} {s t : Store} {w : World} (ht : keep (t.map (·.1)) s = t) (h : G P n B Q m k t w) : G P n B Q m k s w :=
  fun hp a ha => h hp a (ha.weak ht)

/-- a Bool that a slot holds has come out so -/
theorem assume {m : Md} {k : List It} {s s' : Store} {w : World} {b bit : Bool} (l : List Nat) (hb : b = bit) (hl : (l.map (get s)) = l.map fun _ => some (.bool b))
    (hs : l.foldl (fun t d => set t d (.bool bit)) s = s') (h : G P n B Q m k s' w) : G P n B Q m k s w := by
  subst hb
  subst hs
  intro hp a ha
  refine h hp a ⟨ha.1, ha.2.1, ?_⟩
  have key : ∀ (l : List Nat) (t : Store), (∀ d ∈ l, get s d = some (.bool b)) → (∀ i v, get t i = some v → a.tmps[i]? = some v) → ∀ i v, get (l.foldl (fun t d => set t d (.bool b)) t) i = some v → a.tmps[i]? = some v := by
    intro l
    induction l with
    | nil => intro t _ ht; exact ht
    | cons d r ih =>
      intro t hd ht
      refine ih (set t d (.bool b)) (fun x hx => hd x (List.mem_cons_of_mem _ hx)) fun i v hv => ?_
      rcases get_set_of hv with ⟨rfl, rfl⟩ | ⟨_, hg⟩
      · exact ha.2.2 _ _ (hd _ List.mem_cons_self)
      · exact ht i v hg
  refine key l s (fun d hd => ?_) ha.2.2
  obtain ⟨j, hj, rfl⟩ := List.mem_iff_getElem.1 hd
  have := congrArg (fun l : List (Option Value) => l[j]?) hl
  simpa [hj] using this

/-- the same world but for draws -/
def Qt (w w' : World) : Prop := ∃ j, w' = w.drewN j
theorem Qt.refl (w : World) : Qt w w := ⟨0, rfl⟩
theorem Qt.mk (w : World) (j : Nat) : Qt w (w.drewN j) := ⟨j, rfl⟩
theorem Qt.drew {w u : World} (h : Qt w u) : Qt w u.drew := by obtain ⟨j, rfl⟩ := h; exact ⟨j + 1, rfl⟩
theorem Qt.trans {a b c : World} (h : Qt a b) (g : Qt b c) : Qt a c := by
  obtain ⟨i, rfl⟩ := h; obtain ⟨j, rfl⟩ := g
  exact ⟨i + j, by simp⟩
theorem viaQ {m m' : Md} {k k' : List It} {s s' : Store} {w wb : World} (h : ∀ Q', (∀ w', Qt wb w' → G P n B Q' m' k' s' w') → G P n B Q' m k s w) (h' : ∀ w', Qt wb w' → G P n B Q m' k' s' w') : G P n B Q m k s w := h Q h'

/-- WHERE WAYS MEET AGAIN: what is known there, of numbers x and the world. -/
theorem cut {α : Type} (I : α → World → Prop) {m : Md} {k k' : List It} {s : Store} (s' : α → Store) {w : World} (h : (∀ x w', I x w' → G P n B Q .n k' (s' x) w') → G P n B Q m k s w)
    (h' : ∀ x w', I x w' → G P n B Q .n k' (s' x) w') : G P n B Q m k s w := h h'

def argStore : Nat → List Value → Store
  | _, [] => []
  | i, v :: r => (i, v) :: argStore (i + 1) r
theorem get_argStore {l : List Value} {i t : Nat} {v : Value} (h : get (argStore i l) t = some v) : i ≤ t ∧ l[t - i]? = some v := by
  induction l generalizing i with
  | nil => simp [argStore, get] at h
  | cons x r ih =>
    simp only [argStore, get] at h
    by_cases hb : Nat.beq i t = true
    · simp only [hb, cond_true, Option.some.injEq] at h
      have := beq_true hb
      subst this
      simp [h]
    · simp only [Bool.eq_false_iff.2 hb, cond_false] at h
      have := ih h
      refine ⟨by omega, ?_⟩
      have hlt : i ≠ t := fun e => hb (by subst e; simp)
      rw [show t - i = (t - (i + 1)) + 1 by omega]
      simpa using this.2

def bodyOf (fn : Func) : Code := fn.body.getD .skip

theorem enter (n : Nat) {f : FuncId} {fn : Func} {args : Array Value} {w : World} {R : Ending → World → Prop}
    (hf : P.funcs[f]? = some fn) (hn : (fn.body.isSome && (Nat.ble args.size fn.ntmps && Nat.beq fn.ntmps n)) = true)
    (h : G P n (bodyOf fn) (bodyPost P fn R) .n [.code []] (argStore 0 args.toList) w) : Calls P f args w R := by
  simp only [Bool.and_eq_true, Nat.ble_eq] at hn
  have e2 := beq_true hn.2.2
  have hb : fn.body = some (bodyOf fn) := by
    cases hb : fn.body with
    | none => rw [hb] at hn; cases hn.1
    | some c => simp [bodyOf, hb]
  refine calls_of_wp hf hb (h PanicOk.body _ ⟨?_, rfl, fun t v hv => ?_⟩)
  · simp; omega
  · have := (get_argStore hv).2
    simp only [Nat.sub_zero] at this
    have hlt : t < args.size := by
      rcases Nat.lt_or_ge t args.size with h | h
      · exact h
      · simp [h] at this
    rw [Array.getElem?_append_left hlt]
    simpa using this

/-- the results -/
def resVals (s : Store) : List ResultVar → Option (List Value)
  | [] => some []
  | .tmp t :: r => match get s t, resVals s r with
    | some v, some vs => some (v :: vs)
    | _, _ => none
  | .cell _ _ :: _ => none
def oneOrTuple : List Value → Value
  | [v] => v
  | vs => .tuple vs.toArray

def ResOk (P : Program) (w : World) (s : Store) : List ResultVar → List Value → Prop
  | [], [] => True
  | .tmp t :: r, v :: vs => get s t = some v ∧ ResOk P w s r vs
  | .cell a t :: r, v :: vs => (∃ ad, get s a = some (.pointer (some ad)) ∧ (loadVar t ad).run P w = .ok v w) ∧ ResOk P w s r vs
  | _, _ => False

theorem mapM_list_run {α β : Type} {P : Program} {w : World} (f : α → Sem β) : ∀ (l : List α) (vs : List β), (∀ (i : Nat) (x : α) (y : β), l[i]? = some x → vs[i]? = some y → (f x).run P w = .ok y w) → l.length = vs.length →
    (l.mapM f).run P w = .ok vs w
  | [], [], _, _ => by simp
  | x :: l, y :: vs, h, hl => by
    have h0 := h 0 x y rfl rfl
    have ih := mapM_list_run f l vs (fun i a b ha hb => h (i + 1) a b ha hb) (by simpa using hl)
    simp [List.mapM_cons, h0, ih]
  | [], _ :: _, _, hl => by cases hl
  | _ :: _, [], _, hl => by cases hl

def resSem (tmps : Array Value) : ResultVar → Sem Value
  | .tmp t => pure (tmps.getD t undef)
  | .cell a t => do loadVar t (← asAddr (tmps.getD a undef))

theorem ResOk.spec {P : Program} {n : Nat} {w : World} {s : Store} {a : Act} (ha : Sat n a s) : ∀ (l : List ResultVar) (vs : List Value), ResOk P w s l vs →
    l.length = vs.length ∧ ∀ (i : Nat) (x : ResultVar) (y : Value), l[i]? = some x → vs[i]? = some y → (resSem a.tmps x).run P w = .ok y w
  | [], [], _ => ⟨rfl, fun i x y hx => by simp at hx⟩
  | .tmp t :: r, v :: vs, h => by
    obtain ⟨e, ih⟩ := ResOk.spec ha r vs h.2
    refine ⟨by simp [e], fun i x y hx hy => ?_⟩
    cases i with
    | zero =>
      simp at hx hy; subst hx; subst hy
      have := ha.2.2 t _ h.1
      simp [resSem, Array.getD_eq_getD_getElem?, this]
    | succ i => exact ih i x y (by simpa using hx) (by simpa using hy)
  | .cell b t :: r, v :: vs, h => by
    obtain ⟨e, ih⟩ := ResOk.spec ha r vs h.2
    refine ⟨by simp [e], fun i x y hx hy => ?_⟩
    cases i with
    | zero =>
      simp at hx hy; subst hx; subst hy
      obtain ⟨ad, hg, hl⟩ := h.1
      have := ha.2.2 b _ hg
      simp [resSem, Array.getD_eq_getD_getElem?, this, asAddr, hl]
    | succ i => exact ih i x y (by simpa using hx) (by simpa using hy)
  | [], _ :: _, h => h.elim
  | .tmp _ :: _, [], h => h.elim
  | .cell _ _ :: _, [], h => h.elim

theorem ret {fn : Func} {R : Ending → World → Prop} {k : List It} {s : Store} {w : World} (vs : List Value)
    (hr : ResOk P w s fn.results.toList vs) (hR : R (.returned (oneOrTuple vs)) w) : G P n B (bodyPost P fn R) .r k s w := by
  intro hp a ha
  refine fall_ret k a w ⟨ha.2.1, _, ?_, hR⟩
  obtain ⟨hl, hsp⟩ := ResOk.spec ha _ _ hr
  have hm := mapM_list_run (P := P) (w := w) (resSem a.tmps) fn.results.toList vs hsp hl
  have hm' : (fn.results.mapM (resSem a.tmps)).run P w = .ok vs.toArray w := by
    rw [Array.mapM_eq_mapM_toList]
    simp [hm]
  have hf : results fn a.tmps = (do let us ← fn.results.mapM (resSem a.tmps); pure (if h : us.size = 1 then us[0] else .tuple us)) := by
    unfold results
    congr 1
  rw [hf]
  simp only [Sem.run_bind, hm', Result.andThen_ok, Sem.run_pure]
  congr 1
  match vs with
  | [] => rfl
  | [v] => rfl
  | _ :: _ :: _ => simp [oneOrTuple]

/-- a result list of plain slots -/
theorem ret_tmps {fn : Func} {R : Ending → World → Prop} {k : List It} {s : Store} {w : World} {vs : List Value}
    (hr : resVals s fn.results.toList = some vs) (hR : R (.returned (oneOrTuple vs)) w) : G P n B (bodyPost P fn R) .r k s w := by
  refine ret vs ?_ hR
  clear hR
  generalize fn.results.toList = l at hr
  induction l generalizing vs with
  | nil => simp only [resVals] at hr; cases hr; trivial
  | cons x l ih =>
    cases x with
    | cell => simp [resVals] at hr
    | tmp t =>
      simp only [resVals] at hr
      split at hr
      · rename_i v us hv hus
        cases hr
        exact ⟨hv, ih hus⟩
      · cases hr

/-! ### loops -/
theorem loopAt_spec {p : List Nat} (h : (match sub p B with | .loop _ => true | _ => false) = true) : sub p B = .loop (sub (p ++ [0]) B) := by
  rw [sub_snoc]
  split at h
  · rename_i c hc; rw [hc]; rfl
  · cases h

/-- A LOOP: what is known of the slots at a round's head ('inv x'), of the world ('W x'), a measure. -/
theorem loop {α : Type} {p : List Nat} {k : List It} {s : Store} {w : World} (inv : α → Store) (W : α → World → Prop) (μ : α → Nat)
    (hp : (match sub p B with | .loop _ => true | _ => false) = true) (x0 : α) (hs : keep ((inv x0).map (·.1)) s = inv x0) (hw : W x0 w)
    (round : ∀ (x : α) (w : World) (K : Act → World → Prop), W x w →
      (∀ (y : α) (w' : World), W y w' → μ y < μ x → ∀ a, Sat n a (inv y) → K a w') →
      G P n B Q .n (.code (p ++ [0]) :: .lp K :: k) (inv x) w) :
    G P n B Q .n (.code p :: k) s w := by
  intro hpo a ha
  show (sub p B).wp P (fall P B Q k) a w
  rw [loopAt_spec hp]
  refine wp_loop_ghost (fun m a w => ∃ x, W x w ∧ Sat n a (inv x) ∧ μ x = m) (μ x0) ⟨x0, hw, ha.weak hs, rfl⟩ ?_
  rintro m a' w' ⟨x, hx, hsx, rfl⟩
  have h := round x w' (fun a'' w'' => ∃ n', n' < μ x ∧ ∃ y, W y w'' ∧ Sat n a'' (inv y) ∧ μ y = n') hx
    (fun y w'' hy hlt a'' ha'' => ⟨_, hlt, y, hy, ha'', rfl⟩) hpo a' hsx
  refine wp_mono h fun e a1 w1 hq => ?_
  cases e <;> exact hq

/-- A ROUND's END. -/
theorem back {K : Act → World → Prop} {k : List It} {s t : Store} {w : World} (h : ∀ a, Sat n a t → K a w) (ht : keep (t.map (·.1)) s = t) : G P n B Q .n (.lp K :: k) s w :=
  fun _ a ha => h a (ha.weak ht)

/-! ### operations that the world feels -/
inductive Kd where
  | call (f : FuncId) (args : Array Value)
  | app (ats : Array TypeId) (ty : TypeId) (args : Array Value)
  | copy (ats : Array TypeId) (ty : TypeId) (args : Array Value)
  | box (t : TypeId) (v : Value)
  | alloc (t : TypeId)
  | store (t : TypeId) (a v : Value)
  | mk (t : TypeId) (l c : Value)
  | bslice (t : TypeId) (len : Nat) (parts : List (Nat × Value))
  | gen (m : Sem Next)

def kindOf (P : Program) (s : Store) (o : Oper) : Kd := match o.op with
  | .call ⟨.value x, args, ats⟩ => match callOf s (.call ⟨.value x, args, ats⟩) with
    | some (f, as) => bif bodied P f then .call f as else .gen (execOp (ev s) o)
    | none => .gen (execOp (ev s) o)
  | .call ⟨.builtin .append, args, ats⟩ => .app ats o.type (args.toList.map (ev s)).toArray
  | .call ⟨.builtin .copy, args, ats⟩ => .copy ats o.type (args.toList.map (ev s)).toArray
  | .box t x => .box t (ev s x)
  | .alloc t => .alloc t
  | .store t a x => .store t (ev s a) (ev s x)
  | .makeSlice t l c => .mk t (ev s l) (ev s c)
  | .buildSlice t len parts => .bslice t len (parts.toList.map fun x => (x.1, ev s x.2))
  | _ => .gen (execOp (ev s) o)

def Kd.sem : Kd → Sem Next
  | .call f args => callFunc f args
  | .app ats ty args => do pure (.value (← Builtin.append_ ats ty args))
  | .copy ats ty args => do pure (.value (← Builtin.copy_ ats ty args))
  | .box t v => do pure (.value (← Instr.box t v))
  | .alloc t => do pure (.value (← Instr.alloc t true (.tuple #[])))
  | .store t a v => do Instr.storeAt t a v; pure .skip
  | .mk t l c => do pure (.value (← Instr.makeSlice t l c))
  | .bslice t len parts => do pure (.value (← Instr.buildSlice t len parts.toArray))
  | .gen m => m

theorem toArray_map {α β : Type} (f : α → β) (xs : Array α) : (xs.toList.map f).toArray = xs.map f := by rw [← Array.toList_map, Array.toArray_toList]

theorem kindOf_sem (P : Program) (s : Store) (o : Oper) : (kindOf P s o).sem = execOp (ev s) o := by
  obtain ⟨dst, op, type, pos, after, guard⟩ := o
  cases op <;> (try rfl)
  case call c =>
    obtain ⟨callee, args, ats⟩ := c
    cases callee with
    | value x =>
      simp only [kindOf]
      split
      · rename_i f as hc
        cases hb : bodied P f
        · rfl
        · exact (callOf_exec (o := ⟨dst, .call ⟨.value x, args, ats⟩, type, pos, after, guard⟩) hc).symm
      · rfl
    | invoke r m => rfl
    | builtin b =>
      cases b <;> (try rfl)
      · simp only [kindOf, Kd.sem]
        rw [BigFrame.execOp_builtin, BigFrame.builtin_append, toArray_map]
      · simp only [kindOf, Kd.sem]
        rw [BigFrame.execOp_builtin, BigFrame.builtin_copy, toArray_map]
  case buildSlice t len parts =>
    simp only [kindOf, Kd.sem, execOp]
    rw [toArray_map]

/-- the operation at a place of a region that is to be carried out, and its slot -/
def opK (P : Program) (n : Nat) (B : Code) (p : List Nat) (i : Nat) (s : Store) : Option (Kd × Option Nat) :=
  match (opsOf (sub p B))[i]? with
  | some o => match wantedS (opsOf (sub p B)) s o with
    | some true => bif hasAll s o.op.operands.toList && (noSel o.op && o.dst.all (Nat.blt · n)) then some (kindOf P s o, o.dst) else none
    | _ => none
  | none => none

theorem opK_step {p : List Nat} {i : Nat} {k : List It} {s : Store} {w : World} {kd : Kd} {d : Option Nat} (h : opK P n B p i s = some (kd, d))
    (hk : PanicOk Q → ∀ (a : Act) (o : Oper), Sat n a s → execOp a.eval o = kd.sem → o.dst = d → d.all (Nat.blt · n) = true →
      o.wp P a w (wpList P (opsOf (sub p B)) (fall P B Q k) ((opsOf (sub p B)).toList.drop (i + 1))) (fall P B Q k)) :
    G P n B Q .n (.ops p i :: k) s w := by
  intro hp a ha
  show wpList P _ _ _ a w
  unfold opK at h
  split at h
  · rename_i o ho
    split at h
    · rename_i hw
      by_cases hc : (hasAll s o.op.operands.toList && (noSel o.op && o.dst.all (Nat.blt · n))) = true
      · simp only [hc, cond_true, Option.some.injEq, Prod.mk.injEq] at h
        obtain ⟨rfl, rfl⟩ := h
        simp only [Bool.and_eq_true] at hc
        refine wpList_drop ho ?_
        rw [if_pos (wantedS_spec ha hw)]
        refine hk hp a o ha ?_ rfl hc.2.2
        rw [kindOf_sem]
        refine execOp_congr o (noSel_spec hc.2.1) fun x hx => ?_
        have hall : ∀ (l : List Operand), hasAll s l = true → ∀ x ∈ l, has s x = true := by
          intro l
          induction l with
          | nil => intro _ x hx; cases hx
          | cons y r ih =>
            intro hl x hx
            simp only [hasAll, Bool.and_eq_true] at hl
            rcases List.mem_cons.1 hx with rfl | hx
            · exact hl.1
            · exact ih hl.2 x hx
        exact ha.eval (hall _ hc.1 x (Array.mem_toList_iff.2 hx))
      · simp only [Bool.eq_false_iff.2 hc, cond_false] at h; cases h
    · cases h
  · cases h

theorem still_of_quiet {o : Oper} {a : Act} {u : World} {K : Act → Prop} (h : o.quiet P a (fun w => w = u) K) : o.still P a u K := by
  obtain ⟨v, h1, h2⟩ := h
  have h3 := h1 u rfl
  unfold Oper.quietAt at h3
  unfold Oper.still
  generalize (execOp a.eval o).run P u = r at *
  cases r with
  | ok x w' =>
    cases x <;> simp only [Oper.quietUpon] at h3 <;> simp only [Oper.stillUpon]
    case value y => exact ⟨h3.1, h3.2 ▸ h2⟩
    case skip => exact ⟨h3.1, h3.2 ▸ h2⟩
    case enter f args => exact ⟨h3.1, v, h3.2, h2⟩
  | halt x w' => simp only [Oper.quietUpon] at h3

theorem runOps_still {ops : Array Oper} {ds : List (Nat × Dir)} {u : World} {K : Act → Prop} : ∀ (l : List Oper) {s s' : Store} {φ : List Prop} {a : Act},
    runOps P (fun w => w = u) n ops ds l s = some (s', φ) → All φ → Sat n a s → (∀ a', Sat n a' s' → K a') → wpStill P ops u K l a
  | [], s, s', φ, a, h, hφ, hs, hk => by
    simp only [runOps] at h; cases h; exact hk a hs
  | o :: r, s, s', φ, a, h, hφ, hs, hk => by
    simp only [runOps] at h
    split at h
    · rename_i s1 φ1 h1
      split at h
      · rename_i s2 ψ h2
        cases h
        obtain ⟨p1, p2⟩ := All.append hφ
        have hq := opS_quiet (K := fun a' => wpStill P ops u K r a') h1 p1 hs fun a' ha' => runOps_still r h2 p2 ha' hk
        show (if Region.wanted o (yielded ops a.tmps) then o.still P a u (wpStill P ops u K r) else wpStill P ops u K r (a.put o.dst undef))
        split
        · rename_i hw; rw [if_pos hw] at hq; exact still_of_quiet hq
        · rename_i hw; rw [if_neg hw] at hq; exact hq
      · cases h
    · cases h

/-- A REGION THAT DRAWS ITS ORDER, whose first m operations leave the world alone and whose others come in one order. -/
theorem drawtail {p : List Nat} {k : List It} {s s' : Store} {w : World} {φ : List Prop} (ds : List (Nat × Dir)) (m : Nat)
    (hm : P.follows .mixedOrders = true)
    (h : (match sub p B with
      | .region _ ops true => bif Region.lexTailB .any ops m then runOps P (fun u => u = w.drewN 1) n ops ds (ops.toList.take m) s else none
      | _ => none) = some (s', φ)) (hφ : All φ) (next : G P n B Q .n (.ops p m :: k) s' (w.drewN 1)) : G P n B Q .n (.code p :: k) s w := by
  intro hpo a ha
  show (sub p B).wp P (fall P B Q k) a w
  split at h
  · rename_i id ops hc
    by_cases hB : Region.lexTailB .any ops m = true
    · simp only [hB, cond_true] at h
      have next' : ∀ a', Sat n a' s' → wpList P ops (fall P B Q k) (ops.toList.drop m) a' (w.drewN 1) := by
        intro a' ha'
        have h1 := next hpo a' ha'
        have h2 : wpList P (opsOf (sub p B)) (fall P B Q k) ((opsOf (sub p B)).toList.drop m) a' (w.drewN 1) := h1
        rw [hc] at h2
        exact h2
      rw [hc]
      have := wp_region_still_tail (P := P) (id := id) (Q := fall P B Q k) (a := a) (w := w) (l := ops.toList) m hm hB (runOps_still _ h hφ ha next')
      exact this
    · simp only [Bool.eq_false_iff.2 hB, cond_false] at h; cases h
  · cases h

/-! ### a region that draws, in an order that is no loss -/
theorem drawany {p : List Nat} {k : List It} {s : Store} {w : World} (m : Nat) (l : List Bool) (hm : P.follows .mixedOrders = true)
    (h : (match sub p B with | .region _ ops true => Nat.beq ops.size m && (l == List.replicate m false) | _ => false) = true)
    (next : G P n B Q .n (.any p m l :: k) s (w.drewN 1)) : G P n B Q .n (.code p :: k) s w := by
  intro hpo a ha
  show (sub p B).wp P (fall P B Q k) a w
  split at h
  · rename_i id ops hc
    simp only [Bool.and_eq_true] at h
    have e := beq_true h.1
    have e2 : l = List.replicate m false := by simpa using h.2
    have h1 : wpAny P .any (opsOf (sub p B)) (fall P B Q k) m l.toArray a (w.drewN 1) := next hpo a ha
    rw [hc] at h1 ⊢
    subst e; subst e2
    refine wp_region_any hm ?_
    have e3 : (List.replicate ops.size false).toArray = Array.replicate ops.size false := by simp
    rw [e3] at h1
    exact h1
  · cases h

/-- the value of a pure operation that is to be carried out -/
def pureS (P : Program) (n : Nat) (ops : Array Oper) (s : Store) (o : Oper) : Option (Store × List Prop) :=
  match wantedS ops s o with
  | some true => bif hasAll s o.op.operands.toList && (noSel o.op && o.dst.all (Nat.blt · n)) then
      match stepOp P (fun _ => True) s o none with
      | some (v, φ) => some (setO s o.dst v, φ)
      | none => none
    else none
  | some false => bif o.dst.all (Nat.blt · n) then some (setO s o.dst undef, []) else none
  | none => none

theorem pureS_yields {ops : Array Oper} {s s' : Store} {o : Oper} {φ : List Prop} {a : Act} (h : pureS P n ops s o = some (s', φ)) (hφ : All φ) (hs : Sat n a s) :
    ∃ v, Yields P ops o v a ∧ Sat n (a.put o.dst v) s' := by
  unfold pureS at h
  split at h
  · rename_i hw
    by_cases hc : (hasAll s o.op.operands.toList && (noSel o.op && o.dst.all (Nat.blt · n))) = true
    · simp only [hc, cond_true] at h
      simp only [Bool.and_eq_true] at hc
      split at h
      · rename_i v ψ hst
        cases h
        have hall : ∀ (l : List Operand), hasAll s l = true → ∀ x ∈ l, has s x = true := by
          intro l
          induction l with
          | nil => intro _ x hx; cases hx
          | cons y r ih =>
            intro hl x hx
            simp only [hasAll, Bool.and_eq_true] at hl
            rcases List.mem_cons.1 hx with rfl | hx
            · exact hl.1
            · exact ih hl.2 x hx
        have he : execOp a.eval o = execOp (ev s) o := execOp_congr o (noSel_spec hc.2.1) fun x hx => hs.eval (hall _ hc.1 x (Array.mem_toList_iff.2 hx))
        refine ⟨v, .inl ⟨wantedS_spec hs hw, fun w => ?_⟩, hs.putO hc.2.2 v⟩
        rw [he]
        simp only [stepOp] at hst
        split at hst
        · rename_i r hr; cases hst; exact arith_run hr hφ w
        · split at hst
          · rename_i r hr; cases hst; exact extra_run hr hφ w
          · split at hst
            · rename_i u hu; cases hst; exact pureOf_run hu w
            · cases hst
      · cases h
    · simp only [Bool.eq_false_iff.2 hc, cond_false] at h; cases h
  · rename_i hw
    by_cases hc : (o.dst.all (Nat.blt · n)) = true
    · simp only [hc, cond_true, Option.some.injEq, Prod.mk.injEq] at h
      obtain ⟨rfl, rfl⟩ := h
      exact ⟨undef, .inr ⟨wantedS_spec hs hw, rfl⟩, hs.putO hc undef⟩
    · simp only [Bool.eq_false_iff.2 hc, cond_false] at h; cases h
  · cases h

/-- pure operations, one after the other, ahead of all others -/
def anyRun (P : Program) (n : Nat) (ops : Array Oper) : List Nat → Nat → List Bool → Store → Option (Nat × List Bool × Store × List Prop)
  | [], m, l, s => some (m, l, s, [])
  | i :: r, m + 1, l, s => match ops[i]? with
    | some o => bif Region.noSelect ops && (Region.free .any ops l.toArray i && (Region.ready .any ops l.toArray).contains i) then
        match pureS P n ops s o with
        | some (s1, φ) => match anyRun P n ops r m (l.set i true) s1 with
          | some (m2, l2, s2, ψ) => some (m2, l2, s2, φ ++ ψ)
          | none => none
        | none => none
      else none
    | none => none
  | _ :: _, 0, _, _ => none

theorem anyRun_sound {ops : Array Oper} {R : Exit → Act → World → Prop} (hR : PanicOk R) {w : World} : ∀ (is : List Nat) {m m' : Nat} {l l' : List Bool} {s s' : Store} {φ : List Prop} {a : Act},
    anyRun P n ops is m l s = some (m', l', s', φ) → All φ → (∀ a', Sat n a' s' → wpAny P .any ops R m' l'.toArray a' w) → Sat n a s → wpAny P .any ops R m l.toArray a w
  | [], m, m', l, l', s, s', φ, a, h, hφ, hk, ha => by simp only [anyRun] at h; cases h; exact hk a ha
  | i :: r, 0, m', l, l', s, s', φ, a, h, hφ, hk, ha => by simp [anyRun] at h
  | i :: r, m + 1, m', l, l', s, s', φ, a, h, hφ, hk, ha => by
    simp only [anyRun] at h
    split at h
    · rename_i o ho
      by_cases hc : (Region.noSelect ops && (Region.free .any ops l.toArray i && (Region.ready .any ops l.toArray).contains i)) = true
      · simp only [hc, cond_true] at h
        simp only [Bool.and_eq_true] at hc
        split at h
        · rename_i s1 φ1 h1
          split at h
          · rename_i m2 l2 s2 ψ h2
            cases h
            obtain ⟨p1, p2⟩ := All.append hφ
            obtain ⟨v, hy, hsat⟩ := pureS_yields h1 p1 ha
            refine wpAny_take ho hc.1 hc.2.1 hc.2.2 (fun c a w hq => hR c a _ v w hq) hy ?_
            have := anyRun_sound hR r h2 p2 hk hsat
            simpa using this
          · cases h
        · cases h
      · simp only [Bool.eq_false_iff.2 hc, cond_false] at h; cases h
    · cases h

theorem anypure {p : List Nat} {k : List It} {s s' : Store} {w : World} {m m' : Nat} {l l' : List Bool} {φ : List Prop} (is : List Nat)
    (h : anyRun P n (opsOf (sub p B)) is m l s = some (m', l', s', φ)) (hφ : All φ) (next : G P n B Q .n (.any p m' l' :: k) s' w) : G P n B Q .n (.any p m l :: k) s w := by
  intro hpo a ha
  show wpAny P .any (opsOf (sub p B)) (fall P B Q k) m l.toArray a w
  exact anyRun_sound (hpo.fall k) is h hφ (fun a' ha' => next hpo a' ha') ha

theorem anydone {p : List Nat} {k : List It} {s : Store} {w : World} {m : Nat} {l : List Bool} (h : (Region.ready .any (opsOf (sub p B)) l.toArray == []) = true)
    (next : G P n B Q .n k s w) : G P n B Q .n (.any p m l :: k) s w := by
  intro hpo a ha
  exact wpAny_done (by simpa using h) (next hpo a ha) m

/-- the one operation that comes next -/
theorem anyskp {p : List Nat} {i : Nat} {k : List It} {s : Store} {w w' : World} {m : Nat} {l : List Bool} {kd : Kd} {d : Option Nat} (h : opK P n B p i s = some (kd, d))
    (hr : (Region.ready .any (opsOf (sub p B)) l.toArray == [i]) = true) (hs : kd.sem.run P w = .ok .skip w') (next : G P n B Q .n (.any p m (l.set i true) :: k) (setO s d undef) w') : G P n B Q .n (.any p (m + 1) l :: k) s w := by
  intro hpo a ha
  have hr' : Region.ready .any (opsOf (sub p B)) l.toArray = [i] := by simpa using hr
  refine wpAny_all hr' (by simp) fun j hj => ?_
  obtain rfl : j = i := by simpa using hj
  unfold opK at h
  split at h
  · rename_i o ho
    split at h
    · rename_i hw
      by_cases hc : (hasAll s o.op.operands.toList && (noSel o.op && o.dst.all (Nat.blt · n))) = true
      · simp only [hc, cond_true, Option.some.injEq, Prod.mk.injEq] at h
        obtain ⟨rfl, rfl⟩ := h
        simp only [Bool.and_eq_true] at hc
        have hall : ∀ (l : List Operand), hasAll s l = true → ∀ x ∈ l, has s x = true := by
          intro l
          induction l with
          | nil => intro _ x hx; cases hx
          | cons y r ih =>
            intro hl x hx
            simp only [hasAll, Bool.and_eq_true] at hl
            rcases List.mem_cons.1 hx with rfl | hx
            · exact hl.1
            · exact ih hl.2 x hx
        have he : execOp a.eval o = (kindOf P s o).sem := by
          rw [kindOf_sem]
          exact execOp_congr o (noSel_spec hc.2.1) fun x hx => ha.eval (hall _ hc.1 x (Array.mem_toList_iff.2 hx))
        unfold wpOp
        rw [ho]
        simp only []
        rw [if_pos (wantedS_spec ha hw)]
        refine .inl ?_
        unfold Oper.wp
        rw [he, hs]
        simp only [Oper.upon_skip]
        have h1 : wpAny P .any (opsOf (sub p B)) (fall P B Q k) m (l.set j true).toArray (a.put o.dst undef) w' := next hpo _ (ha.putO hc.2.2 undef)
        simpa using h1
      · simp only [Bool.eq_false_iff.2 hc, cond_false] at h; cases h
    · cases h
  · cases h

/-- A CALL BY A CONTRACT. -/
theorem call {p : List Nat} {i : Nat} {k : List It} {s : Store} {w : World} {f : FuncId} {args : Array Value} {d : Option Nat} {R : Ending → World → Prop}
    (h : opK P n B p i s = some (.call f args, d)) (hb : bodied P f = true) (hc : Calls P f args w R)
    (next : ∀ e w', R e w' → ∃ v, e = .returned v ∧ G P n B Q .n (.ops p (i + 1) :: k) (setO s d v) w') : G P n B Q .n (.ops p i :: k) s w := by
  refine opK_step h fun hp a o ha he hd hdn => ?_
  unfold Oper.wp
  rw [he]
  simp only [Kd.sem, callFunc_run hb, Oper.upon_enter]
  refine hc.mono fun e w' hr => ?_
  obtain ⟨v, rfl, hg⟩ := next e w' hr
  rw [hd]
  exact hg hp _ (ha.putO hdn v)

/-- AN OPERATION THAT YIELDS A VALUE IN ANOTHER WORLD. -/
theorem val {p : List Nat} {i : Nat} {k : List It} {s : Store} {w w' : World} {kd : Kd} {d : Option Nat} {v : Value}
    (h : opK P n B p i s = some (kd, d)) (hr : kd.sem.run P w = .ok (.value v) w') (next : G P n B Q .n (.ops p (i + 1) :: k) (setO s d v) w') : G P n B Q .n (.ops p i :: k) s w := by
  refine opK_step h fun hp a o ha he hd hdn => ?_
  unfold Oper.wp
  rw [he, hr]
  simp only [Oper.upon_value, hd]
  exact next hp _ (ha.putO hdn v)
theorem skp {p : List Nat} {i : Nat} {k : List It} {s : Store} {w w' : World} {kd : Kd} {d : Option Nat}
    (h : opK P n B p i s = some (kd, d)) (hr : kd.sem.run P w = .ok .skip w') (next : G P n B Q .n (.ops p (i + 1) :: k) (setO s d undef) w') : G P n B Q .n (.ops p i :: k) s w := by
  refine opK_step h fun hp a o ha he hd hdn => ?_
  unfold Oper.wp
  rw [he, hr]
  simp only [Oper.upon_skip, hd]
  exact next hp _ (ha.putO hdn undef)

end

/-! ### memory -/
/-- a slice whose elements, of so many cells each, read as listed -/
def Sl {α : Type} [Inhabited α] (w : World) (ao : Option Addr) (size : Nat) (enc : α → List Value) (xs : List α) : Prop :=
  ∀ i, i < xs.length → ao.isSome = true ∧ CellsAt w ((adr ao).add (scale i size)) (enc (xs.getD i default))
def Ints (w : World) (ao : Option Addr) (xs : List Int) : Prop :=
  ∀ i, i < xs.length → ao.isSome = true ∧ w.cell? ((adr ao).add i) = some (.int .i64 (xs.getD i 0))
/-- the block b, whole -/
def Blk (w : World) (b : Nat) (cs : List Value) (t : TypeId) : Prop := w.heap[b]? = some (.cells cs.toArray t (0, 0))

variable [CT : Go.Den.Ctx]
/-- Of what was there only the blocks of the list may have changed. -/
structure Chg (ex : List Nat) (w w' : World) : Prop where
  os : w'.os = w.os
  tape : w'.tape = w.tape
  output : w'.output = w.output
  size : w.heap.size ≤ w'.heap.size
  block : ∀ k, k < w.heap.size → k ∉ ex → w'.heap[k]? = w.heap[k]?
  drawn : Go.Den.Ctx.drawsUp = true → w.drawn ≤ w'.drawn

theorem Chg.refl (ex : List Nat) (w : World) : Chg ex w w := ⟨rfl, rfl, rfl, Nat.le_refl _, fun _ _ _ => rfl, fun _ => Nat.le_refl _⟩
theorem Chg.trans {l r : List Nat} {a b c : World} (h : Chg l a b) (g : Chg r b c) : Chg (l ++ r) a c :=
  ⟨g.os.trans h.os, g.tape.trans h.tape, g.output.trans h.output, Nat.le_trans h.size g.size, fun k hk hn => by
    simp only [List.mem_append, not_or] at hn
    exact (g.block k (Nat.lt_of_lt_of_le hk h.size) hn.2).trans (h.block k hk hn.1), fun e => Nat.le_trans (h.drawn e) (g.drawn e)⟩
theorem Chg.below {ex : List Nat} {B : Nat} {a w w' : World} (g : Chg ex w w') (h : RowKit.Below B a w) (hB : B ≤ w.heap.size) (hx : ∀ x ∈ ex, B ≤ x) : RowKit.Below B a w' :=
  h.trans ⟨g.os, g.tape, g.output, g.size, fun k hk => g.block k (Nat.lt_of_lt_of_le hk hB) (fun hm => Nat.not_le_of_lt hk (hx k hm))⟩
theorem Chg.toBelow {w w' : World} (h : Chg [] w w') : RowKit.Below w.heap.size w w' := ⟨h.os, h.tape, h.output, h.size, fun k hk => h.block k hk (by simp)⟩
theorem Chg.drewN (w : World) (j : Nat) : Chg [] w (w.drewN j) := ⟨rfl, rfl, rfl, Nat.le_refl _, fun _ _ _ => rfl, fun _ => Nat.le_add_right _ _⟩
theorem Chg.mono {l r : List Nat} {w w' : World} (h : Chg l w w') (hs : ∀ x ∈ l, x ∈ r) : Chg r w w' := ⟨h.os, h.tape, h.output, h.size, fun k hk hn => h.block k hk (fun hm => hn (hs k hm)), h.drawn⟩

theorem Chg.undrew {ex : List Nat} {w w' : World} {j : Nat} (h : Chg ex (w.drewN j) w') : Chg ex w w' := ⟨h.os, h.tape, h.output, h.size, h.block, fun e => Nat.le_trans (Nat.le_add_right _ _) (h.drawn e)⟩
theorem Chg.ofQt {w w' : World} (h : Qt w w') : Chg [] w w' := by obtain ⟨j, rfl⟩ := h; exact Chg.drewN w j
theorem Below.undrew {X : Nat} {w w' : World} {j : Nat} (h : RowKit.Below X (w.drewN j) w') : RowKit.Below X w w' := ⟨h.os, h.tape, h.output, h.size, h.block⟩
theorem Below.ofQt {X : Nat} {a w w' : World} (h : RowKit.Below X a w) (g : Qt w w') : RowKit.Below X a w' := by obtain ⟨j, rfl⟩ := g; exact ⟨h.os, h.tape, h.output, h.size, h.block⟩
theorem Blk.lt {w : World} {b : Nat} {cs : List Value} {t : TypeId} (h : Blk w b cs t) : b < w.heap.size := (Array.getElem?_eq_some_iff.1 h).1
theorem Blk.chg {ex : List Nat} {w w' : World} {b : Nat} {cs : List Value} {t : TypeId} (h : Blk w b cs t) (g : Chg ex w w') (hn : b ∉ ex) : Blk w' b cs t := (g.block b h.lt hn).trans h
theorem Blk.cell {w : World} {b : Nat} {cs : List Value} {t : TypeId} (h : Blk w b cs t) {i : Nat} {v : Value} (hi : cs[i]? = some v) : w.cell? ⟨b, i, none⟩ = some v := by
  unfold Blk at h
  simp [World.cell?, h, hi]
theorem Blk.cells {w : World} {b : Nat} {cs : List Value} {t : TypeId} (h : Blk w b cs t) (i m : Nat) : CellsAt w ⟨b, i, none⟩ ((cs.drop i).take m) := by
  intro j v hv
  have : cs[i + j]? = some v := by
    rw [List.getElem?_take] at hv
    split at hv
    · simpa using hv
    · cases hv
  have e : Addr.add ⟨b, i, none⟩ j = ⟨b, i + j, none⟩ := by
    unfold Addr.add
    split
    · rename_i h0; simp
    · rfl
  rw [e]
  exact h.cell this
theorem Blk.loadOne {P : Program} {w : World} {b : Nat} {cs : List Value} {t T : TypeId} (h : Blk w b cs T) {i : Nat} {v : Value} (ht : aggOf P t = some false) (hi : cs[i]? = some v) : (loadVar t ⟨b, i, none⟩).run P w = .ok v w := by
  simp [loadVar, aggOf_run ht, h.cell hi, go_sem]
theorem Blk.loadAgg {P : Program} {w : World} {b : Nat} {cs : List Value} {t T : TypeId} {inf : TypeInfo} (h : Blk w b cs T) (i : Nat) (ht : aggOf P t = some true) (hi : P.info? t = some inf) (vs : List Value) (hv : (cs.drop i).take inf.size = vs) (hl : vs.length = inf.size) :
    (loadVar t ⟨b, i, none⟩).run P w = .ok (.agg vs.toArray) w := by
  have hc := h.cells i inf.size
  rw [hv] at hc
  have hr := loadCellsFrom_run (P := P) (w := w) (a := ⟨b, i, none⟩) vs 0 #[] (fun j v hv => by rw [Nat.zero_add]; exact hc j v hv)
  rw [hl] at hr
  simp [loadVar, aggOf_run ht, sizeOf, typeInfo, hi, loadCells, hr, go_sem]
theorem cell_chg {ex : List Nat} {w w' : World} {a : Addr} {v : Value} (h : w.cell? a = some v) (g : Chg ex w w') (hn : a.block ∉ ex) : w'.cell? a = some v :=
  (World.cell?_of_block (g.block a.block (World.block_lt_of_cell? w a h) hn)).trans h

section
variable {P : Program} {B : Code} {Q : Exit → Act → World → Prop} {n : Nat}

theorem alloc_blk (w : World) (cs : Array Value) (t : TypeId) : Blk (w.alloc (.cells cs t)) w.heap.size cs.toList t := by
  show (w.heap.push _)[w.heap.size]? = _
  simp
theorem alloc_size (w : World) (o : Obj) : (w.alloc o).heap.size = w.heap.size + 1 := by
  show (w.heap.push _).size = _
  simp
theorem alloc_chg (w : World) (o : Obj) : Chg [] w (w.alloc o) := ⟨rfl, rfl, rfl, by rw [alloc_size]; omega, fun k hk _ => by
  show (w.heap.push _)[k]? = _
  rw [Array.getElem?_push, if_neg (by omega)], fun _ => Nat.le_refl _⟩

/-- A NEW BLOCK OF KNOWN CELLS. -/
theorem box {p : List Nat} {i : Nat} {k : List It} {s : Store} {w : World} {t : TypeId} {v : Value} {d : Option Nat} (cs : List Value)
    (h : opK P n B p i s = some (.box t v, d)) (hcs : v.cells.toList = cs)
    (next : ∀ (b : Nat) (w' : World), b = w.heap.size → Blk w' b cs t → w'.heap.size = b + 1 → Chg [] w w' → G P n B Q .n (.ops p (i + 1) :: k) (setO s d (.pointer (some ⟨b, 0, none⟩))) w') :
    G P n B Q .n (.ops p i :: k) s w := by
  refine val (w' := w.alloc (.cells v.cells t)) h ?_ (next _ _ rfl (hcs ▸ alloc_blk w _ t) (alloc_size w _) (alloc_chg w _))
  simp only [Kd.sem, Instr.box, newVar, newRow, newObj]
  rfl

/-- AN OPERATION THAT LAYS ONE NEW BLOCK OF KNOWN CELLS. -/
theorem newrow {p : List Nat} {i : Nat} {k : List It} {s : Store} {w : World} {kd : Kd} {d : Option Nat} (cs : List Value) (t : TypeId) (v : Nat → Value)
    (h : opK P n B p i s = some (kd, d)) (hr : kd.sem.run P w = .ok (.value (v w.heap.size)) (w.alloc (.cells cs.toArray t)))
    (next : ∀ (b : Nat) (w' : World), b = w.heap.size → Blk w' b cs t → w'.heap.size = b + 1 → Chg [] w w' → G P n B Q .n (.ops p (i + 1) :: k) (setO s d (v b)) w') :
    G P n B Q .n (.ops p i :: k) s w :=
  val h hr (next _ _ rfl (alloc_blk w _ t) (alloc_size w _) (alloc_chg w _))

/-- A STORE INTO A KNOWN BLOCK. -/
theorem storeB {p : List Nat} {i : Nat} {k : List It} {s : Store} {w : World} {t : TypeId} {b off : Nat} {v : Value} {d : Option Nat} {T : TypeId} {cs : List Value} (vs cs' : List Value)
    (h : opK P n B p i s = some (.store t (.pointer (some ⟨b, off, none⟩)) v, d)) (hb : Blk w b cs T)
    (hok : ((match P.info? t with | some inf => Nat.beq inf.size vs.length | none => false) && (Nat.ble (off + vs.length) cs.length && vs.all (·.oneCell'))) = true)
    (hv : v.cells.toList = vs) (hcs : cs.take off ++ vs ++ cs.drop (off + vs.length) = cs')
    (next : ∀ (w' : World), Blk w' b cs' T → w'.heap.size = w.heap.size → Chg [b] w w' → G P n B Q .n (.ops p (i + 1) :: k) (setO s d undef) w') :
    G P n B Q .n (.ops p i :: k) s w := by
  simp only [Bool.and_eq_true] at hok
  obtain ⟨hz, hfit0, h10⟩ := hok
  have hfit : off + vs.length ≤ cs.length := Nat.le_of_ble_eq_true hfit0
  have h1 : ∀ u ∈ vs, u.oneCell' = true := fun u hu => List.all_eq_true.1 h10 u hu
  split at hz
  · rename_i inf hi
    have hl : vs.length = inf.size := (beq_true hz).symm
    have hst := run_storeCells_at P b off T vs 0 cs.toArray w hb (by simpa using hfit) h1
    simp only [Nat.add_zero] at hst
    have hsz : v.cells.size = inf.size := by rw [← hl, ← hv]; simp
    refine skp (w' := w.setRow b cs'.toArray) h ?_ (next _ ?_ ?_ ?_)
    · subst hcs
      have hs : (sizeOf t).run P w = .ok inf.size w := by simp [sizeOf, typeInfo, hi, go_sem]
      have hv1 : (storeVar t ⟨b, off, none⟩ v).run P w = .ok () (w.setRow b (cs.take off ++ vs ++ cs.drop (off + vs.length)).toArray) := by
        unfold storeVar
        rw [Sem.run_bind, hs, Result.andThen_ok]
        rw [if_neg (fun hn => hn hsz), hv]
        exact hst
      show (do Instr.storeAt t (.pointer (some ⟨b, off, none⟩)) v; pure Next.skip : Sem Next).run P w = _
      rw [Sem.run_bind]
      have : (Instr.storeAt t (.pointer (some ⟨b, off, none⟩)) v) = storeVar t ⟨b, off, none⟩ v := rfl
      rw [this, hv1]
      rfl
    · exact setRow_heap w b _ _ T _ hb
    · simp [World.setRow]
    · refine ⟨rfl, rfl, rfl, by simp [World.setRow], fun j hj hn => ?_, fun _ => Nat.le_refl _⟩
      simp only [World.setRow, Array.getElem?_modify]
      rw [if_neg (fun e => hn (by simp [e]))]
  · cases hz

theorem storeA {p : List Nat} {i : Nat} {m : Nat} {l : List Bool} {k : List It} {s : Store} {w : World} {t : TypeId} {b off : Nat} {v : Value} {d : Option Nat} {T : TypeId} {cs : List Value} (vs cs' : List Value)
    (h : opK P n B p i s = some (.store t (.pointer (some ⟨b, off, none⟩)) v, d)) (hb : Blk w b cs T)
    (hr : (Region.ready .any (opsOf (sub p B)) l.toArray == [i]) = true) (hok : ((match P.info? t with | some inf => Nat.beq inf.size vs.length | none => false) && (Nat.ble (off + vs.length) cs.length && vs.all (·.oneCell'))) = true)
    (hv : v.cells.toList = vs) (hcs : cs.take off ++ vs ++ cs.drop (off + vs.length) = cs')
    (next : ∀ (w' : World), Blk w' b cs' T → w'.heap.size = w.heap.size → Chg [b] w w' → G P n B Q .n (.any p m (l.set i true) :: k) (setO s d undef) w') :
    G P n B Q .n (.any p (m + 1) l :: k) s w := by
  simp only [Bool.and_eq_true] at hok
  obtain ⟨hz, hfit0, h10⟩ := hok
  have hfit : off + vs.length ≤ cs.length := Nat.le_of_ble_eq_true hfit0
  have h1 : ∀ u ∈ vs, u.oneCell' = true := fun u hu => List.all_eq_true.1 h10 u hu
  split at hz
  · rename_i inf hi
    have hl : vs.length = inf.size := (beq_true hz).symm
    have hst := run_storeCells_at P b off T vs 0 cs.toArray w hb (by simpa using hfit) h1
    simp only [Nat.add_zero] at hst
    have hsz : v.cells.size = inf.size := by rw [← hl, ← hv]; simp
    refine anyskp (w' := w.setRow b cs'.toArray) h hr ?_ (next _ ?_ ?_ ?_)
    · subst hcs
      have hs : (sizeOf t).run P w = .ok inf.size w := by simp [sizeOf, typeInfo, hi, go_sem]
      have hv1 : (storeVar t ⟨b, off, none⟩ v).run P w = .ok () (w.setRow b (cs.take off ++ vs ++ cs.drop (off + vs.length)).toArray) := by
        unfold storeVar
        rw [Sem.run_bind, hs, Result.andThen_ok]
        rw [if_neg (fun hn => hn hsz), hv]
        exact hst
      show (do Instr.storeAt t (.pointer (some ⟨b, off, none⟩)) v; pure Next.skip : Sem Next).run P w = _
      rw [Sem.run_bind]
      have : (Instr.storeAt t (.pointer (some ⟨b, off, none⟩)) v) = storeVar t ⟨b, off, none⟩ v := rfl
      rw [this, hv1]
      rfl
    · exact setRow_heap w b _ _ T _ hb
    · simp [World.setRow]
    · refine ⟨rfl, rfl, rfl, by simp [World.setRow], fun j hj hn => ?_, fun _ => Nat.le_refl _⟩
      simp only [World.setRow, Array.getElem?_modify]
      rw [if_neg (fun e => hn (by simp [e]))]
  · cases hz

theorem madeCells_one (z : Value) (m : Nat) : madeCells #[z] m = (List.replicate m z).toArray := by
  apply Array.ext
  · simp [madeCells]
  · intro i h1 h2
    simp [madeCells, Nat.mod_one]

/-- make([]T, m), T of one cell. -/
theorem mk1 {p : List Nat} {i : Nat} {k : List It} {s : Store} {w : World} {t e : TypeId} {l : Int} {d : Option Nat} {inf : TypeInfo} {z : Value} (m : Nat)
    (h : opK P n B p i s = some (.mk t (.int .i64 l) (.int .i64 l), d)) (ht : P.underlying t = some (.slice e)) (hi : P.info? e = some inf) (hz : inf.zero = some z) (hz1 : z.cells = #[z]) (hs1 : inf.size = 1)
    (hm : l = (m : Int)) (hby : inf.bytes * m ≤ 281474976710656) (hmx : m ≤ 9223372036854775807)
    (next : ∀ (b : Nat) (w' : World), b = w.heap.size → Blk w' b (List.replicate m z) e → w'.heap.size = b + 1 → Chg [] w w' → G P n B Q .n (.ops p (i + 1) :: k) (setO s d (.slice (some ⟨b, 0, none⟩) m m)) w') :
    G P n B Q .n (.ops p i :: k) s w := by
  subst hm
  have hby' : (inf.bytes : Int) * (m : Int) ≤ 281474976710656 := by
    have h2 := Int.ofNat_le.2 hby
    rw [Int.natCast_mul] at h2
    exact h2
  have hmx' : (m : Int) ≤ 9223372036854775807 := by omega
  have hr := run_make (P := P) w t e inf z ht hi hz .i64 .i64 (m : Int) (m : Int) (by omega) (Int.le_refl _) hby' hmx'
  rw [hz1, hs1, Nat.mul_one, Int.toNat_natCast, madeCells_one] at hr
  exact newrow (List.replicate m z) e (fun b => .slice (some ⟨b, 0, none⟩) m m) h (by simp [Kd.sem, hr]) next

end

theorem adr_add (b i j : Nat) : Addr.add ⟨b, i, none⟩ j = ⟨b, i + j, none⟩ := by
  unfold Addr.add
  split
  · rename_i h0; simp [h0]
  · rfl
theorem Blk.ints {w : World} {b : Nat} {cs : List Value} {t : TypeId} (h : Blk w b cs t) (xs : List Int) (e : cs.take xs.length = xs.map (Value.int .i64)) : Ints w (some ⟨b, 0, none⟩) xs := by
  intro i hi
  refine ⟨rfl, ?_⟩
  simp only [adr, adr_add, Nat.zero_add]
  refine h.cell ?_
  have h1 : (cs.take xs.length)[i]? = some (.int .i64 (xs.getD i 0)) := by
    rw [e]
    simp [hi]
  rw [List.getElem?_take] at h1
  simpa [hi] using h1
theorem add_block (a : Addr) (j : Nat) : (a.add j).block = a.block := by unfold Addr.add; split <;> rfl
theorem Ints.chg {ex : List Nat} {w w' : World} {ao : Option Addr} {xs : List Int} (h : Ints w ao xs) (g : Chg ex w w') (hn : ∀ x ∈ ex, (adr ao).block ≠ x) : Ints w' ao xs := by
  intro i hi
  refine ⟨(h i hi).1, cell_chg (h i hi).2 g fun hm => ?_⟩
  rw [add_block] at hm
  exact hn _ hm rfl

/-- one of two, by an index -/
def sel2 (i x y : Int) : Int := if i = 0 then x else y
theorem sel2_spec (i x y : Int) : (i = 0 → sel2 i x y = x) ∧ (i ≠ 0 → sel2 i x y = y) := by
  unfold sel2
  refine ⟨fun h => by rw [if_pos h], fun h => by rw [if_neg h]⟩
theorem Blk.sel2 {w : World} {b : Nat} {cs : List Value} {T : TypeId} (h : Blk w b cs T) (off : Nat) {i x y : Int} (hi : i = 0 ∨ i = 1) (h0 : cs[off]? = some (.int .i64 x)) (h1 : cs[off + 1]? = some (.int .i64 y)) :
    w.cell? (Addr.add ⟨b, off, none⟩ i.toNat) = some (.int .i64 (Eng.sel2 i x y)) := by
  rw [adr_add]
  rcases hi with rfl | rfl
  · exact h.cell h0
  · exact h.cell h1

end Go.Eng
