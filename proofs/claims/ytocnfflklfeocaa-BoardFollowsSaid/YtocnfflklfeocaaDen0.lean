/- A pure interpreter of the translated code on an abstract state: what it is. No condition of its own. -/
import Derived.Test.YtocnfflklfeocaaEng
namespace Go.Den
open Go.Eng
set_option linter.unusedVariables false
set_option linter.unusedSectionVars false

/-- a description of plain data; 'osl': a slice that the holder owns (its elements' type's number); 'obx': a pointer, not nil, to a box that the holder owns; 'err': an error, nil (false) or not; 'bld': a pointer to a builder of strings (its type's number, the bytes') that the holder owns -/
inductive Ty where
  | int (k : IntKind)
  | bool
  | str
  | sl (e : Ty)
  | osl (i : TypeId) (e : Ty)
  | obx (e : Ty)
  | err
  | bld (t i : TypeId)
  | nil
  | st (f r : Ty)
  deriving DecidableEq

def D : Ty → Type
  | .int _ => Int
  | .bool => Bool
  | .str => ByteArray
  | .sl e => List (D e)
  | .osl _ e => List (D e)
  | .obx e => D e
  | .err => Bool
  | .bld _ _ => List Int
  | .nil => Unit
  | .st f r => D f × D r
def Ty.size : Ty → Nat
  | .nil => 0
  | .st f r => f.size + r.size
  | _ => 1
def dflt : (τ : Ty) → D τ
  | .int _ => (0 : Int)
  | .bool => false
  | .str => ByteArray.empty
  | .sl _ => []
  | .osl _ _ => []
  | .obx e => dflt e
  | .err => false
  | .bld _ _ => ([] : List Int)
  | .nil => ()
  | .st f r => (dflt f, dflt r)
/-- no slice in it -/
def Ty.flat : Ty → Bool
  | .sl _ => false
  | .osl _ _ => false
  | .obx _ => false
  | .err => false
  | .bld _ _ => false
  | .st f r => f.flat && r.flat
  | _ => true
/-- no slice in it but owned ones of flat elements -/
def Ty.fresh : Ty → Bool
  | .sl _ => false
  | .osl _ e => e.flat
  | .obx e => e.fresh
  | .st f r => f.fresh && r.fresh
  | _ => true
/-- no owned slice in it -/
def Ty.pure : Ty → Bool
  | .osl _ _ => false
  | .obx _ => false
  | .bld _ _ => false
  | .sl e => e.pure
  | .st f r => f.pure && r.pure
  | _ => true
def Ty.isAgg : Ty → Bool
  | .nil => true
  | .st _ _ => true
  | _ => false
def DL : List Ty → Type
  | [] => Unit
  | τ :: r => D τ × DL r

/-- one cell -/
inductive Cv where
  | v (x : Value)
  | sl (e : Ty) (xs : List (D e))
  | os (o : Nat)
  | ptr (o off : Nat)
  | fn (f : FuncId) (caps : List (Nat × Nat))
  | e0
  | er (b : Bool)
inductive PW where
  | c (x : Cv)
  | agg (l : List Cv)
inductive PV where
  | c (x : Cv)
  | agg (l : List Cv)
  | tup (l : List PW)
  | rp (l : List Cv)
  | ep (o sz i off : Nat)
  | pa (o off sz cnt inner : Nat) (i : Int)
  | vw (o sz lo n : Nat)
inductive OB where
  | box (l : List Cv)
  | arr (i : TypeId) (e : Ty) (xs : List (D e)) (fz : Bool)
  | dead
  | bld (t : TypeId) (c : Cv)

abbrev Tag := List (Nat × Bool)
abbrev Slots := List (Nat × Option (Tag × PV))
structure AState where
  n : Nat
  slots : Slots
  objs : List OB
  prS : Nat
  prO : Nat
  gs : Nat
  known : Tag

def get : Slots → Nat → Option (Tag × PV)
  | [], _ => none
  | (i, e) :: r, t => bif Nat.beq i t then e else get r t
def memT : Nat × Bool → Tag → Bool
  | _, [] => false
  | x, y :: r => (Nat.beq x.1 y.1 && beqB x.2 y.2) || memT x r
def bitB (m d : Nat) : Bool := Nat.beq (Nat.land (Nat.shiftRight m d) 1) 1
def names (d : Nat) : Tag → Bool
  | [] => false
  | x :: r => Nat.beq x.1 d || names d r
def chk {α : Type} (b : Bool) (x : Option α) : Option α := bif b then x else none
/-- every literal is known, or named by the other tag -/
def subT (kn : Tag) : Tag → Tag → Bool
  | [], _ => true
  | x :: r, t => (memT x kn || memT x t) && subT kn r t
/-- a literal is known to be false -/
def falsT (kn : Tag) : Tag → Bool
  | [] => false
  | x :: r => memT (x.1, !x.2) kn || falsT kn r
def simpT (kn : Tag) : Tag → Tag
  | [] => []
  | x :: r => bif memT x kn then simpT kn r else x :: simpT kn r

/-- the cells of a package-level table -/
def tabGet : List (Nat × List Value) → Nat → Option (List Value)
  | [], _ => none
  | (i, cs) :: r, g => bif Nat.beq i g then some cs else tabGet r g
def tabOf [CT : Ctx] (g : Nat) : Option (List Value) := tabGet Ctx.tabs g
def AState.put (σ : AState) (d : Nat) (tg : Tag) (pv : PV) : Option AState :=
  chk (Nat.blt d σ.n && (!bitB σ.prS d && (!bitB σ.gs d && !names d tg))) (some { σ with slots := (d, some (tg, pv)) :: σ.slots })
def AState.putO (σ : AState) (d : Option Nat) (tg : Tag) (pv : PV) : Option AState := match d with
  | some d => σ.put d tg pv
  | none => some σ
/-- at a region's end: what was under a guard is gone -/
def endS : Slots → Slots
  | [] => []
  | (i, some ([], pv)) :: r => (i, some ([], pv)) :: endS r
  | (i, _) :: r => (i, none) :: endS r
def AState.endR (σ : AState) : AState := { σ with slots := endS σ.slots, gs := 0, known := [] }

def cvs : List Value → List Cv
  | [] => []
  | v :: r => .v v :: cvs r
def constPV : Value → PV
  | .agg cs => .agg (cvs cs.toList)
  | v => .c (.v v)
def ev [CT : Ctx] (σ : AState) (tg : Tag) : Operand → Option PV
  | .tmp t => (get σ.slots t).bind fun e => chk (subT σ.known e.1 tg) (some e.2)
  | .const v => some (constPV v)
  | .func f => some (.c (.fn f []))
  | .global g => (tabOf g).bind fun cs => some (.rp (cvs cs))
def evs [CT : Ctx] (σ : AState) (tg : Tag) : List Operand → Option (List PV)
  | [] => some []
  | x :: r => (ev σ tg x).bind fun v => (evs σ tg r).bind fun vs => some (v :: vs)

def plainL : List Cv → Option (List Value)
  | [] => some []
  | .v x :: r => (plainL r).bind fun vs => some (x :: vs)
  | _ :: _ => none
def plain : PV → Option Value
  | .c (.v x) => some x
  | .agg l => (plainL l).bind fun vs => some (.agg vs.toArray)
  | _ => none
def rho [CT : Ctx] (σ : AState) (tg : Tag) (x : Operand) : Value := ((ev σ tg x).bind plain).getD undef
def allPlain [CT : Ctx] (σ : AState) (tg : Tag) : List Operand → Bool
  | [] => true
  | x :: r => ((ev σ tg x).bind plain).isSome && allPlain σ tg r

/-! destructors -/
def asV : PV → Option Value
  | .c (.v x) => some x
  | _ => none
def asInt : PV → Option (IntKind × Int)
  | .c (.v (.int k n)) => some (k, n)
  | _ => none
def asBool : PV → Option Bool
  | .c (.v (.bool b)) => some b
  | _ => none
def asStr : PV → Option ByteArray
  | .c (.v (.string s)) => some s
  | _ => none
def asAgg : PV → Option (List Cv)
  | .agg l => some l
  | _ => none
def asTup : PV → Option (List PW)
  | .tup l => some l
  | _ => none
def asC : PV → Option Cv
  | .c x => some x
  | _ => none
def asFn : PV → Option (FuncId × List (Nat × Nat))
  | .c (.fn f l) => some (f, l)
  | _ => none

/-- the data of cells -/
def castL (e e' : Ty) (xs : List (D e')) : Option (List (D e)) := if h : e' = e then some (h ▸ xs) else none
def ofSl (e : Ty) (objs : List OB) : Cv → Option (List (D e))
  | .sl e' xs => castL e e' xs
  | .os o => (objs[o]?).bind fun
    | .arr _ e' xs _ => castL e e' xs
    | _ => none
  | .v (.slice none 0 0) => some []
  | .e0 => some []
  | _ => none
def ofOsl (i : TypeId) (e : Ty) (objs : List OB) : Cv → Option (List (D e))
  | .os o => (objs[o]?).bind fun
    | .arr i' e' xs false => chk (Nat.beq i' i) (castL e e' xs)
    | _ => none
  | .v (.slice none 0 0) => some []
  | .e0 => some []
  | _ => none
def cv1 : List Cv → Option Cv
  | [c] => some c
  | _ => none
def cvInt (k : IntKind) : Cv → Option Int
  | .v (.int k' n) => chk (sameKind k k') (some n)
  | _ => none
def cvBool : Cv → Option Bool
  | .v (.bool b) => some b
  | _ => none
def cvStr : Cv → Option ByteArray
  | .v (.string s) => some s
  | _ => none
def cvErr : Cv → Option Bool
  | .er b => some b
  | .v .nilIface => some false
  | _ => none
def cv0 : List Cv → Option Unit
  | [] => some ()
  | _ => none
def osId : Cv → List Nat
  | .os o => [o]
  | _ => []
/-- the cells of the box that a pointer points to -/
def ownB (objs : List OB) : List Cv → Option (List Cv)
  | [.ptr o off] => match objs[o]? with
    | some (.box l) => bif Nat.beq off 0 then some l else none
    | _ => none
  | _ => none
/-- the buffer of the builder that a pointer points to -/
def bldC (objs : List OB) (t : TypeId) : List Cv → Option Cv
  | [.ptr o off] => match objs[o]? with
    | some (.bld t' c) => bif Nat.beq off 0 && Nat.beq t' t then some c else none
    | _ => none
  | _ => none
def toD (objs : List OB) : (τ : Ty) → List Cv → Option (D τ)
  | .int k, cs => (cv1 cs).bind (cvInt k)
  | .bool, cs => (cv1 cs).bind cvBool
  | .str, cs => (cv1 cs).bind cvStr
  | .sl e, cs => (cv1 cs).bind (ofSl e objs)
  | .osl i e, cs => (cv1 cs).bind (ofOsl i e objs)
  | .obx e, cs => (ownB objs cs).bind fun l => toD objs e l
  | .err, cs => (cv1 cs).bind cvErr
  | .bld t i, cs => (bldC objs t cs).bind fun c => ofOsl i (.int .u8) objs c
  | .nil, cs => cv0 cs
  | .st f r, cs => (toD objs f (cs.take f.size)).bind fun x => (toD objs r (cs.drop f.size)).bind fun y => some (x, y)
/-- the objects that cells name: as data, as owned ones -/
def idsD (objs : List OB) : Ty → List Cv → List Nat
  | .sl _, cs => (cv1 cs).elim [] osId
  | .obx e, cs => idsD objs e ((ownB objs cs).getD [])
  | .st f r, cs => idsD objs f (cs.take f.size) ++ idsD objs r (cs.drop f.size)
  | _, _ => []
def ptrId : List Cv → List Nat
  | [.ptr o _] => [o]
  | _ => []
def idsO (objs : List OB) : Ty → List Cv → List Nat
  | .osl _ _, cs => (cv1 cs).elim [] osId
  | .obx e, cs => ptrId cs ++ idsO objs e ((ownB objs cs).getD [])
  | .bld t _, cs => ptrId cs ++ (bldC objs t cs).elim [] osId
  | .st f r, cs => idsO objs f (cs.take f.size) ++ idsO objs r (cs.drop f.size)
  | _, _ => []
/-- the cells of data -/
def cellsOf : (τ : Ty) → D τ → List Cv
  | .int k, n => [.v (.int k n)]
  | .bool, b => [.v (.bool b)]
  | .str, s => [.v (.string s)]
  | .sl e, xs => [.sl e xs]
  | .osl _ e, xs => [.sl e xs]
  | .obx _, _ => [.e0]
  | .err, b => [.er b]
  | .bld _ _, _ => [.e0]
  | .nil, _ => []
  | .st f r, x => cellsOf f x.1 ++ cellsOf r x.2
/-- the cells of data, owned slices as new objects from number n on -/
def cc : (τ : Ty) → D τ → Nat → List Cv × List OB
  | .osl i e, xs, n => ([.os n], [.arr i e xs false])
  | .obx e, x, n => ([.ptr n 0], .box (cc e x (n + 1)).1 :: (cc e x (n + 1)).2)
  | .err, b, _ => ([.er b], [])
  | .bld t i, xs, n => ([.ptr n 0], [.bld t (.os (n + 1)), .arr i (.int .u8) xs false])
  | .st f r, x, n => ((cc f x.1 n).1 ++ (cc r x.2 (n + (cc f x.1 n).2.length)).1, (cc f x.1 n).2 ++ (cc r x.2 (n + (cc f x.1 n).2.length)).2)
  | .int k, n, _ => ([.v (.int k n)], [])
  | .bool, b, _ => ([.v (.bool b)], [])
  | .str, s, _ => ([.v (.string s)], [])
  | .sl e, xs, _ => ([.sl e xs], [])
  | .nil, _, _ => ([], [])
def pvCells (agg : Bool) (l : List Cv) : PV := bif agg then .agg l else match l with
  | [c] => .c c
  | _ => .agg l
def pwCells (agg : Bool) (l : List Cv) : PW := bif agg then .agg l else match l with
  | [c] => .c c
  | _ => .agg l
def cellOk : Cv → Bool
  | .v x => x.oneCell'
  | _ => true
def cellsPV : PV → Option (List Cv)
  | .c x => chk (cellOk x) (some [x])
  | .agg l => some l
  | _ => none

def isAggPV : PV → Bool
  | .agg _ => true
  | _ => false
def memN (o : Nat) : List Nat → Bool
  | [] => false
  | p :: r => Nat.beq p o || memN o r
def nodupN : List Nat → Bool
  | [] => true
  | p :: r => !memN p r && nodupN r
/-- the immutable mark on objects -/
def freeze1 (prO : Nat) (objs : List OB) (o : Nat) : Option (List OB) := (objs[o]?).bind fun
  | .arr i e xs false => chk (!bitB prO o) (some (objs.set o (.arr i e xs true)))
  | .arr _ _ _ true => some objs
  | _ => none
def freezeL (prO : Nat) : List OB → List Nat → Option (List OB)
  | objs, [] => some objs
  | objs, o :: r => (freeze1 prO objs o).bind fun objs' => freezeL prO objs' r

/-! vocabulary of the shallow functions -/
def req {α : Type} (b : Bool) (x : Option α) : Option α := bif b then x else none
def imp (g b : Bool) : Bool := bif g then b else true
def at? {α : Type} (xs : List α) (i : Int) : Option α := bif decide (0 ≤ i) then xs[i.toNat]? else none
def gopt {α : Type} (g : Bool) (d : α) (x : Option α) : Option α := bif g then x else some d
def gat {α : Type} (g : Bool) (d : α) (xs : List α) (i : Int) : Option α := bif g then at? xs i else some d
def inb (i : Int) (n : Nat) : Bool := decide (0 ≤ i) && decide (i < (n : Int))
def room (n bytes : Nat) : Bool := Nat.ble (n * bytes) 140737488355328
def w64 (n : Int) : Int := IntKind.wrap .i64 n
def wu64 (n : Int) : Int := IntKind.wrap .u64 n
def wu8 (n : Int) : Int := IntKind.wrap .u8 n
def iand (k : IntKind) (a b : Int) : Int := k.wrap ((BitVec.ofInt k.bits a &&& BitVec.ofInt k.bits b).toNat : Int)
def ior (k : IntKind) (a b : Int) : Int := k.wrap ((BitVec.ofInt k.bits a ||| BitVec.ofInt k.bits b).toNat : Int)
def ixor (k : IntKind) (a b : Int) : Int := k.wrap ((BitVec.ofInt k.bits a ^^^ BitVec.ofInt k.bits b).toNat : Int)
def iandn (k : IntKind) (a b : Int) : Int := k.wrap ((BitVec.ofInt k.bits a &&& ~~~(BitVec.ofInt k.bits b)).toNat : Int)
def getD' {α : Type} (xs : List α) (i : Nat) (d : α) : α := xs.getD i d
def iterN {T α : Type} (f : T → Option (T ⊕ α)) : Nat → T → Option α
  | 0, _ => none
  | n + 1, x => match f x with
    | none => none
    | some (.inl y) => iterN f n y
    | some (.inr r) => some r
open Classical in
noncomputable def iterW {T α : Type} (f : T → Option (T ⊕ α)) (x : T) : Option α := if h : ∃ n, (iterN f n x).isSome = true then iterN f (Classical.choose h) x else none
/-- the n-th approximation of a recursive function -/
def fixN {T α : Type} (F : (T → Option α) → T → Option α) : Nat → T → Option α
  | 0, _ => none
  | n + 1, x => F (fixN F n) x
open Classical in
noncomputable def fixW {T α : Type} (F : (T → Option α) → T → Option α) (x : T) : Option α := if h : ∃ n, (fixN F n x).isSome = true then fixN F (Classical.choose h) x else none

theorem cond_some {α : Type} (c : Bool) (a b : α) : (bif c then some a else some b) = some (bif c then a else b) := by cases c <;> rfl
/-! contracts -/
structure Con where
  ps : List Ty
  one : Bool
  res : List Ty
  ρ : Ty
  φ : DL ps → Option (D ρ)
  tot : Option (DL ps → D ρ) := none
/-- a function that puts the elements of an owned slice into another order: their type, what it compares by -/
structure Srt where
  i : TypeId
  e : Ty
  g : Option FuncId
  f : List (D e) → List (D e)
/-- a function whose first argument points to a box that it may change: what the box holds, the other arguments, the results -/
structure Ioc where
  bx : Ty
  ps : List Ty
  one : Bool
  res : List Ty
  ρ : Ty
  φ : DL (bx :: ps) → Option (D (.st bx ρ))
/-- a function one of whose arguments, the number 'j', is an owned slice that it may write (its elements and the results are flat): the elements' type, the other arguments, the results -/
structure Roc where
  j : Nat
  i : TypeId
  e : Ty
  ps : List Ty
  one : Bool
  res : List Ty
  ρ : Ty
  φ : DL (.osl i e :: ps) → Option (D (.st (.osl i e) ρ))
inductive Ent where
  | con (c : Con)
  | body (fn : Func)
  | srt (s : Srt)
  | io (c : Ioc)
  | ro (c : Roc)
  | rd (c : Con)
  | ck (t : TypeId)
  | bs (t i : TypeId)
abbrev Env := List (FuncId × Ent)
def Env.find : Env → FuncId → Option Ent
  | [], _ => none
  | (i, e) :: r, f => bif Nat.beq i f then some e else Env.find r f
/-- a contract; 'true': its first argument points to cells that are only read -/
def Env.cb (env : Env) (f : FuncId) : Option (Bool × Con) := (env.find f).bind fun
  | .con c => some (false, c)
  | .rd c => some (true, c)
  | _ => none
def Env.fn (env : Env) (f : FuncId) : Option Func := (env.find f).bind fun
  | .body fn => some fn
  | _ => none
def Env.srt (env : Env) (f : FuncId) : Option Srt := (env.find f).bind fun
  | .srt s => some s
  | _ => none
def Env.ro (env : Env) (f : FuncId) : Option Roc := (env.find f).bind fun
  | .ro c => some c
  | _ => none
/-- the check of a builder (its type's number); the string of a builder -/
def Env.ck (env : Env) (f : FuncId) : Option TypeId := (env.find f).bind fun
  | .ck t => some t
  | _ => none
def Env.bs (env : Env) (f : FuncId) : Option (TypeId × TypeId) := (env.find f).bind fun
  | .bs t i => some (t, i)
  | _ => none
/-- is it the type of builders? -/
def Env.bldT : Env → TypeId → Bool
  | [], _ => false
  | (_, .ck t') :: r, t => Nat.beq t' t || Env.bldT r t
  | _ :: r, t => Env.bldT r t
def pullAt {α : Type} : Nat → List α → Option (α × List α)
  | _, [] => none
  | 0, x :: r => some (x, r)
  | n + 1, x :: r => (pullAt n r).bind fun q => some (q.1, x :: q.2)
def putAt {α : Type} : Nat → α → List α → List α
  | 0, x, l => x :: l
  | _ + 1, x, [] => [x]
  | n + 1, x, y :: r => y :: putAt n x r
def Env.io (env : Env) (f : FuncId) : Option Ioc := (env.find f).bind fun
  | .io c => some c
  | _ => none
def argsD (objs : List OB) : (ps : List Ty) → List PV → Option (DL ps)
  | [], [] => some ()
  | τ :: r, v :: vs => (cellsPV v).bind fun cs => chk (beqB τ.isAgg (isAggPV v)) ((toD objs τ cs).bind fun x => (argsD objs r vs).bind fun y => some (x, y))
  | _, _ => none
/-- the cells that a pointer points to -/
def cellsAt (objs : List OB) : PV → Option (List Cv)
  | .rp l => some l
  | .c (.ptr p off) => chk (Nat.beq off 0) ((objs[p]?).bind fun
    | .box cs => some cs
    | _ => none)
  | _ => none
/-- arguments; 'true': the first is a pointer to what is meant -/
def argsB (objs : List OB) : Bool → (ps : List Ty) → List PV → Option (DL ps)
  | false, ps, vs => argsD objs ps vs
  | true, τ :: r, v :: vs => (cellsAt objs v).bind fun cs => (toD objs τ cs).bind fun x => (argsD objs r vs).bind fun y => some (x, y)
  | true, _, _ => none
def argIds : List Ty → List PV → List Nat
  | τ :: r, v :: vs => ((cellsPV v).elim [] (idsD [] τ)) ++ argIds r vs
  | _, _ => []
/-- a tuple of results out of the cells of all of them -/
def tupOf : List Ty → List Cv → List PW
  | [], _ => []
  | τ :: r, cs => pwCells τ.isAgg (cs.take τ.size) :: tupOf r (cs.drop τ.size)
def stOf : List Ty → Ty
  | [] => .nil
  | τ :: r => .st τ (stOf r)
def resPV (c : Con) (x : D c.ρ) (n : Nat) : PV × List OB :=
  (bif c.one then pvCells c.ρ.isAgg (cc c.ρ x n).1 else .tup (tupOf c.res (cc c.ρ x n).1), (cc c.ρ x n).2)

/-! ### operations that leave the world alone -/
def litB (σ : AState) (x : Nat × Bool) : Bool := match get σ.slots x.1 with
  | some (_, .c (.v (.bool b))) => bif x.2 then b else !b
  | _ => false
def tagB (σ : AState) : Tag → Bool
  | [] => true
  | [x] => litB σ x
  | x :: r => litB σ x && tagB σ r
/-- the tag of an operation; is it known to be left out; the slot that guards it -/
def tagOf (ops : Array Oper) (σ : AState) (o : Oper) : Option (Tag × Bool × Nat) := match o.guard with
  | none => some ([], false, 0)
  | some (j, want) => (ops[j]?).bind fun oj => oj.dst.bind fun d => (get σ.slots d).bind fun e =>
    bif falsT σ.known ((d, want) :: e.1) then some ((d, want) :: e.1, true, Nat.shiftLeft 1 d) else
    (asBool e.2).bind fun _ => some (simpT σ.known ((d, want) :: e.1), false, Nat.shiftLeft 1 d)

def aggIs (P : Program) (t : TypeId) : Bool := match aggOf P t with
  | some b => b
  | none => false
def flatIs (P : Program) (t : TypeId) : Bool := match aggOf P t with
  | some b => !b
  | none => false
def eqAgg (P : Program) (t : TypeId) (xs ys : Array Value) : Option Bool := chk (!P.eqGuardType P.depth t && aggIs P t) (eqT P 40 t xs.toList ys.toList)
def scalar (P : Program) (ρ : Operand → Value) (o : Oper) : Option Value := match o.op with
  | .binOp .eql t x y _ => match ρ x, ρ y with
    | .agg xs, .agg ys => (eqAgg P t xs ys).bind fun b => some (.bool b)
    | _, _ => pureOf P (execOp ρ o)
  | .binOp .neq t x y _ => match ρ x, ρ y with
    | .agg xs, .agg ys => (eqAgg P t xs ys).bind fun b => some (.bool (!b))
    | _, _ => pureOf P (execOp ρ o)
  | _ => pureOf P (execOp ρ o)

def mergeC (b : Bool) : Cv → Cv → Option Cv
  | .v (.int k x), .v (.int k' y) => chk (sameKind k k') (some (.v (.int k (bif b then x else y))))
  | .v (.bool x), .v (.bool y) => some (.v (.bool (bif b then x else y)))
  | .v (.string x), .v (.string y) => some (.v (.string (bif b then x else y)))
  | .sl e xs, .sl e' ys => (castL e e' ys).bind fun ys' => some (.sl e (bif b then xs else ys'))
  | _, _ => none
def mergeL (b : Bool) : List Cv → List Cv → Option (List Cv)
  | [], [] => some []
  | x :: l, y :: r => (mergeC b x y).bind fun z => (mergeL b l r).bind fun q => some (z :: q)
  | _, _ => none
def mergeV (b : Bool) : PV → PV → Option PV
  | .c x, .c y => (mergeC b x y).bind fun z => some (.c z)
  | .agg l, .agg r => (mergeL b l r).bind fun z => some (.agg z)
  | _, _ => none

def partPV (P : Program) (t : TypeId) (cs : List Cv) (off : Nat) : Option PV := (aggOf P t).bind fun ag => (P.info? t).bind fun i =>
  bif ag then chk (Nat.ble (off + i.size) cs.length) (some (.agg ((cs.drop off).take i.size))) else ((cs.drop off).head?).bind fun c => some (.c c)
def pvPW : PW → PV
  | .c x => .c x
  | .agg l => .agg l
def fieldOf (P : Program) (t : TypeId) (f : Nat) : Option Field := (P.underlying t).bind fun
  | .struct fs => fs[f]?
  | _ => none
def sized (P : Program) (t : TypeId) : Bool := match P.info? t with
  | some i => !Nat.beq i.size 0
  | none => false
def intsOf (k : IntKind) : List Cv → Option (List Int)
  | [] => some []
  | .v (.int k' n) :: r => chk (sameKind k k') ((intsOf k r).bind fun ns => some (n :: ns))
  | _ => none
def boolsOf : List Cv → Option (List Bool)
  | [] => some []
  | .v (.bool b) :: r => (boolsOf r).bind fun ns => some (b :: ns)
  | _ => none
def strsOf : List Cv → Option (List ByteArray)
  | [] => some []
  | .v (.string b) :: r => (strsOf r).bind fun ns => some (b :: ns)
  | _ => none
def slsOf (e : Ty) : List Cv → Option (List (List (D e)))
  | [] => some []
  | .sl e' xs :: r => (castL e e' xs).bind fun x => (slsOf e r).bind fun ns => some (x :: ns)
  | _ => none
/-- one of several cells of a kind, by an index that has been checked -/
def selC (l : List Cv) (i : Nat) : Option Cv := match l with
  | .v (.int k _) :: _ => (intsOf k l).bind fun ns => some (.v (.int k (getD' ns i 0)))
  | .v (.bool _) :: _ => (boolsOf l).bind fun ns => some (.v (.bool (getD' ns i false)))
  | .v (.string _) :: _ => (strsOf l).bind fun ns => some (.v (.string (getD' ns i ByteArray.empty)))
  | .sl e _ :: _ => (slsOf e l).bind fun ns => some (.sl e (getD' ns i []))
  | _ => none
/-- the column of a table of cells -/
def col (cs : List Cv) (off sz inner : Nat) : Nat → List Cv
  | 0 => []
  | n + 1 => match cs.drop (off + inner) with
    | c :: _ => c :: col cs (off + sz) sz inner n
    | [] => []
/-- a row of a table of cells, column by column -/
def selW (l : List Cv) (sz len i : Nat) : Nat → Option (List Cv)
  | 0 => some []
  | m + 1 => chk (Nat.beq (col l 0 sz (sz - (m + 1)) len).length len) ((selC (col l 0 sz (sz - (m + 1)) len) i).bind fun c => (selW l sz len i m).bind fun r => some (c :: r))
/-- a cell of a column is written: at the index i -/
def setCol (i : Int) (x : Cv) (off sz inner : Nat) : Nat → Nat → List Cv → Option (List Cv)
  | 0, _, cs => some cs
  | n + 1, j, cs => match cs.drop (off + j * sz + inner) with
    | c :: _ => (mergeC (i == (j : Int)) x c).bind fun c' => setCol i x off sz inner n (j + 1) (cs.set (off + j * sz + inner) c')
    | [] => none
def capsOf : List PV → Option (List (Nat × Nat))
  | [] => some []
  | .c (.ptr o off) :: r => (capsOf r).bind fun l => some ((o, off) :: l)
  | _ => none
def ptrs : List (Nat × Nat) → List PV
  | [] => []
  | (o, off) :: r => .c (.ptr o off) :: ptrs r

/-- a type's description -/
def tyOf (P : Program) : Nat → TypeId → Option Ty
  | 0, _ => none
  | n + 1, t => match P.underlying t with
    | some (.int k) => some (.int k)
    | some .bool => some .bool
    | some .string => some .str
    | some (.slice e) => (tyOf P n e).bind fun τ => some (.sl τ)
    | some (.struct fs) => fs.toList.foldr (fun f r => (tyOf P n f.type).bind fun a => r.bind fun b => some (.st a b)) (some .nil)
    | some (.array m e) => (tyOf P n e).bind fun τ => some (List.foldr (fun _ r => .st τ r) .nil (List.range m))
    | _ => none
/-- the zero of an element type, as data -/
def zeroOf (P : Program) (t : TypeId) (τ : Ty) : Option (D τ) := (P.info? t).bind fun i => i.zero.bind fun z =>
  chk (Nat.beq i.size τ.size && (Nat.beq z.cells.size τ.size && !Nat.beq i.size 0)) (toD [] τ (cvs z.cells.toList))
def elemOf (P : Program) (t : TypeId) : Option TypeId := (P.underlying t).bind fun
  | .slice e => some e
  | _ => none
def cellsIs (P : Program) (t : TypeId) (n : Nat) : Bool := match P.info? t with
  | some i => Nat.beq i.size n
  | none => false

def shK (o : BinOp) (k : IntKind) (a b : Int) : Int := match o with
  | .shl => k.wrap (a * 2 ^ (min b.toNat k.bits))
  | _ => a.fdiv (2 ^ (min b.toNat k.bits))
def strRoom (a b : ByteArray) : Bool := Nat.ble (a.size + b.size) 9223372036854775807
def strAt (s : ByteArray) (i : Int) : Option UInt8 := bif decide (0 ≤ i) then s[i.toNat]? else none
/-- the bounds of a slice expression, at a length -/
def boundsI (l h : Int) (n : Nat) : Bool := decide (0 ≤ l) && (decide (l ≤ h) && decide (h ≤ (n : Int)))
def optI [CT : Ctx] (σ : AState) (tg : Tag) (d : Int) : Option Operand → Option Int
  | none => some d
  | some x => (ev σ tg x).bind fun v => (asInt v).bind fun q => some q.2
def isConst0 : Option Operand → Bool
  | some (.const (.int _ 0)) => true
  | _ => false

variable [CT : Ctx]
section
variable {α : Type} (P : Program) (env : Env)

def idxSl (G : Bool) (e : TypeId) (n : Int) (k : PV → Option α) (σ : AState) : Cv → Option α
  | .sl τ xs => chk (cellsIs P e τ.size) (Option.bind (gat G (dflt τ) xs n) fun d => k (.rp (cellsOf τ d)))
  | .os o => (σ.objs[o]?).bind fun
    | .arr _ τ xs _ => chk (cellsIs P e τ.size) (req (imp G (inb n xs.length)) (k (.ep o τ.size n.toNat 0)))
    | _ => none
  | _ => none
/-- into a slice, or into a view of an owned one -/
def idxW (G : Bool) (e : TypeId) (n : Int) (k : PV → Option α) (σ : AState) : PV → Option α
  | .c c => idxSl P G e n k σ c
  | .vw o sz lo m => (σ.objs[o]?).bind fun
    | .arr _ τ _ _ => chk (cellsIs P e sz && Nat.beq sz τ.size) (req (imp G (inb n m)) (k (.ep o sz (lo + n.toNat) 0)))
    | _ => none
  | _ => none
def fieldA (off : Nat) : PV → Option PV
  | .c (.ptr p q) => some (.c (.ptr p (q + off)))
  | .rp l => some (.rp (l.drop off))
  | .ep p sz i q => some (.ep p sz i (q + off))
  | .pa p q sz cnt inner i => some (.pa p q sz cnt (inner + off) i)
  | _ => none
/-- cells that can't be put together: slices that are owned, or nil -/
def ownC : Cv → Bool
  | .os _ => true
  | .e0 => true
  | .v (.slice _ _ _) => true
  | _ => false
def apartAt (σ : AState) (o off n : Nat) : Bool := match σ.objs[o]? with
  | some (.box cs) => ((cs.drop off).take n).any ownC
  | _ => false
/-- one place after the other -/
def splitK (n : Int) (k : Nat → Option α) : Nat → Nat → Option α
  | 0, j => k j
  | m + 1, j => bif n == (j : Int) then k j else splitK n k m (j + 1)
def idxV (σ : AState) (G : Bool) (len sz : Nat) (n : Int) (k : PV → Option α) : PV → Option α
  | .c (.ptr o off) => bif apartAt σ o off (len * sz) then chk (!Nat.beq len 0) (req (imp G (inb n len)) (splitK n (fun j => k (.c (.ptr o (off + j * sz)))) (len - 1) 0)) else req (imp G (inb n len)) (k (.pa o off sz len 0 n))
  | .rp l => chk (Nat.beq sz 1 && Nat.beq len l.length) (req (imp G (inb n len)) ((selC l n.toNat).bind fun c => k (.rp [c])))
  | _ => none
def constIdx : Operand → Option Int
  | .const (.int _ m) => some m
  | _ => none
def idxAddr (σ : AState) (G : Bool) (t : TypeId) (x : PV) (ci : Option Int) (n : Int) (k : PV → Option α) : Option α := match P.underlying t with
  | some (.slice e) => idxW P G e n k σ x
  | some (.array len e) => (P.info? e).bind fun i => chk (!Nat.beq i.size 0) (match ci with
    | some m => chk (inb m len) ((fieldA (m.toNat * i.size) x).bind k)
    | none => idxV σ G len i.size n k x)
  | _ => none

def loadPV (σ : AState) (t : TypeId) : PV → Option PV
  | .c (.ptr o off) => (σ.objs[o]?).bind fun
    | .box cs => partPV P t cs off
    | .bld _ c => chk (Nat.beq off 1) (partPV P t [c] 0)
    | _ => none
  | .rp l => partPV P t l 0
  | .ep o sz i off => (σ.objs[o]?).bind fun
    | .arr _ e xs _ => chk (Nat.beq sz e.size) (partPV P t (cellsOf e (getD' xs i (dflt e))) off)
    | _ => none
  | .pa o off sz cnt inner i => (σ.objs[o]?).bind fun
    | .box cs => (aggOf P t).bind fun ag => chk (!ag && Nat.beq (col cs off sz inner cnt).length cnt) ((selC (col cs off sz inner cnt) i.toNat).bind fun c => some (.c c))
    | _ => none
  | _ => none

/-- the cells of a build -/
def fillC (place : Nat → Option (Nat × Nat)) : List Cv → List (Nat × List Cv) → Option (List Cv)
  | cs, [] => some cs
  | cs, (i, l) :: r => (place i).bind fun q => chk (Nat.beq l.length q.2 && Nat.ble (q.1 + l.length) cs.length) (fillC place (cs.take q.1 ++ l ++ cs.drop (q.1 + l.length)) r)
def partsOf (σ : AState) (tg : Tag) : List (Nat × Operand) → Option (List (Nat × List Cv))
  | [] => some []
  | (i, x) :: r => (ev σ tg x).bind fun v => (cellsPV v).bind fun l => (partsOf σ tg r).bind fun q => some ((i, l) :: q)
def placeOf (P : Program) (t : TypeId) (i : Nat) : Option (Nat × Nat) := match P.underlying t with
  | some (.struct fs) => (fs[i]?).bind fun f => (P.info? f.type).bind fun inf => some (f.offset, inf.size)
  | some (.array _ e) => (P.info? e).bind fun inf => some (i * inf.size, inf.size)
  | _ => none
def placesOk (P : Program) (t : TypeId) : Bool := match P.underlying t with
  | some (.struct fs) => fs.toList.all fun f => (P.info? f.type).isSome
  | some (.array _ e) => (P.info? e).isSome
  | _ => false
def zeroCs (P : Program) (t : TypeId) : Option (List Cv) := (P.info? t).bind fun i => i.zero.bind fun z => some (cvs z.cells.toList)

open Classical in
noncomputable def agree (a b : Option α) : Option α := if a = b then a else none
/-- is the slice empty? -/
def emptyOf (σ : AState) : PV → Option Bool
  | .c (.sl _ xs) => some xs.isEmpty
  | .c (.os o) => (σ.objs[o]?).bind fun
    | .arr _ _ xs _ => some xs.isEmpty
    | _ => none
  | .c .e0 => some true
  | _ => none
def isNilC : Operand → Bool
  | .const (.slice none 0 0) => true
  | _ => false
def isNilP : Operand → Bool
  | .const (.pointer none) => true
  | _ => false
def isPtr : Option PV → Bool
  | some (.c (.ptr _ _)) => true
  | _ => false
def ptrTy (P : Program) (t : TypeId) : Bool := match P.underlying t with
  | some (.pointer _) => true
  | _ => false
def scalarS (σ : AState) (tg : Tag) (o : Oper) (l : List Operand) (k : PV → Option α) : Option α :=
  chk (allPlain σ tg l) ((scalar P (rho σ tg) o).bind fun v => k (constPV v))
def isNilI : Operand → Bool
  | .const .nilIface => true
  | _ => false
def ifaceTy (P : Program) (t : TypeId) : Bool := match P.underlying t with
  | some (.interface _) => true
  | _ => false
def asErr : PV → Option Bool
  | .c (.er b) => some b
  | _ => none
/-- a slice against nil: an empty one may be nil or not -/
noncomputable def nilS (σ : AState) (tg : Tag) (o : Oper) (t : TypeId) (neg : Bool) (x y : Operand) (k : PV → Option α) : Option α := bif isNilP y && (isPtr (ev σ tg x) && ptrTy P t) then k (.c (.v (.bool neg))) else match bif isNilC y then (ev σ tg x).bind (emptyOf σ) else none with
  | some em => (elemOf P t).bind fun _ => bif em then agree (k (.c (.v (.bool (!neg))))) (k (.c (.v (.bool neg)))) else k (.c (.v (.bool neg)))
  | none => match bif isNilI y then (ev σ tg x).bind asErr else none with
    | some b => chk (ifaceTy P t) (k (.c (.v (.bool (bif neg then b else !b)))))
    | none => scalarS P σ tg o [x, y] k
noncomputable def binS (σ : AState) (tg : Tag) (o : Oper) (op : BinOp) (t : TypeId) (x y : Operand) (k : PV → Option α) : Option α := match op with
  | .eql => nilS P σ tg o t false x y k
  | .neq => nilS P σ tg o t true x y k
  | .quo => (ev σ tg x).bind fun u => (ev σ tg y).bind fun v => (asInt u).bind fun a => (asInt v).bind fun b => chk (sameKind a.1 b.1) (req (imp (tagB σ tg) (b.2 != 0)) (k (.c (.v (.int a.1 (a.1.wrap (a.2.tdiv b.2)))))))
  | .rem => (ev σ tg x).bind fun u => (ev σ tg y).bind fun v => (asInt u).bind fun a => (asInt v).bind fun b => chk (sameKind a.1 b.1) (req (imp (tagB σ tg) (b.2 != 0)) (k (.c (.v (.int a.1 (a.2.tmod b.2))))))
  | .shl => (ev σ tg x).bind fun u => (ev σ tg y).bind fun v => (asInt u).bind fun a => (asInt v).bind fun b => req (imp (tagB σ tg) (decide (0 ≤ b.2))) (k (.c (.v (.int a.1 (shK .shl a.1 a.2 b.2)))))
  | .shr => (ev σ tg x).bind fun u => (ev σ tg y).bind fun v => (asInt u).bind fun a => (asInt v).bind fun b => req (imp (tagB σ tg) (decide (0 ≤ b.2))) (k (.c (.v (.int a.1 (shK .shr a.1 a.2 b.2)))))
  | .add => match (ev σ tg x).bind asStr, (ev σ tg y).bind asStr with
    | some a, some b => req (imp (tagB σ tg) (strRoom a b)) (k (.c (.v (.string (a ++ b)))))
    | _, _ => scalarS P σ tg o [x, y] k
  | _ => scalarS P σ tg o [x, y] k
def isConstB (b : Bool) : Operand → Bool
  | .const (.bool c) => beqB b c
  | _ => false
def pickS (σ : AState) (tg : Tag) (c x y : Operand) (k : PV → Option α) : Option α := match c with
  | .tmp t => (ev σ tg c).bind fun q => (asBool q).bind fun b => bif memT (t, true) σ.known then (ev σ ((t, true) :: tg) x).bind k else bif memT (t, false) σ.known then (ev σ ((t, false) :: tg) y).bind k else
    (ev σ ((t, true) :: tg) x).bind fun v => (ev σ ((t, false) :: tg) y).bind fun u =>
    bif isConstB false y then (asBool v).bind fun p => k (.c (.v (.bool (b && p))))
    else bif isConstB true x then (asBool u).bind fun p => k (.c (.v (.bool (b || p))))
    else (mergeV b v u).bind k
  | _ => none
def sliceS (σ : AState) (tg : Tag) (t : TypeId) (x : Operand) (lo hi mx : Option Operand) (k : PV → Option α) : Option α := (ev σ tg x).bind fun v => match v with
  | .c (.v (.string s)) => chk (mx.isNone && (match P.underlying t with | some .string => true | _ => false)) ((optI σ tg 0 lo).bind fun l => (optI σ tg (s.size : Int) hi).bind fun h =>
      req (imp (tagB σ tg) (boundsI l h s.size)) (k (.c (.v (.string (s.extract l.toNat h.toNat))))))
  | .c (.sl e xs) => (elemOf P t).bind fun i => chk (cellsIs P i e.size) (bif mx.isNone then (optI σ tg 0 lo).bind fun l => (optI σ tg (xs.length : Int) hi).bind fun h =>
      req (imp (tagB σ tg) (boundsI l h xs.length)) (k (.c (.sl e ((xs.take h.toNat).drop l.toNat)))) else chk (lo.isNone && (isConst0 hi && isConst0 mx)) (k (.c .e0)))
  | .c (.os ob) => (elemOf P t).bind fun i => (σ.objs[ob]?).bind fun
    | .arr _ e _ _ => chk (cellsIs P i e.size && (lo.isNone && (isConst0 hi && isConst0 mx))) (k (.c .e0))
    | _ => none
  | .c (.v (.slice none 0 0)) => (elemOf P t).bind fun i => bif mx.isNone then chk (sized P i && lo.isNone) ((optI σ tg 0 hi).bind fun h => req (imp (tagB σ tg) (h == 0)) (k (.c (.v (.slice none 0 0))))) else chk (sized P i && (lo.isNone && (isConst0 hi && isConst0 mx))) (k (.c .e0))
  | _ => none
/-- bytes as a string -/
def strOf (ns : List Int) : ByteArray := ns.foldl (fun r n => r.push (UInt8.ofNat n.toNat)) ByteArray.empty
def u8s : (e : Ty) → List (D e) → Option (List Int)
  | .int .u8, xs => some xs
  | _, _ => none
def bytesTy (t : TypeId) : Bool := match P.underlying t with
  | some (.slice e) => (match P.underlying e with | some (.int .u8) => true | _ => false)
  | _ => false
def strTy (t : TypeId) : Bool := match P.underlying t with
  | some .string => true
  | _ => false
def convS (σ : AState) (tg : Tag) (o : Oper) (src dst : TypeId) (x : Operand) (k : PV → Option α) : Option α := (ev σ tg x).bind fun v => match v with
  | .c (.sl e xs) => chk (bytesTy P src && strTy P dst) ((u8s e xs).bind fun ns => k (.c (.v (.string (strOf ns)))))
  | .c (.os p) => chk (bytesTy P src && strTy P dst) ((σ.objs[p]?).bind fun
    | .arr _ e xs _ => (u8s e xs).bind fun ns => k (.c (.v (.string (strOf ns))))
    | _ => none)
  | _ => scalarS P σ tg o [x] k
def lenS (σ : AState) (tg : Tag) (o : Oper) (x : Operand) (t : TypeId) (k : PV → Option α) : Option α := (ev σ tg x).bind fun v => match v with
  | .c (.sl _ xs) => (elemOf P t).bind fun _ => k (.c (.v (.int .i64 (xs.length : Int))))
  | .c (.os p) => (elemOf P t).bind fun _ => (σ.objs[p]?).bind fun
    | .arr _ _ xs _ => k (.c (.v (.int .i64 (xs.length : Int))))
    | _ => none
  | .c .e0 => (elemOf P t).bind fun _ => k (.c (.v (.int .i64 0)))
  | .vw _ _ _ n => (elemOf P t).bind fun _ => k (.c (.v (.int .i64 (n : Int))))
  | _ => scalarS P σ tg o [x] k
def idxS (σ : AState) (tg : Tag) (t : TypeId) (x i : Operand) (k : PV → Option α) : Option α := (ev σ tg x).bind fun v => (ev σ tg i).bind fun w => (asInt w).bind fun q => match v with
  | .agg l => match P.underlying t with
    | some (.array len e) => bif aggIs P e then (P.info? e).bind fun inf => chk (Nat.beq (len * inf.size) l.length) (req (imp (tagB σ tg) (inb q.2 len)) ((selW l inf.size len q.2.toNat inf.size).bind fun cs => k (.agg cs)))
      else chk (cellsIs P e 1 && (Nat.beq len l.length && flatIs P e)) (req (imp (tagB σ tg) (inb q.2 len)) ((selC l q.2.toNat).bind fun c => k (.c c)))
    | _ => none
  | .c (.v (.string s)) => match P.underlying t with
    | some .string => Option.bind (gopt (tagB σ tg) 0 (strAt s q.2)) fun b => k (.c (.v (.int .u8 (b.toNat : Int))))
    | _ => none
  | _ => none
def nonNil : PV → Bool
  | .c (.ptr _ _) => true
  | .rp _ => true
  | .ep _ _ _ _ => true
  | .pa _ _ _ _ _ _ => true
  | .c (.fn _ _) => true
  | _ => false

noncomputable def stepS (σ : AState) (tg : Tag) (o : Oper) (k : PV → Option α) : Option α := match o.op with
  | .move x => (ev σ tg x).bind k
  | .assign x => (ev σ tg x).bind k
  | .nilCheck x => (ev σ tg x).bind fun v => chk (nonNil v) (k v)
  | .pick c x y => pickS σ tg c x y k
  | .extract x i => (ev σ tg x).bind fun v => (asTup v).bind fun l => (l[i]?).bind fun p => k (pvPW p)
  | .binOp op t x y _ => binS P σ tg o op t x y k
  | .unOp _ _ x => scalarS P σ tg o [x] k
  | .convert s d x => convS P σ tg o s d x k
  | .field t x f => (ev σ tg x).bind fun v => (asAgg v).bind fun l => (fieldOf P t f).bind fun fd => (partPV P fd.type l fd.offset).bind k
  | .index t x i => idxS P σ tg t x i k
  | .build t parts => (zeroCs P t).bind fun z => (partsOf σ tg parts.toList).bind fun ps => chk (placesOk P t) ((fillC (placeOf P t) z ps).bind fun l => k (.agg l))
  | .fieldAddr t x f => (ev σ tg x).bind fun v => (fieldOf P t f).bind fun fd => chk (sized P fd.type) ((fieldA fd.offset v).bind k)
  | .indexAddr t x i => (ev σ tg x).bind fun v => (ev σ tg i).bind fun w => (asInt w).bind fun q => idxAddr P σ (tagB σ tg) t v (constIdx i) q.2 k
  | .load t x => (ev σ tg x).bind fun v => (loadPV P σ t v).bind k
  | .slice t x lo hi mx => sliceS P σ tg t x lo hi mx k
  | .makeFunc (.func f) first captured => chk first.isEmpty ((evs σ tg captured.toList).bind fun vs => (capsOf vs).bind fun caps => k (.c (.fn f caps)))
  | .call ⟨.builtin .len, args, ats⟩ => match args.toList, ats.toList with
    | [x], [t] => lenS P σ tg o x t k
    | _, _ => none
  | .call ⟨.builtin .cap, args, _⟩ => scalarS P σ tg o args.toList k
  | .call ⟨.builtin .min, args, _⟩ => scalarS P σ tg o args.toList k
  | .call ⟨.builtin .max, args, _⟩ => scalarS P σ tg o args.toList k
  | .call ⟨.value f, args, _⟩ => (ev σ tg f).bind fun q => (asFn q).bind fun g => chk g.2.isEmpty ((env.cb g.1).bind fun q => chk (q.2.ρ.flat && bodied P g.1) ((evs σ tg args.toList).bind fun vs =>
      (argsB σ.objs q.1 q.2.ps vs).bind fun x => match q.2.tot with
      | some g => k (resPV q.2 (g x) 0).1
      | none => Option.bind (gopt (tagB σ tg) (dflt q.2.ρ) (q.2.φ x)) fun r => k (resPV q.2 r 0).1))
  | _ => none

/-! ### operations that make or write memory -/
def storeAt (objs : List OB) (prO : Nat) (l : List Cv) : PV → Option (List OB)
  | .c (.ptr o off) => (objs[o]?).bind fun
    | .box cs => chk (!bitB prO o && Nat.ble (off + l.length) cs.length) (some (objs.set o (.box (cs.take off ++ l ++ cs.drop (off + l.length)))))
    | .bld t _ => match l with
      | [x] => chk (!bitB prO o && Nat.beq off 1) (some (objs.set o (.bld t x)))
      | _ => none
    | _ => none
  | .ep o sz i off => (objs[o]?).bind fun
    | .arr ti e xs false => chk (!bitB prO o && (Nat.beq sz e.size && (Nat.ble (off + l.length) e.size && e.pure)))
      ((toD objs e ((cellsOf e (getD' xs i (dflt e))).take off ++ l ++ (cellsOf e (getD' xs i (dflt e))).drop (off + l.length))).bind fun d =>
        (freezeL prO objs (idsD [] e ((cellsOf e (getD' xs i (dflt e))).take off ++ l ++ (cellsOf e (getD' xs i (dflt e))).drop (off + l.length)))).bind fun objs' => (objs'[o]?).bind fun
          | .arr _ _ _ false => some (objs'.set o (.arr ti e (xs.set i d) false))
          | _ => none)
    | _ => none
  | .pa o off sz cnt inner i => (objs[o]?).bind fun
    | .box cs => match l with
      | [x] => chk (!bitB prO o) ((setCol i x off sz inner cnt 0 cs).bind fun cs' => some (objs.set o (.box cs')))
      | _ => none
    | _ => none
  | _ => none

/-- elements of a literal -/
def litE (objs : List OB) (τ : Ty) : List (D τ) → List (Nat × List Cv) → Option (List (D τ))
  | xs, [] => some xs
  | xs, (i, l) :: r => (toD objs τ l).bind fun d => chk (Nat.blt i xs.length) (litE objs τ (xs.set i d) r)
def litIds (τ : Ty) : List (Nat × List Cv) → List Nat
  | [] => []
  | (_, l) :: r => idsD [] τ l ++ litIds τ r
def AState.new (σ : AState) (d : Option Nat) (o : OB) (v : PV) : Option AState := AState.putO { σ with objs := σ.objs ++ [o] } d [] v

/-- what an owned slice that is appended to holds, and the objects behind it -/
def baseOf (objs : List OB) (prO : Nat) (i : TypeId) (τ : Ty) : Cv → Option (List (D τ) × List OB)
  | .os o => (objs[o]?).bind fun
    | .arr i' τ' xs false => chk (Nat.beq i i' && !bitB prO o) ((castL τ τ' xs).bind fun ys => some (ys, objs.set o .dead))
    | _ => none
  | .v (.slice none 0 0) => some ([], objs)
  | .e0 => some ([], objs)
  | _ => none
/-- the source of an append is not the row itself -/
def srcOk (objs : List OB) : Cv → Bool
  | .os p => match objs[p]? with
    | some (.arr _ _ _ _) => true
    | _ => false
  | _ => true
def appendO (σ : AState) (o : Oper) (s x : Operand) (t : TypeId) (k : AState → Option α) : Option α := (elemOf P t).bind fun i => (tyOf P 20 i).bind fun τ => (zeroOf P i τ).bind fun _ =>
  (ev σ [] s).bind fun b => (asC b).bind fun bc => (ev σ [] x).bind fun u => (asC u).bind fun uc => (P.info? i).bind fun inf => (baseOf σ.objs σ.prO i τ bc).bind fun q => (ofSl τ σ.objs uc).bind fun ys => chk (srcOk q.2 uc && (!Nat.beq inf.bytes 0 && τ.pure))
    (req (room (q.1.length + ys.length) inf.bytes) ((AState.new { σ with objs := q.2 } o.dst (.arr i τ (q.1 ++ ys) false) (.c (.os q.2.length))).bind k))
/-- a view of an owned slice is appended to its own beginning: the slice is consumed -/
def appendV (σ : AState) (o : Oper) (p lo1 n1 : Nat) (x : Operand) (t : TypeId) (k : AState → Option α) : Option α := (elemOf P t).bind fun i => (P.info? i).bind fun inf => (ev σ [] x).bind fun u => match u with
  | .vw p2 sz2 lo2 n2 => (σ.objs[p]?).bind fun
    | .arr i' τ xs false => chk (Nat.beq p p2 && (Nat.beq lo1 0 && (Nat.beq i i' && (Nat.beq sz2 τ.size && (!bitB σ.prO p && (!Nat.beq inf.bytes 0 && τ.pure)))))) ((zeroOf P i τ).bind fun _ => req (room (n1 + n2) inf.bytes)
        ((AState.new { σ with objs := σ.objs.set p .dead } o.dst (.arr i τ (xs.take n1 ++ (xs.drop lo2).take n2) false) (.c (.os σ.objs.length))).bind k))
    | _ => none
  | _ => none
def appendE (σ : AState) (o : Oper) (s x : Operand) (t : TypeId) (k : AState → Option α) : Option α := match ev σ [] s with
  | some (.vw p _ lo1 n1) => appendV P σ o p lo1 n1 x t k
  | _ => appendO P σ o s x t k
/-- the bytes of a string -/
def bytesOf (s : ByteArray) : List Int := s.data.toList.map fun c => (c.toNat : Int)
/-- append of a string to bytes -/
def appendT (σ : AState) (o : Oper) (s x : Operand) (t : TypeId) (k : AState → Option α) : Option α := (elemOf P t).bind fun i => (zeroOf P i (.int .u8)).bind fun _ => (P.info? i).bind fun inf =>
  (ev σ [] s).bind fun b => (asC b).bind fun bc => (ev σ [] x).bind fun u => (asStr u).bind fun ys => (baseOf σ.objs σ.prO i (.int .u8) bc).bind fun q => chk (bytesTy P t && Nat.beq inf.bytes 1)
    (req (room (q.1.length + ys.size) 1) ((AState.new { σ with objs := q.2 } o.dst (.arr i (.int .u8) (List.append (α := Int) q.1 (bytesOf ys)) false) (.c (.os q.2.length))).bind k))
/-- append of made zeros to nil -/
def isIntT (P : Program) (t : TypeId) : Bool := match P.underlying t with
  | some (.int _) => true
  | _ => false
def appendZ (σ : AState) (o : Oper) (s x : Operand) (t t' : TypeId) (k : AState → Option α) : Option α := (elemOf P t).bind fun i => (tyOf P 20 i).bind fun τ => (zeroOf P i τ).bind fun z =>
  (ev σ [] s).bind fun b => (ev σ [] x).bind fun u => (asInt u).bind fun q => (P.info? i).bind fun inf => chk ((match b with | .c (.v (.slice none 0 0)) => true | _ => false) && (isIntT P t' && (sameKind q.1 .i64 && (!Nat.beq inf.bytes 0 && τ.pure))))
    (req (decide (0 < q.2) && room q.2.toNat inf.bytes) ((AState.new σ o.dst (.arr i τ (List.replicate q.2.toNat z) false) (.c (.os σ.objs.length))).bind k))
def callE (σ : AState) (o : Oper) (f : Operand) (args : Array Operand) (k : AState → Option α) : Option α := (ev σ [] f).bind fun q => (asFn q).bind fun g => chk g.2.isEmpty ((env.cb g.1).bind fun q => chk (bodied P g.1 && (!q.1 || q.2.ρ.fresh)) ((evs σ [] args.toList).bind fun vs =>
  (argsB σ.objs q.1 q.2.ps vs).bind fun x => (bif q.2.ρ.fresh then some σ.objs else freezeL σ.prO σ.objs (argIds q.2.ps vs)).bind fun objs' => Option.bind (q.2.φ x) fun r =>
    (AState.putO { σ with objs := objs' ++ (resPV q.2 r objs'.length).2 } o.dst [] (resPV q.2 r objs'.length).1).bind k))
def srtArgs (σ : AState) (g : Option FuncId) : List Operand → Bool
  | [] => g.isNone
  | [y] => match (ev σ [] y).bind asFn, g with
    | some (h, []), some g => Nat.beq h g
    | _, _ => false
  | _ => false
/-- an owned slice is sorted -/
def sortE (σ : AState) (o : Oper) (s : Srt) (args : List Operand) (k : AState → Option α) : Option α := match args with
  | x :: r => (ev σ [] x).bind fun v => (asC v).bind fun
    | .os p => (σ.objs[p]?).bind fun
      | .arr i e xs false => chk (!bitB σ.prO p && (Nat.beq i s.i && srtArgs σ s.g r)) ((castL s.e e xs).bind fun ys => req (Nat.blt ys.length 4611686018427387904)
          ((AState.putO { σ with objs := σ.objs.set p (.arr s.i s.e (s.f ys) false) } o.dst [] (.tup [])).bind k))
      | _ => none
    | _ => none
  | _ => none
def killL : List OB → List Nat → List OB
  | objs, [] => objs
  | objs, o :: r => killL (objs.set o .dead) r
def resIO (c : Ioc) (cs : List Cv) : PV := bif c.one then pvCells c.ρ.isAgg cs else .tup (tupOf c.res cs)
/-- a box is handed to a function that may change it -/
def ioE (σ : AState) (o : Oper) (c : Ioc) (args : List Operand) (k : AState → Option α) : Option α := match args with
  | x :: r => (ev σ [] x).bind fun v => (asC v).bind fun
    | .ptr p off => (evs σ [] r).bind fun vs => (σ.objs[p]?).bind fun
      | .box cs => (freezeL σ.prO σ.objs (idsD σ.objs c.bx cs ++ argIds c.ps vs)).bind fun objs1 => (toD objs1 c.bx cs).bind fun y => (argsD σ.objs c.ps vs).bind fun z =>
        chk (Nat.beq off 0 && (!bitB σ.prO p && (nodupN (idsO objs1 c.bx cs) && (idsO objs1 c.bx cs).all fun q => !bitB σ.prO q && !Nat.beq q p))) (Option.bind (c.φ (y, z)) fun w =>
          (AState.putO { σ with objs := (killL objs1 (idsO objs1 c.bx cs)).set p (.box ((cc (.st c.bx c.ρ) w objs1.length).1.take c.bx.size)) ++ (cc (.st c.bx c.ρ) w objs1.length).2 } o.dst [] (resIO c ((cc (.st c.bx c.ρ) w objs1.length).1.drop c.bx.size))).bind k)
      | _ => none
    | _ => none
  | _ => none
def resRO (c : Roc) (cs : List Cv) : PV := bif c.one then pvCells c.ρ.isAgg cs else .tup (tupOf c.res cs)
/-- an owned slice is handed to a function that may write it -/
def roE (σ : AState) (o : Oper) (c : Roc) (args : List Operand) (k : AState → Option α) : Option α := (evs σ [] args).bind fun us => (pullAt c.j us).bind fun q => (asC q.1).bind fun
  | .os p => (freezeL σ.prO σ.objs (argIds c.ps q.2)).bind fun objs1 => (objs1[p]?).bind fun
    | .arr i e xs false => chk (!bitB σ.prO p && Nat.beq i c.i) ((castL c.e e xs).bind fun ys => (argsD σ.objs c.ps q.2).bind fun z => Option.bind (c.φ (ys, z)) fun w =>
        (AState.putO { σ with objs := objs1.set p (.arr c.i c.e w.1 false) } o.dst [] (resRO c (cc c.ρ w.2 0).1)).bind k)
    | _ => none
  | _ => none
/-- the check of a builder: it has not been moved -/
def ckE (σ : AState) (o : Oper) (t : TypeId) (args : List Operand) (k : AState → Option α) : Option α := match args with
  | [x] => (ev σ [] x).bind fun v => (asC v).bind fun
    | .ptr p off => (σ.objs[p]?).bind fun
      | .bld t' _ => chk (Nat.beq off 0 && (Nat.beq t' t && !bitB σ.prO p)) ((AState.putO σ o.dst [] (.tup [])).bind k)
      | _ => none
    | _ => none
  | _ => none
/-- the string of a builder, which is not used behind it -/
def bstE (σ : AState) (o : Oper) (t i : TypeId) (args : List Operand) (k : AState → Option α) : Option α := match args with
  | [x] => (ev σ [] x).bind fun v => (asC v).bind fun
    | .ptr p off => (σ.objs[p]?).bind fun
      | .bld t' c => chk (Nat.beq off 0 && Nat.beq t' t) (match c with
        | .v (.slice none 0 0) => (AState.putO σ o.dst [] (.c (.v (.string ByteArray.empty)))).bind k
        | .os r => (σ.objs[r]?).bind fun
          | .arr i' (.int .u8) xs false => chk (!bitB σ.prO r && Nat.beq i' i) ((AState.putO { σ with objs := σ.objs.set r .dead } o.dst [] (.c (.v (.string (strOf xs))))).bind k)
          | _ => none
        | _ => none)
      | _ => none
    | _ => none
  | _ => none
def ckOf (env : Env) (σ : AState) (f : Operand) : Option (FuncId × TypeId) := (ev σ [] f).bind fun q => (asFn q).bind fun g => chk g.2.isEmpty ((env.ck g.1).bind fun s => chk (bodied P g.1) (some (g.1, s)))
def bsOf (env : Env) (σ : AState) (f : Operand) : Option (FuncId × TypeId × TypeId) := (ev σ [] f).bind fun q => (asFn q).bind fun g => chk g.2.isEmpty ((env.bs g.1).bind fun s => chk (bodied P g.1) (some (g.1, s)))
/-- a new variable; a builder, if it is one -/
def allocE (σ : AState) (o : Oper) (t : TypeId) (k : AState → Option α) : Option α := (zeroCs P t).bind fun l => bif env.bldT t then (match l with
    | [.v (.pointer none), .v (.slice none 0 0)] => (σ.new o.dst (.bld t (.v (.slice none 0 0))) (.c (.ptr σ.objs.length 0))).bind k
    | _ => none) else (σ.new o.dst (.box l) (.c (.ptr σ.objs.length 0))).bind k
def rocOf (env : Env) (σ : AState) (f : Operand) : Option (FuncId × Roc) := (ev σ [] f).bind fun q => (asFn q).bind fun g => chk g.2.isEmpty ((env.ro g.1).bind fun s => chk (bodied P g.1) (some (g.1, s)))
def iocOf (env : Env) (σ : AState) (f : Operand) : Option (FuncId × Ioc) := (ev σ [] f).bind fun q => (asFn q).bind fun g => chk g.2.isEmpty ((env.io g.1).bind fun s => chk (bodied P g.1) (some (g.1, s)))
def srtOf (env : Env) (σ : AState) (f : Operand) : Option (FuncId × Srt) := (ev σ [] f).bind fun q => (asFn q).bind fun g => chk g.2.isEmpty ((env.srt g.1).bind fun s => chk (bodied P g.1) (some (g.1, s)))
/-- a part of an owned slice: as data (then it is frozen), or, of its beginning, as an owned one (then it is consumed) -/
def sliceE (σ : AState) (own vw : Bool) (o : Oper) (t : TypeId) (x : Operand) (lo hi : Option Operand) (k : AState → Option α) : Option α := (ev σ [] x).bind fun v => (asC v).bind fun
  | .os p => (elemOf P t).bind fun i => (σ.objs[p]?).bind fun
    | .arr i' e xs fz => chk (cellsIs P i e.size) (bif vw || (own && lo.isSome) then (optI σ [] 0 lo).bind fun l => (optI σ [] (xs.length : Int) hi).bind fun h => req (boundsI l h xs.length)
        ((AState.putO σ o.dst [] (.vw p e.size l.toNat (h.toNat - l.toNat))).bind k)
      else bif own then chk (!fz && (!bitB σ.prO p && lo.isNone)) ((optI σ [] (xs.length : Int) hi).bind fun h => req (boundsI 0 h xs.length)
        ((AState.new { σ with objs := σ.objs.set p .dead } o.dst (.arr i' e (xs.take h.toNat) false) (.c (.os σ.objs.length))).bind k))
      else (freezeL σ.prO σ.objs [p]).bind fun objs' => (optI σ [] 0 lo).bind fun l => (optI σ [] (xs.length : Int) hi).bind fun h => req (boundsI l h xs.length)
        ((AState.putO { σ with objs := objs' } o.dst [] (.c (.sl e ((xs.take h.toNat).drop l.toNat)))).bind k))
    | _ => none
  | _ => none
/-- the elements of a view become zeros -/
def clearE (σ : AState) (o : Oper) (x : Operand) (t : TypeId) (k : AState → Option α) : Option α := (elemOf P t).bind fun i => (ev σ [] x).bind fun v => match v with
  | .vw p sz lo n => (σ.objs[p]?).bind fun
    | .arr ti e xs false => chk (!bitB σ.prO p && Nat.beq sz e.size) ((zeroOf P i e).bind fun z => (AState.putO { σ with objs := σ.objs.set p (.arr ti e (xs.take lo ++ (List.replicate n z ++ xs.drop (lo + n))) false) } o.dst [] (.tup [])).bind k)
    | _ => none
  | _ => none
def makeE (σ : AState) (o : Oper) (t : TypeId) (l c : Operand) (k : AState → Option α) : Option α := (elemOf P t).bind fun i => (tyOf P 20 i).bind fun τ => (zeroOf P i τ).bind fun z =>
  (ev σ [] l).bind fun u => (asInt u).bind fun n => (ev σ [] c).bind fun v => (asInt v).bind fun m => (P.info? i).bind fun inf => chk (!Nat.beq inf.bytes 0 && τ.pure) <| req (decide (0 ≤ n.2) && (n.2 == m.2 && room n.2.toNat inf.bytes))
    ((σ.new o.dst (.arr i τ (List.replicate n.2.toNat z) false) (.c (.os σ.objs.length))).bind k)
def buildE (σ : AState) (o : Oper) (t : TypeId) (len : Nat) (parts : Array (Nat × Operand)) (k : AState → Option α) : Option α := (elemOf P t).bind fun i => (tyOf P 20 i).bind fun τ => (zeroOf P i τ).bind fun z => (partsOf σ [] parts.toList).bind fun ps =>
  chk (Nat.ble (len * τ.size) 16777216 && τ.pure) ((litE σ.objs τ (List.replicate len z) ps).bind fun xs => (freezeL σ.prO σ.objs (litIds τ ps)).bind fun objs' =>
    (AState.new { σ with objs := objs' } o.dst (.arr i τ xs false) (.c (.os objs'.length))).bind k)
def storeE (σ : AState) (o : Oper) (t : TypeId) (a x : Operand) (k : AState → Option α) : Option α := (ev σ [] a).bind fun p => (ev σ [] x).bind fun v => (cellsPV v).bind fun l => chk (cellsIs P t l.length && (o.dst.isNone && l.all cellOk))
  ((storeAt σ.objs σ.prO l p).bind fun objs' => k { σ with objs := objs' })

def bytesE (σ : AState) (o : Oper) (s d : TypeId) (x : Operand) (k : AState → Option α) : Option α := (elemOf P d).bind fun i => chk (strTy P s && bytesTy P d) ((ev σ [] x).bind fun v => (asStr v).bind fun b => req (Nat.ble b.size 140737488355328)
  ((σ.new o.dst (.arr i (.int .u8) (bytesOf b) false) (.c (.os σ.objs.length))).bind k))
/-- bytes as bytes: the row is marked -/
def markE (σ : AState) (o : Oper) (s d : TypeId) (x : Operand) (k : AState → Option α) : Option α := (elemOf P d).bind fun i => chk (Nat.beq s d && bytesTy P d) ((ev σ [] x).bind fun v => match v with
  | .c (.os p) => (σ.objs[p]?).bind fun
    | .arr _ _ xs false => chk (!bitB σ.prO p) (req (Nat.blt 0 xs.length) ((σ.putO o.dst [] (.c (.os p))).bind k))
    | _ => none
  | _ => none)
def stepE (own vw : Bool) (σ : AState) (o : Oper) (k : AState → Option α) : Option α := match o.op with
  | .box _ x => (ev σ [] x).bind fun v => (cellsPV v).bind fun l => (σ.new o.dst (.box l) (.c (.ptr σ.objs.length 0))).bind k
  | .alloc t => allocE P env σ o t k
  | .store t a x => storeE P σ o t a x k
  | .buildSlice t len parts => buildE P σ o t len parts k
  | .makeSlice t l c => makeE P σ o t l c k
  | .convert s d x => bif strTy P s then bytesE P σ o s d x k else markE P σ o s d x k
  | .call ⟨.builtin .append, args, ats⟩ => match args.toList, ats.toList with
    | [s, x], [t, t'] => bif Nat.beq t t' then appendE P σ o s x t k else bif strTy P t' then appendT P σ o s x t k else appendZ P σ o s x t t' k
    | _, _ => none
  | .call ⟨.builtin .clear, args, ats⟩ => match args.toList, ats.toList with
    | [x], [t] => clearE P σ o x t k
    | _, _ => none
  | .slice t x lo hi none => sliceE P σ own vw o t x lo hi k
  | .call ⟨.value f, args, _⟩ => match srtOf P env σ f with
    | some s => sortE σ o s.2 args.toList k
    | none => match iocOf P env σ f with
      | some s => ioE σ o s.2 args.toList k
      | none => match rocOf P env σ f with
        | some s => roE σ o s.2 args.toList k
        | none => match ckOf P env σ f with
          | some s => ckE σ o s.2 args.toList k
          | none => match bsOf P env σ f with
            | some s => bstE σ o s.2.1 s.2.2 args.toList k
            | none => callE P env σ o f args k
  | _ => none
end

/-! ### shapes -/
inductive OTy where
  | box (τ : Ty)
  | arr (i : TypeId) (e : Ty)
structure Shape where
  keep : List Nat
  slots : List (Nat × Ty)
  objs : List (Nat × Option OTy)
def OTy.ty : OTy → Ty
  | .box τ => τ
  | .arr _ e => .sl e
def tysS : List (Nat × Ty) → List Ty
  | [] => []
  | (_, τ) :: r => τ :: tysS r
def tysO : List (Nat × Option OTy) → List Ty
  | [] => []
  | (_, some q) :: r => q.ty :: tysO r
  | (_, none) :: r => tysO r
abbrev Shape.T (s : Shape) : Type := DL (tysS s.slots) × DL (tysO s.objs)

def absS (objs : List OB) (slots : Slots) : (l : List (Nat × Ty)) → Option (DL (tysS l))
  | [] => some ()
  | (t, τ) :: r => (get slots t).bind fun e => chk e.1.isEmpty ((cellsPV e.2).bind fun cs => chk (beqB τ.isAgg (isAggPV e.2)) ((toD objs τ cs).bind fun x => (absS objs slots r).bind fun y => some (x, y)))
def absO (objs : List OB) : (l : List (Nat × Option OTy)) → Option (DL (tysO l))
  | [] => some ()
  | (_, none) :: r => absO objs r
  | (o, some (.box τ)) :: r => (objs[o]?).bind fun
    | .box cs => (toD objs τ cs).bind fun x => (absO objs r).bind fun y => some (x, y)
    | _ => none
  | (o, some (.arr i e)) :: r => (objs[o]?).bind fun
    | .arr i' e' xs false => chk (Nat.beq i i') ((castL e e' xs).bind fun x => (absO objs r).bind fun y => some (x, y))
    | _ => none
/-- the objects that the holes name -/
def slotIds (f : Ty → List Cv → List Nat) (slots : Slots) : List (Nat × Ty) → List Nat
  | [] => []
  | (t, τ) :: r => (((get slots t).bind fun e => cellsPV e.2).elim [] (f τ)) ++ slotIds f slots r
def objIds (f : Ty → List Cv → List Nat) (objs : List OB) : List (Nat × Option OTy) → List Nat
  | [] => []
  | (o, some (.box τ)) :: r => (match objs[o]? with
    | some (.box cs) => f τ cs
    | _ => []) ++ objIds f objs r
  | _ :: r => objIds f objs r
def listed (o : Nat) : List (Nat × Option OTy) → Bool
  | [] => false
  | (p, _) :: r => Nat.beq p o || listed o r
def droppedO (o : Nat) : List (Nat × Option OTy) → Bool
  | [] => false
  | (p, none) :: r => Nat.beq p o || droppedO o r
  | (_, some _) :: r => droppedO o r
/-- an object of before that stays -/
def stays (s : Shape) (n0 o : Nat) : Bool := Nat.blt o n0 && !droppedO o s.objs
def okOwned (s : Shape) (n0 : Nat) (l : List Nat) : Bool := nodupN l && l.all fun o => !stays s n0 o
def okData (s : Shape) (n0 : Nat) (objs : List OB) (own : List Nat) (l : List Nat) : Bool := l.all fun o => (match objs[o]? with
  | some (.arr _ _ _ true) => true
  | _ => false) || (!stays s n0 o && !memN o own)
def absT (s : Shape) (n0 : Nat) (σ : AState) : Option s.T :=
  chk (okOwned s n0 (slotIds (idsO σ.objs) σ.slots s.slots ++ objIds (idsO σ.objs) σ.objs s.objs) &&
      okData s n0 σ.objs (slotIds (idsO σ.objs) σ.slots s.slots ++ objIds (idsO σ.objs) σ.objs s.objs) (slotIds (idsD σ.objs) σ.slots s.slots ++ objIds (idsD σ.objs) σ.objs s.objs))
    ((absS σ.objs σ.slots s.slots).bind fun x => (absO σ.objs s.objs).bind fun y => some (x, y))
def stable : PV → Bool
  | _ => true
def kf (slots : Slots) (t : Nat) : Option (Tag × PV) := (get slots t).bind fun e => chk (e.1.isEmpty && stable e.2) (some e)
def keepF (slots : Slots) : List Nat → Slots
  | [] => []
  | t :: r => (t, kf slots t) :: keepF slots r
def concO : (l : List (Nat × Option OTy)) → DL (tysO l) → List OB → List OB
  | [], _, objs => objs
  | (o, none) :: r, x, objs => concO r x (objs.set o .dead)
  | (o, some (.box τ)) :: r, x, objs => concO r x.2 (objs.set o (.box (cc τ x.1 objs.length).1) ++ (cc τ x.1 objs.length).2)
  | (o, some (.arr i e)) :: r, x, objs => concO r x.2 (objs.set o (.arr i e x.1 false))
def concS : (l : List (Nat × Ty)) → DL (tysS l) → AState → AState
  | [], _, σ => σ
  | (t, τ) :: r, x, σ => concS r x.2 { σ with slots := (t, some ([], pvCells τ.isAgg (cc τ x.1 σ.objs.length).1)) :: σ.slots, objs := σ.objs ++ (cc τ x.1 σ.objs.length).2 }
def conc (s : Shape) (σ : AState) (x : s.T) : AState :=
  concS s.slots x.1 { σ with slots := keepF σ.slots s.keep, objs := concO s.objs x.2 σ.objs, gs := 0, known := [] }
def maskN : List Nat → Nat
  | [] => 0
  | t :: r => Nat.lor (Nat.shiftLeft 1 t) (maskN r)
/-- the objects below n that are not listed -/
def protO (l : List (Nat × Option OTy)) : Nat → Nat
  | 0 => 0
  | n + 1 => bif listed n l then protO l n else Nat.lor (protO l n) (Nat.shiftLeft 1 n)
def AState.enter (σ : AState) (s : Shape) (n : Nat) : AState := { σ with prS := Nat.lor σ.prS (maskN s.keep), prO := Nat.lor σ.prO (protO s.objs n) }
/-- back to the marks of before -/
def AState.leave (σ σ0 : AState) : AState := { σ with prS := σ0.prS, prO := σ0.prO }
/-- the holes are slots of the frame and are not kept; the objects that are listed are there, once, and free -/
def holesOk (s : Shape) (σ : AState) : Bool := Nat.beq (Nat.land σ.prS (maskN s.keep)) σ.prS && (s.slots.all fun q => !memN q.1 s.keep && (Nat.blt q.1 σ.n && !bitB σ.prS q.1)) && (nodupN (s.objs.map Prod.fst) && s.objs.all fun q => Nat.blt q.1 σ.objs.length && !bitB σ.prO q.1) && (Nat.beq σ.gs 0 && σ.known.isEmpty)

inductive Ann where
  | nil
  | two (a b : Ann)
  | join (s : Shape) (a : Ann)
  | joinE (s : Shape) (a : Ann)
  | loop (s : Shape) (a : Ann)
  | own (a : Ann)
  | vw (a : Ann)
  | tail (m : Nat) (a : Ann)
  | any (s g : Nat) (a : Ann)
  | ord (i u : Nat) (x n : Ann)
  | alt (a b : Ann)
  | sel (o : Nat) (i : TypeId) (a b : Ann)
  | spl (d : Nat) (a : Ann)
  | frz (l : List Nat) (a : Ann)
def Ann.l : Ann → Ann
  | .two a _ => a
  | _ => .nil
def Ann.r : Ann → Ann
  | .two _ b => b
  | _ => .nil
def Ann.isOwn : Ann → Bool
  | .own _ => true
  | _ => false
def Ann.isVw : Ann → Bool
  | .vw _ => true
  | _ => false
def Ann.rest : Ann → Ann
  | .own a => a
  | .vw a => a
  | a => a

/-- is the object a row of this type, or a box of so many cells? (orders give objects other numbers) -/
def arrAt (σ : AState) (o : Nat) (i : TypeId) : Bool := match σ.objs[o]? with
  | some (.arr j _ _ _) => Nat.beq i j
  | some (.box l) => Nat.beq i (Nat.add 1000000 l.length)
  | _ => false
def Ann.at (σ : AState) : Ann → Ann
  | .sel o i a b => bif arrAt σ o i then a.at σ else b.at σ
  | a => a
def dropU : Slots → Slots
  | [] => []
  | (i, some (tg, pv)) :: r => (i, bif stable pv then some (tg, pv) else none) :: dropU r
  | (i, none) :: r => (i, none) :: dropU r
structure Kt (α : Type) where
  n : AState → Option α
  x : Nat → AState → Option α
  r : AState → Option α

def argSlots : Nat → List PV → Slots
  | _, [] => []
  | i, v :: r => (i, some ([], v)) :: argSlots (i + 1) r
/-- the results of a function at its end -/
def resOf (P : Program) (σ : AState) : List ResultVar → Option (List PV)
  | [] => some []
  | .tmp t :: r => (get σ.slots t).bind fun e => chk e.1.isEmpty ((resOf P σ r).bind fun vs => some (e.2 :: vs))
  | .cell a t :: r => (get σ.slots a).bind fun e => chk e.1.isEmpty ((loadPV P σ t e.2).bind fun u => (resOf P σ r).bind fun vs => some (u :: vs))
def pwOf : List PV → Option (List PW)
  | [] => some []
  | .c x :: r => (pwOf r).bind fun l => some (.c x :: l)
  | .agg x :: r => (pwOf r).bind fun l => some (.agg x :: l)
  | _ => none
def oneTup : List PV → Option PV
  | [v] => some v
  | vs => (pwOf vs).bind fun l => some (.tup l)
/-- is the operation a call that is entered? -/
def inlined (P : Program) (σ : AState) (env : Env) (o : Oper) : Option (FuncId × Func × Code × List PV) := match o.op with
  | .call ⟨.value f, args, _⟩ => (ev σ [] f).bind fun q => (asFn q).bind fun g => (env.fn g.1).bind fun fn => chk (bodied P g.1) (fn.body.bind fun c => (evs σ [] args.toList).bind fun vs => chk (Nat.ble (vs.length + g.2.length) fn.ntmps) (some (g.1, fn, c, vs ++ ptrs g.2)))
  | _ => none

/-- is it one of the operations that leave the world alone? -/
def stillOp (P : Program) (env : Env) (σ : AState) (tg : Tag) (o : Oper) : Bool := match o.op with
  | .box _ _ => false
  | .alloc _ => false
  | .store _ _ _ => false
  | .buildSlice _ _ _ => false
  | .makeSlice _ _ _ => false
  | .convert _ d _ => !bytesTy P d
  | .call ⟨.builtin .append, _, _⟩ => false
  | .call ⟨.builtin .clear, _, _⟩ => false
  | .slice _ x lo hi mx => match ev σ tg x with
    | some (.c (.os _)) => mx.isSome
    | _ => true
  | .call ⟨.value f, args, _⟩ => match ((ev σ tg f).bind asFn) with
    | some (g, []) => match env.cb g with
      | some c => c.2.ρ.flat && (!c.1 || ((args.toList.head?.bind (ev σ tg)).bind (cellsAt σ.objs)).isSome)
      | none => false
    | _ => false
  | _ => true
/-- a guard comes out so -/
def AState.fix (σ : AState) (d : Nat) (b : Bool) : AState := { σ with slots := (d, some ([], .c (.v (.bool b)))) :: σ.slots, known := (d, b) :: σ.known, gs := Nat.lor σ.gs (Nat.shiftLeft 1 d) }
/-- the guard to decide first -/
def lastT : Tag → Option Nat
  | [] => none
  | [x] => some x.1
  | _ :: r => lastT r
def splitG {α : Type} (σ : AState) (d : Nat) (k : AState → Option α) : Option α := (get σ.slots d).bind fun e => chk (subT σ.known e.1 []) ((asBool e.2).bind fun b => bif b then k (σ.fix d true) else k (σ.fix d false))
/-- can it be decided now? -/
def canS (σ : AState) (d : Nat) : Bool := match get σ.slots d with
  | some (tg, .c (.v (.bool _))) => subT σ.known tg []
  | _ => false

section
variable {α : Type} (P : Program) (env : Env) (rc : Ann → Code → AState → Kt α → Option α) (ops : Array Oper)
/-- a call that is entered; pointers into rows are not known behind it -/
noncomputable def enterE (ann : Ann) (σ : AState) (o : Oper) (k : AState → Option α) : Option α := (inlined P σ env o).bind fun q =>
  rc ann q.2.2.1 ⟨q.2.1.ntmps, argSlots 0 q.2.2.2, σ.objs, 0, σ.prO, 0, []⟩
    ⟨fun σ' => (resOf P σ' q.2.1.results.toList).bind fun us => (oneTup us).bind fun u => (AState.putO { σ with objs := σ'.objs, slots := dropU σ.slots } o.dst [] u).bind k, fun _ _ => none,
     fun σ' => (resOf P σ' q.2.1.results.toList).bind fun us => (oneTup us).bind fun u => (AState.putO { σ with objs := σ'.objs, slots := dropU σ.slots } o.dst [] u).bind k⟩
/-- operations one after the other; 'm' operations may still be looked at again -/
noncomputable def denOps : Nat → List Oper → Ann → AState → (AState → Option α) → Option α
  | _, [], _, σ, k => k σ
  | 0, _ :: _, _, _, _ => none
  | m + 1, o :: r, ann, σ, k => (tagOf ops σ o).bind fun q =>
    bif q.2.1 then (AState.putO { σ with gs := Nat.lor σ.gs q.2.2 } o.dst q.1 (.c (.v undef))).bind fun σ' => denOps m r ann σ' k
    else bif stillOp P env σ q.1 o then
      stepS P env σ q.1 o fun v => (AState.putO { σ with gs := Nat.lor σ.gs q.2.2 } o.dst q.1 v).bind fun σ' => denOps m r ann σ' k
    else match lastT q.1 with
      | some d => splitG σ d fun σ' => denOps m (o :: r) ann σ' k
      | none => bif (inlined P σ env o).isSome then enterE P env rc ann.l { σ with gs := Nat.lor σ.gs q.2.2 } o fun σ' => denOps m r (ann.r.at σ') σ' k
        else stepE P env ann.isOwn ann.isVw { σ with gs := Nat.lor σ.gs q.2.2 } o fun σ' => denOps m r ann.rest σ' k
/-- operations of a region that draws: none makes or writes memory -/
noncomputable def denStill : List Oper → AState → (AState → Option α) → Option α
  | [], σ, k => k σ
  | o :: r, σ, k => (tagOf ops σ o).bind fun q => chk (!q.2.1 && stillOp P env σ q.1 o)
      (stepS P env σ q.1 o fun v => (AState.putO { σ with gs := Nat.lor σ.gs q.2.2 } o.dst q.1 v).bind fun σ' => denStill r σ' k)
end
def Ann.tl : Ann → Option (Nat × Ann)
  | .tail m a => some (m, a)
  | _ => none
def Ann.av : Ann → Option (Nat × Nat × Ann)
  | .any s g a => some (s, g, a)
  | _ => none
/-! a region that draws its order, step by step: 's': the operations that are treated as soft (they leave the world alone), 'g': those that only make memory -/
def allocOp (o : Oper) : Bool := match o.op with
  | .box _ _ => true
  | .alloc _ => true
  | .buildSlice _ _ _ => true
  | .makeSlice _ _ _ => true
  | _ => false
/-- a call that only makes memory -/
def conOp (env : Env) (σ : AState) (o : Oper) : Bool := match o.op with
  | .call ⟨.value f, _, _⟩ => match ((ev σ [] f).bind asFn) with
    | some (g, []) => (env.cb g).isSome
    | _ => false
  | _ => false
def isLoad (o : Oper) : Bool := match o.op with
  | .load _ _ => true
  | .convert _ _ _ => true
  | _ => false
def callOp (o : Oper) : Bool := match o.op with
  | .call ⟨.value _, _, _⟩ => true
  | _ => false
/-- an operation that looks at registers alone -/
def regOp (ops : Array Oper) (i : Nat) : Bool := match ops[i]? with
  | some o => !isLoad o && !callOp o
  | none => false
def maskA (n u : Nat) : Array Bool := ((List.range n).map (bitB u)).toArray
/-- 'U' holds all that can be done before i -/
def upOk (ops : Array Oper) (s g : Nat) (listed : Array Bool) (i : Nat) (U : Array Bool) : Bool :=
  !U.getD i false && (((Region.ready .any ops U).all fun j => Nat.beq j i) && (List.range ops.size).all fun j => bif listed.getD j false then U.getD j false else (!U.getD j false || (bitB s j || bitB g j)))
def takeOk (ops : Array Oper) (s g : Nat) (listed : Array Bool) (i u : Nat) : Bool := match Region.ready .any ops listed with
  | [j] => Nat.beq j i
  | R => R.contains i && (Region.free .any ops listed i && (bitB s i && (regOp ops i || upOk ops s g listed i (maskA ops.size u))))
section
variable {α : Type} (P : Program) (env : Env) (rc : Ann → Code → AState → Kt α → Option α) (ops : Array Oper) (s g : Nat)
/-- one operation -/
noncomputable def denOne (i : Nat) (x : Ann) (σ : AState) (again next : AState → Option α) : Option α := (ops[i]?).bind fun o => (tagOf ops σ o).bind fun q =>
  bif q.2.1 then (AState.putO { σ with gs := Nat.lor σ.gs q.2.2 } o.dst q.1 (.c (.v undef))).bind next
  else bif bitB s i then chk (stillOp P env σ q.1 o) (stepS P env σ q.1 o fun v => (AState.putO { σ with gs := Nat.lor σ.gs q.2.2 } o.dst q.1 v).bind next)
  else match lastT q.1 with
    | some d => splitG σ d again
    | none => bif bitB g i then chk (allocOp o || conOp env σ o) (stepE P env x.isOwn x.isVw { σ with gs := Nat.lor σ.gs q.2.2 } o next)
      else bif stillOp P env σ q.1 o then stepS P env σ q.1 o fun v => (AState.putO { σ with gs := Nat.lor σ.gs q.2.2 } o.dst q.1 v).bind next
      else bif (inlined P σ env o).isSome then enterE P env rc x { σ with gs := Nat.lor σ.gs q.2.2 } o next
      else stepE P env x.isOwn x.isVw { σ with gs := Nat.lor σ.gs q.2.2 } o next
noncomputable def denAlts (run : Nat → Ann → Ann → Option α) : List Nat → Ann → Option α
  | [i], .ord j _ x n => chk (Nat.beq i j) (run i x n)
  | i :: r, .alt (.ord j _ x n) b => chk (Nat.beq i j) (agree (run i x n) (denAlts run r b))
  | _, _ => none
noncomputable def denAny : Nat → Array Bool → Ann → AState → (AState → Option α) → Option α
  | 0, _, _, _, _ => none
  | m + 1, listed, .ord i u x n, σ, k => chk (takeOk ops s g listed i u) (denOne P env rc ops s g i x σ (fun σ' => denAny m listed (.ord i u x n) σ' k) fun σ' => denAny m (listed.setIfInBounds i true) n σ' k)
  | m + 1, listed, .alt a b, σ, k => denAlts (fun i x n => denOne P env rc ops s g i x σ (fun _ => none) fun σ' => denAny m (listed.setIfInBounds i true) n σ' k) (Region.ready .any ops listed) (.alt a b)
  | m + 1, listed, .spl d n, σ, k => bif canS σ d then splitG σ d (fun σ' => denAny m listed n σ' k) else denAny m listed n σ k
  | _ + 1, listed, _, σ, k => chk (Region.ready .any ops listed).isEmpty (k σ)
end
/-- code that bears no mark -/
noncomputable def denP {α : Type} (P : Program) (env : Env) (rc : Ann → Code → AState → Kt α → Option α) (ann : Ann) (c : Code) (σ : AState) (K : Kt α) : Option α := match c with
  | .skip => K.n σ
  | .label _ => K.n σ
  | .seq a b => rc ann.l a σ ⟨fun σ' => rc ann.r b σ' K, K.x, K.r⟩
  | .cond x a b => (ev σ [] x).bind fun v => (asBool v).bind fun t => bif t then rc ann.l a σ K else rc ann.r b σ K
  | .block id b => rc ann.l b σ ⟨K.n, fun i σ' => bif Nat.beq i id then K.n σ' else K.x i σ', K.r⟩
  | .loop b => rc .nil b σ ⟨fun σ' => rc .nil (.loop b) σ' K, K.x, K.r⟩
  | .exit id => K.x id σ
  | .ret => K.r σ
  | .region _ ops false => denOps P env rc ops (2 * ops.size + 20) ops.toList ann σ fun σ' => K.n σ'.endR
  | .region _ ops true => match ann.av with
    | some (s, g, a) => chk (Region.noSelect ops) (denAny P env rc ops s g (3 * ops.size + 20) (Array.replicate ops.size false) a σ fun σ' => K.n σ'.endR)
    | none => match ann.tl with
    | none => chk (Region.lexB .any ops) (denStill P env ops ops.toList σ fun σ' => K.n σ'.endR)
    | some (m, a) => chk (Region.lexTailB .any ops m) (denStill P env ops (ops.toList.take m) σ fun σ' => denOps P env rc ops (2 * ops.size + 20) (ops.toList.drop m) a σ' fun σ' => K.n σ'.endR)
  | _ => none
noncomputable def den (P : Program) (env : Env) : Nat → (α : Type) → Ann → Code → AState → Kt α → Option α
  | 0, _, _, _, _, _ => none
  | n + 1, α, ann, c, σ, K => match ann with
    | .join s a => chk (holesOk s σ) (Option.bind (den P env n s.T a c (σ.enter s σ.objs.length) ⟨absT s σ.objs.length, fun _ _ => none, fun _ => none⟩) fun x => K.n (conc s σ x))
    | .joinE s a => chk (holesOk s σ) (Option.bind (den P env n (s.T ⊕ α) a c (σ.enter s σ.objs.length) ⟨fun σ' => Option.map Sum.inl (absT s σ.objs.length σ'), fun i σ' => Option.map Sum.inr (K.x i (σ'.leave σ)), fun σ' => Option.map Sum.inr (K.r (σ'.leave σ))⟩) (Sum.elim (fun x => K.n (conc s σ x)) some))
    | .loop s a => match c with
      | .loop b => chk (holesOk s σ) ((absT s σ.objs.length σ).bind fun x0 => iterW (fun x => den P env n (s.T ⊕ α) a b ((conc s σ x).enter s σ.objs.length) ⟨fun σ' => Option.map Sum.inl (absT s σ.objs.length σ'), fun i σ' => Option.map Sum.inr (K.x i (σ'.leave σ)), fun σ' => Option.map Sum.inr (K.r (σ'.leave σ))⟩) x0)
      | _ => none
    | .sel o i a b => den P env n α (bif arrAt σ o i then a else b) c σ K
    | .frz l a => (freezeL σ.prO σ.objs l).bind fun objs' => den P env n α a c { σ with objs := objs' } K
    | ann => denP P env (den P env n α) ann c σ K

/-! ### a function -/
def argPVs : (ps : List Ty) → DL ps → List PV
  | [], _ => []
  | τ :: r, x => pvCells τ.isAgg (cellsOf τ x.1) :: argPVs r x.2
def allCells : List PV → List Ty → Option (List Cv)
  | [], [] => some []
  | v :: r, τ :: ts => (cellsPV v).bind fun l => chk (Nat.beq l.length τ.size && beqB τ.isAgg (isAggPV v)) ((allCells r ts).bind fun q => some (l ++ q))
  | _, _ => none
def retD (objs : List OB) (ρ : Ty) (cs : List Cv) : Option (D ρ) :=
  chk (nodupN (idsO objs ρ cs) && (idsD objs ρ cs).all (fun o => !memN o (idsO objs ρ cs))) (toD objs ρ cs)
def resTys (one : Bool) (res : List Ty) (ρ : Ty) : List Ty := bif one then [ρ] else res
def retK (P : Program) (fn : Func) (one : Bool) (res : List Ty) (ρ : Ty) (σ : AState) : Option (D ρ) := (resOf P σ fn.results.toList).bind fun vs => (allCells vs (resTys one res ρ)).bind fun cs => retD σ.objs ρ cs
/-- what a function gives -/
def argPVsB : Bool → (ps : List Ty) → DL ps → List PV
  | false, ps, x => argPVs ps x
  | true, [], _ => []
  | true, τ :: r, x => .rp (cellsOf τ x.1) :: argPVs r x.2
noncomputable def denB (P : Program) (env : Env) (ann : Ann) (fn : Func) (b : Bool) (ps : List Ty) (one : Bool) (res : List Ty) (ρ : Ty) (x : DL ps) : Option (D ρ) :=
  den P env 10000 (D ρ) ann (bodyOf fn) ⟨fn.ntmps, argSlots 0 (argPVsB b ps x), [], 0, 0, 0, []⟩ ⟨retK P fn one res ρ, fun _ _ => none, retK P fn one res ρ⟩
noncomputable def denF (P : Program) (env : Env) (ann : Ann) (fn : Func) (ps : List Ty) (one : Bool) (res : List Ty) (ρ : Ty) (x : DL ps) : Option (D ρ) :=
  den P env 10000 (D ρ) ann (bodyOf fn) ⟨fn.ntmps, argSlots 0 (argPVs ps x), [], 0, 0, 0, []⟩ ⟨retK P fn one res ρ, fun _ _ => none, retK P fn one res ρ⟩
/-- the end of a function that was handed a box: object 0 -/
def retIO (P : Program) (fn : Func) (bx : Ty) (one : Bool) (res : List Ty) (ρ : Ty) (σ : AState) : Option (D (.st bx ρ)) := (resOf P σ fn.results.toList).bind fun vs => (allCells vs (resTys one res ρ)).bind fun cs => (σ.objs[0]?).bind fun
  | .box bs => chk (Nat.beq bs.length bx.size && !memN 0 (idsO σ.objs (.st bx ρ) (bs ++ cs))) (retD σ.objs (.st bx ρ) (bs ++ cs))
  | _ => none
noncomputable def denIO (P : Program) (env : Env) (ann : Ann) (fn : Func) (bx : Ty) (ps : List Ty) (one : Bool) (res : List Ty) (ρ : Ty) (x : DL (bx :: ps)) : Option (D (.st bx ρ)) :=
  den P env 10000 (D (.st bx ρ)) ann (bodyOf fn) ⟨fn.ntmps, argSlots 0 (.c (.ptr 0 0) :: argPVs ps x.2), .box (cc bx x.1 1).1 :: (cc bx x.1 1).2, 0, 0, 0, []⟩ ⟨retIO P fn bx one res ρ, fun _ _ => none, retIO P fn bx one res ρ⟩
/-- the end of a function that was handed an owned slice: object 0 -/
def retRO (P : Program) (fn : Func) (i : TypeId) (e : Ty) (one : Bool) (res : List Ty) (ρ : Ty) (σ : AState) : Option (D (.st (.osl i e) ρ)) := (resOf P σ fn.results.toList).bind fun vs => (allCells vs (resTys one res ρ)).bind fun cs => (σ.objs[0]?).bind fun
  | .arr i' e' xs false => chk (Nat.beq i' i) ((castL e e' xs).bind fun ys => (toD σ.objs ρ cs).bind fun r => some (ys, r))
  | _ => none
noncomputable def denRO (P : Program) (env : Env) (ann : Ann) (fn : Func) (j : Nat) (i : TypeId) (e : Ty) (ps : List Ty) (one : Bool) (res : List Ty) (ρ : Ty) (x : DL (.osl i e :: ps)) : Option (D (.st (.osl i e) ρ)) :=
  den P env 10000 (D (.st (.osl i e) ρ)) ann (bodyOf fn) ⟨fn.ntmps, argSlots 0 (putAt j (.c (.os 0)) (argPVs ps x.2)), [.arr i e x.1 false], 0, 0, 0, []⟩ ⟨retRO P fn i e one res ρ, fun _ _ => none, retRO P fn i e one res ρ⟩
end Go.Den
