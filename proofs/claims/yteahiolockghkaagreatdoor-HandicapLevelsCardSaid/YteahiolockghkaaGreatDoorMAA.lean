/- Several texts in one: Eng, Fr, Den0, Ab, Den1. -/
import Derived.WalkKit
import Derived.Deep.Quiet
import Derived.Below
import Derived.Deep.LoopGhost
import Derived.StillTail
import Derived.Laws.StructEq
import Derived.Laws.CopyRow
import Derived.ProofKit
import Derived.OpenShut
import Derived.ShutString
import Derived.ChangeOld
import Derived.Carry
import Derived.SizedLaws
import Derived.JoinedCond
import Derived.Deep.AppendSrc
import Derived.Laws.IdiomCopy
import Derived.ArgAppend
class Go.Den.Ctx where
 tabs:List (Nat×List Go.Value)
 opens:List (Nat×Bool)
 drawsUp:Bool
 bytes:List Nat
 node:Option Nat
 dq:Option FuncId
namespace Go.Eng
set_option linter.unusedSimpArgs false
set_option linter.unusedVariables false
set_option linter.unusedSectionVars false

abbrev Store:=List (Nat×Value)

def get:Store→Nat→Option Value
 | [],_=>none
 | (i,v)::r,t=>bif Nat.beq i t then some v else get r t
def ev (s:Store):Operand→Value
 | .tmp t=>(get s t).getD undef
 | .const v=>v
 | .global g => .pointer (some ⟨g,0,none⟩)
 | .func f => .func (.func f) #[] #[]
theorem qjE {a b:Nat} (h:Nat.beq a b=true):a=b:=Nat.eq_of_beq_eq_true h

inductive Dir where
 | bit (b:Bool)
 | raw
 | ans (v:Value)
 | ld (v:Value)
 | lds (vs:List Value)
 | call (v:Value)

def InR:IntKind→Int→Prop
 | .i8,n => -128≤n∧n≤127
 | .i16,n => -32768≤n∧n≤32767
 | .i32,n => -2147483648≤n∧n≤2147483647
 | .i64,n => -9223372036854775808≤n∧n≤9223372036854775807
 | .u8,n=>0≤n∧n≤255
 | .u16,n=>0≤n∧n≤65535
 | .u32,n=>0≤n∧n≤4294967295
 | .u64,n=>0≤n∧n≤18446744073709551615
def qas:IntKind→IntKind→Bool
 | .i8,.i8 | .i16,.i16 | .i32,.i32 | .i64,.i64 | .u8,.u8 | .u16,.u16 | .u32,.u32 | .u64,.u64=>true
 | _,_=>false
theorem qbp {k k':IntKind} (h:qas k k'=true):k=k':=by cases k<;>cases k'<;>first | rfl | cases h

def aggOf (P:Program) (t:TypeId):Option Bool:=match P.underlying t with
 | some (.struct _)=>some true
 | some (.array _ _)=>some true
 | some _=>some false
 | none=>none
theorem qd3 {P:Program} {t:TypeId} {b:Bool} (h:aggOf P t=some b) (w:World):(isAgg t).run P w = .ok b w:=by
 unfold aggOf at h
 cases hu:P.underlying t with
 | none=>simp[hu] at h
 | some d=>cases d<;>simp[hu] at h<;>simp[isAgg,underlying,hu,←h,go_sem]

mutual
/-- whether two plain values are equal, cell by cell -/
def eqT (P:Program):Nat→TypeId→List Value→List Value→Option Bool
 | 0,_,_,_=>none
 | n+1,t,xs,ys=>match P.underlying t with
  | some .bool=>match xs,ys with | [.bool a],[.bool b]=>some (a==b) | _,_=>none
  | some (.int _)=>match xs,ys with | [.int k a],[.int k' b]=>bif qas k k' then some (a==b) else none | _,_=>none
  | some .string=>match xs,ys with | [.string a],[.string b]=>some (a==b) | _,_=>none
  | some (.struct fs)=>bif P.stoodInHeld t||fs.toList.any (fun f=>f.name == "_") then none else eqL P n (fs.toList.map fun f=>(f.type,f.offset)) xs ys
  | some (.array m e)=>match P.info? e with | some i=>eqL P n ((List.range m).map fun j=>(e,j*i.size)) xs ys | none=>none
  | _=>none
def eqL (P:Program):Nat→List (TypeId×Nat)→List Value→List Value→Option Bool
 | 0,_,_,_=>none
 | _+1,[],_,_=>some true
 | n+1,(t,o)::l,xs,ys=>match P.info? t,aggOf P t with
  | some i,some true=>match eqT P n t ((xs.drop o).take i.size) ((ys.drop o).take i.size),eqL P n l xs ys with
   | some b,some r=>some (b&&r)
   | _,_=>none
  | some _,some false=>match eqT P n t ((xs.drop o).take 1) ((ys.drop o).take 1),eqL P n l xs ys with
   | some b,some r=>some (b&&r)
   | _,_=>none
  | _,_=>none
end

def scale (m:Nat):Nat→Nat
 | 1=>m
 | s=>m*s
def adr (ao:Option Addr):Addr:=match ao with
 | some a=>a
 | none=>⟨0,0,none⟩
def arith (P:Program) (s:Store):Op→Option (Value×List Prop)
 | .binOp .add _ x y _=>match ev s x,ev s y with
  | .int k a,.int k' b=>bif qas k k' then some (.int k (a+b),[InR k (a+b)]) else none
  | _,_=>none
 | .binOp .sub _ x y _=>match ev s x,ev s y with
  | .int k a,.int k' b=>bif qas k k' then some (.int k (a-b),[InR k (a-b)]) else none
  | _,_=>none
 | .binOp .mul _ x y _=>match ev s x,ev s y with
  | .int k a,.int k' b=>bif qas k k' then some (.int k (a*b),[InR k (a*b)]) else none
  | _,_=>none
 | .binOp .quo _ x y _=>match ev s x,ev s y with
  | .int k a,.int k' b=>bif qas k k' then some (.int k (a / b),[InR k a,0≤a,0<b]) else none
  | _,_=>none
 | .binOp .rem _ x y _=>match ev s x,ev s y with
  | .int k a,.int k' b=>bif qas k k' then some (.int k (a % b),[0≤a,0<b]) else none
  | _,_=>none
 | .unOp .neg _ x=>match ev s x with
  | .int k a=>some (.int k (-a),[InR k (-a)])
  | _=>none
 | .convert src dst x=>match P.underlying src,P.underlying dst,ev s x with
  | some _,some (.int k),.int _ n=>some (.int k n,[InR k n])
  | _,_,_=>none
 | .indexAddr t x i=>match P.underlying t,ev s x,ev s i with
  | some (.slice e),.slice ao len _,.int _ n=>match P.info? e with
   | some inf=>some (.pointer (some ((adr ao).add (scale n.toNat inf.size))),[0≤n∧n<(len:Int),ao.isSome=true])
   | none=>none
  | some (.array len e),.pointer (some a),.int _ n=>match P.info? e with
   | some inf=>some (.pointer (some (a.add (scale n.toNat inf.size))),[0≤n∧n<(len:Int)])
   | none=>none
  | _,_,_=>none
 | _=>none

def extra (P:Program) (s:Store):Op→Option (Value×List Prop)
 | .slice t x none (some h) none=>match P.underlying t,ev s x,ev s h with
  | some (.slice e),.slice ao _ cap,.int _ n=>match P.info? e with
   | some _=>some (.slice ao n.toNat cap,[0≤n∧n≤(cap:Int)])
   | none=>none
  | _,_,_=>none
 | .binOp .eql t x y _=>match ev s x,ev s y with
  | .agg xs,.agg ys=>bif P.eqGuardType P.depth t || !(match aggOf P t with | some b=>b | none=>false) then none else match eqT P 40 t xs.toList ys.toList with
   | some b=>some (.bool b,[])
   | none=>none
  | _,_=>none
 | .binOp .neq t x y _=>match ev s x,ev s y with
  | .agg xs,.agg ys=>bif P.eqGuardType P.depth t || !(match aggOf P t with | some b=>b | none=>false) then none else match eqT P 40 t xs.toList ys.toList with
   | some b=>some (.bool (!b),[])
   | none=>none
  | _,_=>none
 | _=>none

def qgi (P:Program):Sem Next→Option Value
 | .pure (.value v)=>some v
 | .program k=>qgi P (k P)
 | _=>none
theorem qkJ {P:Program} {m:Sem Next} {v:Value} (h:qgi P m=some v) (w:World):m.run P w = .ok (.value v) w:=by
 induction m with
 | pure a=>cases a<;>simp only[qgi] at h<;>first | (cases h;rfl) | cases h
 | program k ih=>simp only[qgi] at h;simp only[Sem.run];exact ih P h
 | _=>simp[qgi] at h

def bodied (P:Program) (f:FuncId):Bool:=match P.funcs[f]? with
 | some fn=>fn.body.isSome && !(fn.name == "runtime.NumGoroutine")
 | none=>false
theorem qaP {P:Program} {f:FuncId} (h:bodied P f=true) (args:Array Value) (w:World):(callFunc f args).run P w = .ok (.enter f args) w:=by
 unfold bodied at h;split at h
 ·rename_i fn hf;simp only[Bool.and_eq_true,Bool.not_eq_true'] at h
  have hb:fn.body.isNone=false:=by cases hbb:fn.body<;>simp_all
  have h2:¬fn.name = "runtime.NumGoroutine" := by simpa using h.2
  simp[callFunc,hf,h2,go_sem];intro hn;simp[hn] at hb
 ·cases h

def callOf (s:Store):Op→Option (FuncId×Array Value)
 | .call ⟨.value x,args,_⟩=>match ev s x with
  | .func (.func f) first captured=>some (f,(first.toList++(args.toList.map (ev s))++captured.toList).toArray)
  | _=>none
 | _=>none
def CellsAt (w:World) (a:Addr) (vs:List Value):Prop:=∀j v,vs[j]?=some v→w.cell? (a.add j)=some v

def stepOp (P:Program) (C:World→Prop) (s:Store) (o:Oper):Option Dir→Option (Value×List Prop)
 | some (.ans v)=>some (v,[∀w,C w→(execOp (ev s) o).run P w = .ok (.value v) w])
 | some (.ld v)=>match o.op with
  | .load t x=>match ev s x,aggOf P t with
   | .pointer (some a),some false=>some (v,[∀w,C w→w.cell? a=some v])
   | _,_=>none
  | _=>none
 | some (.lds vs)=>match o.op with
  | .load t x=>match ev s x,aggOf P t,P.info? t with
   | .pointer (some a),some true,some i=>bif Nat.beq i.size vs.length then some (.agg vs.toArray,[∀w,C w→CellsAt w a vs]) else none
   | _,_,_=>none
  | _=>none
 | some (.call v)=>match callOf s o.op with
  | some (f,args)=>bif bodied P f then some (v,[∀w,C w→Calls P f args w fun e w'=>e = .returned v∧C w']) else none
  | none=>none
 | some .raw=>match qgi P (execOp (ev s) o) with
  | some v=>some (v,[])
  | none=>none
 | some (.bit b)=>match extra P s o.op with
  | some (.bool c,[])=>some (.bool b,[c=b])
  | _=>match qgi P (execOp (ev s) o) with
   | some (.bool c)=>some (.bool b,[c=b])
   | _=>none
 | none=>match arith P s o.op with
  | some r=>some r
  | none=>match extra P s o.op with
   | some r=>some r
   | none=>match qgi P (execOp (ev s) o) with
    | some v=>some (v,[])
    | none=>none

theorem qeK {P:Program} {w:World} {a:Addr}:∀(vs:List Value) (i:Nat) (acc:Array Value),(∀j v,vs[j]?=some v→w.cell? (a.add (i+j))=some v) →
  (loadCellsFrom a i vs.length acc).run P w = .ok (acc++vs.toArray) w
 | [],i,acc,_=>by simp[loadCellsFrom,go_sem]
 | v::r,i,acc,h=>by
  have h0:=h 0 v rfl
  have ih:=qeK (P:=P) (w:=w) (a:=a) r (i+1) (acc.push v) (fun j u hu=>by
   have:=h (j+1) u hu
   rw[show i+1+j=i+(j+1) by omega];exact this)
  show(Sem.bind (load (a.add i)) _).run P w=_;simp only[load,Sem.bind,Sem.run];simp only[Nat.add_zero] at h0;rw[h0];simp only;rw[ih];simp


def valC (P:Program) (t:TypeId) (cs:List Value):Value:=match aggOf P t with
 | some true => .agg cs.toArray
 | _=>cs.headD undef

theorem qha {P:Program} {t:TypeId} {cs:List Value} {o:Nat} {i:TypeInfo} (hi:P.info? t=some i) (w:World) :
  (aggOf P t=some true→(part t cs.toArray o).run P w = .ok (.agg ((cs.drop o).take i.size).toArray) w) ∧
  (aggOf P t=some false→∀u,(cs.drop o).take 1=[u]→(part t cs.toArray o).run P w = .ok u w):=by
 refine⟨fun ha=>?_,fun ha u hu=>?_⟩
 ·simp[part,qd3 ha,sizeOf,typeInfo,hi,go_sem]
 ·have:cs[o]?=some u:=by
   have:=congrArg (fun l:List Value=>l[0]?) hu;simpa using this
  simp[part,qd3 ha,this,go_sem]

theorem eq_leaf {P:Program} {n:Nat} {t:TypeId} {xs ys:List Value} {b:Bool} (ha:aggOf P t=some false) (h:eqT P n t xs ys=some b):∃u v,xs=[u]∧ys=[v]:=by
 cases n with
 | zero=>simp[eqT] at h
 | succ n =>
  simp only[eqT] at h;unfold aggOf at ha
  cases hu:P.underlying t with
  | none=>rw[hu] at ha;cases ha
  | some d =>
   rw[hu] at h ha
   cases d<;>simp only at h ha<;>first | (cases h;done) | (cases ha;done) | skip
   all_goals
    split at h
    ·exact⟨_,_,rfl,rfl⟩
    ·cases h

def qmW (d:Nat) (xs ys:List Value):List (TypeId×Nat)→Sem Bool
 | []=>pure true
 | q::l=>do
  let a ←part q.1 xs.toArray q.2
  let c ←part q.1 ys.toArray q.2
  let e ←Op.equalIn d q.1 a c
  if (!e)=true then pure false else qmW d xs ys l

theorem eqT_run {P:Program}:∀(n:Nat),
  (∀(d:Nat) (t:TypeId) (xs ys:List Value) (b:Bool) (w:World),n≤d→eqT P n t xs ys=some b→(Op.equalIn d t (valC P t xs) (valC P t ys)).run P w = .ok b w) ∧
  (∀(d:Nat) (l:List (TypeId×Nat)) (xs ys:List Value) (b:Bool) (w:World),n≤d→eqL P n l xs ys=some b →
   (qmW d xs ys l).run P w = .ok b w):=by
 intro n
 induction n with
 | zero=>exact⟨fun _ _ _ _ _ _ _ h=>by simp[eqT] at h,fun _ _ _ _ _ _ _ h=>by simp[eqL] at h⟩
 | succ n ih =>
  refine⟨?_,?_⟩
  ·intro d t xs ys b w hd h
   cases d with
   | zero=>omega
   | succ d =>
   simp only[eqT] at h
   cases hu:P.underlying t with
   | none=>rw[hu] at h;cases h
   | some D =>
    rw[hu] at h
    cases D<;>simp only at h<;>first | (cases h;done) | skip
    case bool =>
     split at h
     ·cases h;simp[valC,aggOf,hu,Op.equalIn,underlying,go_sem]
     ·cases h
    case int k =>
     split at h
     ·rename_i k1 a k2 c;by_cases hk:qas k1 k2=true
      ·simp only[hk,cond_true,Option.some.injEq] at h;subst h;obtain rfl:=qbp hk;simp[valC,aggOf,hu,Op.equalIn,underlying,go_sem]
      ·simp only[Bool.eq_false_iff.2 hk,cond_false] at h;cases h
     ·cases h
    case string =>
     split at h
     ·cases h;simp[valC,aggOf,hu,Op.equalIn,underlying,go_sem]
     ·cases h
    case struct fs =>
     by_cases hc:(P.stoodInHeld t||fs.toList.any (fun f=>f.name == "_"))=true
     ·simp only[hc,cond_true] at h;cases h
     ·simp only[Bool.eq_false_iff.2 hc,cond_false] at h;have hc':=Bool.eq_false_iff.2 hc;rw[Bool.or_eq_false_iff] at hc'
      have hfo:P.fieldsOf t=fs:=by simp[Program.fieldsOf,hu]
      have hs:=run_equalIn_struct (P:=P) w d t xs.toArray ys.toArray (by rw[hfo];exact hu) hc'.1;rw[hfo] at hs
      have hv:valC P t xs = .agg xs.toArray∧valC P t ys = .agg ys.toArray:=by simp[valC,aggOf,hu]
      rw[hv.1,hv.2,hs];have hf:=ih.2 d (fs.toList.map fun f=>(f.type,f.offset)) xs ys b w (by omega) h;rw[←hf];congr 1;have hnb:∀f∈fs.toList,f.name ≠ "_" := by
       intro f hf e;have:=hc'.2;rw[List.any_eq_false] at this;exact this f hf (by simp[e])
      generalize fs.toList=l at hnb
      induction l with
      | nil=>rfl
      | cons f l ihl =>
       simp only[Op.eqFields,List.map_cons,qmW];rw[if_pos (hnb f List.mem_cons_self),ihl (fun g hg=>hnb g (List.mem_cons_of_mem _ hg))]
    case array m e =>
     split at h
     ·rename_i i hi
      have hv:valC P t xs = .agg xs.toArray∧valC P t ys = .agg ys.toArray:=by simp[valC,aggOf,hu]
      rw[hv.1,hv.2];have hf:=ih.2 d ((List.range m).map fun j=>(e,j*i.size)) xs ys b w (by omega) h;rw[←hf]
      have hsz:(sizeOf e).run P w = .ok i.size w:=by simp[sizeOf,typeInfo,hi,go_sem]
      simp only[Op.equalIn,Sem.run_bind,run_underlying hu,Result.andThen_ok,hsz,Std.Legacy.Range.forIn_eq_forIn_range',Std.Legacy.Range.size,Nat.sub_zero,Nat.add_sub_cancel,Nat.div_one];rw[List.range_eq_range'];generalize 0=z;clear hf h hu hsz
      induction m generalizing z w with
      | zero=>simp[qmW]
      | succ m ihm =>
       rw[List.range'_succ];simp only[List.forIn_cons,List.map_cons,qmW,Sem.run_bind,Sem.run_ite];generalize (part e xs.toArray (z*i.size)).run P w=r1
       cases r1 with
       | ok a w1 =>
        simp only[Result.andThen_ok];generalize (part e ys.toArray (z*i.size)).run P w1=r2
        cases r2 with
        | ok b w2 =>
         simp only[Result.andThen_ok];generalize (Op.equalIn d e a b).run P w2=r3
         cases r3 with
         | ok r w3 =>
          cases r
          ·simp only[Result.andThen_ok,Bool.not_false,if_true,Sem.run_pure]
          ·simp only[Result.andThen_ok,Bool.not_true,Bool.false_eq_true,if_false,Sem.run_pure];exact ihm w3 (z+1)
         | halt x w3=>simp[Result.andThen]
        | halt x w2=>simp[Result.andThen]
       | halt x w1=>simp[Result.andThen]
     ·cases h
  ·intro d l xs ys b w hd h
   cases l with
   | nil=>simp only[eqL] at h;cases h;rfl
   | cons q l =>
    obtain⟨t,o⟩:=q;simp only[eqL] at h;split at h
    ·rename_i i hi ha;split at h
     ·rename_i c r h1 h2;cases h;have p1:=(qha (P:=P) (cs:=xs) (o:=o) hi w).1 ha;have p2:=(qha (P:=P) (cs:=ys) (o:=o) hi w).1 ha;have e1:=ih.1 d t _ _ c w (by omega) h1;have e2:=ih.2 d l xs ys r w (by omega) h2;simp only[valC,ha] at e1;simp only[qmW,Sem.run_bind,p1,p2,Result.andThen_ok,e1]
      cases c<;>simp[e2]
     ·cases h
    ·rename_i i hi ha;split at h
     ·rename_i c r h1 h2;cases h;obtain⟨u,v,hu,hv⟩:=eq_leaf ha h1;have p1:=(qha (P:=P) (cs:=xs) (o:=o) hi w).2 ha u hu;have p2:=(qha (P:=P) (cs:=ys) (o:=o) hi w).2 ha v hv;have e1:=ih.1 d t _ _ c w (by omega) h1;have e2:=ih.2 d l xs ys r w (by omega) h2;simp only[valC,ha,hu,hv,List.headD_cons] at e1;simp only[qmW,Sem.run_bind,p1,p2,Result.andThen_ok,e1]
      cases c<;>simp[e2]
     ·cases h
    ·cases h

def beqB:Bool→Bool→Bool
 | true,b=>b
 | false,b=>!b
section
variable {P : Program} {B : Code} {Q : Exit → Act → World → Prop} {C : World → Prop} {n : Nat} {ds : List (Nat × Dir)}

def bodyOf (fn:Func):Code:=fn.body.getD .skip

def qg5:List Value→Value
 | [v]=>v
 | vs => .tuple vs.toArray

theorem qfB {α β:Type} {P:Program} {w:World} (f:α→Sem β):∀(l:List α) (vs:List β),(∀(i:Nat) (x:α) (y:β),l[i]?=some x→vs[i]?=some y→(f x).run P w = .ok y w)→l.length=vs.length →
  (l.mapM f).run P w = .ok vs w
 | [],[],_,_=>by simp
 | x::l,y::vs,h,hl=>by
  have h0:=h 0 x y rfl rfl;have ih:=qfB f l vs (fun i a b ha hb=>h (i+1) a b ha hb) (by simpa using hl);simp[List.mapM_cons,h0,ih]
 | [],_::_,_,hl=>by cases hl
 | _::_,[],_,hl=>by cases hl

def qnG (tmps:Array Value):ResultVar→Sem Value
 | .tmp t=>pure (tmps.getD t undef)
 | .cell a t=>do loadVar t (←asAddr (tmps.getD a undef))

theorem qtO {α β:Type} (f:α→β) (xs:Array α):(xs.toList.map f).toArray=xs.map f:=by rw[←Array.toList_map,Array.toArray_toList]

end

def Blk (w:World) (b:Nat) (cs:List Value) (t:TypeId):Prop:=w.heap[b]?=some (.cells cs.toArray t (0,0))

variable [CT : Go.Den.Ctx]
structure Chg (ex:List Nat) (w w':World):Prop where
 os:w'.os=w.os
 tape:w'.tape=w.tape
 output:w'.output=w.output
 size:w.heap.size≤w'.heap.size
 block:∀k,k<w.heap.size→k∉ex→w'.heap[k]?=w.heap[k]?
 drawn:Go.Den.Ctx.drawsUp=true→w.drawn≤w'.drawn

theorem Chg.refl (ex:List Nat) (w:World):Chg ex w w:=⟨rfl,rfl,rfl,Nat.le_refl _,fun _ _ _=>rfl,fun _=>Nat.le_refl _⟩
theorem Chg.trans {l r:List Nat} {a b c:World} (h:Chg l a b) (g:Chg r b c):Chg (l++r) a c :=
 ⟨g.os.trans h.os,g.tape.trans h.tape,g.output.trans h.output,Nat.le_trans h.size g.size,fun k hk hn=>by
  simp only[List.mem_append,not_or] at hn
  exact(g.block k (Nat.lt_of_lt_of_le hk h.size) hn.2).trans (h.block k hk hn.1),fun e=>Nat.le_trans (h.drawn e) (g.drawn e)⟩
theorem Chg.toBelow {w w':World} (h:Chg [] w w'):RowKit.Below w.heap.size w w':=⟨h.os,h.tape,h.output,h.size,fun k hk=>h.block k hk (by simp)⟩
theorem Chg.drewN (w:World) (j:Nat):Chg [] w (w.drewN j):=⟨rfl,rfl,rfl,Nat.le_refl _,fun _ _ _=>rfl,fun _=>Nat.le_add_right _ _⟩
theorem Chg.mono {l r:List Nat} {w w':World} (h:Chg l w w') (hs:∀x∈l,x∈r):Chg r w w':=⟨h.os,h.tape,h.output,h.size,fun k hk hn=>h.block k hk (fun hm=>hn (hs k hm)),h.drawn⟩

theorem Blk.cell {w:World} {b:Nat} {cs:List Value} {t:TypeId} (h:Blk w b cs t) {i:Nat} {v:Value} (hi:cs[i]?=some v):w.cell? ⟨b,i,none⟩=some v:=by
 unfold Blk at h;simp[World.cell?,h,hi]
theorem Blk.cells {w:World} {b:Nat} {cs:List Value} {t:TypeId} (h:Blk w b cs t) (i m:Nat):CellsAt w ⟨b,i,none⟩ ((cs.drop i).take m):=by
 intro j v hv;have:cs[i+j]?=some v:=by
  rw[List.getElem?_take] at hv;split at hv
  ·simpa using hv
  ·cases hv
 have e:Addr.add ⟨b,i,none⟩ j=⟨b,i+j,none⟩:=by
  unfold Addr.add;split
  ·rename_i h0;simp
  ·rfl
 rw[e];exact h.cell this
section
variable {P : Program} {B : Code} {Q : Exit → Act → World → Prop} {n : Nat}

theorem qjk (w:World) (cs:Array Value) (t:TypeId):Blk (w.alloc (.cells cs t)) w.heap.size cs.toList t:=by
 show(w.heap.push _)[w.heap.size]?=_;simp
theorem qbJ (w:World) (o:Obj):(w.alloc o).heap.size=w.heap.size+1:=by
 show(w.heap.push _).size=_;simp
theorem qdj (w:World) (o:Obj):Chg [] w (w.alloc o):=⟨rfl,rfl,rfl,by rw[qbJ];omega,fun k hk _=>by
 show(w.heap.push _)[k]?=_
 rw[Array.getElem?_push,if_neg (by omega)],fun _=>Nat.le_refl _⟩

end

theorem adr_add (b i j:Nat):Addr.add ⟨b,i,none⟩ j=⟨b,i+j,none⟩:=by
 unfold Addr.add;split
 ·rename_i h0;simp[h0]
 ·rfl
theorem add_block (a:Addr) (j:Nat):(a.add j).block=a.block:=by unfold Addr.add;split<;>rfl
end Go.Eng
namespace Go.Eng
open Go.ChangeShapes Go.WideShapes Go.ChangeAt Go.RowKit

inductive Ty where
 | int (k:IntKind)
 | bool
 | str
 | sl (e:Ty)
 | nil
 | st (f:Ty) (r:Ty)

def D:Ty→Type
 | .int _=>Int
 | .bool=>Bool
 | .str=>ByteArray
 | .sl e=>Option Addr×Nat×List (D e)
 | .nil=>Unit
 | .st f r=>D f×D r

def Ty.size:Ty→Nat
 | .nil=>0
 | .st f r=>f.size+r.size
 | _=>1

def enc:(τ:Ty)→D τ→List Value
 | .int k,n=>[.int k n]
 | .bool,b=>[.bool b]
 | .str,s=>[.string s]
 | .sl _,(ao,cap,xs)=>[.slice ao xs.length cap]
 | .nil,_=>[]
 | .st f r,(x,y)=>enc f x++enc r y

def Ok (w:World):(τ:Ty)→D τ→Prop
 | .int k,n=>InR k n
 | .bool,_=>True
 | .str,s=>s.size≤maxLen
 | .sl e,(ao,cap,xs)=>xs.length≤cap∧cap≤maxLen∧∀i (h:i<xs.length),ao.isSome=true∧CellsAt w ((adr ao).add (i*e.size)) (enc e xs[i])∧Ok w e xs[i]
 | .nil,_=>True
 | .st f r,(x,y)=>Ok w f x∧Ok w r y

mutual
/-- the description fits the type -/
def fits (P:Program):Nat→Ty→TypeId→Bool
 | 0,_,_=>false
 | _+1,.int k,t=>match P.underlying t with | some (.int k')=>qas k k' | _=>false
 | _+1,.bool,t=>match P.underlying t with | some .bool=>true | _=>false
 | _+1,.str,t=>match P.underlying t with | some .string=>true | _=>false
 | n+1,.sl e,t=>match P.underlying t with | some (.slice u)=>Nat.beq (P.cellsOf u) e.size&&fits P n e u | _=>false
 | n+1,τ,t=>match P.underlying t with
  | some (.struct fs)=>Nat.beq (P.cellsOf t) τ.size&&fitsAll P n τ 0 (fs.toList.map fun f=>(f.type,f.offset))
  | some (.array m e)=>Nat.beq (P.cellsOf t) τ.size&&fitsAll P n τ 0 ((List.range m).map fun i=>(e,i*P.cellsOf e))
  | _=>false
def fitsAll (P:Program):Nat→Ty→Nat→List (TypeId×Nat)→Bool
 | 0,_,_,_=>false
 | _+1,.nil,_,[]=>true
 | n+1,.st f r,off,(t,o)::l=>Nat.beq o off&&(Nat.beq (P.cellsOf t) f.size&&(fits P n f t&&fitsAll P n r (off+f.size) l))
 | _+1,_,_,_=>false
end

theorem InR.of_wf {k:IntKind} {n:Int} (h:(Lit.int k n).wf=true):InR k n:=by
 cases k<;>simpa[Lit.wf,IntKind.min,IntKind.max,IntKind.signed,IntKind.bits,InR] using h

theorem enc_length:∀(τ:Ty) (x:D τ),(enc τ x).length=τ.size
 | .int _,_=>rfl
 | .bool,_=>rfl
 | .str,_=>rfl
 | .sl _,(_,_,_)=>rfl
 | .nil,_=>rfl
 | .st f r,(x,y)=>by simp[enc,Ty.size,enc_length f x,enc_length r y]

section
variable {H : Type} {ec : TypeId × Value → H} {P : Program} {w : World} {base : Nat} {sp : Nat → Bool} {held : Bool}

theorem qrR {α β:Type} {f:α→Option β}:∀ {l:List α} {ys:List β},l.mapM f=some ys→ys.length=l.length∧∀(i:Nat) (x:α),l[i]?=some x→∃y,f x=some y∧ys[i]?=some y
 | [],ys,h=>by simp at h;subst h;exact⟨rfl,fun i x hx=>by simp at hx⟩
 | a::l,ys,h=>by
  simp only[List.mapM_cons,Option.bind_eq_bind] at h
  cases ha:f a with
  | none=>rw[ha] at h;cases h
  | some b =>
   rw[ha] at h;simp only[Option.bind_some] at h
   cases hl:l.mapM f with
   | none=>rw[hl] at h;cases h
   | some r =>
    rw[hl] at h;cases h;obtain⟨e,ih⟩:=qrR hl;refine⟨by simp[e],fun i x hx=>?_⟩
    cases i with
    | zero=>simp at hx;subst hx;exact⟨b,ha,rfl⟩
    | succ i=>exact ih i x (by simpa using hx)

theorem cells_at {a:Addr}:∀ {m:Nat} {cs:List Value},w.cells? base a m=some cs→cs.length=m∧CellsAt w a cs:=by
 intro m cs h;unfold World.cells? at h;split at h
 ·obtain⟨e,hi⟩:=qrR h;refine⟨by simpa using e,fun j v hv=>?_⟩;have hj:j<m:=by
   rcases Nat.lt_or_ge j m with h1 | h1
   ·exact h1
   ·rw[List.getElem?_eq_none (by rw[e];simpa using h1)] at hv;cases hv
  obtain⟨y,h1,h2⟩:=hi j j (by simp[hj]);rw[hv] at h2;cases h2;exact h1
 ·cases h

theorem qd7 {α:Type} {l:List α} {i:Nat} (h:i<l.length):∃x,l[i]?=some x:=⟨l[i],by simp[h]⟩

theorem qmT {α:Type} {Q:Nat→α→Prop}:∀n:Nat,(∀i,i<n→∃x,Q i x)→∃l:List α,l.length=n∧∀(i:Nat) (h:i<l.length),Q i l[i]
 | 0,_=>⟨[],rfl,fun i h=>by simp at h⟩
 | n+1,h=>by
  obtain⟨l,e,hl⟩:=qmT n (fun i hi=>h i (by omega));obtain⟨x,hx⟩:=h n (by omega);refine⟨l++[x],by simp[e],fun i hi=>?_⟩;by_cases h2:i<l.length
  ·rw[List.getElem_append_left h2];exact hl i h2
  ·have:i=n:=by simp at hi;omega
   subst this
   have e2:(l++[x])[i]=x:=by simp[←e]
   rw[e2];exact hx

theorem qt5 {n:Nat}
  (ih:∀(τ:Ty) (off:Nat) (l:List (TypeId×Nat)) (cs:List Value),fitsAll P n τ off l=true →
   (∀q∈l,∃fuel x,DataW.trod ec P w base sp held fuel q.1 ((cs.drop q.2).take (P.cellsOf q.1))=some x)→cs.length=off+τ.size→∃y:D τ,cs.drop off=enc τ y∧Ok w τ y)
  {τ:Ty} {t:TypeId} {fuel:Nat} {cs:List Value} {x:DataW H×List MemPlace}
  (hf:(match P.underlying t with
   | some (.struct fs)=>Nat.beq (P.cellsOf t) τ.size&&fitsAll P n τ 0 (fs.toList.map fun f=>(f.type,f.offset))
   | some (.array m e)=>Nat.beq (P.cellsOf t) τ.size&&fitsAll P n τ 0 ((List.range m).map fun i=>(e,i*P.cellsOf e))
   | _=>false)=true) (h:DataW.trod ec P w base sp held fuel t cs=some x):∃y:D τ,cs=enc τ y∧Ok w τ y:=by
 split at hf
 ·rename_i fs hu;simp only[Bool.and_eq_true] at hf;obtain⟨xs,m,_,_,hl,hxs,hi⟩:=DataW.trod_struct hu h
  obtain⟨y,e,o⟩:=ih τ 0 _ cs hf.2 (fun q hq=>by
   obtain⟨f,hfm,rfl⟩:=List.mem_map.1 hq;obtain⟨i,hlt,hget⟩:=List.mem_iff_getElem.1 hfm
   have hfi:fs[i]?=some f:=by simp[←hget]
   have hlt2:i<xs.length:=by rw[hxs];simpa using hlt
   obtain⟨z,hz⟩:=qd7 hlt2
   exact⟨m,z,(hi i f hfi).trans hz⟩) (by rw[hl,qjE hf.1];omega)
  exact⟨y,by simpa using e,o⟩
 ·rename_i m e hu;simp only[Bool.and_eq_true] at hf;obtain⟨xs,fu,_,_,hl,hxs,hi⟩:=DataW.trod_array hu h
  obtain⟨y,e,o⟩:=ih τ 0 _ cs hf.2 (fun q hq=>by
   obtain⟨i,him,rfl⟩:=List.mem_map.1 hq;have him:=List.mem_range.1 him;obtain⟨z,hz⟩:=qd7 (l:=xs) (i:=i) (by omega)
   exact⟨fu,z,(hi i him).trans hz⟩) (by rw[hl,qjE hf.1];omega)
  exact⟨y,by simpa using e,o⟩
 ·cases hf

theorem open_both:∀n:Nat,
  (∀(τ:Ty) (t:TypeId) (fuel:Nat) (cs:List Value) (x:DataW H×List MemPlace),fits P n τ t=true→DataW.trod ec P w base sp held fuel t cs=some x→∃y:D τ,cs=enc τ y∧Ok w τ y) ∧
  (∀(τ:Ty) (off:Nat) (l:List (TypeId×Nat)) (cs:List Value),fitsAll P n τ off l=true →
   (∀q∈l,∃fuel x,DataW.trod ec P w base sp held fuel q.1 ((cs.drop q.2).take (P.cellsOf q.1))=some x)→cs.length=off+τ.size→∃y:D τ,cs.drop off=enc τ y∧Ok w τ y):=by
 intro n
 induction n with
 | zero=>exact⟨fun τ t _ _ _ h=>by simp[fits] at h,fun τ _ _ _ h=>by simp[fitsAll] at h⟩
 | succ n ih =>
  refine⟨?_,?_⟩
  ·intro τ t fuel cs x hf h
   cases τ with
   | int k =>
    simp only[fits] at hf;split at hf
    ·rename_i k' hu;obtain rfl:=qbp hf;obtain⟨m,rfl,_,hw⟩:=DataW.trod_int hu h;exact⟨m,rfl,InR.of_wf hw⟩
    ·cases hf
   | bool =>
    simp only[fits] at hf;split at hf
    ·rename_i hu;obtain⟨b,rfl,_⟩:=DataW.trod_bool hu h;exact⟨b,rfl,trivial⟩
    ·cases hf
   | str =>
    simp only[fits] at hf;split at hf
    ·rename_i hu;obtain⟨s,rfl,_,hs⟩:=DataW.trod_string hu h;exact⟨s,rfl,hs⟩
    ·cases hf
   | sl e =>
    simp only[fits] at hf;split at hf
    ·rename_i u hu;simp only[Bool.and_eq_true] at hf;have hsz:=qjE hf.1;rcases DataW.trod_slice hu h with ⟨rfl,_⟩ | ⟨a,len,cap,elems,rest,m,_,rfl,_,_,hl,hm,hlen,hel,_,_⟩
     ·exact⟨(none,0,[]),rfl,Nat.le_refl _,Nat.zero_le _,fun i hi=>absurd hi (Nat.not_lt_zero _)⟩
     ·have hex:∀i,i<len→∃z:D e,CellsAt w (a.add (i*e.size)) (enc e z)∧Ok w e z:=by
       intro i hi;have h1:=hel i hi;obtain⟨z,hz⟩:=qd7 (l:=elems) (i:=i) (by omega);rw[hz] at h1
       cases hc:w.cells? base (a.add (i*P.cellsOf u)) (P.cellsOf u) with
       | none=>rw[hc] at h1;cases h1
       | some us =>
        rw[hc] at h1;simp only[Option.bind_some] at h1;obtain⟨y,rfl,hy⟩:=ih.1 e u m us z hf.2 h1;rw[hsz] at hc;exact⟨y,(cells_at hc).2,hy⟩
      obtain⟨xs,hx,hq⟩:=qmT len hex;subst hx;exact⟨(some a,cap,xs),rfl,hl,hm,fun i hi=>⟨rfl,hq i hi⟩⟩
    ·cases hf
   | nil=>simp only[fits] at hf;exact qt5 ih.2 hf h
   | st f r=>simp only[fits] at hf;exact qt5 ih.2 hf h
  ·intro τ off l cs hf hq hl
   cases τ with
   | nil =>
    cases l with
    | nil =>
     refine⟨(),?_,trivial⟩;simp only[Ty.size,Nat.add_zero] at hl;rw[←hl];exact List.drop_length
    | cons _ _=>simp[fitsAll] at hf
   | st f r =>
    cases l with
    | nil=>simp[fitsAll] at hf
    | cons q l =>
     obtain⟨t,o⟩:=q;simp only[fitsAll,Bool.and_eq_true] at hf;obtain⟨h1,h2,h3,h4⟩:=hf;have e1:=qjE h1;have e2:=qjE h2;subst e1;obtain⟨fuel,x,hx⟩:=hq (t,o) List.mem_cons_self;simp only at hx;rw[e2] at hx;obtain⟨y,ey,oy⟩:=ih.1 f t fuel _ x h3 hx;simp only[Ty.size] at hl;obtain⟨z,ez,oz⟩:=ih.2 r (o+f.size) l cs h4 (fun q hm=>hq q (List.mem_cons_of_mem _ hm)) (by omega);refine⟨(y,z),?_,oy,oz⟩;simp only[enc];rw[←ey,←ez,←List.drop_drop];rw[List.take_append_drop]
   | int k=>cases l<;>simp[fitsAll] at hf
   | bool=>cases l<;>simp[fitsAll] at hf
   | str=>cases l<;>simp[fitsAll] at hf
   | sl e=>cases l<;>simp[fitsAll] at hf

theorem open_arg {τ:Ty} {t:TypeId} {v:Value} {d:DataW H} {ps:List MemPlace} (n:Nat) (hf:fits P n τ t=true) (h:DataW.Trod ec P w base sp held t v d ps):∃y:D τ,v.cells.toList=enc τ y∧Ok w τ y:=by
 obtain⟨fuel,h⟩:=h;exact(open_both n).1 τ t fuel _ _ hf h
end

theorem qhf {P:Program} {W:World} {r:Reach} {base:Nat} {t:TypeId} {v u:Value} (h:Value.okWide P W r base t v) (ha:aggOf P t=some false) (hc:v.cells.toList=[u]):v=u:=by
 unfold aggOf at ha;unfold Value.okWide at h
 cases hu:P.underlying t with
 | none=>rw[hu] at ha;cases ha
 | some d =>
  rw[hu] at h ha
  cases v with
  | agg cs=>exfalso;cases d<;>simp_all [Cell.okWide,Cell.ok]
  | _=>simpa[Value.cells] using hc
theorem qqB {P:Program} {W:World} {r:Reach} {base:Nat} {t:TypeId} {v:Value} {cs:List Value} (h:Value.okWide P W r base t v) (ha:aggOf P t=some true) (hc:v.cells.toList=cs):v = .agg cs.toArray:=by
 unfold aggOf at ha;unfold Value.okWide at h
 cases hu:P.underlying t with
 | none=>rw[hu] at ha;cases ha
 | some d =>
  rw[hu] at h ha
  cases d<;>first | (cases ha;done) | skip
  all_goals
   obtain⟨us,rfl,_,_⟩:=h;simp only[Value.cells] at hc;rw[←hc]

def handV:(τ:Ty)→D τ→Value
 | .nil,_ => .agg #[]
 | .st f r,x => .agg (enc (.st f r) x).toArray
 | .int k,n => .int k n
 | .bool,b => .bool b
 | .str,s => .string s
 | .sl _,(ao,cap,xs) => .slice ao xs.length cap
def qih:Ty→Bool
 | .nil=>true
 | .st _ _=>true
 | _=>false
theorem open_val {H:Type} {ec:TypeId×Value→H} {P:Program} {w:World} {base b:Nat} {sp:Nat→Bool} {held:Bool} {r:Reach} (τ:Ty) {t:TypeId} {v:Value} {d:DataW H} {ps:List MemPlace}
  (hf:(fits P 30 τ t&&(match aggOf P t with | some a=>beqB a (qih τ) | none=>false))=true) (hv:Value.okWide P w r b t v) (h:DataW.Trod ec P w base sp held t v d ps):∃y:D τ,v=handV τ y∧Ok w τ y:=by
 simp only[Bool.and_eq_true] at hf;obtain⟨y,hc,ho⟩:=open_arg 30 hf.1 h;refine⟨y,?_,ho⟩;have h2:=hf.2;split at h2
 ·rename_i a ha
  cases τ with
  | nil =>
   have:a=true:=by cases a<;>simp_all [beqB,qih]
   subst this;rw[qqB hv ha hc];rfl
  | st f r =>
   have:a=true:=by cases a<;>simp_all [beqB,qih]
   subst this;rw[qqB hv ha hc];rfl
  | int k =>
   have:a=false:=by cases a<;>simp_all [beqB,qih]
   subst this;exact qhf hv ha hc
  | bool =>
   have:a=false:=by cases a<;>simp_all [beqB,qih]
   subst this;exact qhf hv ha hc
  | str =>
   have:a=false:=by cases a<;>simp_all [beqB,qih]
   subst this;exact qhf hv ha hc
  | sl e =>
   have:a=false:=by cases a<;>simp_all [beqB,qih]
   subst this;obtain⟨ao,cap,xs⟩:=y;exact qhf hv ha hc
 ·cases h2

section
variable {H : Type} {ec : TypeId × Value → H} {P : Program}

def qqp (P:Program):List TypeId→Bool
 | []=>true
 | t::r=>(P.readableRec t&&Nat.blt t P.types.size)&&qqp P r

theorem qi6 (hl:laidOutB P=true) {W W':World} (bel:Below W.heap.size W W'):∀(ts:List TypeId) (vs:List Value) (ds:List (DataW H)) (p:List MemPlace),qqp P ts=true →
  DataW.TrodAll ec P W 0 (fun _=>true) true ts vs ds p→DataW.TrodAll ec P W' 0 (fun b=>decide (b<W.heap.size)) true ts vs ds p
 | [],[],[],p,_,h=>h
 | t::ts,v::vs,d::ds,ps,hr,⟨p,q,h1,h2,e⟩=>by
  simp only[qqp,Bool.and_eq_true] at hr
  have lt:∀x∈p,x.block<W.heap.size:=by obtain⟨m,hm⟩:=h1;exact DataW.trod_lt m _ _ _ hm
  exact⟨p,q,Below.trod hl hr.1.1 (by simpa[Nat.blt_eq] using hr.1.2) h1 bel lt,qi6 hl bel ts vs ds q hr.2 h2,e⟩

theorem law_post {s:ChangeSpec} {fn:Func} {tb:TypeId} (hl:laidOutB P=true) (hr:qqp P fn.params.toList=true) (hres:fn.resultTypes = #[tb]) (hb:P.underlying tb=some .bool) (hv:s.vars=[])
  {W W':World} {args:Array Value} {ds gs:List (DataW H)} {before:List MemPlace}
  (hs:s.fn H (ds++gs)={ results:=[.lit (.bool true)],args:=ds })
  (hW:DataW.Whole ec P fn.params.toList s.vars false W args.toList ds gs before) (bel:Below W.heap.size W W') :
  s.post ec P fn false true false false W args (.bool true) W':=by
 obtain⟨p,q,hA,hV,hps,h1,h2⟩:=hW;refine⟨ds,gs,before,[],p,[],⟨p,q,hA,hV,hps,h1,h2⟩,?_,?_,?_,bel.frame _,fun h=>by cases h⟩
 ·rw[hs,hres];exact trodAll_mk1 (shut_bool hb true)
 ·rw[hs];exact qi6 hl bel _ _ _ _ hr hA
 ·rw[hv,hs];rfl
end
end Go.Eng
namespace Go.Den
open Go.Eng
set_option linter.unusedVariables false
set_option linter.unusedSectionVars false

inductive Ty where
 | int (k:IntKind)
 | bool
 | str
 | sl (e:Ty)
 | osl (i:TypeId) (e:Ty)
 | obx (e:Ty)
 | onl (i:TypeId) (e:Ty)
 | err
 | bld (t i:TypeId)
 | nil
 | st (f r:Ty)
 | ref
 | ifc (t:TypeId) (e:Ty)
 | omp (k v:Ty)
 | hrl (i:TypeId) (p q:Ty) (j:TypeId) (b:Bool)
 deriving DecidableEq
abbrev HoleT:Bool→Type
 | false=>Unit
 | true=>Nat×Option (List Int)
def hOpt:(b:Bool)→HoleT b→Option (Nat×Option (List Int))
 | false,_=>none
 | true,h=>some h
def dfltH:(b:Bool)→HoleT b
 | false=>()
 | true=>(0,none)

def D:Ty→Type
 | .int _=>Int
 | .bool=>Bool
 | .str=>ByteArray
 | .sl e=>List (D e)
 | .osl _ e=>List (D e)
 | .obx e=>D e
 | .onl _ e=>Option (List (D e))
 | .err=>Bool
 | .bld _ _=>List Int
 | .nil=>Unit
 | .st f r=>D f×D r
 | .ref=>Nat
 | .ifc _ e=>D e
 | .omp k v=>List (D k×D v)
 | .hrl _ p q _ b=>List (D p×List Int×D q)×HoleT b
def Ty.size:Ty→Nat
 | .nil=>0
 | .st f r=>f.size+r.size
 | _=>1
def dflt:(τ:Ty)→D τ
 | .int _=>(0:Int)
 | .bool=>false
 | .str=>ByteArray.empty
 | .sl _=>[]
 | .osl _ _=>[]
 | .obx e=>dflt e
 | .onl _ _=>none
 | .err=>false
 | .bld _ _=>([]:List Int)
 | .nil=>()
 | .st f r=>(dflt f,dflt r)
 | .ref=>(0:Nat)
 | .ifc _ e=>dflt e
 | .omp _ _=>[]
 | .hrl _ _ _ _ b=>([],dfltH b)
def Ty.flat:Ty→Bool
 | .sl _=>false
 | .osl _ _=>false
 | .obx _=>false
 | .onl _ _=>false
 | .err=>false
 | .bld _ _=>false
 | .ref=>false
 | .ifc _ _=>false
 | .omp _ _=>false
 | .hrl _ _ _ _ _=>false
 | .st f r=>f.flat&&r.flat
 | _=>true
def Ty.fresh:Ty→Bool
 | .sl _=>false
 | .osl _ e=>e.flat
 | .obx e=>e.fresh
 | .onl _ e=>e.flat
 | .ref=>false
 | .ifc _ _=>false
 | .omp _ _=>false
 | .hrl _ _ _ _ _=>false
 | .st f r=>f.fresh&&r.fresh
 | _=>true
def Ty.pure:Ty→Bool
 | .osl _ _=>false
 | .obx _=>false
 | .onl _ _=>false
 | .bld _ _=>false
 | .omp _ _=>false
 | .hrl _ _ _ _ _=>false
 | .sl e=>e.pure
 | .st f r=>f.pure&&r.pure
 | _=>true
def Ty.isAgg:Ty→Bool
 | .nil=>true
 | .st _ _=>true
 | _=>false
def eT (p q:Ty):Ty := .st p (.st (.sl (.int .i64)) q)
abbrev El (p q:Ty):Type:=D p×List Int×D q
def DL:List Ty→Type
 | []=>Unit
 | τ::r=>D τ×DL r

inductive Cv where
 | v (x:Value)
 | sl (e:Ty) (xs:List (D e))
 | os (o:Nat)
 | ptr (o off:Nat)
 | fn (f:FuncId) (caps:List (Nat×Nat))
 | e0
 | er (b:Bool)
 | rf (x:Nat)
 | ifc (t:TypeId) (e:Ty) (x:D e)
 | mp (o:Nat)
inductive PW where
 | c (x:Cv)
 | agg (l:List Cv)
inductive PV where
 | c (x:Cv)
 | agg (l:List Cv)
 | tup (l:List PW)
 | rp (l:List Cv)
 | ep (o sz i off:Nat)
 | pa (o off sz cnt inner:Nat) (i:Int)
 | vw (o sz lo n:Nat)
 | ra (x sz j off:Nat)
inductive OB where
 | box (l:List Cv)
 | arr (i:TypeId) (e:Ty) (xs:List (D e)) (fz:Bool)
 | dead
 | bld (t:TypeId) (c:Cv)
 | mbr (i:TypeId) (e:Ty) (x:Option (List (D e)))
 | nilr
 | fbx (l:List Cv)
 | mp (k v:Ty) (xs:List (D k×D v))
 | ar (t:TypeId) (p:Ty) (ow:Option TypeId) (xs:List (D p×Option (List Nat))) (lent:Option Nat)
 | hr (i:TypeId) (p q:Ty) (j:TypeId) (xs:List (D p×List Int×D q)) (hole:Option (Nat×Nat))

abbrev Tag:=List (Nat×Bool)
abbrev Slots:=List (Nat×Option (Tag×PV))
structure AState where
 n:Nat
 slots:Slots
 objs:List OB
 prS:Nat
 prO:Nat
 gs:Nat
 known:Tag

def get:Slots→Nat→Option (Tag×PV)
 | [],_=>none
 | (i,e)::r,t=>bif Nat.beq i t then e else get r t
def memT:Nat×Bool→Tag→Bool
 | _,[]=>false
 | x,y::r=>(Nat.beq x.1 y.1&&beqB x.2 y.2)||memT x r
def bitB (m d:Nat):Bool:=Nat.beq (Nat.land (Nat.shiftRight m d) 1) 1
def names (d:Nat):Tag→Bool
 | []=>false
 | x::r=>Nat.beq x.1 d||names d r
def chk {α:Type} (b:Bool) (x:Option α):Option α:=bif b then x else none
def subT (kn:Tag):Tag→Tag→Bool
 | [],_=>true
 | x::r,t=>(memT x kn||memT x t)&&subT kn r t
def falsT (kn:Tag):Tag→Bool
 | []=>false
 | x::r=>memT (x.1,!x.2) kn||falsT kn r
def simpT (kn:Tag):Tag→Tag
 | []=>[]
 | x::r=>bif memT x kn then simpT kn r else x::simpT kn r

def tabGet:List (Nat×List Value)→Nat→Option (List Value)
 | [],_=>none
 | (i,cs)::r,g=>bif Nat.beq i g then some cs else tabGet r g
def tabOf [CT:Ctx] (g:Nat):Option (List Value):=tabGet Ctx.tabs g
def AState.put (σ:AState) (d:Nat) (tg:Tag) (pv:PV):Option AState :=
 chk (Nat.blt d σ.n&&(!bitB σ.prS d&&(!bitB σ.gs d && !names d tg))) (some { σ with slots:=(d,some (tg,pv))::σ.slots })
def AState.putO (σ:AState) (d:Option Nat) (tg:Tag) (pv:PV):Option AState:=match d with
 | some d=>σ.put d tg pv
 | none=>some σ
def endS:Slots→Slots
 | []=>[]
 | (i,some ([],pv))::r=>(i,some ([],pv))::endS r
 | (i,_)::r=>(i,none)::endS r
def AState.endR (σ:AState):AState:={ σ with slots:=endS σ.slots,gs:=0,known:=[] }

def cvs:List Value→List Cv
 | []=>[]
 | v::r => .v v::cvs r
def qpN:Value→PV
 | .agg cs => .agg (cvs cs.toList)
 | v => .c (.v v)
def ev [CT:Ctx] (σ:AState) (tg:Tag):Operand→Option PV
 | .tmp t=>(get σ.slots t).bind fun e=>chk (subT σ.known e.1 tg) (some e.2)
 | .const v=>some (qpN v)
 | .func f=>some (.c (.fn f []))
 | .global g=>(tabOf g).bind fun cs=>some (.rp (cvs cs))
def evs [CT:Ctx] (σ:AState) (tg:Tag):List Operand→Option (List PV)
 | []=>some []
 | x::r=>(ev σ tg x).bind fun v=>(evs σ tg r).bind fun vs=>some (v::vs)

def qrw:List Cv→Option (List Value)
 | []=>some []
 | .v x::r=>(qrw r).bind fun vs=>some (x::vs)
 | _::_=>none
def plain:PV→Option Value
 | .c (.v x)=>some x
 | .agg l=>(qrw l).bind fun vs=>some (.agg vs.toArray)
 | _=>none
def rho [CT:Ctx] (σ:AState) (tg:Tag) (x:Operand):Value:=((ev σ tg x).bind plain).getD undef
def qlX [CT:Ctx] (σ:AState) (tg:Tag):List Operand→Bool
 | []=>true
 | x::r=>((ev σ tg x).bind plain).isSome&&qlX σ tg r

def asV:PV→Option Value
 | .c (.v x)=>some x
 | _=>none
def asInt:PV→Option (IntKind×Int)
 | .c (.v (.int k n))=>some (k,n)
 | _=>none
def asBool:PV→Option Bool
 | .c (.v (.bool b))=>some b
 | _=>none
def asStr:PV→Option ByteArray
 | .c (.v (.string s))=>some s
 | _=>none
def asAgg:PV→Option (List Cv)
 | .agg l=>some l
 | _=>none
def asTup:PV→Option (List PW)
 | .tup l=>some l
 | _=>none
def asC:PV→Option Cv
 | .c x=>some x
 | _=>none
def asFn:PV→Option (FuncId×List (Nat×Nat))
 | .c (.fn f l)=>some (f,l)
 | _=>none

def castL (e e':Ty) (xs:List (D e')):Option (List (D e)):=if h:e'=e then some (h▸xs) else none
def ofSl (e:Ty) (objs:List OB):Cv→Option (List (D e))
 | .sl e' xs=>castL e e' xs
 | .os o=>(objs[o]?).bind fun
  | .arr _ e' xs _=>castL e e' xs
  | .hr _ p q _ xs none=>castL e (eT p q) xs
  | _=>none
 | .v (.slice none 0 0)=>some []
 | .e0=>some []
 | _=>none
def ofOsl (i:TypeId) (e:Ty) (objs:List OB):Cv→Option (List (D e))
 | .os o=>(objs[o]?).bind fun
  | .arr i' e' xs false=>chk (Nat.beq i' i) (castL e e' xs)
  | .nilr=>some []
  | _=>none
 | .v (.slice none 0 0)=>some []
 | .e0=>some []
 | _=>none
def castO (e e':Ty) (x:Option (List (D e'))):Option (Option (List (D e))):=if h:e'=e then some (h▸x) else none
def ofOnl (i:TypeId) (e:Ty) (objs:List OB):Cv→Option (Option (List (D e)))
 | .os o=>(objs[o]?).bind fun
  | .arr i' e' xs false=>chk (Nat.beq i' i) ((castL e e' xs).bind fun ys=>some (some ys))
  | .mbr i' e' x=>chk (Nat.beq i' i) (castO e e' x)
  | .nilr=>some none
  | _=>none
 | .v (.slice none 0 0)=>some none
 | _=>none
def cv1:List Cv→Option Cv
 | [c]=>some c
 | _=>none
def cvInt (k:IntKind):Cv→Option Int
 | .v (.int k' n)=>chk (qas k k') (some n)
 | _=>none
def qsk:Cv→Option Bool
 | .v (.bool b)=>some b
 | _=>none
def cvStr:Cv→Option ByteArray
 | .v (.string s)=>some s
 | _=>none
def cvErr:Cv→Option Bool
 | .er b=>some b
 | .v .nilIface=>some false
 | _=>none
def cvRef:Cv→Option Nat
 | .rf x=>some x
 | .v (.slice none 0 0)=>some 0
 | _=>none
def castD (e e':Ty) (x:D e'):Option (D e):=if h:e'=e then some (h▸x) else none
def cvIfc (t:TypeId) (e:Ty):Cv→Option (D e)
 | .ifc t' e' x=>chk (Nat.beq t' t) (castD e e' x)
 | _=>none
def castM (k v k' v':Ty) (xs:List (D k'×D v')):Option (List (D k×D v)):=if h:k'=k∧v'=v then some (h.1▸h.2▸xs) else none
def ofMp (k v:Ty) (objs:List OB):Cv→Option (List (D k×D v))
 | .mp o=>(objs[o]?).bind fun
  | .mp k' v' xs=>castM k v k' v' xs
  | _=>none
 | _=>none
def castX (p q p' q':Ty) (xs:List (El p' q')):Option (List (El p q)):=if h:p'=p∧q'=q then some (h.1▸h.2▸xs) else none
def ofHr (i:TypeId) (p q:Ty) (j:TypeId) (b:Bool) (objs:List OB):Cv→Option (List (El p q)×HoleT b)
 | .os o=>(objs[o]?).bind fun
  | .hr i' p' q' j' xs hole=>chk (Nat.beq i' i&&Nat.beq j' j) ((castX p q p' q' xs).bind fun ys=>match b,hole with
   | false,none=>some (ys,())
   | true,some (k,r)=>(ofOnl j (.int .i64) objs (.os r)).bind fun x=>some (ys,(k,x))
   | _,_=>none)
  | _=>none
 | _=>none
def hrId (objs:List OB):Cv→List Nat
 | .os o=>match objs[o]? with
  | some (.hr _ _ _ _ _ (some (_,r)))=>[o,r]
  | _=>[o]
 | _=>[]
def cv0:List Cv→Option Unit
 | []=>some ()
 | _=>none
def mpId:Cv→List Nat
 | .mp o=>[o]
 | _=>[]
def osId:Cv→List Nat
 | .os o=>[o]
 | _=>[]
def ownB (objs:List OB):List Cv→Option (List Cv)
 | [.ptr o off]=>match objs[o]? with
  | some (.box l)=>bif Nat.beq off 0 then some l else none
  | _=>none
 | _=>none
def bldC (objs:List OB) (t:TypeId):List Cv→Option Cv
 | [.ptr o off]=>match objs[o]? with
  | some (.bld t' c)=>bif Nat.beq off 0&&Nat.beq t' t then some c else none
  | _=>none
 | _=>none
def toD (objs:List OB):(τ:Ty)→List Cv→Option (D τ)
 | .int k,cs=>(cv1 cs).bind (cvInt k)
 | .bool,cs=>(cv1 cs).bind qsk
 | .str,cs=>(cv1 cs).bind cvStr
 | .sl e,cs=>(cv1 cs).bind (ofSl e objs)
 | .osl i e,cs=>(cv1 cs).bind (ofOsl i e objs)
 | .obx e,cs=>(ownB objs cs).bind fun l=>toD objs e l
 | .onl i e,cs=>(cv1 cs).bind (ofOnl i e objs)
 | .err,cs=>(cv1 cs).bind cvErr
 | .bld t i,cs=>(bldC objs t cs).bind fun c=>ofOsl i (.int .u8) objs c
 | .nil,cs=>cv0 cs
 | .ref,cs=>(cv1 cs).bind cvRef
 | .ifc t e,cs=>(cv1 cs).bind (cvIfc t e)
 | .omp k v,cs=>(cv1 cs).bind (ofMp k v objs)
 | .hrl i p q j b,cs=>(cv1 cs).bind (ofHr i p q j b objs)
 | .st f r,cs=>(toD objs f (cs.take f.size)).bind fun x=>(toD objs r (cs.drop f.size)).bind fun y=>some (x,y)
def idsD (objs:List OB):Ty→List Cv→List Nat
 | .sl _,cs=>(cv1 cs).elim [] osId
 | .obx e,cs=>idsD objs e ((ownB objs cs).getD [])
 | .st f r,cs=>idsD objs f (cs.take f.size)++idsD objs r (cs.drop f.size)
 | _,_=>[]
def ptrId:List Cv→List Nat
 | [.ptr o _]=>[o]
 | _=>[]
def idsO (objs:List OB):Ty→List Cv→List Nat
 | .osl _ _,cs=>(cv1 cs).elim [] osId
 | .onl _ _,cs=>(cv1 cs).elim [] osId
 | .obx e,cs=>ptrId cs++idsO objs e ((ownB objs cs).getD [])
 | .bld t _,cs=>ptrId cs++(bldC objs t cs).elim [] osId
 | .omp _ _,cs=>(cv1 cs).elim [] mpId
 | .hrl _ _ _ _ _,cs=>(cv1 cs).elim [] (hrId objs)
 | .st f r,cs=>idsO objs f (cs.take f.size)++idsO objs r (cs.drop f.size)
 | _,_=>[]
def cellsOf:(τ:Ty)→D τ→List Cv
 | .int k,n=>[.v (.int k n)]
 | .bool,b=>[.v (.bool b)]
 | .str,s=>[.v (.string s)]
 | .sl e,xs=>[.sl e xs]
 | .osl _ e,xs=>[.sl e xs]
 | .obx _,_=>[.e0]
 | .onl _ _,_=>[.e0]
 | .err,b=>[.er b]
 | .bld _ _,_=>[.e0]
 | .nil,_=>[]
 | .ref,x=>[.rf x]
 | .ifc t e,x=>[.ifc t e x]
 | .omp _ _,_=>[.e0]
 | .hrl _ _ _ _ _,_=>[.e0]
 | .st f r,x=>cellsOf f x.1++cellsOf r x.2
def cc:(τ:Ty)→D τ→Nat→List Cv×List OB
 | .osl i e,xs,n=>([.os n],[.arr i e xs false])
 | .obx e,x,n=>([.ptr n 0],.box (cc e x (n+1)).1::(cc e x (n+1)).2)
 | .onl i e,x,n=>([.os n],[.mbr i e x])
 | .err,b,_=>([.er b],[])
 | .bld t i,xs,n=>([.ptr n 0],[.bld t (.os (n+1)),.arr i (.int .u8) xs false])
 | .st f r,x,n=>((cc f x.1 n).1++(cc r x.2 (n+(cc f x.1 n).2.length)).1,(cc f x.1 n).2++(cc r x.2 (n+(cc f x.1 n).2.length)).2)
 | .int k,n,_=>([.v (.int k n)],[])
 | .bool,b,_=>([.v (.bool b)],[])
 | .str,s,_=>([.v (.string s)],[])
 | .sl e,xs,_=>([.sl e xs],[])
 | .nil,_,_=>([],[])
 | .ref,x,_=>([.rf x],[])
 | .ifc t e,x,_=>([.ifc t e x],[])
 | .omp k v,xs,n=>([.mp n],[.mp k v xs])
 | .hrl i p q j b,x,n=>([.os n],.hr i p q j x.1 ((hOpt b x.2).map fun h=>(h.1,n+1))::(match hOpt b x.2 with | none=>[] | some h=>[.mbr j (.int .i64) h.2]))
def qgP (agg:Bool) (l:List Cv):PV:=bif agg then .agg l else match l with
 | [c] => .c c
 | _ => .agg l
def pwCells (agg:Bool) (l:List Cv):PW:=bif agg then .agg l else match l with
 | [c] => .c c
 | _ => .agg l
def quM:Cv→Bool
 | .v x=>x.oneCell'
 | _=>true
def qbb:PV→Option (List Cv)
 | .c x=>chk (quM x) (some [x])
 | .agg l=>some l
 | _=>none

def qkb:PV→Bool
 | .agg _=>true
 | _=>false
def memN (o:Nat):List Nat→Bool
 | []=>false
 | p::r=>Nat.beq p o||memN o r
def qmO:List Nat→Bool
 | []=>true
 | p::r=>!memN p r&&qmO r
def getD' {α:Type} (xs:List α) (i:Nat) (d:α):α:=xs.getD i d
def qiW:List OB→Nat→List Nat
 | [],_=>[]
 | .ar _ _ _ _ _::r,n=>n::qiW r (n+1)
 | _::r,n=>qiW r (n+1)
def arOf (objs:List OB):Option Nat:=match qiW objs 0 with
 | [o]=>some o
 | _=>none
def nodeT [CT:Ctx] (t:TypeId):Bool:=match Ctx.node with
 | some n=>Nat.beq n t
 | none=>false
abbrev Ents (p:Ty):Type:=List (D p×Option (List Nat))
def castE (p p':Ty) (xs:Ents p'):Option (Ents p):=if h:p'=p then some (h▸xs) else none
def ndP {A:Type} (xs:List (A×Option (List Nat))) (d:A) (x:Nat):A:=(getD' xs (x-1) (d,none)).1
def setP {A:Type} (xs:List (A×Option (List Nat))) (d:A) (x:Nat) (v:A):List (A×Option (List Nat)):=xs.set (x-1) (v,(getD' xs (x-1) (d,none)).2)
def addP {A:Type} (xs:List (A×Option (List Nat))) (v:A):List (A×Option (List Nat)):=xs++[(v,none)]
def lnP {A:Type} (xs:List (List A×Option (List Nat))) (x:Nat):Nat:=bif Nat.blt 0 x then(ndP xs [] x).length else 0
def beqO:Option Nat→Option Nat→Bool
 | none,none=>true
 | some a,some b=>Nat.beq a b
 | _,_=>false
def qmo (prO:Nat) (objs:List OB) (o:Nat):Option (List OB):=(objs[o]?).bind fun
 | .arr i e xs false=>chk (!bitB prO o) (some (objs.set o (.arr i e xs true)))
 | .arr _ _ _ true=>some objs
 | _=>none
def qaA (prO:Nat):List OB→List Nat→Option (List OB)
 | objs,[]=>some objs
 | objs,o::r=>(qmo prO objs o).bind fun objs'=>qaA prO objs' r

def eqI (a b:Int):Bool:=a==b
def eqS (a b:ByteArray):Bool:=a==b
def keyB:(k:Ty)→D k→D k→Bool
 | .int _=>eqI
 | .str=>eqS
 | _=>fun _ _=>false
def keyT:Ty→Bool
 | .int _=>true
 | .str=>true
 | _=>false
def req {α:Type} (b:Bool) (x:Option α):Option α:=bif b then x else none
def imp (g b:Bool):Bool:=bif g then b else true
def at? {α:Type} (xs:List α) (i:Int):Option α:=bif decide (0≤i) then xs[i.toNat]? else none
def gopt {α:Type} (g:Bool) (d:α) (x:Option α):Option α:=bif g then x else some d
def gat {α:Type} (g:Bool) (d:α) (xs:List α) (i:Int):Option α:=bif g then at? xs i else some d
def inb (i:Int) (n:Nat):Bool:=decide (0≤i)&&decide (i<(n:Int))
def room (n bytes:Nat):Bool:=Nat.ble (n*bytes) 140737488355328
def w64 (n:Int):Int:=IntKind.wrap .i64 n
def wu64 (n:Int):Int:=IntKind.wrap .u64 n
def iand (k:IntKind) (a b:Int):Int:=k.wrap ((BitVec.ofInt k.bits a &&& BitVec.ofInt k.bits b).toNat:Int)
def ior (k:IntKind) (a b:Int):Int:=k.wrap ((BitVec.ofInt k.bits a ||| BitVec.ofInt k.bits b).toNat:Int)
def iterN {T α:Type} (f:T→Option (T ⊕ α)):Nat→T→Option α
 | 0,_=>none
 | n+1,x=>match f x with
  | none=>none
  | some (.inl y)=>iterN f n y
  | some (.inr r)=>some r
open Classical in
noncomputable def iterW {T α:Type} (f:T→Option (T ⊕ α)) (x:T):Option α:=if h:∃n,(iterN f n x).isSome=true then iterN f (Classical.choose h) x else none
def fixN {T α:Type} (F:(T→Option α)→T→Option α):Nat→T→Option α
 | 0,_=>none
 | n+1,x=>F (fixN F n) x
open Classical in
noncomputable def fixW {T α:Type} (F:(T→Option α)→T→Option α) (x:T):Option α:=if h:∃n,(fixN F n x).isSome=true then fixN F (Classical.choose h) x else none

theorem qW {α:Type} (c:Bool) (a b:α):(bif c then some a else some b)=some (bif c then a else b):=by cases c<;>rfl
structure Con where
 ps:List Ty
 one:Bool
 res:List Ty
 ρ:Ty
 φ:DL ps→Option (D ρ)
 tot:Option (DL ps→D ρ):=none
structure Srt where
 i:TypeId
 e:Ty
 g:Option FuncId
 f:List (D e)→List (D e)
structure Ioc where
 bx:Ty
 ps:List Ty
 one:Bool
 res:List Ty
 ρ:Ty
 φ:DL (bx::ps)→Option (D (.st bx ρ))
structure Roc where
 j:Nat
 i:TypeId
 e:Ty
 ps:List Ty
 one:Bool
 res:List Ty
 ρ:Ty
 φ:DL (.osl i e::ps)→Option (D (.st (.osl i e) ρ))
def arT:Option (TypeId×Ty×Option TypeId)→Ty
 | none => .nil
 | some a => .sl (.st a.2.1 (.onl 0 .ref))
structure Goc where
 tp:Ty
 mv:Ty
 ps:List Ty
 sg:List Nat
 ar:Option (TypeId×Ty×Option TypeId)
 cl:Option FuncId
 one:Bool
 res:List Ty
 ρ:Ty
 φ:DL (tp::mv::arT ar::ps)→Option (D (.st tp (.st (arT ar) ρ)))
structure Ins where
 i:TypeId
 e:Ty
 bytes:Nat
structure Del where
 i:TypeId
 e:Ty
inductive Ent where
 | con (c:Con)
 | body (fn:Func)
 | srt (s:Srt)
 | io (c:Ioc)
 | ro (c:Roc)
 | rd (c:Con)
 | ck (t:TypeId)
 | bs (t i:TypeId)
 | ins (s:Ins)
 | go (c:Goc)
 | del (s:Del)
abbrev Env:=List (FuncId×Ent)
def Env.find:Env→FuncId→Option Ent
 | [],_=>none
 | (i,e)::r,f=>bif Nat.beq i f then some e else Env.find r f
def Env.cb (env:Env) (f:FuncId):Option (Bool×Con):=(env.find f).bind fun
 | .con c=>some (false,c)
 | .rd c=>some (true,c)
 | _=>none
def Env.fn (env:Env) (f:FuncId):Option Func:=(env.find f).bind fun
 | .body fn=>some fn
 | _=>none
def Env.srt (env:Env) (f:FuncId):Option Srt:=(env.find f).bind fun
 | .srt s=>some s
 | _=>none
def Env.ro (env:Env) (f:FuncId):Option Roc:=(env.find f).bind fun
 | .ro c=>some c
 | _=>none
def Env.ck (env:Env) (f:FuncId):Option TypeId:=(env.find f).bind fun
 | .ck t=>some t
 | _=>none
def Env.bs (env:Env) (f:FuncId):Option (TypeId×TypeId):=(env.find f).bind fun
 | .bs t i=>some (t,i)
 | _=>none
def Env.ins (env:Env) (f:FuncId):Option Ins:=(env.find f).bind fun
 | .ins s=>some s
 | _=>none
def Env.del (env:Env) (f:FuncId):Option Del:=(env.find f).bind fun
 | .del s=>some s
 | _=>none
def Env.go (env:Env) (f:FuncId):Option Goc:=(env.find f).bind fun
 | .go c=>some c
 | _=>none
def weave {α:Type} (f:Nat→α):List Nat→List α→List α→List α→Option (List α)
 | [],[],[],[]=>some []
 | 0::r,x::a,b,c=>(weave f r a b c).bind fun l=>some (x::l)
 | 1::r,a,x::b,c=>(weave f r a b c).bind fun l=>some (x::l)
 | 2::r,a,b,x::c=>(weave f r a b c).bind fun l=>some (x::l)
 | (n+3)::r,a,b,c=>(weave f r a b c).bind fun l=>some (f n::l)
 | _,_,_,_=>none
def Env.bldT:Env→TypeId→Bool
 | [],_=>false
 | (_,.ck t')::r,t=>Nat.beq t' t||Env.bldT r t
 | _::r,t=>Env.bldT r t
def pullAt {α:Type}:Nat→List α→Option (α×List α)
 | _,[]=>none
 | 0,x::r=>some (x,r)
 | n+1,x::r=>(pullAt n r).bind fun q=>some (q.1,x::q.2)
def Env.io (env:Env) (f:FuncId):Option Ioc:=(env.find f).bind fun
 | .io c=>some c
 | _=>none
def argsD (objs:List OB):(ps:List Ty)→List PV→Option (DL ps)
 | [],[]=>some ()
 | τ::r,v::vs=>(qbb v).bind fun cs=>chk (beqB τ.isAgg (qkb v)) ((toD objs τ cs).bind fun x=>(argsD objs r vs).bind fun y=>some (x,y))
 | _,_=>none
def qqt (objs:List OB):PV→Option (List Cv)
 | .rp l=>some l
 | .c (.ptr p off)=>chk (Nat.beq off 0) ((objs[p]?).bind fun
  | .box cs=>some cs
  | _=>none)
 | _=>none
def argsB (objs:List OB):Bool→(ps:List Ty)→List PV→Option (DL ps)
 | false,ps,vs=>argsD objs ps vs
 | true,τ::r,v::vs=>(qqt objs v).bind fun cs=>(toD objs τ cs).bind fun x=>(argsD objs r vs).bind fun y=>some (x,y)
 | true,_,_=>none
def qnU:List Ty→List PV→List Nat
 | τ::r,v::vs=>((qbb v).elim [] (idsD [] τ))++qnU r vs
 | _,_=>[]
def tupOf:List Ty→List Cv→List PW
 | [],_=>[]
 | τ::r,cs=>pwCells τ.isAgg (cs.take τ.size)::tupOf r (cs.drop τ.size)
def stOf:List Ty→Ty
 | [] => .nil
 | τ::r => .st τ (stOf r)
def resPV (c:Con) (x:D c.ρ) (n:Nat):PV×List OB :=
 (bif c.one then qgP c.ρ.isAgg (cc c.ρ x n).1 else .tup (tupOf c.res (cc c.ρ x n).1),(cc c.ρ x n).2)

def litB (σ:AState) (x:Nat×Bool):Bool:=match get σ.slots x.1 with
 | some (_,.c (.v (.bool b)))=>bif x.2 then b else !b
 | _=>false
def tagB (σ:AState):Tag→Bool
 | []=>true
 | [x]=>litB σ x
 | x::r=>litB σ x&&tagB σ r
def tagOf (ops:Array Oper) (σ:AState) (o:Oper):Option (Tag×Bool×Nat):=match o.guard with
 | none=>some ([],false,0)
 | some (j,want)=>(ops[j]?).bind fun oj=>oj.dst.bind fun d=>(get σ.slots d).bind fun e =>
  bif falsT σ.known ((d,want)::e.1) then some ((d,want)::e.1,true,Nat.shiftLeft 1 d) else
  (asBool e.2).bind fun _=>some (simpT σ.known ((d,want)::e.1),false,Nat.shiftLeft 1 d)

def aggIs (P:Program) (t:TypeId):Bool:=match aggOf P t with
 | some b=>b
 | none=>false
def qtX (P:Program) (t:TypeId):Bool:=match aggOf P t with
 | some b=>!b
 | none=>false
def eqAgg (P:Program) (t:TypeId) (xs ys:Array Value):Option Bool:=chk (!P.eqGuardType P.depth t&&aggIs P t) (eqT P 40 t xs.toList ys.toList)
def scalar (P:Program) (ρ:Operand→Value) (o:Oper):Option Value:=match o.op with
 | .binOp .eql t x y _=>match ρ x,ρ y with
  | .agg xs,.agg ys=>(eqAgg P t xs ys).bind fun b=>some (.bool b)
  | _,_=>qgi P (execOp ρ o)
 | .binOp .neq t x y _=>match ρ x,ρ y with
  | .agg xs,.agg ys=>(eqAgg P t xs ys).bind fun b=>some (.bool (!b))
  | _,_=>qgi P (execOp ρ o)
 | _=>qgi P (execOp ρ o)

def qsv (b:Bool):Cv→Cv→Option Cv
 | .v (.int k x),.v (.int k' y)=>chk (qas k k') (some (.v (.int k (bif b then x else y))))
 | .v (.bool x),.v (.bool y)=>some (.v (.bool (bif b then x else y)))
 | .v (.string x),.v (.string y)=>some (.v (.string (bif b then x else y)))
 | .sl e xs,.sl e' ys=>(castL e e' ys).bind fun ys'=>some (.sl e (bif b then xs else ys'))
 | .rf x,.rf y=>some (.rf (bif b then x else y))
 | _,_=>none
def qnL (b:Bool):List Cv→List Cv→Option (List Cv)
 | [],[]=>some []
 | x::l,y::r=>(qsv b x y).bind fun z=>(qnL b l r).bind fun q=>some (z::q)
 | _,_=>none
def mergeV (b:Bool):PV→PV→Option PV
 | .c x,.c y=>(qsv b x y).bind fun z=>some (.c z)
 | .agg l,.agg r=>(qnL b l r).bind fun z=>some (.agg z)
 | _,_=>none

def qeE (P:Program) (t:TypeId) (cs:List Cv) (off:Nat):Option PV:=(aggOf P t).bind fun ag=>(P.info? t).bind fun i =>
 bif ag then chk (Nat.ble (off+i.size) cs.length) (some (.agg ((cs.drop off).take i.size))) else((cs.drop off).head?).bind fun c=>some (.c c)
def pvPW:PW→PV
 | .c x => .c x
 | .agg l => .agg l
def qkd (P:Program) (t:TypeId) (f:Nat):Option Field:=(P.underlying t).bind fun
 | .struct fs=>fs[f]?
 | _=>none
def sized (P:Program) (t:TypeId):Bool:=match P.info? t with
 | some i=>!Nat.beq i.size 0
 | none=>false
def qux (k:IntKind):List Cv→Option (List Int)
 | []=>some []
 | .v (.int k' n)::r=>chk (qas k k') ((qux k r).bind fun ns=>some (n::ns))
 | _=>none
def qpC:List Cv→Option (List Bool)
 | []=>some []
 | .v (.bool b)::r=>(qpC r).bind fun ns=>some (b::ns)
 | _=>none
def qut:List Cv→Option (List ByteArray)
 | []=>some []
 | .v (.string b)::r=>(qut r).bind fun ns=>some (b::ns)
 | _=>none
def slsOf (e:Ty):List Cv→Option (List (List (D e)))
 | []=>some []
 | .sl e' xs::r=>(castL e e' xs).bind fun x=>(slsOf e r).bind fun ns=>some (x::ns)
 | _=>none
def selC (l:List Cv) (i:Nat):Option Cv:=match l with
 | .v (.int k _)::_=>(qux k l).bind fun ns=>some (.v (.int k (getD' ns i 0)))
 | .v (.bool _)::_=>(qpC l).bind fun ns=>some (.v (.bool (getD' ns i false)))
 | .v (.string _)::_=>(qut l).bind fun ns=>some (.v (.string (getD' ns i ByteArray.empty)))
 | .sl e _::_=>(slsOf e l).bind fun ns=>some (.sl e (getD' ns i []))
 | _=>none
def col (cs:List Cv) (off sz inner:Nat):Nat→List Cv
 | 0=>[]
 | n+1=>match cs.drop (off+inner) with
  | c::_=>c::col cs (off+sz) sz inner n
  | []=>[]
def selW (l:List Cv) (sz len i:Nat):Nat→Option (List Cv)
 | 0=>some []
 | m+1=>chk (Nat.beq (col l 0 sz (sz-(m+1)) len).length len) ((selC (col l 0 sz (sz-(m+1)) len) i).bind fun c=>(selW l sz len i m).bind fun r=>some (c::r))
def qqE (i:Int) (x:Cv) (off sz inner:Nat):Nat→Nat→List Cv→Option (List Cv)
 | 0,_,cs=>some cs
 | n+1,j,cs=>match cs.drop (off+j*sz+inner) with
  | c::_=>(qsv (i==(j:Int)) x c).bind fun c'=>qqE i x off sz inner n (j+1) (cs.set (off+j*sz+inner) c')
  | []=>none
def qo8:List PV→Option (List (Nat×Nat))
 | []=>some []
 | .c (.ptr o off)::r=>(qo8 r).bind fun l=>some ((o,off)::l)
 | _=>none
def ptrs:List (Nat×Nat)→List PV
 | []=>[]
 | (o,off)::r => .c (.ptr o off)::ptrs r

def tyOf [CT:Ctx] (P:Program):Nat→TypeId→Option Ty
 | 0,_=>none
 | n+1,t=>match P.underlying t with
  | some (.int k)=>some (.int k)
  | some .bool=>some .bool
  | some .string=>some .str
  | some (.slice e)=>bif nodeT e then some (.sl .ref) else(tyOf P n e).bind fun τ=>some (.sl τ)
  | some (.struct fs)=>fs.toList.foldr (fun f r=>(tyOf P n f.type).bind fun a=>r.bind fun b=>some (.st a b)) (some .nil)
  | some (.array m e)=>(tyOf P n e).bind fun τ=>some (List.foldr (fun _ r => .st τ r) .nil (List.range m))
  | _=>none
def elTy [CT:Ctx] (P:Program) (i:TypeId):Option Ty:=bif nodeT i then some .ref else tyOf P 20 i
def qhz (P:Program) (t:TypeId) (τ:Ty):Option (D τ):=(P.info? t).bind fun i=>i.zero.bind fun z =>
 chk (Nat.beq i.size τ.size&&(Nat.beq z.cells.size τ.size && !Nat.beq i.size 0)) (toD [] τ (cvs z.cells.toList))
def qaX (P:Program) (t:TypeId):Option TypeId:=(P.underlying t).bind fun
 | .slice e=>some e
 | _=>none
def qb1 (P:Program) (t:TypeId) (n:Nat):Bool:=match P.info? t with
 | some i=>Nat.beq i.size n
 | none=>false

def shK (o:BinOp) (k:IntKind) (a b:Int):Int:=match o with
 | .shl=>k.wrap (a*2 ^ (min b.toNat k.bits))
 | _=>a.fdiv (2 ^ (min b.toNat k.bits))
def qcF (a b:ByteArray):Bool:=Nat.ble (a.size+b.size) 9223372036854775807
def strAt (s:ByteArray) (i:Int):Option UInt8:=bif decide (0≤i) then s[i.toNat]? else none
def qh (l h:Int) (n:Nat):Bool:=decide (0≤l)&&(decide (l≤h)&&decide (h≤(n:Int)))
def optI [CT:Ctx] (σ:AState) (tg:Tag) (d:Int):Option Operand→Option Int
 | none=>some d
 | some x=>(ev σ tg x).bind fun v=>(asInt v).bind fun q=>some q.2
def qc2:Option Operand→Bool
 | some (.const (.int _ 0))=>true
 | _=>false

variable [CT : Ctx]
section
variable {α : Type} (P : Program) (env : Env)

def idxSl (G:Bool) (e:TypeId) (n:Int) (k:PV→Option α) (σ:AState):Cv→Option α
 | .sl τ xs=>chk (qb1 P e τ.size) (Option.bind (gat G (dflt τ) xs n) fun d=>k (.rp (cellsOf τ d)))
 | .os o=>(σ.objs[o]?).bind fun
  | .arr _ τ xs _=>chk (qb1 P e τ.size) (req (imp G (inb n xs.length)) (k (.ep o τ.size n.toNat 0)))
  | .hr _ p q _ xs _=>chk (qb1 P e (eT p q).size) (req (imp G (inb n xs.length)) (k (.ep o (eT p q).size n.toNat 0)))
  | _=>none
 | .rf x=>(arOf σ.objs).bind fun o=>(σ.objs[o]?).bind fun
  | .ar _ (.sl e') _ xs _=>chk (qb1 P e e'.size) (req (imp G (inb n (lnP xs x))) (k (.ra x e'.size n.toNat 0)))
  | _=>none
 | _=>none
def idxW (G:Bool) (e:TypeId) (n:Int) (k:PV→Option α) (σ:AState):PV→Option α
 | .c c=>idxSl P G e n k σ c
 | .vw o sz lo m=>(σ.objs[o]?).bind fun
  | .arr _ τ _ _=>chk (qb1 P e sz&&Nat.beq sz τ.size) (req (imp G (inb n m)) (k (.ep o sz (lo+n.toNat) 0)))
  | _=>none
 | _=>none
def faOf:PV→PV
 | v=>v
def qhD (off:Nat):PV→Option PV
 | .c (.ptr p q)=>some (.c (.ptr p (q+off)))
 | .rp l=>some (.rp (l.drop off))
 | .ep p sz i q=>some (.ep p sz i (q+off))
 | .pa p q sz cnt inner i=>some (.pa p q sz cnt (inner+off) i)
 | .ra x sz j q=>some (.ra x sz j (q+off))
 | _=>none
def ownC:Cv→Bool
 | .os _=>true
 | .e0=>true
 | .v (.slice _ _ _)=>true
 | _=>false
def apartAt (σ:AState) (o off n:Nat):Bool:=match σ.objs[o]? with
 | some (.box cs)=>((cs.drop off).take n).any ownC
 | _=>false
def qoz (n:Int) (k:Nat→Option α):Nat→Nat→Option α
 | 0,j=>k j
 | m+1,j=>bif n==(j:Int) then k j else qoz n k m (j+1)
def arrE (P:Program) (t:TypeId):Bool:=match P.underlying t with
 | some (.array _ _)=>true
 | _=>false
def idxV (σ:AState) (sp G:Bool) (len sz:Nat) (n:Int) (k:PV→Option α):PV→Option α
 | .c (.ptr o off)=>bif sp||apartAt σ o off (len*sz) then chk (!Nat.beq len 0) (req (imp G (inb n len)) (qoz n (fun j=>k (.c (.ptr o (off+j*sz)))) (len-1) 0)) else req (imp G (inb n len)) (k (.pa o off sz len 0 n))
 | .rp l=>chk (Nat.beq sz 1&&Nat.beq len l.length) (req (imp G (inb n len)) ((selC l n.toNat).bind fun c=>k (.rp [c])))
 | _=>none
def qlU:Operand→Option Int
 | .const (.int _ m)=>some m
 | _=>none
def qsN (σ:AState) (G:Bool) (t:TypeId) (x:PV) (ci:Option Int) (n:Int) (k:PV→Option α):Option α:=match P.underlying t with
 | some (.slice e)=>idxW P G e n k σ x
 | some (.array len e)=>(P.info? e).bind fun i=>chk (!Nat.beq i.size 0) (match ci with
  | some m=>chk (inb m len) ((qhD (m.toNat*i.size) x).bind k)
  | none=>idxV σ (arrE P e) G len i.size n k x)
 | _=>none

def qjz (σ:AState) (t:TypeId):PV→Option PV
 | .c (.ptr o off)=>(σ.objs[o]?).bind fun
  | .box cs=>qeE P t cs off
  | .fbx cs=>qeE P t cs off
  | .bld _ c=>chk (Nat.beq off 1) (qeE P t [c] 0)
  | _=>none
 | .rp l=>qeE P t l 0
 | .ep o sz i off=>(σ.objs[o]?).bind fun
  | .arr _ e xs _=>chk (Nat.beq sz e.size) (qeE P t (cellsOf e (getD' xs i (dflt e))) off)
  | .hr _ p q _ xs none=>chk (Nat.beq sz (eT p q).size) (qeE P t (cellsOf (eT p q) (getD' xs i (dflt (eT p q)))) off)
  | _=>none
 | .pa o off sz cnt inner i=>(σ.objs[o]?).bind fun
  | .box cs=>(aggOf P t).bind fun ag=>chk (!ag&&Nat.beq (col cs off sz inner cnt).length cnt) ((selC (col cs off sz inner cnt) i.toNat).bind fun c=>some (.c c))
  | _=>none
 | .ra x sz j off=>(arOf σ.objs).bind fun o=>(σ.objs[o]?).bind fun
  | .ar _ (.sl e) _ xs _=>chk (Nat.beq sz e.size) (qeE P t (cellsOf e (getD' (ndP xs [] x) j (dflt e))) off)
  | _=>none
 | _=>none

def quJ (P:Program) (objs:List OB) (t:TypeId):PV→Option (Bool×Nat)
 | .ep o sz i off=>(objs[o]?).bind fun
  | .hr _ p q _ _ (some (k,r))=>chk (Nat.beq sz (eT p q).size&&(Nat.beq off p.size&&qtX P t)) (some (Nat.beq i k,r))
  | _=>none
 | _=>none
def loadS (σ:AState) (t:TypeId) (v:PV) (k:PV→Option α):Option α:=match quJ P σ.objs t v with
 | some x=>req x.1 (k (.c (.os x.2)))
 | none=>(qjz P σ t v).bind k

def fillC (place:Nat→Option (Nat×Nat)):List Cv→List (Nat×List Cv)→Option (List Cv)
 | cs,[]=>some cs
 | cs,(i,l)::r=>(place i).bind fun q=>chk (Nat.beq l.length q.2&&Nat.ble (q.1+l.length) cs.length) (fillC place (cs.take q.1++l++cs.drop (q.1+l.length)) r)
def qil (σ:AState) (tg:Tag):List (Nat×Operand)→Option (List (Nat×List Cv))
 | []=>some []
 | (i,x)::r=>(ev σ tg x).bind fun v=>(qbb v).bind fun l=>(qil σ tg r).bind fun q=>some ((i,l)::q)
def qf9 (P:Program) (t:TypeId) (i:Nat):Option (Nat×Nat):=match P.underlying t with
 | some (.struct fs)=>(fs[i]?).bind fun f=>(P.info? f.type).bind fun inf=>some (f.offset,inf.size)
 | some (.array _ e)=>(P.info? e).bind fun inf=>some (i*inf.size,inf.size)
 | _=>none
def qpF (P:Program) (t:TypeId):Bool:=match P.underlying t with
 | some (.struct fs)=>fs.toList.all fun f=>(P.info? f.type).isSome
 | some (.array _ e)=>(P.info? e).isSome
 | _=>false
def qr1 (P:Program) (t:TypeId):Option (List Cv):=(P.info? t).bind fun i=>i.zero.bind fun z=>some (cvs z.cells.toList)

open Classical in
noncomputable def agree (a b:Option α):Option α:=if a=b then a else none
def qh8 (σ:AState):PV→Option Bool
 | .c (.sl _ xs)=>some xs.isEmpty
 | .c (.os o)=>(σ.objs[o]?).bind fun
  | .arr _ _ xs _=>some xs.isEmpty
  | _=>none
 | .c .e0=>some true
 | _=>none
def nilrOf (σ:AState):Option PV→Bool
 | some (.c (.os o))=>match σ.objs[o]? with
  | some .nilr=>true
  | _=>false
 | _=>false
def okO {β:Type}:Option (List β)→Bool
 | some []=>false
 | _=>true
def qor {β:Type} (neg:Bool) (x:Option (List β)):Bool:=bif neg then x.isSome else x.isNone
def mbrOf (σ:AState) (neg:Bool):Option PV→Option (Bool×Bool)
 | some (.c (.os o))=>match σ.objs[o]? with
  | some (.mbr _ _ x)=>some (okO x,qor neg x)
  | _=>none
 | _=>none
def qgj:Operand→Bool
 | .const (.slice none 0 0)=>true
 | _=>false
def isNilP:Operand→Bool
 | .const (.pointer none)=>true
 | _=>false
def isPtr:Option PV→Bool
 | some (.c (.ptr _ _))=>true
 | _=>false
def ptrTy (P:Program) (t:TypeId):Bool:=match P.underlying t with
 | some (.pointer _)=>true
 | _=>false
def qdk (σ:AState) (tg:Tag) (o:Oper) (l:List Operand) (k:PV→Option α):Option α :=
 chk (qlX σ tg l) ((scalar P (rho σ tg) o).bind fun v=>k (qpN v))
def qus:Operand→Bool
 | .const .nilIface=>true
 | _=>false
def ifaceTy (P:Program) (t:TypeId):Bool:=match P.underlying t with
 | some (.interface _)=>true
 | _=>false
def asErr:PV→Option Bool
 | .c (.er b)=>some b
 | _=>none
noncomputable def nilS (σ:AState) (tg:Tag) (o:Oper) (t:TypeId) (neg:Bool) (x y:Operand) (k:PV→Option α):Option α:=bif isNilP y&&(isPtr (ev σ tg x)&&ptrTy P t) then k (.c (.v (.bool neg))) else bif qgj y&&nilrOf σ (ev σ tg x) then(qaX P t).bind fun _=>k (.c (.v (.bool (!neg)))) else match bif qgj y then mbrOf σ neg (ev σ tg x) else none with
 | some q=>(qaX P t).bind fun _=>req (imp (tagB σ tg) q.1) (k (.c (.v (.bool q.2))))
 | none=>match bif qgj y then(ev σ tg x).bind (qh8 σ) else none with
 | some em=>(qaX P t).bind fun _=>bif em then agree (k (.c (.v (.bool (!neg))))) (k (.c (.v (.bool neg)))) else k (.c (.v (.bool neg)))
 | none=>match bif qus y then(ev σ tg x).bind asErr else none with
  | some b=>chk (ifaceTy P t) (k (.c (.v (.bool (bif neg then b else !b)))))
  | none=>qdk P σ tg o [x,y] k
noncomputable def binS (σ:AState) (tg:Tag) (o:Oper) (op:BinOp) (t:TypeId) (x y:Operand) (k:PV→Option α):Option α:=match op with
 | .eql=>nilS P σ tg o t false x y k
 | .neq=>nilS P σ tg o t true x y k
 | .quo=>(ev σ tg x).bind fun u=>(ev σ tg y).bind fun v=>(asInt u).bind fun a=>(asInt v).bind fun b=>chk (qas a.1 b.1) (req (imp (tagB σ tg) (b.2 !=0)) (k (.c (.v (.int a.1 (a.1.wrap (a.2.tdiv b.2)))))))
 | .rem=>(ev σ tg x).bind fun u=>(ev σ tg y).bind fun v=>(asInt u).bind fun a=>(asInt v).bind fun b=>chk (qas a.1 b.1) (req (imp (tagB σ tg) (b.2 !=0)) (k (.c (.v (.int a.1 (a.2.tmod b.2))))))
 | .shl=>(ev σ tg x).bind fun u=>(ev σ tg y).bind fun v=>(asInt u).bind fun a=>(asInt v).bind fun b=>req (imp (tagB σ tg) (decide (0≤b.2))) (k (.c (.v (.int a.1 (shK .shl a.1 a.2 b.2)))))
 | .shr=>(ev σ tg x).bind fun u=>(ev σ tg y).bind fun v=>(asInt u).bind fun a=>(asInt v).bind fun b=>req (imp (tagB σ tg) (decide (0≤b.2))) (k (.c (.v (.int a.1 (shK .shr a.1 a.2 b.2)))))
 | .add=>match (ev σ tg x).bind asStr,(ev σ tg y).bind asStr with
  | some a,some b=>req (imp (tagB σ tg) (qcF a b)) (k (.c (.v (.string (a++b)))))
  | _,_=>qdk P σ tg o [x,y] k
 | _=>qdk P σ tg o [x,y] k
def qeh (b:Bool):Operand→Bool
 | .const (.bool c)=>beqB b c
 | _=>false
def pickS (σ:AState) (tg:Tag) (c x y:Operand) (k:PV→Option α):Option α:=match c with
 | .tmp t=>(ev σ tg c).bind fun q=>(asBool q).bind fun b=>bif memT (t,true) σ.known then(ev σ ((t,true)::tg) x).bind k else bif memT (t,false) σ.known then(ev σ ((t,false)::tg) y).bind k else
  (ev σ ((t,true)::tg) x).bind fun v=>(ev σ ((t,false)::tg) y).bind fun u =>
  bif qeh false y then(asBool v).bind fun p=>k (.c (.v (.bool (b&&p))))
  else bif qeh true x then(asBool u).bind fun p=>k (.c (.v (.bool (b||p))))
  else(mergeV b v u).bind k
 | _=>none
def sliceS (σ:AState) (tg:Tag) (t:TypeId) (x:Operand) (lo hi mx:Option Operand) (k:PV→Option α):Option α:=(ev σ tg x).bind fun v=>match v with
 | .c (.v (.string s))=>chk (mx.isNone&&(match P.underlying t with | some .string=>true | _=>false)) ((optI σ tg 0 lo).bind fun l=>(optI σ tg (s.size:Int) hi).bind fun h =>
   req (imp (tagB σ tg) (qh l h s.size)) (k (.c (.v (.string (s.extract l.toNat h.toNat))))))
 | .c (.sl e xs)=>(qaX P t).bind fun i=>chk (qb1 P i e.size) (bif mx.isNone then(optI σ tg 0 lo).bind fun l=>(optI σ tg (xs.length:Int) hi).bind fun h =>
   req (imp (tagB σ tg) (qh l h xs.length)) (k (.c (.sl e ((xs.take h.toNat).drop l.toNat)))) else bif lo.isNone then chk (qc2 hi&&qc2 mx) (k (.c .e0))
   else chk (hi.isSome&&mx.isSome) ((optI σ tg 0 lo).bind fun l=>(optI σ tg 0 hi).bind fun h=>(optI σ tg 0 mx).bind fun m=>req (imp (tagB σ tg) (qh l h xs.length&&(decide (h≤m)&&decide (m≤(xs.length:Int))))) (k (.c (.sl e ((xs.take h.toNat).drop l.toNat))))))
 | .c (.os ob)=>(qaX P t).bind fun i=>(σ.objs[ob]?).bind fun
  | .arr _ e _ _=>chk (qb1 P i e.size&&(lo.isNone&&(qc2 hi&&qc2 mx))) (k (.c .e0))
  | _=>none
 | .c (.v (.slice none 0 0))=>(qaX P t).bind fun i=>bif mx.isNone then chk (sized P i&&lo.isNone) ((optI σ tg 0 hi).bind fun h=>req (imp (tagB σ tg) (h==0)) (k (.c (.v (.slice none 0 0))))) else chk (sized P i&&(lo.isNone&&(qc2 hi&&qc2 mx))) (k (.c .e0))
 | _=>none
def strOf (ns:List Int):ByteArray:=ns.foldl (fun r n=>r.push (UInt8.ofNat n.toNat)) ByteArray.empty
def u8s:(e:Ty)→List (D e)→Option (List Int)
 | .int .u8,xs=>some xs
 | _,_=>none
def qgx (t:TypeId):Bool:=match P.underlying t with
 | some (.slice e)=>(match P.underlying e with | some (.int .u8)=>true | _=>false)
 | _=>false
def strTy (t:TypeId):Bool:=match P.underlying t with
 | some .string=>true
 | _=>false
def convS (σ:AState) (tg:Tag) (o:Oper) (src dst:TypeId) (x:Operand) (k:PV→Option α):Option α:=(ev σ tg x).bind fun v=>match v with
 | .c (.sl e xs)=>chk (qgx P src&&strTy P dst) ((u8s e xs).bind fun ns=>k (.c (.v (.string (strOf ns)))))
 | .c (.os p)=>chk (qgx P src&&strTy P dst) ((σ.objs[p]?).bind fun
  | .arr _ e xs _=>(u8s e xs).bind fun ns=>k (.c (.v (.string (strOf ns))))
  | _=>none)
 | _=>qdk P σ tg o [x] k
def lenS (σ:AState) (tg:Tag) (o:Oper) (x:Operand) (t:TypeId) (k:PV→Option α):Option α:=(ev σ tg x).bind fun v=>match v with
 | .c (.sl _ xs)=>(qaX P t).bind fun _=>k (.c (.v (.int .i64 (xs.length:Int))))
 | .c (.os p)=>(qaX P t).bind fun _=>(σ.objs[p]?).bind fun
  | .arr _ _ xs _=>k (.c (.v (.int .i64 (xs.length:Int))))
  | .hr _ _ _ _ xs _=>k (.c (.v (.int .i64 (xs.length:Int))))
  | .nilr=>k (.c (.v (.int .i64 0)))
  | _=>none
 | .c .e0=>(qaX P t).bind fun _=>k (.c (.v (.int .i64 0)))
 | .vw _ _ _ n=>(qaX P t).bind fun _=>k (.c (.v (.int .i64 (n:Int))))
 | .c (.rf y)=>(qaX P t).bind fun _=>(arOf σ.objs).bind fun q=>(σ.objs[q]?).bind fun
  | .ar _ (.sl _) _ xs _=>k (.c (.v (.int .i64 ((lnP xs y:Nat):Int))))
  | _=>none
 | _=>qdk P σ tg o [x] k
def idxS (σ:AState) (tg:Tag) (t:TypeId) (x i:Operand) (k:PV→Option α):Option α:=(ev σ tg x).bind fun v=>(ev σ tg i).bind fun w=>(asInt w).bind fun q=>match v with
 | .agg l=>match P.underlying t with
  | some (.array len e)=>bif aggIs P e then(P.info? e).bind fun inf=>chk (Nat.beq (len*inf.size) l.length) (req (imp (tagB σ tg) (inb q.2 len)) ((selW l inf.size len q.2.toNat inf.size).bind fun cs=>k (.agg cs)))
   else chk (qb1 P e 1&&(Nat.beq len l.length&&qtX P e)) (req (imp (tagB σ tg) (inb q.2 len)) ((selC l q.2.toNat).bind fun c=>k (.c c)))
  | _=>none
 | .c (.v (.string s))=>match P.underlying t with
  | some .string=>Option.bind (gopt (tagB σ tg) 0 (strAt s q.2)) fun b=>k (.c (.v (.int .u8 (b.toNat:Int))))
  | _=>none
 | _=>none
def qt4:PV→Bool
 | .c (.ptr _ _)=>true
 | .rp _=>true
 | .ep _ _ _ _=>true
 | .pa _ _ _ _ _ _=>true
 | .c (.fn _ _)=>true
 | .ra _ _ _ _=>true
 | _=>false
def nilChkS (G:Bool) (v:PV) (k:PV→Option α):Option α:=match v with
 | v=>chk (qt4 v) (k v)

def isMp:Option PV→Bool
 | some (.c (.mp _))=>true
 | _=>false
def qsR (σ:AState) (tg:Tag) (t:TypeId) (x i:Operand) (ok:Bool) (k:PV→Option α):Option α:=let _:=P;none
def ifcS (σ:AState) (tg:Tag) (t:TypeId) (x:Operand) (k:PV→Option α):Option α:=let _:=P;none
noncomputable def stepS (σ:AState) (tg:Tag) (o:Oper) (k:PV→Option α):Option α:=match o.op with
 | .move x=>(ev σ tg x).bind k
 | .assign x=>(ev σ tg x).bind k
 | .nilCheck x=>(ev σ tg x).bind fun v=>nilChkS (tagB σ tg) v k
 | .pick c x y=>pickS σ tg c x y k
 | .extract x i=>(ev σ tg x).bind fun v=>(asTup v).bind fun l=>(l[i]?).bind fun p=>k (pvPW p)
 | .binOp op t x y _=>binS P σ tg o op t x y k
 | .unOp _ _ x=>qdk P σ tg o [x] k
 | .convert s d x=>convS P σ tg o s d x k
 | .field t x f=>(ev σ tg x).bind fun v=>(asAgg v).bind fun l=>(qkd P t f).bind fun fd=>(qeE P fd.type l fd.offset).bind k
 | .index t x i=>idxS P σ tg t x i k
 | .build t parts=>(qr1 P t).bind fun z=>(qil σ tg parts.toList).bind fun ps=>chk (qpF P t) ((fillC (qf9 P t) z ps).bind fun l=>k (.agg l))
 | .fieldAddr t x f=>(ev σ tg x).bind fun v=>(qkd P t f).bind fun fd=>chk (sized P fd.type) ((qhD fd.offset (faOf v)).bind k)
 | .indexAddr t x i=>(ev σ tg x).bind fun v=>(ev σ tg i).bind fun w=>(asInt w).bind fun q=>qsN P σ (tagB σ tg) t v (qlU i) q.2 k
 | .load t x=>(ev σ tg x).bind fun v=>loadS P σ t (faOf v) k
 | .slice t x lo hi mx=>sliceS P σ tg t x lo hi mx k
 | .lookup t x i ok=>qsR P σ tg t x i ok k
 | .makeInterface t x=>ifcS P σ tg t x k
 | .makeFunc (.func f) first captured=>chk first.isEmpty ((evs σ tg captured.toList).bind fun vs=>(qo8 vs).bind fun caps=>k (.c (.fn f caps)))
 | .call ⟨.builtin .len,args,ats⟩=>match args.toList,ats.toList with
  | [x],[t]=>lenS P σ tg o x t k
  | _,_=>none
 | .call ⟨.builtin .cap,args,_⟩=>qdk P σ tg o args.toList k
 | .call ⟨.builtin .min,args,_⟩=>qdk P σ tg o args.toList k
 | .call ⟨.builtin .max,args,_⟩=>qdk P σ tg o args.toList k
 | .call ⟨.value f,args,_⟩=>(ev σ tg f).bind fun q=>(asFn q).bind fun g=>chk g.2.isEmpty ((env.cb g.1).bind fun q=>chk (q.2.ρ.flat&&bodied P g.1) ((evs σ tg args.toList).bind fun vs =>
   (argsB σ.objs q.1 q.2.ps vs).bind fun x=>match q.2.tot with
   | some g=>k (resPV q.2 (g x) 0).1
   | none=>Option.bind (gopt (tagB σ tg) (dflt q.2.ρ) (q.2.φ x)) fun r=>k (resPV q.2 r 0).1))
 | _=>none

def storeAt (objs:List OB) (prO:Nat) (l:List Cv):PV→Option (List OB)
 | .c (.ptr o off)=>(objs[o]?).bind fun
  | .box cs=>chk (!bitB prO o&&Nat.ble (off+l.length) cs.length) (some (objs.set o (.box (cs.take off++l++cs.drop (off+l.length)))))
  | .bld t _=>match l with
   | [.os r]=>(objs[r]?).bind fun
    | .arr _ _ xs _=>chk (!bitB prO o&&Nat.beq off 1) (some (objs.set o (.bld t (.os r))))
    | _=>none
   | _=>none
  | _=>none
 | .ep o sz i off=>(objs[o]?).bind fun
  | .arr ti e xs false=>chk (!bitB prO o&&(Nat.beq sz e.size&&(Nat.ble (off+l.length) e.size&&e.pure)))
   ((toD objs e ((cellsOf e (getD' xs i (dflt e))).take off++l++(cellsOf e (getD' xs i (dflt e))).drop (off+l.length))).bind fun d =>
    (qaA prO objs (idsD [] e ((cellsOf e (getD' xs i (dflt e))).take off++l++(cellsOf e (getD' xs i (dflt e))).drop (off+l.length)))).bind fun objs'=>(objs'[o]?).bind fun
     | .arr _ _ _ false=>some (objs'.set o (.arr ti e (xs.set i d) false))
     | _=>none)
  | .hr ti p q j xs hole=>bif Nat.blt p.size off then chk (!bitB prO o&&(Nat.beq sz (eT p q).size&&(Nat.ble (off+l.length) (eT p q).size&&q.flat)))
    ((toD objs q ((cellsOf q (getD' xs i (dflt (eT p q))).2.2).take (off-(p.size+1))++l++(cellsOf q (getD' xs i (dflt (eT p q))).2.2).drop (off-(p.size+1)+l.length))).bind fun d =>
     some (objs.set o (.hr ti p q j (xs.set i ((getD' xs i (dflt (eT p q))).1,(getD' xs i (dflt (eT p q))).2.1,d)) hole)))
   else match l,hole with
    | [.os r'],some (k,_)=>(objs[r']?).bind fun
     | .arr j' (.int .i64) _ false=>chk (!bitB prO o&&(Nat.beq sz (eT p q).size&&(Nat.beq off p.size&&Nat.beq j' j))) (some (objs.set o (.hr ti p q j xs (some (k,r')))))
     | _=>none
    | _,_=>none
  | _=>none
 | .pa o off sz cnt inner i=>(objs[o]?).bind fun
  | .box cs=>match l with
   | [x]=>chk (!bitB prO o) ((qqE i x off sz inner cnt 0 cs).bind fun cs'=>some (objs.set o (.box cs')))
   | _=>none
  | _=>none
 | .ra x sz j off=>(arOf objs).bind fun o=>(objs[o]?).bind fun
  | .ar t (.sl e) ow xs lent=>chk (!bitB prO o&&(e.pure&&(Nat.beq sz e.size&&Nat.ble (off+l.length) e.size)))
    ((toD objs e ((cellsOf e (getD' (ndP xs [] x) j (dflt e))).take off++l++(cellsOf e (getD' (ndP xs [] x) j (dflt e))).drop (off+l.length))).bind fun d =>
     (qaA prO objs (idsD [] e ((cellsOf e (getD' (ndP xs [] x) j (dflt e))).take off++l++(cellsOf e (getD' (ndP xs [] x) j (dflt e))).drop (off+l.length)))).bind fun objs'=>(objs'[o]?).bind fun
      | .ar _ _ _ _ _=>some (objs'.set o (.ar t (.sl e) ow (setP xs [] x ((ndP xs [] x).set j d)) lent))
      | _=>none)
  | _=>none
 | _=>none

def storeB (objs:List OB) (l:List Cv):PV→Bool
 | .ep o _ i off=>match objs[o]? with
  | some (.hr _ p _ _ _ (some (k,_)))=>Nat.blt p.size off||Nat.beq i k
  | _=>true
 | .c (.ptr o _)=>match objs[o]? with
  | some (.bld _ _)=>match l with
   | [.os r]=>match objs[r]? with
    | some (.arr _ _ xs _)=>Nat.blt 0 xs.length
    | _=>true
   | _=>true
  | _=>true
 | _=>true

def litE (objs:List OB) (τ:Ty):List (D τ)→List (Nat×List Cv)→Option (List (D τ))
 | xs,[]=>some xs
 | xs,(i,l)::r=>(toD objs τ l).bind fun d=>chk (Nat.blt i xs.length) (litE objs τ (xs.set i d) r)
def qrF (τ:Ty):List (Nat×List Cv)→List Nat
 | []=>[]
 | (_,l)::r=>idsD [] τ l++qrF τ r
def AState.new (σ:AState) (d:Option Nat) (o:OB) (v:PV):Option AState:=AState.putO { σ with objs:=σ.objs++[o] } d [] v

def qr3 (objs:List OB) (prO:Nat) (i:TypeId) (τ:Ty):Cv→Option (List (D τ)×List OB)
 | .os o=>(objs[o]?).bind fun
  | .arr i' τ' xs false=>chk (Nat.beq i i' && !bitB prO o) ((castL τ τ' xs).bind fun ys=>some (ys,objs.set o .dead))
  | .nilr=>some ([],objs)
  | .mbr i' τ' x=>chk (Nat.beq i i' && !bitB prO o) ((castO τ τ' x).bind fun y=>some (y.getD [],objs.set o .dead))
  | _=>none
 | .v (.slice none 0 0)=>some ([],objs)
 | .e0=>some ([],objs)
 | _=>none
def srcOk (objs:List OB):Cv→Bool
 | .os p=>match objs[p]? with
  | some (.arr _ _ _ _)=>true
  | _=>false
 | _=>true
def qpJ (σ:AState) (o:Oper) (s x:Operand) (t:TypeId) (k:AState→Option α):Option α:=(qaX P t).bind fun i=>(elTy P i).bind fun τ=>(qhz P i τ).bind fun _ =>
 (ev σ [] s).bind fun b=>(asC b).bind fun bc=>(ev σ [] x).bind fun u=>(asC u).bind fun uc=>(P.info? i).bind fun inf=>(qr3 σ.objs σ.prO i τ bc).bind fun q=>(ofSl τ σ.objs uc).bind fun ys=>chk (srcOk q.2 uc&&(!Nat.beq inf.bytes 0&&τ.pure))
  (req (room (q.1.length+ys.length) inf.bytes) ((AState.new { σ with objs:=q.2 } o.dst (.arr i τ (q.1++ys) false) (.c (.os q.2.length))).bind k))
def qtG (σ:AState) (o:Oper) (p lo1 n1:Nat) (x:Operand) (t:TypeId) (k:AState→Option α):Option α:=let _:=P;none
def qsM (σ:AState) (o:Oper) (p:Nat) (x:Operand) (t:TypeId) (k:AState→Option α):Option α:=let _:=P;none
def isHr (objs:List OB) (p:Nat):Bool:=match objs[p]? with
 | some (.hr _ _ _ _ _ _)=>true
 | _=>false
def qtI (σ:AState) (o:Oper) (s x:Operand) (t:TypeId) (k:AState→Option α):Option α:=match ev σ [] s with
 | some (.vw p _ lo1 n1)=>qtG P σ o p lo1 n1 x t k
 | some (.c (.os p))=>bif isHr σ.objs p then qsM P σ o p x t k else qpJ P σ o s x t k
 | _=>qpJ P σ o s x t k
def qcp (s:ByteArray):List Int:=s.data.toList.map fun c=>(c.toNat:Int)
def qti (σ:AState) (o:Oper) (s x:Operand) (t:TypeId) (k:AState→Option α):Option α:=(qaX P t).bind fun i=>(qhz P i (.int .u8)).bind fun _=>(P.info? i).bind fun inf =>
 (ev σ [] s).bind fun b=>(asC b).bind fun bc=>(ev σ [] x).bind fun u=>(asStr u).bind fun ys=>(qr3 σ.objs σ.prO i (.int .u8) bc).bind fun q=>chk (qgx P t&&Nat.beq inf.bytes 1)
  (req (room (q.1.length+ys.size) 1) ((AState.new { σ with objs:=q.2 } o.dst (.arr i (.int .u8) (List.append (α:=Int) q.1 (qcp ys)) false) (.c (.os q.2.length))).bind k))
def isIntT (P:Program) (t:TypeId):Bool:=match P.underlying t with
 | some (.int _)=>true
 | _=>false
def qs7 (σ:AState) (o:Oper) (s x:Operand) (t t':TypeId) (k:AState→Option α):Option α:=(qaX P t).bind fun i=>(tyOf P 20 i).bind fun τ=>(qhz P i τ).bind fun z =>
 (ev σ [] s).bind fun b=>(ev σ [] x).bind fun u=>(asInt u).bind fun q=>(P.info? i).bind fun inf=>chk ((match b with | .c (.v (.slice none 0 0))=>true | _=>false)&&(isIntT P t'&&(qas q.1 .i64&&(!Nat.beq inf.bytes 0&&τ.pure))))
  (req (decide (0<q.2)&&room q.2.toNat inf.bytes) ((AState.new σ o.dst (.arr i τ (List.replicate q.2.toNat z) false) (.c (.os σ.objs.length))).bind k))
def callE (σ:AState) (o:Oper) (f:Operand) (args:Array Operand) (k:AState→Option α):Option α:=(ev σ [] f).bind fun q=>(asFn q).bind fun g=>chk g.2.isEmpty ((env.cb g.1).bind fun q=>chk (bodied P g.1&&(!q.1||q.2.ρ.fresh)) ((evs σ [] args.toList).bind fun vs =>
 (argsB σ.objs q.1 q.2.ps vs).bind fun x=>(bif q.2.ρ.fresh then some σ.objs else qaA σ.prO σ.objs (qnU q.2.ps vs)).bind fun objs'=>Option.bind (q.2.φ x) fun r =>
  (AState.putO { σ with objs:=objs'++(resPV q.2 r objs'.length).2 } o.dst [] (resPV q.2 r objs'.length).1).bind k))
def srtArgs (σ:AState) (g:Option FuncId):List Operand→Bool
 | []=>g.isNone
 | [y]=>match (ev σ [] y).bind asFn,g with
  | some (h,[]),some g=>Nat.beq h g
  | _,_=>false
 | _=>false
def sortE (σ:AState) (o:Oper) (s:Srt) (args:List Operand) (k:AState→Option α):Option α:=match args with
 | x::r=>(ev σ [] x).bind fun v=>(asC v).bind fun
  | .os p=>(σ.objs[p]?).bind fun
   | .arr i e xs false=>chk (!bitB σ.prO p&&(Nat.beq i s.i&&srtArgs σ s.g r)) ((castL s.e e xs).bind fun ys=>req (Nat.blt ys.length 4611686018427387904)
     ((AState.putO { σ with objs:=σ.objs.set p (.arr s.i s.e (s.f ys) false) } o.dst [] (.tup [])).bind k))
   | _=>none
  | _=>none
 | _=>none
def killL:List OB→List Nat→List OB
 | objs,[]=>objs
 | objs,o::r=>killL (objs.set o .dead) r
def resIO (c:Ioc) (cs:List Cv):PV:=bif c.one then qgP c.ρ.isAgg cs else .tup (tupOf c.res cs)
def ioE (σ:AState) (o:Oper) (c:Ioc) (args:List Operand) (k:AState→Option α):Option α:=match args with
 | x::r=>(ev σ [] x).bind fun v=>(asC v).bind fun
  | .ptr p off=>(evs σ [] r).bind fun vs=>(σ.objs[p]?).bind fun
   | .box cs=>(qaA σ.prO σ.objs (idsD σ.objs c.bx cs++qnU c.ps vs)).bind fun objs1=>(toD objs1 c.bx cs).bind fun y=>(argsD σ.objs c.ps vs).bind fun z =>
    chk (Nat.beq off 0&&(!bitB σ.prO p&&(qmO (idsO objs1 c.bx cs)&&(idsO objs1 c.bx cs).all fun q=>!bitB σ.prO q && !Nat.beq q p))) (Option.bind (c.φ (y,z)) fun w =>
     (AState.putO { σ with objs:=(killL objs1 (idsO objs1 c.bx cs)).set p (.box ((cc (.st c.bx c.ρ) w objs1.length).1.take c.bx.size))++(cc (.st c.bx c.ρ) w objs1.length).2 } o.dst [] (resIO c ((cc (.st c.bx c.ρ) w objs1.length).1.drop c.bx.size))).bind k)
   | _=>none
  | _=>none
 | _=>none
def goArgs (σ:AState) (f:Operand) (args:List Operand):Option (List PV):=(ev σ [] f).bind fun q=>(asFn q).bind fun g=>(evs σ [] args).bind fun vs=>some (vs++ptrs g.2)
def topTy:Ty→Bool
 | .obx _=>true
 | .osl _ _=>true
 | .nil=>true
 | _=>false
def goE (σ:AState) (o:Oper) (c:Goc) (us:List PV) (k:AState→Option α):Option α:=none
def roE (σ:AState) (o:Oper) (c:Roc) (args:List Operand) (k:AState→Option α):Option α:=none
def ckE (σ:AState) (o:Oper) (t:TypeId) (args:List Operand) (k:AState→Option α):Option α:=match args with
 | [x]=>(ev σ [] x).bind fun v=>(asC v).bind fun
  | .ptr p off=>(σ.objs[p]?).bind fun
   | .bld t' _=>chk (Nat.beq off 0&&(Nat.beq t' t && !bitB σ.prO p)) ((AState.putO σ o.dst [] (.tup [])).bind k)
   | _=>none
  | _=>none
 | _=>none
def bstE (σ:AState) (o:Oper) (t i:TypeId) (args:List Operand) (k:AState→Option α):Option α:=match args with
 | [x]=>(ev σ [] x).bind fun v=>(asC v).bind fun
  | .ptr p off=>(σ.objs[p]?).bind fun
   | .bld t' c=>chk (Nat.beq off 0&&Nat.beq t' t) (match c with
    | .v (.slice none 0 0)=>(AState.putO σ o.dst [] (.c (.v (.string ByteArray.empty)))).bind k
    | .os r=>(σ.objs[r]?).bind fun
     | .arr i' (.int .u8) xs false=>chk (!bitB σ.prO r&&Nat.beq i' i) ((AState.putO { σ with objs:=σ.objs.set r .dead } o.dst [] (.c (.v (.string (strOf xs))))).bind k)
     | _=>none
    | _=>none)
   | _=>none
  | _=>none
 | _=>none
def insE (σ:AState) (o:Oper) (s:Ins) (args:List Operand) (k:AState→Option α):Option α:=none
def delE (σ:AState) (o:Oper) (s:Del) (args:List Operand) (k:AState→Option α):Option α:=none
def delOf (env:Env) (σ:AState) (f:Operand):Option (FuncId×Del):=(ev σ [] f).bind fun q=>(asFn q).bind fun g=>chk g.2.isEmpty ((env.del g.1).bind fun s=>chk (bodied P g.1) (some (g.1,s)))
def ckOf (env:Env) (σ:AState) (f:Operand):Option (FuncId×TypeId):=(ev σ [] f).bind fun q=>(asFn q).bind fun g=>chk g.2.isEmpty ((env.ck g.1).bind fun s=>chk (bodied P g.1) (some (g.1,s)))
def bsOf (env:Env) (σ:AState) (f:Operand):Option (FuncId×TypeId×TypeId):=(ev σ [] f).bind fun q=>(asFn q).bind fun g=>chk g.2.isEmpty ((env.bs g.1).bind fun s=>chk (bodied P g.1) (some (g.1,s)))
def insOf (env:Env) (σ:AState) (f:Operand):Option (FuncId×Ins):=(ev σ [] f).bind fun q=>(asFn q).bind fun g=>chk g.2.isEmpty ((env.ins g.1).bind fun s=>chk (bodied P g.1) (some (g.1,s)))
def allocE (σ:AState) (o:Oper) (t:TypeId) (k:AState→Option α):Option α:=(qr1 P t).bind fun l=>bif env.bldT t then(match l with
  | [.v (.pointer none),.v (.slice none 0 0)]=>(σ.new o.dst (.bld t (.v (.slice none 0 0))) (.c (.ptr σ.objs.length 0))).bind k
  | _=>none) else(σ.new o.dst (.box l) (.c (.ptr σ.objs.length 0))).bind k
def gocOf (env:Env) (σ:AState) (f:Operand):Option (FuncId×Goc):=(ev σ [] f).bind fun q=>(asFn q).bind fun g=>(env.go g.1).bind fun s=>chk (bodied P g.1) (some (g.1,s))
def rocOf (env:Env) (σ:AState) (f:Operand):Option (FuncId×Roc):=(ev σ [] f).bind fun q=>(asFn q).bind fun g=>chk g.2.isEmpty ((env.ro g.1).bind fun s=>chk (bodied P g.1) (some (g.1,s)))
def iocOf (env:Env) (σ:AState) (f:Operand):Option (FuncId×Ioc):=(ev σ [] f).bind fun q=>(asFn q).bind fun g=>chk g.2.isEmpty ((env.io g.1).bind fun s=>chk (bodied P g.1) (some (g.1,s)))
def srtOf (env:Env) (σ:AState) (f:Operand):Option (FuncId×Srt):=(ev σ [] f).bind fun q=>(asFn q).bind fun g=>chk g.2.isEmpty ((env.srt g.1).bind fun s=>chk (bodied P g.1) (some (g.1,s)))
def arrOf (P:Program) (t:TypeId):Option (Nat×TypeId):=(P.underlying t).bind fun
 | .array n e=>some (n,e)
 | _=>none
def qrI (objs:List OB) (τ:Ty):Nat→List Cv→Option (List (D τ))
 | 0,_=>some []
 | n+1,cs=>(toD objs τ (cs.take τ.size)).bind fun x=>(qrI objs τ n (cs.drop τ.size)).bind fun r=>some (x::r)
def sliceE (σ:AState) (own vw:Bool) (o:Oper) (t:TypeId) (x:Operand) (lo hi:Option Operand) (k:AState→Option α):Option α:=(ev σ [] x).bind fun v=>(asC v).bind fun
 | .os p=>(qaX P t).bind fun i=>(σ.objs[p]?).bind fun
  | .arr i' e xs fz=>chk (qb1 P i e.size) (bif vw||(own&&lo.isSome) then(optI σ [] 0 lo).bind fun l=>(optI σ [] (xs.length:Int) hi).bind fun h=>req (qh l h xs.length)
    ((AState.putO σ o.dst [] (.vw p e.size l.toNat (h.toNat-l.toNat))).bind k)
   else bif own then chk (!fz&&(!bitB σ.prO p&&lo.isNone)) ((optI σ [] (xs.length:Int) hi).bind fun h=>req (qh 0 h xs.length)
    ((AState.new { σ with objs:=σ.objs.set p .dead } o.dst (.arr i' e (xs.take h.toNat) false) (.c (.os σ.objs.length))).bind k))
   else(qaA σ.prO σ.objs [p]).bind fun objs'=>(optI σ [] 0 lo).bind fun l=>(optI σ [] (xs.length:Int) hi).bind fun h=>req (qh l h xs.length)
    ((AState.putO { σ with objs:=objs' } o.dst [] (.c (.sl e ((xs.take h.toNat).drop l.toNat)))).bind k))
  | _=>none
 | .ptr p off=>(arrOf P t).bind fun ar=>(tyOf P 20 ar.2).bind fun τ=>(σ.objs[p]?).bind fun
  | .box cs=>chk (lo.isNone&&(hi.isNone&&(!bitB σ.prO p&&(τ.flat&&(qb1 P ar.2 τ.size&&Nat.ble (off+ar.1*τ.size) cs.length))))) ((qrI σ.objs τ ar.1 (cs.drop off)).bind fun xs =>
    (AState.putO { σ with objs:=σ.objs.set p (.fbx cs) } o.dst [] (.c (.sl τ xs))).bind k)
  | _=>none
 | _=>none
def qs8 (σ:AState) (o:Oper) (t:TypeId) (x:Operand) (lo hi mx:Option Operand) (k:AState→Option α):Option α:=(ev σ [] x).bind fun v=>(asC v).bind fun
 | .os p=>(qaX P t).bind fun i=>(σ.objs[p]?).bind fun
  | .arr _ e xs _=>chk (qb1 P i e.size&&(hi.isSome&&mx.isSome)) ((qaA σ.prO σ.objs [p]).bind fun objs'=>(optI σ [] 0 lo).bind fun l=>(optI σ [] 0 hi).bind fun h=>(optI σ [] 0 mx).bind fun m=>req (qh l h xs.length&&(decide (h≤m)&&decide (m≤(xs.length:Int))))
    ((AState.putO { σ with objs:=objs' } o.dst [] (.c (.sl e ((xs.take h.toNat).drop l.toNat)))).bind k))
  | _=>none
 | _=>none
def clearE (σ:AState) (o:Oper) (x:Operand) (t:TypeId) (k:AState→Option α):Option α:=(qaX P t).bind fun i=>(ev σ [] x).bind fun v=>match v with
 | .vw p sz lo n=>(σ.objs[p]?).bind fun
  | .arr ti e xs false=>chk (!bitB σ.prO p&&Nat.beq sz e.size) ((qhz P i e).bind fun z=>(AState.putO { σ with objs:=σ.objs.set p (.arr ti e (xs.take lo++(List.replicate n z++xs.drop (lo+n))) false) } o.dst [] (.tup [])).bind k)
  | _=>none
 | _=>none
def dstOf (objs:List OB):PV→Option (Nat×Nat×Nat)
 | .c (.os p)=>(objs[p]?).bind fun
  | .arr _ _ xs _=>some (p,0,xs.length)
  | _=>none
 | .vw p _ lo n=>some (p,lo,n)
 | _=>none
def cpyOf (objs:List OB) (e:Ty):PV→Option (List (D e))
 | .c c=>ofSl e objs c
 | .vw q sz lo n=>(objs[q]?).bind fun
  | .arr _ e' xs _=>chk (Nat.beq sz e'.size) ((castL e e' xs).bind fun ys=>some ((ys.drop lo).take n))
  | _=>none
 | _=>none
def dstSz (n:Nat):PV→Bool
 | .vw _ sz _ _=>Nat.beq sz n
 | _=>true
def copyE (σ:AState) (o:Oper) (d s:Operand) (t:TypeId) (k:AState→Option α):Option α:=(qaX P t).bind fun i=>(ev σ [] d).bind fun dv=>(ev σ [] s).bind fun sv=>(dstOf σ.objs dv).bind fun q=>(σ.objs[q.1]?).bind fun
 | .arr ti e xs false=>chk (!bitB σ.prO q.1&&(qb1 P i e.size&&dstSz e.size dv)) ((cpyOf σ.objs e sv).bind fun ys=>req (Nat.blt 0 ys.length&&Nat.blt 0 q.2.2)
   ((AState.putO { σ with objs:=σ.objs.set q.1 (.arr ti e (xs.take q.2.1++(ys.take q.2.2++xs.drop (q.2.1+min ys.length q.2.2))) false) } o.dst [] (.c (.v (.int .i64 ((min ys.length q.2.2:Nat):Int))))).bind k))
 | _=>none
def makeC (σ:AState) (o:Oper) (t:TypeId) (c:Operand) (k:AState→Option α):Option α:=(qaX P t).bind fun i=>(tyOf P 20 i).bind fun τ=>(qhz P i τ).bind fun _ =>
 (ev σ [] c).bind fun v=>(asInt v).bind fun m=>(P.info? i).bind fun inf=>chk (!Nat.beq inf.bytes 0&&τ.pure) <| req (decide (0≤m.2)&&room m.2.toNat inf.bytes)
  ((σ.new o.dst (.arr i τ [] false) (.c (.os σ.objs.length))).bind k)
def qnQ:Operand→Bool
 | .const (.int _ n)=>n==0
 | _=>false
def isConst:Operand→Bool
 | .const _=>true
 | _=>false
def makeE (σ:AState) (o:Oper) (t:TypeId) (l c:Operand) (k:AState→Option α):Option α:=bif qnQ l && !isConst c then makeC P σ o t c k else(qaX P t).bind fun i=>(tyOf P 20 i).bind fun τ=>(qhz P i τ).bind fun z =>
 (ev σ [] l).bind fun u=>(asInt u).bind fun n=>(ev σ [] c).bind fun v=>(asInt v).bind fun m=>(P.info? i).bind fun inf=>chk (!Nat.beq inf.bytes 0&&τ.pure) <| req (decide (0≤n.2)&&(n.2==m.2&&room n.2.toNat inf.bytes))
  ((σ.new o.dst (.arr i τ (List.replicate n.2.toNat z) false) (.c (.os σ.objs.length))).bind k)
def rowE (σ:AState) (o:Oper) (i:TypeId) (len:Nat) (parts:Array (Nat×Operand)) (k:AState→Option α):Option α:=match parts.toList with
 | [(0,x)]=>(ev σ [] x).bind fun v=>(asC v).bind fun
  | .os p=>(σ.objs[p]?).bind fun
   | .arr j e ys false=>(arOf σ.objs).bind fun a=>(σ.objs[a]?).bind fun
    | .ar t (.sl e') ow xs lent=>(castL e' e ys).bind fun zs=>(qhz P i .ref).bind fun _=>chk (Nat.beq len 1&&(Nat.beq j t&&(ow.isNone&&(lent.isNone&&(!bitB σ.prO a && !bitB σ.prO p)))))
      (req (Nat.blt 0 ys.length) ((AState.new { σ with objs:=(σ.objs.set p .dead).set a (.ar t (.sl e') ow (addP (A:=List (D e')) xs zs) lent) } o.dst (.arr i .ref [xs.length+1] false) (.c (.os σ.objs.length))).bind k))
    | _=>none
   | _=>none
  | _=>none
 | _=>none
def buildE (σ:AState) (o:Oper) (t:TypeId) (len:Nat) (parts:Array (Nat×Operand)) (k:AState→Option α):Option α:=(qaX P t).bind fun i=>bif nodeT i then rowE P σ o i len parts k else(tyOf P 20 i).bind fun τ=>(qhz P i τ).bind fun z=>(qil σ [] parts.toList).bind fun ps =>
 chk (Nat.ble (len*τ.size) 16777216&&τ.pure) ((litE σ.objs τ (List.replicate len z) ps).bind fun xs=>(qaA σ.prO σ.objs (qrF τ ps)).bind fun objs' =>
  (AState.new { σ with objs:=objs' } o.dst (.arr i τ xs false) (.c (.os objs'.length))).bind k)
def buildH (σ:AState) (o:Oper) (t:TypeId) (len:Nat) (parts:Array (Nat×Operand)) (k:AState→Option α):Option α:=let _:=P;none
def storeE (σ:AState) (o:Oper) (t:TypeId) (a x:Operand) (k:AState→Option α):Option α:=(ev σ [] a).bind fun p=>(ev σ [] x).bind fun v=>(qbb v).bind fun l=>chk (qb1 P t l.length&&(o.dst.isNone&&l.all quM))
 (req (storeB σ.objs l (faOf p)) ((storeAt σ.objs σ.prO l (faOf p)).bind fun objs'=>k { σ with objs:=objs' }))

def bytesD (σ:AState) (o:Oper) (s d:TypeId) (x:Operand) (k:AState→Option α):Option α:=let _:=P;none
def bytesE (σ:AState) (o:Oper) (s d:TypeId) (x:Operand) (k:AState→Option α):Option α:=bif Ctx.bytes.isEmpty then bytesD P σ o s d x k else(qaX P d).bind fun i=>chk (strTy P s&&(qgx P d&&memN i Ctx.bytes)) ((ev σ [] x).bind fun v=>(asStr v).bind fun b=>req (Nat.ble b.size 140737488355328)
 ((σ.new o.dst (.arr i (.int .u8) (qcp b) false) (.c (.os σ.objs.length))).bind k))
def markE (σ:AState) (o:Oper) (s d:TypeId) (x:Operand) (k:AState→Option α):Option α:=let _:=P;none
def lenM (σ:AState) (o:Oper) (x:Operand) (t:TypeId) (k:AState→Option α):Option α:=let _:=P;none
def putM (σ:AState) (o:Oper) (t:TypeId) (m i x:Operand) (k:AState→Option α):Option α:=let _:=P;none
def newM (σ:AState) (o:Oper) (t:TypeId) (k:AState→Option α):Option α:=let _:=P;none
def invE (σ:AState) (o:Oper) (rc:Operand) (nm:String) (args:Array Operand) (k:AState→Option α):Option α:=let _:=P;let _:=env;none
def deferE (σ:AState) (o:Oper) (f:Operand) (args:Array Operand) (k:AState→Option α):Option α:=none
def stepE (own vw:Bool) (σ:AState) (o:Oper) (k:AState→Option α):Option α:=match o.op with
 | .box t x=>(ev σ [] x).bind fun v=>(qbb v).bind fun l=>(σ.new o.dst (.box l) (.c (.ptr σ.objs.length 0))).bind k
 | .alloc t=>allocE P env σ o t k
 | .store t a x=>storeE P σ o t a x k
 | .makeMap t none=>newM P σ o t k
 | .mapUpdate t m i x=>putM P σ o t m i x k
 | .defer ⟨.value f,args,_⟩=>deferE σ o f args k
 | .call ⟨.builtin .len,args,ats⟩=>match args.toList,ats.toList with
  | [x],[t]=>lenM P σ o x t k
  | _,_=>none
 | .call ⟨.invoke rc nm,args,_⟩=>invE P env σ o rc nm args k
 | .buildSlice t len parts=>bif own then buildH P σ o t len parts k else buildE P σ o t len parts k
 | .makeSlice t l c=>makeE P σ o t l c k
 | .convert s d x=>bif strTy P s then bytesE P σ o s d x k else markE P σ o s d x k
 | .call ⟨.builtin .append,args,ats⟩=>match args.toList,ats.toList with
  | [s,x],[t,t']=>bif Nat.beq t t' then qtI P σ o s x t k else bif strTy P t' then qti P σ o s x t k else qs7 P σ o s x t t' k
  | _,_=>none
 | .call ⟨.builtin .clear,args,ats⟩=>match args.toList,ats.toList with
  | [x],[t]=>clearE P σ o x t k
  | _,_=>none
 | .call ⟨.builtin .copy,args,ats⟩=>match args.toList,ats.toList with
  | [d,s],[t,_]=>copyE P σ o d s t k
  | _,_=>none
 | .slice t x lo hi none=>sliceE P σ own vw o t x lo hi k
 | .slice t x (some l) hi (some m)=>qs8 P σ o t x (some l) hi (some m) k
 | .call ⟨.value f,args,_⟩=>match srtOf P env σ f with
  | some s=>sortE σ o s.2 args.toList k
  | none=>match iocOf P env σ f with
   | some s=>ioE σ o s.2 args.toList k
   | none=>match rocOf P env σ f with
    | some s=>roE σ o s.2 args.toList k
    | none=>match ckOf P env σ f with
     | some s=>ckE σ o s.2 args.toList k
     | none=>match bsOf P env σ f with
      | some s=>bstE σ o s.2.1 s.2.2 args.toList k
      | none=>match insOf P env σ f with
       | some s=>insE σ o s.2 args.toList k
       | none=>match gocOf P env σ f with
        | some s=>(goArgs σ f args.toList).bind fun us=>goE σ o s.2 us k
        | none=>match delOf P env σ f with
         | some s=>delE σ o s.2 args.toList k
         | none=>callE P env σ o f args k
 | _=>none
end

inductive OTy where
 | box (τ:Ty)
 | arr (i:TypeId) (e:Ty)
 | bld (t i:TypeId)
 | mp (k v:Ty)
 | ar (t:TypeId) (p:Ty) (ow:Option TypeId)
structure Shape where
 keep:List Nat
 slots:List (Nat×Ty)
 objs:List (Nat×Option OTy)
def OTy.ty:OTy→Ty
 | .box τ=>τ
 | .arr _ e => .sl e
 | .bld _ i => .osl i (.int .u8)
 | .mp k v => .omp k v
 | .ar _ p _ => .sl (.st p (.onl 0 .ref))
def tysS:List (Nat×Ty)→List Ty
 | []=>[]
 | (_,τ)::r=>τ::tysS r
def tysO:List (Nat×Option OTy)→List Ty
 | []=>[]
 | (_,some q)::r=>q.ty::tysO r
 | (_,none)::r=>tysO r
abbrev Shape.T (s:Shape):Type:=DL (tysS s.slots)×DL (tysO s.objs)

def absS (objs:List OB) (slots:Slots):(l:List (Nat×Ty))→Option (DL (tysS l))
 | []=>some ()
 | (t,τ)::r=>(get slots t).bind fun e=>chk e.1.isEmpty ((qbb e.2).bind fun cs=>chk (beqB τ.isAgg (qkb e.2)) ((toD objs τ cs).bind fun x=>(absS objs slots r).bind fun y=>some (x,y)))
def absO (objs:List OB):(l:List (Nat×Option OTy))→Option (DL (tysO l))
 | []=>some ()
 | (_,none)::r=>absO objs r
 | (o,some (.box τ))::r=>(objs[o]?).bind fun
  | .box cs=>(toD objs τ cs).bind fun x=>(absO objs r).bind fun y=>some (x,y)
  | _=>none
 | (o,some (.arr i e))::r=>(objs[o]?).bind fun
  | .arr i' e' xs false=>chk (Nat.beq i i') ((castL e e' xs).bind fun x=>(absO objs r).bind fun y=>some (x,y))
  | _=>none
 | (o,some (.bld t i))::r=>(objs[o]?).bind fun
  | .bld t' c=>chk (Nat.beq t' t) ((toD objs (.osl i (.int .u8)) [c]).bind fun x=>(absO objs r).bind fun y=>some (x,y))
  | _=>none
 | (_,some (.mp _ _))::_=>none
 | (_,some (.ar t p ow))::r=>(arOf objs).bind fun n=>(objs[n]?).bind fun
  | .ar t' p' ow' xs lent=>chk (Nat.beq t' t&&(beqO ow' ow&&lent.isNone)) ((castE p p' xs).bind fun x=>(absO objs r).bind fun y=>some (x,y))
  | _=>none
def qaJ (f:Ty→List Cv→List Nat) (slots:Slots):List (Nat×Ty)→List Nat
 | []=>[]
 | (t,τ)::r=>(((get slots t).bind fun e=>qbb e.2).elim [] (f τ))++qaJ f slots r
def qR (f:Ty→List Cv→List Nat) (objs:List OB):List (Nat×Option OTy)→List Nat
 | []=>[]
 | (o,some (.box τ))::r=>(match objs[o]? with
  | some (.box cs)=>f τ cs
  | _=>[])++qR f objs r
 | (o,some (.bld _ i))::r=>(match objs[o]? with
  | some (.bld _ c)=>f (.osl i (.int .u8)) [c]
  | _=>[])++qR f objs r
 | _::r=>qR f objs r
def listed (o:Nat):List (Nat×Option OTy)→Bool
 | []=>false
 | (p,_)::r=>Nat.beq p o||listed o r
def qaG (o:Nat):List (Nat×Option OTy)→Bool
 | []=>false
 | (p,none)::r=>Nat.beq p o||qaG o r
 | (_,some _)::r=>qaG o r
def stays (s:Shape) (n0 o:Nat):Bool:=Nat.blt o n0 && !qaG o s.objs
def okOwned (s:Shape) (n0:Nat) (l:List Nat):Bool:=qmO l&&l.all fun o=>!stays s n0 o
def okData (s:Shape) (n0:Nat) (objs:List OB) (own:List Nat) (l:List Nat):Bool:=l.all fun o=>(match objs[o]? with
 | some (.arr _ _ _ true)=>true
 | _=>false)||(!stays s n0 o && !memN o own)
def absT (s:Shape) (n0:Nat) (σ:AState):Option s.T :=
 chk (okOwned s n0 (qaJ (idsO σ.objs) σ.slots s.slots++qR (idsO σ.objs) σ.objs s.objs) &&
   okData s n0 σ.objs (qaJ (idsO σ.objs) σ.slots s.slots++qR (idsO σ.objs) σ.objs s.objs) (qaJ (idsD σ.objs) σ.slots s.slots++qR (idsD σ.objs) σ.objs s.objs))
  ((absS σ.objs σ.slots s.slots).bind fun x=>(absO σ.objs s.objs).bind fun y=>some (x,y))
def stable:PV→Bool
 | _=>true
def kf (slots:Slots) (t:Nat):Option (Tag×PV):=(get slots t).bind fun e=>chk (e.1.isEmpty&&stable e.2) (some e)
def keepF (slots:Slots):List Nat→Slots
 | []=>[]
 | t::r=>(t,kf slots t)::keepF slots r
def concO:(l:List (Nat×Option OTy))→DL (tysO l)→List OB→List OB
 | [],_,objs=>objs
 | (o,none)::r,x,objs=>concO r x (objs.set o .dead)
 | (o,some (.box τ))::r,x,objs=>concO r x.2 (objs.set o (.box (cc τ x.1 objs.length).1)++(cc τ x.1 objs.length).2)
 | (o,some (.arr i e))::r,x,objs=>concO r x.2 (objs.set o (.arr i e x.1 false))
 | (o,some (.bld t i))::r,x,objs=>concO r x.2 (objs.set o (.bld t (.os objs.length))++(cc (.osl i (.int .u8)) x.1 objs.length).2)
 | (o,some (.mp k v))::r,x,objs=>concO r x.2 (objs.set o (.mp k v x.1))
 | (o,some (.ar t p ow))::r,x,objs=>concO r x.2 (objs.set o .dead++[.ar t p ow x.1 none])
def concS:(l:List (Nat×Ty))→DL (tysS l)→AState→AState
 | [],_,σ=>σ
 | (t,τ)::r,x,σ=>concS r x.2 { σ with slots:=(t,some ([],qgP τ.isAgg (cc τ x.1 σ.objs.length).1))::σ.slots,objs:=σ.objs++(cc τ x.1 σ.objs.length).2 }
def conc (s:Shape) (σ:AState) (x:s.T):AState :=
 concS s.slots x.1 { σ with slots:=keepF σ.slots s.keep,objs:=concO s.objs x.2 σ.objs,gs:=0,known:=[] }
def maskN:List Nat→Nat
 | []=>0
 | t::r=>Nat.lor (Nat.shiftLeft 1 t) (maskN r)
def protO (l:List (Nat×Option OTy)):Nat→Nat
 | 0=>0
 | n+1=>bif listed n l then protO l n else Nat.lor (protO l n) (Nat.shiftLeft 1 n)
def AState.enter (σ:AState) (s:Shape) (n:Nat):AState:={ σ with prS:=Nat.lor σ.prS (maskN s.keep),prO:=Nat.lor σ.prO (protO s.objs n) }
def AState.leave (σ σ0:AState):AState:={ σ with prS:=σ0.prS,prO:=σ0.prO }
def qkt (s:Shape) (σ:AState):Bool:=Nat.beq (Nat.land σ.prS (maskN s.keep)) σ.prS&&(s.slots.all fun q=>!memN q.1 s.keep&&(Nat.blt q.1 σ.n && !bitB σ.prS q.1))&&(qmO (s.objs.map Prod.fst)&&s.objs.all fun q=>Nat.blt q.1 σ.objs.length && !bitB σ.prO q.1)&&(Nat.beq σ.gs 0&&σ.known.isEmpty)

def fraO (objs:List OB) (prO:Nat):Option (List OB):=none
inductive Ann where
 | nil
 | two (a b:Ann)
 | join (s:Shape) (a:Ann)
 | joinE (s:Shape) (a:Ann)
 | loop (s:Shape) (a:Ann)
 | own (a:Ann)
 | vw (a:Ann)
 | tail (m:Nat) (a:Ann)
 | any (s g:Nat) (a:Ann)
 | ord (i u:Nat) (x n:Ann)
 | alt (a b:Ann)
 | sel (o:Nat) (i:TypeId) (a b:Ann)
 | spl (d:Nat) (a:Ann)
 | frz (l:List Nat) (a:Ann)
 | fra (a:Ann)
 | slk (t:Nat) (a b:Ann)
 | mbs (o:Nat) (a b:Ann)
 | hop (o t:Nat) (a:Ann)
 | hcl (o:Nat) (a:Ann)
def Ann.l:Ann→Ann
 | .two a _=>a
 | _ => .nil
def Ann.r:Ann→Ann
 | .two _ b=>b
 | _ => .nil
def Ann.isOwn:Ann→Bool
 | .own _=>true
 | _=>false
def Ann.isVw:Ann→Bool
 | .vw _=>true
 | _=>false
def Ann.rest:Ann→Ann
 | .own a=>a
 | .vw a=>a
 | a=>a

def arrAt (σ:AState) (o:Nat) (i:TypeId):Bool:=match σ.objs[o]? with
 | some (.arr j _ _ _)=>Nat.beq i j
 | some (.box l)=>Nat.beq i (Nat.add 1000000 l.length)
 | _=>false
def hopO (σ:AState) (o t:Nat):Option (Bool×List OB):=(get σ.slots t).bind fun e=>chk e.1.isEmpty ((asInt e.2).bind fun q=>(σ.objs[o]?).bind fun
 | .hr i a b j xs none=>chk (!bitB σ.prO o) (some (decide (0≤q.2)&&(Nat.blt q.2.toNat xs.length&&(getD' xs q.2.toNat (dflt (eT a b))).2.1.isEmpty),σ.objs.set o (.hr i a b j xs (some (q.2.toNat,σ.objs.length)))++[.nilr]))
 | _=>none)
def hclO (σ:AState) (o:Nat):Option (Bool×List OB):=(σ.objs[o]?).bind fun
 | .hr i a b j xs (some (k,r))=>(σ.objs[r]?).bind fun
  | .mbr j' (.int .i64) x=>chk (!bitB σ.prO o&&(!bitB σ.prO r&&Nat.beq j' j)) (some (Option.elim x true (fun ks=>!List.isEmpty (α:=Int) ks),(σ.objs.set o (.hr i a b j (xs.set k ((getD' xs k (dflt (eT a b))).1,x.getD [],(getD' xs k (dflt (eT a b))).2.2)) none)).set r .dead))
  | _=>none
 | _=>none
def isFa (σ:AState) (t:Nat):Bool:=match get σ.slots t with
 | some (_,.ra _ _ _ _)=>true
 | _=>false
def Ann.at (σ:AState):Ann→Ann
 | .sel o i a b=>bif arrAt σ o i then a.at σ else b.at σ
 | .slk t a b=>bif isFa σ t then a.at σ else b.at σ
 | a=>a
def dropU:Slots→Slots
 | []=>[]
 | (i,some (tg,pv))::r=>(i,bif stable pv then some (tg,pv) else none)::dropU r
 | (i,none)::r=>(i,none)::dropU r
structure Kt (α:Type) where
 n:AState→Option α
 x:Nat→AState→Option α
 r:AState→Option α

def qbi:Nat→List PV→Slots
 | _,[]=>[]
 | i,v::r=>(i,some ([],v))::qbi (i+1) r
def resOf (P:Program) (σ:AState):List ResultVar→Option (List PV)
 | []=>some []
 | .tmp t::r=>(get σ.slots t).bind fun e=>chk e.1.isEmpty ((resOf P σ r).bind fun vs=>some (e.2::vs))
 | .cell a t::r=>(get σ.slots a).bind fun e=>chk e.1.isEmpty ((qjz P σ t e.2).bind fun u=>(resOf P σ r).bind fun vs=>some (u::vs))
def pwOf:List PV→Option (List PW)
 | []=>some []
 | .c x::r=>(pwOf r).bind fun l=>some (.c x::l)
 | .agg x::r=>(pwOf r).bind fun l=>some (.agg x::l)
 | _=>none
def qsz:List PV→Option PV
 | [v]=>some v
 | vs=>(pwOf vs).bind fun l=>some (.tup l)
def inlined (P:Program) (σ:AState) (env:Env) (o:Oper):Option (FuncId×Func×Code×List PV):=match o.op with
 | .call ⟨.value f,args,_⟩=>(ev σ [] f).bind fun q=>(asFn q).bind fun g=>(env.fn g.1).bind fun fn=>chk (bodied P g.1) (fn.body.bind fun c=>(evs σ [] args.toList).bind fun vs=>chk (Nat.ble (vs.length+g.2.length) fn.ntmps) (some (g.1,fn,c,vs++ptrs g.2)))
 | _=>none

def qkf (P:Program) (env:Env) (σ:AState) (tg:Tag) (o:Oper):Bool:=match o.op with
 | .box _ _=>false
 | .alloc _=>false
 | .store _ _ _=>false
 | .buildSlice _ _ _=>false
 | .makeSlice _ _ _=>false
 | .makeMap _ _=>false
 | .mapUpdate _ _ _ _=>false
 | .defer _=>false
 | .convert _ d _=>!qgx P d
 | .call ⟨.invoke _ _,_,_⟩=>false
 | .call ⟨.builtin .len,args,_⟩=>match args.toList with
  | [x]=>!isMp (ev σ tg x)
  | _=>true
 | .call ⟨.builtin .append,_,_⟩=>false
 | .call ⟨.builtin .clear,_,_⟩=>false
 | .call ⟨.builtin .copy,_,_⟩=>false
 | .slice _ x lo hi mx=>match ev σ tg x with
  | some (.c (.os _))=>mx.isSome&&lo.isNone
  | some (.c (.ptr _ _))=>false
  | _=>true
 | .call ⟨.value f,args,_⟩=>match ((ev σ tg f).bind asFn) with
  | some (g,[])=>match env.cb g with
   | some c=>c.2.ρ.flat&&(!c.1||((args.toList.head?.bind (ev σ tg)).bind (qqt σ.objs)).isSome)
   | none=>false
  | _=>false
 | _=>true
def AState.fix (σ:AState) (d:Nat) (b:Bool):AState:={ σ with slots:=(d,some ([],.c (.v (.bool b))))::σ.slots,known:=(d,b)::σ.known,gs:=Nat.lor σ.gs (Nat.shiftLeft 1 d) }
def lastT:Tag→Option Nat
 | []=>none
 | [x]=>some x.1
 | _::r=>lastT r
def qo5 {α:Type} (σ:AState) (d:Nat) (k:AState→Option α):Option α:=(get σ.slots d).bind fun e=>chk (subT σ.known e.1 []) ((asBool e.2).bind fun b=>bif b then k (σ.fix d true) else k (σ.fix d false))
def canS (σ:AState) (d:Nat):Bool:=match get σ.slots d with
 | some (tg,.c (.v (.bool _)))=>subT σ.known tg []
 | _=>false

section
variable {α : Type} (P : Program) (env : Env) (rc : Ann → Code → AState → Kt α → Option α) (ops : Array Oper)
noncomputable def quT (ann:Ann) (σ:AState) (o:Oper) (k:AState→Option α):Option α:=(inlined P σ env o).bind fun q =>
 rc ann q.2.2.1 ⟨q.2.1.ntmps,qbi 0 q.2.2.2,σ.objs,0,σ.prO,0,[]⟩
  ⟨fun σ'=>(resOf P σ' q.2.1.results.toList).bind fun us=>(qsz us).bind fun u=>(AState.putO { σ with objs:=σ'.objs,slots:=dropU σ.slots } o.dst [] u).bind k,fun _ _=>none,
   fun σ'=>(resOf P σ' q.2.1.results.toList).bind fun us=>(qsz us).bind fun u=>(AState.putO { σ with objs:=σ'.objs,slots:=dropU σ.slots } o.dst [] u).bind k⟩
noncomputable def qgy:Nat→List Oper→Ann→AState→(AState→Option α)→Option α
 | _,[],_,σ,k=>k σ
 | 0,_::_,_,_,_=>none
 | m+1,o::r,ann,σ,k=>(tagOf ops σ o).bind fun q =>
  bif q.2.1 then(AState.putO { σ with gs:=Nat.lor σ.gs q.2.2 } o.dst q.1 (.c (.v undef))).bind fun σ'=>qgy m r ann σ' k
  else bif qkf P env σ q.1 o then
   stepS P env σ q.1 o fun v=>(AState.putO { σ with gs:=Nat.lor σ.gs q.2.2 } o.dst q.1 v).bind fun σ'=>qgy m r ann σ' k
  else match lastT q.1 with
   | some d=>qo5 σ d fun σ'=>qgy m (o::r) ann σ' k
   | none=>bif (inlined P σ env o).isSome then quT P env rc ann.l { σ with gs:=Nat.lor σ.gs q.2.2 } o fun σ'=>qgy m r (ann.r.at σ') σ' k
    else stepE P env ann.isOwn ann.isVw { σ with gs:=Nat.lor σ.gs q.2.2 } o fun σ'=>qgy m r ann.rest σ' k
noncomputable def qjP:List Oper→AState→(AState→Option α)→Option α
 | [],σ,k=>k σ
 | o::r,σ,k=>(tagOf ops σ o).bind fun q=>chk (!q.2.1&&qkf P env σ q.1 o)
   (stepS P env σ q.1 o fun v=>(AState.putO { σ with gs:=Nat.lor σ.gs q.2.2 } o.dst q.1 v).bind fun σ'=>qjP r σ' k)
end
def Ann.tl:Ann→Option (Nat×Ann)
 | .tail m a=>some (m,a)
 | _=>none
def Ann.av:Ann→Option (Nat×Nat×Ann)
 | .any s g a=>some (s,g,a)
 | _=>none
def qd1 (o:Oper):Bool:=match o.op with
 | .box _ _=>true
 | .alloc _=>true
 | .buildSlice _ _ _=>true
 | .makeSlice _ _ _=>true
 | .slice _ _ _ _ _=>true
 | _=>false
def conOp (env:Env) (σ:AState) (o:Oper):Bool:=match o.op with
 | .call ⟨.value f,_,_⟩=>match ((ev σ [] f).bind asFn) with
  | some (g,[])=>(env.cb g).isSome
  | _=>false
 | _=>false
def qm6 (o:Oper):Bool:=match o.op with
 | .lookup _ _ _ _=>true
 | .load _ _=>true
 | .convert _ _ _=>true
 | _=>false
def qqI (o:Oper):Bool:=match o.op with
 | .call ⟨.value _,_,_⟩=>true
 | _=>false
def regOp (ops:Array Oper) (i:Nat):Bool:=match ops[i]? with
 | some o=>!qm6 o && !qqI o
 | none=>false
def maskA (n u:Nat):Array Bool:=((List.range n).map (bitB u)).toArray
def upOk (ops:Array Oper) (s g:Nat) (listed:Array Bool) (i:Nat) (U:Array Bool):Bool :=
 !U.getD i false&&(((Region.ready .any ops U).all fun j=>Nat.beq j i)&&(List.range ops.size).all fun j=>bif listed.getD j false then U.getD j false else(!U.getD j false||(bitB s j||bitB g j)))
def takeOk (ops:Array Oper) (s g:Nat) (listed:Array Bool) (i u:Nat):Bool:=match Region.ready .any ops listed with
 | [j]=>Nat.beq j i
 | R=>R.contains i&&(Region.free .any ops listed i&&(bitB s i&&(regOp ops i||upOk ops s g listed i (maskA ops.size u))))
section
variable {α : Type} (P : Program) (env : Env) (rc : Ann → Code → AState → Kt α → Option α) (ops : Array Oper) (s g : Nat)
noncomputable def qoQ (i:Nat) (x:Ann) (σ:AState) (again next:AState→Option α):Option α:=(ops[i]?).bind fun o=>(tagOf ops σ o).bind fun q =>
 bif q.2.1 then(AState.putO { σ with gs:=Nat.lor σ.gs q.2.2 } o.dst q.1 (.c (.v undef))).bind next
 else bif bitB s i then chk (qkf P env σ q.1 o) (stepS P env σ q.1 o fun v=>(AState.putO { σ with gs:=Nat.lor σ.gs q.2.2 } o.dst q.1 v).bind next)
 else match lastT q.1 with
  | some d=>qo5 σ d again
  | none=>bif bitB g i then chk (qd1 o||conOp env σ o) (stepE P env x.isOwn x.isVw { σ with gs:=Nat.lor σ.gs q.2.2 } o next)
   else bif qkf P env σ q.1 o then stepS P env σ q.1 o fun v=>(AState.putO { σ with gs:=Nat.lor σ.gs q.2.2 } o.dst q.1 v).bind next
   else bif (inlined P σ env o).isSome then quT P env rc x { σ with gs:=Nat.lor σ.gs q.2.2 } o next
   else stepE P env x.isOwn x.isVw { σ with gs:=Nat.lor σ.gs q.2.2 } o next
noncomputable def qkD (run:Nat→Ann→Ann→Option α):List Nat→Ann→Option α
 | [i],.ord j _ x n=>chk (Nat.beq i j) (run i x n)
 | i::r,.alt (.ord j _ x n) b=>chk (Nat.beq i j) (agree (run i x n) (qkD run r b))
 | _,_=>none
noncomputable def qaE:Nat→Array Bool→Ann→AState→(AState→Option α)→Option α
 | 0,_,_,_,_=>none
 | m+1,listed,.ord i u x n,σ,k=>chk (takeOk ops s g listed i u) (qoQ P env rc ops s g i x σ (fun σ'=>qaE m listed (.ord i u x n) σ' k) fun σ'=>qaE m (listed.setIfInBounds i true) n σ' k)
 | m+1,listed,.alt a b,σ,k=>qkD (fun i x n=>qoQ P env rc ops s g i x σ (fun _=>none) fun σ'=>qaE m (listed.setIfInBounds i true) n σ' k) (Region.ready .any ops listed) (.alt a b)
 | m+1,listed,.spl d n,σ,k=>bif canS σ d then qo5 σ d (fun σ'=>qaE m listed n σ' k) else qaE m listed n σ k
 | _+1,listed,_,σ,k=>chk (Region.ready .any ops listed).isEmpty (k σ)
end
noncomputable def denP {α:Type} (P:Program) (env:Env) (rc:Ann→Code→AState→Kt α→Option α) (ann:Ann) (c:Code) (σ:AState) (K:Kt α):Option α:=match c with
 | .skip=>K.n σ
 | .label _=>K.n σ
 | .seq a b=>rc ann.l a σ ⟨fun σ'=>rc ann.r b σ' K,K.x,K.r⟩
 | .cond x a b=>(ev σ [] x).bind fun v=>(asBool v).bind fun t=>bif t then rc ann.l a σ K else rc ann.r b σ K
 | .block id b=>rc ann.l b σ ⟨K.n,fun i σ'=>bif Nat.beq i id then K.n σ' else K.x i σ',K.r⟩
 | .loop b=>rc .nil b σ ⟨fun σ'=>rc .nil (.loop b) σ' K,K.x,K.r⟩
 | .exit id=>K.x id σ
 | .ret=>K.r σ
 | .region _ ops false=>qgy P env rc ops (2*ops.size+20) ops.toList ann σ fun σ'=>K.n σ'.endR
 | .region _ ops true=>match ann.av with
  | some (s,g,a)=>chk (Region.noSelect ops) (qaE P env rc ops s g (3*ops.size+20) (Array.replicate ops.size false) a σ fun σ'=>K.n σ'.endR)
  | none=>match ann.tl with
  | none=>chk (Region.lexB .any ops) (qjP P env ops ops.toList σ fun σ'=>K.n σ'.endR)
  | some (m,a)=>chk (Region.lexTailB .any ops m) (qjP P env ops (ops.toList.take m) σ fun σ'=>qgy P env rc ops (2*ops.size+20) (ops.toList.drop m) a σ' fun σ'=>K.n σ'.endR)
 | _=>none
noncomputable def den (P:Program) (env:Env):Nat→(α:Type)→Ann→Code→AState→Kt α→Option α
 | 0,_,_,_,_,_=>none
 | n+1,α,ann,c,σ,K=>match ann with
  | .join s a=>chk (qkt s σ) (Option.bind (den P env n s.T a c (σ.enter s σ.objs.length) ⟨absT s σ.objs.length,fun _ _=>none,fun _=>none⟩) fun x=>K.n (conc s σ x))
  | .joinE s a=>chk (qkt s σ) (Option.bind (den P env n (s.T ⊕ α) a c (σ.enter s σ.objs.length) ⟨fun σ'=>Option.map Sum.inl (absT s σ.objs.length σ'),fun i σ'=>Option.map Sum.inr (K.x i (σ'.leave σ)),fun σ'=>Option.map Sum.inr (K.r (σ'.leave σ))⟩) (Sum.elim (fun x=>K.n (conc s σ x)) some))
  | .loop s a=>match c with
   | .loop b=>chk (qkt s σ) ((absT s σ.objs.length σ).bind fun x0=>iterW (fun x=>den P env n (s.T ⊕ α) a b ((conc s σ x).enter s σ.objs.length) ⟨fun σ'=>Option.map Sum.inl (absT s σ.objs.length σ'),fun i σ'=>Option.map Sum.inr (K.x i (σ'.leave σ)),fun σ'=>Option.map Sum.inr (K.r (σ'.leave σ))⟩) x0)
   | _=>none
  | .sel o i a b=>den P env n α (bif arrAt σ o i then a else b) c σ K
  | .mbs o a b=>(σ.objs[o]?).bind fun
   | .mbr i e x=>chk (!bitB σ.prO o) (Option.elim x (den P env n α a c { σ with objs:=σ.objs.set o .nilr } K) fun xs=>den P env n α b c { σ with objs:=σ.objs.set o (.arr i e xs false) } K)
   | _=>none
  | .fra a=>(fraO σ.objs σ.prO).bind fun objs'=>den P env n α a c { σ with objs:=objs' } K
  | .slk t a b=>den P env n α (bif isFa σ t then a else b) c σ K
  | .hop o t a=>(hopO σ o t).bind fun x=>req x.1 (den P env n α a c { σ with objs:=x.2 } K)
  | .hcl o a=>(hclO σ o).bind fun x=>req x.1 (den P env n α a c { σ with objs:=x.2 } K)
  | .frz l a=>(qaA σ.prO σ.objs l).bind fun objs'=>den P env n α a c { σ with objs:=objs' } K
  | ann=>denP P env (den P env n α) ann c σ K

def qfP:(ps:List Ty)→DL ps→List PV
 | [],_=>[]
 | τ::r,x=>qgP τ.isAgg (cellsOf τ x.1)::qfP r x.2
def qej:List PV→List Ty→Option (List Cv)
 | [],[]=>some []
 | v::r,τ::ts=>(qbb v).bind fun l=>chk (Nat.beq l.length τ.size&&beqB τ.isAgg (qkb v)) ((qej r ts).bind fun q=>some (l++q))
 | _,_=>none
def retD (objs:List OB) (ρ:Ty) (cs:List Cv):Option (D ρ) :=
 chk (qmO (idsO objs ρ cs)&&(idsD objs ρ cs).all (fun o=>!memN o (idsO objs ρ cs))) (toD objs ρ cs)
def qph (one:Bool) (res:List Ty) (ρ:Ty):List Ty:=bif one then [ρ] else res
def retK (P:Program) (fn:Func) (one:Bool) (res:List Ty) (ρ:Ty) (σ:AState):Option (D ρ):=(resOf P σ fn.results.toList).bind fun vs=>(qej vs (qph one res ρ)).bind fun cs=>retD σ.objs ρ cs
def qpw:Bool→(ps:List Ty)→DL ps→List PV
 | false,ps,x=>qfP ps x
 | true,[],_=>[]
 | true,τ::r,x => .rp (cellsOf τ x.1)::qfP r x.2
noncomputable def denB (P:Program) (env:Env) (ann:Ann) (fn:Func) (b:Bool) (ps:List Ty) (one:Bool) (res:List Ty) (ρ:Ty) (x:DL ps):Option (D ρ) :=
 den P env 10000 (D ρ) ann (bodyOf fn) ⟨fn.ntmps,qbi 0 (qpw b ps x),[],0,0,0,[]⟩ ⟨retK P fn one res ρ,fun _ _=>none,retK P fn one res ρ⟩
noncomputable def denF (P:Program) (env:Env) (ann:Ann) (fn:Func) (ps:List Ty) (one:Bool) (res:List Ty) (ρ:Ty) (x:DL ps):Option (D ρ) :=
 den P env 10000 (D ρ) ann (bodyOf fn) ⟨fn.ntmps,qbi 0 (qfP ps x),[],0,0,0,[]⟩ ⟨retK P fn one res ρ,fun _ _=>none,retK P fn one res ρ⟩
def retIO (P:Program) (fn:Func) (bx:Ty) (one:Bool) (res:List Ty) (ρ:Ty) (σ:AState):Option (D (.st bx ρ)):=(resOf P σ fn.results.toList).bind fun vs=>(qej vs (qph one res ρ)).bind fun cs=>(σ.objs[0]?).bind fun
 | .box bs=>chk (Nat.beq bs.length bx.size && !memN 0 (idsO σ.objs (.st bx ρ) (bs++cs))) (retD σ.objs (.st bx ρ) (bs++cs))
 | _=>none
noncomputable def denIO (P:Program) (env:Env) (ann:Ann) (fn:Func) (bx:Ty) (ps:List Ty) (one:Bool) (res:List Ty) (ρ:Ty) (x:DL (bx::ps)):Option (D (.st bx ρ)) :=
 den P env 10000 (D (.st bx ρ)) ann (bodyOf fn) ⟨fn.ntmps,qbi 0 (.c (.ptr 0 0)::qfP ps x.2),.box (cc bx x.1 1).1::(cc bx x.1 1).2,0,0,0,[]⟩ ⟨retIO P fn bx one res ρ,fun _ _=>none,retIO P fn bx one res ρ⟩
noncomputable def denA (P:Program) (env:Env) (ann:Ann) (fn:Func) (nd:TypeId×Ty×Option TypeId) (ps:List Ty) (one:Bool) (res:List Ty) (ρ:Ty) (x:DL ps):Option (D ρ) :=
 den P env 10000 (D ρ) ann (bodyOf fn) ⟨fn.ntmps,qbi 0 (qfP ps x),[.ar nd.1 nd.2.1 nd.2.2 [] none],0,0,0,[]⟩ ⟨retK P fn one res ρ,fun _ _=>none,retK P fn one res ρ⟩
end Go.Den
namespace Go.Den
abbrev Zt41:Ty:=(.int .u32)
abbrev Zt40:Ty:=(.int .u64)
abbrev Zt39:Ty:=(.int .i64)
abbrev Zt38:Ty:=(.sl (.sl .str))
abbrev Zt37:Ty:=(.sl Zt41)
abbrev Zt36:Ty:=(.sl Zt39)
abbrev Zt35:Ty:=(.osl 33 (.sl .str))
abbrev Zt34:Ty:=(.osl 3 Zt39)
abbrev Zt33:Ty:=(.osl 105 Zt41)
abbrev Zt32:Ty:=(.st Zt39 .nil)
abbrev Zt31:Ty:=(.st .str (.st .bool .nil))
abbrev Zt30:Ty:=(.st Zt37 .nil)
abbrev Zt29:Ty:=(.st .str Zt32)
abbrev Zt28:Ty:=(.st .bool Zt30)
abbrev Zt27:Ty:=(.st Zt39 Zt32)
abbrev Zt26:Ty:=(.sl Zt28)
abbrev Zt25:Ty:=(.osl 56 Zt28)
abbrev Zt24:Ty:=(.st Zt39 Zt27)
abbrev Zt23:Ty:=(.st .bool (.st Zt37 Zt30))
abbrev Zt22:Ty:=(.osl 163 Zt24)
abbrev Zt21:Ty:=(.st Zt39 (.st Zt39 (.st Zt39 (.st .bool .nil))))
abbrev Zt20:Ty:=(.st Zt28 Zt30)
abbrev Zt19:Ty:=(.sl Zt21)
abbrev Zt18:Ty:=(.st Zt39 Zt24)
abbrev Zt17:Ty:=(.sl Zt20)
abbrev Zt16:Ty:=(.st .bool (.st Zt37 (.st Zt34 Zt32)))
abbrev Zt15:Ty:=(.st Zt25 Zt30)
abbrev Zt14:Ty:=(.osl 58 Zt20)
abbrev Zt13:Ty:=(.sl Zt17)
abbrev Zt12:Ty:=(.osl 59 Zt17)
abbrev Zt11:Ty:=(.st Zt34 (.st Zt34 (.st Zt34 Zt27)))
abbrev Zt10:Ty:=(.st Zt36 (.st (.st Zt36 (.st Zt36 .nil)) Zt27))
abbrev Zt9:Ty:=(.st Zt34 (.st (.st Zt34 (.st Zt34 .nil)) Zt27))
abbrev Zt8:Ty:=(.st (.int .u8) (.st Zt39 (.st Zt39 (.st (.sl Zt18) .nil))))
abbrev Zt7:Ty:=(.sl Zt8)
abbrev Zt6:Ty:=(.st Zt14 (.st Zt14 .nil))
abbrev Zt5:Ty:=(.st Zt12 Zt6)
abbrev Zt4:Ty:=(.st .str (.st Zt39 (.st Zt39 (.st Zt7 (.st Zt36 (.st .bool (.st .bool (.st Zt19 Zt24))))))))
abbrev Zt3:Ty:=(.st .str (.st Zt39 (.st Zt39 (.st Zt7 (.st Zt36 (.st .bool (.st .bool (.st Zt19 (.st Zt39 Zt18)))))))))
abbrev Zt2:Ty:=(.st Zt4 Zt27)
abbrev Zt1:Ty:=(.st Zt2 .bool)
abbrev Zv73:Type:=(List Int)
abbrev Zv72:Type:=(Int×Unit)
abbrev Zv71:Type:=(List ByteArray)
abbrev Zv70:Type:=((Unit)×(Unit))
abbrev Zv69:Type:=(Int×Int×Unit)
abbrev Zv68:Type:=(Zv73×Unit)
abbrev Zv67:Type:=(List Zv71)
abbrev Zv66:Type:=(Zv72×(Unit))
abbrev Zv65:Type:=(ByteArray×Int×Unit)
abbrev Zv64:Type:=((Bool×Unit)×(Unit))
abbrev Zv63:Type:=(Int×Int×Int×Unit)
abbrev Zv62:Type:=(Zv71×Unit)
abbrev Zv61:Type:=(Zv73×Int×Unit)
abbrev Zv60:Type:=((List Zv73)×Unit)
abbrev Zv59:Type:=(Bool×Zv73×Unit)
abbrev Zv58:Type:=(Zv69×(Unit))
abbrev Zv57:Type:=((Unit)×Zv68)
abbrev Zv56:Type:=(Zv68×(Unit))
abbrev Zv55:Type:=(Int×Int×Int×Int×Unit)
abbrev Zv54:Type:=(Zv71×Int×Unit)
abbrev Zv53:Type:=(ByteArray×Zv73×Unit)
abbrev Zv52:Type:=(Zv73×Int×Int×Unit)
abbrev Zv51:Type:=(List Zv63)
abbrev Zv50:Type:=(Zv73×Zv73×Unit)
abbrev Zv49:Type:=(List Zv59)
abbrev Zv48:Type:=(Zv63×Unit)
abbrev Zv47:Type:=(Zv62×(Unit))
abbrev Zv46:Type:=(Zv72×Zv68)
abbrev Zv45:Type:=(Zv61×(Unit))
abbrev Zv44:Type:=(List Zv55)
abbrev Zv43:Type:=(Zv67×Int×Unit)
abbrev Zv42:Type:=(List (Int×Int×Int×Bool×Unit))
abbrev Zv41:Type:=(Zv51×Unit)
abbrev Zv40:Type:=(Zv49×Unit)
abbrev Zv39:Type:=(Zv69×Zv68)
abbrev Zv38:Type:=(Zv52×(Unit))
abbrev Zv37:Type:=((Zv67×Unit)×(Unit))
abbrev Zv36:Type:=(Zv51×Int×Unit)
abbrev Zv35:Type:=((Bool×Zv73×Zv73×Unit)×Unit)
abbrev Zv34:Type:=(Zv59×Zv73×Unit)
abbrev Zv33:Type:=(Zv43×(Unit))
abbrev Zv32:Type:=((Unit)×Zv41)
abbrev Zv31:Type:=(Zv41×(Unit))
abbrev Zv30:Type:=((Unit)×Zv40)
abbrev Zv29:Type:=(Zv49×Zv73×Unit)
abbrev Zv28:Type:=(List Zv34)
abbrev Zv27:Type:=(Zv34×Unit)
abbrev Zv26:Type:=(Zv72×Zv41)
abbrev Zv25:Type:=(Zv36×(Unit))
abbrev Zv24:Type:=((Unit)×Zv35)
abbrev Zv23:Type:=(Zv72×Zv40)
abbrev Zv22:Type:=(List Zv28)
abbrev Zv21:Type:=(Zv28×Unit)
abbrev Zv20:Type:=(Zv72×Zv35)
abbrev Zv19:Type:=(Zv73×Zv50×Int×Int×Unit)
abbrev Zv18:Type:=((Zv73×Zv73×Zv73×Int×Int×Unit)×Unit)
abbrev Zv17:Type:=(Zv28×Int×Unit)
abbrev Zv16:Type:=(List (Int×Int×Int×Zv44×Unit))
abbrev Zv15:Type:=((Unit)×Zv21)
abbrev Zv14:Type:=(Zv21×(Unit))
abbrev Zv13:Type:=(Zv22×Int×Unit)
abbrev Zv12:Type:=(Zv72×Zv21)
abbrev Zv11:Type:=(Zv17×(Unit))
abbrev Zv10:Type:=(ByteArray×Int×Int×Zv16×Zv73×Bool×Bool×Zv42×Int×Int×Int×Unit)
abbrev Zv9:Type:=((Zv22×Zv28×Zv28×Unit)×Unit)
abbrev Zv8:Type:=((Unit)×Zv9)
abbrev Zv7:Type:=((ByteArray×Int×Int×Zv16×Zv73×Bool×Bool×Zv42×Int×Int×Int×Int×Int×Unit)×Unit)
abbrev Zv6:Type:=(Zv10×Int×Int×Unit)
abbrev Zv5:Type:=(Zv72×Zv9)
abbrev Zv4:Type:=(Zv6×Bool)
abbrev Zv3:Type:=((Unit)×Zv7)
abbrev Zv2:Type:=(Zv10×Zv19×Int×Unit)
abbrev Zv1:Type:=(Zv6×Zv19×Int×Unit)
end Go.Den
namespace Go.Den
open Go.Eng
set_option linter.unusedVariables false
set_option linter.unusedSectionVars false
set_option linter.unusedSimpArgs false
variable [CT : Ctx]

theorem chk_some {α:Type} {b:Bool} {x:Option α} {r:α}:chk b x=some r↔b=true∧x=some r:=by cases b<;>simp[chk]
theorem req_some {α:Type} {b:Bool} {x:Option α} {r:α}:req b x=some r↔b=true∧x=some r:=by cases b<;>simp[req]

theorem qhP {A:Type} {a:Array A} {i:Nat} {x:A} (h:a[i]?=some x):i<a.size:=(Array.getElem?_eq_some_iff.1 h).1
def RepL {A:Type} (R:A→List Value→Prop):List A→List Value→Prop
 | [],us=>us=[]
 | x::xs,us=>∃c r,us=c++r∧R x c∧RepL R xs r
def Row (w:World) (b:Nat) (cur:Array Value) (i:TypeId):Prop:=∃fz:Nat×Nat,w.heap[b]?=some (.cells cur i fz)∧(fz=(0,0)∨(cur.size≤fz.1∧memN i Ctx.bytes=true))
theorem Row.of {w:World} {b:Nat} {cur:Array Value} {i:TypeId} (h:w.heap[b]?=some (.cells cur i (0,0))):Row w b cur i:=⟨_,h,.inl rfl⟩
theorem Row.lt {w:World} {b:Nat} {cur:Array Value} {i:TypeId} (h:Row w b cur i):b<w.heap.size:=by
 obtain⟨fz,h,_⟩:=h;exact(Array.getElem?_eq_some_iff.1 h).1
theorem Row.eq {w:World} {b:Nat} {cur cur':Array Value} {i i':TypeId} (h:Row w b cur i) (h':Row w b cur' i'):cur=cur':=by
 obtain⟨fz,h,_⟩:=h;obtain⟨fz',h',_⟩:=h';rw[h] at h';simp only[Option.some.injEq,Obj.cells.injEq] at h';exact h'.1
theorem Row.keep {w w':World} {b:Nat} {cur:Array Value} {i:TypeId} (h:Row w b cur i) (e:w'.heap[b]?=w.heap[b]?):Row w' b cur i:=by
 obtain⟨fz,h,hf⟩:=h;exact⟨fz,e.trans h,hf⟩
theorem Row.fro {w:World} {b:Nat} {cur:Array Value} {i:TypeId} (h:Row w b cur i) {j:Nat} (hj:j<cur.size):w.frozen? ⟨b,j,none⟩=false:=by
 obtain⟨fz,h,hf⟩:=h;rcases hf with rfl | ⟨hf,_⟩
 ·simp[World.frozen?,h]
 ·simp only[World.frozen?,h];rw[decide_eq_false (by omega),Bool.false_and]
theorem Row.cell {w:World} {b:Nat} {cur:Array Value} {i:TypeId} (h:Row w b cur i) (j:Nat):w.cell? ⟨b,j,none⟩=cur[j]?:=by
 obtain⟨fz,h,_⟩:=h;simp[World.cell?,h]
theorem Row.set {w:World} {b:Nat} {cur:Array Value} {i:TypeId} (h:Row w b cur i) (cs:Array Value) (hs:cs.size=cur.size):Row (w.setRow b cs) b cs i:=by
 obtain⟨fz,h,hf⟩:=h;exact⟨fz,setRow_heap w b cur cs i fz h,by rw[hs];exact hf⟩
theorem qen {b:Nat} {i:TypeId} {fz:Nat×Nat}:∀(vs:List Value) (o:Nat) (cur:Array Value) (w:World),w.heap[b]?=some (.cells cur i fz)→o+vs.length≤cur.size →
  w.setCells b o vs=w.setRow b (cur.toList.take o++vs++cur.toList.drop (o+vs.length)).toArray
 | [],o,cur,w,h,_=>by
  simp only[World.setCells,List.append_nil,List.length_nil,Nat.add_zero,List.take_append_drop,Array.toArray_toList];exact(setRow_self w b cur i fz h).symm
 | v::r,o,cur,w,h,hl=>by
  simp only[List.length_cons] at hl;have ih:=qen r (o+1) (cur.setIfInBounds o v) (w.setRow b (cur.setIfInBounds o v)) (setRow_heap w b cur _ i _ h) (by simp;omega);simp only[World.setCells];rw[setCell_eq_setRow w b o cur i fz v h,ih,setRow_setRow];congr 2;have e:=list_seg_step cur.toList o v r (by simp;omega);simpa[Array.toList_setIfInBounds,Nat.add_assoc,Nat.add_comm 1] using e
theorem qfh {P:Program} {w:World} {b:Nat} {cur:Array Value} {i:TypeId} (h:Row w b cur i) (o:Nat) (vs:List Value) (hl:o+vs.length≤cur.size) (h1:∀v∈vs,v.oneCell'=true) :
  (storeCells ⟨b,o,none⟩ vs 0).run P w = .ok () (w.setRow b (cur.toList.take o++vs++cur.toList.drop (o+vs.length)).toArray):=by
 have:=run_storeCells_cells (P:=P) b o vs 0 w (fun j hj=>by rw[h.cell];simp;omega) (fun j hj=>h.fro (by omega)) h1;rw[Nat.add_zero] at this;rw[this];obtain⟨fz,h,_⟩:=h;rw[qen vs o cur w h hl]
def OwnR (w:World) (i:TypeId) (size:Nat) (v:Value) (M:List Nat) (n:Nat) (us:List Value):Prop :=
 (M=[]∧(∃ao,v = .slice ao 0 0)∧n=0∧us=[]) ∨
 ∃b cap cur,M=[b]∧v = .slice (some ⟨b,0,none⟩) n cap∧Row w b cur i∧n≤cap∧cap≤maxLen∧cur.size=cap*size∧cur.toList.take (n*size)=us
def NE (v:Value):Prop:=v = .slice none 0 0∨∃a n c,v = .slice (some a) n c∧c≠0
structure Sp where
 p:Nat→Prop
 m:Nat→Option Value
instance:CoeFun Sp fun _=>Nat→Prop:=⟨Sp.p⟩
structure Sp.le (S S':Sp):Prop where
 p:∀k,S.p k→S'.p k
 m:∀x b,S.m x=some b→S'.m x=some b
instance {S S':Sp}:CoeFun (Sp.le S S') fun _=>∀k,S.p k→S'.p k:=⟨Sp.le.p⟩
theorem Sp.le.refl (S:Sp):Sp.le S S:=⟨fun _ h=>h,fun _ _ h=>h⟩
theorem Sp.le.trans {A B C:Sp} (h:Sp.le A B) (g:Sp.le B C):Sp.le A C:=⟨fun k hk=>g.p k (h.p k hk),fun x b hx=>g.m x b (h.m x b hx)⟩
def RefR (m:Nat→Option Value) (x:Nat) (cs:List Value):Prop:=(x=0∧cs=[.slice none 0 0])∨∃b n c,x≠0∧m x=some (.slice (some ⟨b,0,none⟩) n c)∧cs=[.slice (some ⟨b,0,none⟩) n c]
theorem RefR.mono {m m':Nat→Option Value} (h:∀x b,m x=some b→m' x=some b) {x:Nat} {cs:List Value} (hr:RefR m x cs):RefR m' x cs:=by
 rcases hr with hr | ⟨b,n,c,h1,h2,h3⟩
 ·exact .inl hr
 ·exact .inr ⟨b,n,c,h1,h _ _ h2,h3⟩
theorem RefR.length {m:Nat→Option Value} {x:Nat} {cs:List Value} (hr:RefR m x cs):cs.length=1:=by
 rcases hr with ⟨_,rfl⟩ | ⟨_,_,_,_,_,rfl⟩<;>rfl
theorem RefR.single {m:Nat→Option Value} {x:Nat} {cs:List Value} (hr:RefR m x cs):∃v,cs=[v]∧RefR m x [v]:=by
 rcases hr with ⟨h,rfl⟩ | ⟨b,n,c,h1,h2,rfl⟩
 ·exact⟨_,rfl,.inl ⟨h,rfl⟩⟩
 ·exact⟨_,rfl,.inr ⟨b,n,c,h1,h2,rfl⟩⟩
theorem RefR.one {m:Nat→Option Value} {x:Nat} {cs:List Value} (hr:RefR m x cs):∀u∈cs,u.oneCell'=true:=by
 rcases hr with ⟨_,rfl⟩ | ⟨_,_,_,_,_,rfl⟩<;>(intro u hu;simp at hu;subst hu;rfl)
def quS:(τ:Ty)→D τ→List Value
 | .int k,n=>[.int k n]
 | .bool,b=>[.bool b]
 | .str,s=>[.string s]
 | .st f r,x=>quS f x.1++quS r x.2
 | _,_=>[]
def valF (τ:Ty) (x:D τ):Value:=bif τ.isAgg then .agg (quS τ x).toArray else(quS τ x).headD undef
def EntsR (k v:Ty):List (D k×D v)→List MapEntry→Prop
 | [],es=>es=[]
 | x::xs,es=>∃e r,es=e::r∧e.key=valF k x.1∧e.val=valF v x.2∧EntsR k v xs r
def MapR (w:World) (b:Nat) (k v:Ty) (xs:List (D k×D v)):Prop:=keyT k=true∧∃es clk,w.heap[b]?=some (.map es clk)∧EntsR k v xs es.toList
def KidI (w:World) (S:Sp) (ks:List Int) (v:Value):Prop:=(ks=[]∧v = .slice none 0 0)∨∃a cap,ks≠[]∧v = .slice (some a) ks.length cap∧ks.length≤cap∧S a.block∧CellsAt w a (ks.map (Value.int .i64))
def KidO (w:World) (j:TypeId) (x:Option (List Int)) (M:List Nat) (v:Value):Prop:=(x=none∧M=[]∧v = .slice none 0 0)∨∃ks,x=some ks∧OwnR w j 1 v M ks.length (ks.map (Value.int .i64))
def hvAt (h:Option (Nat×Value)) (t:Nat):Option Value:=match h with
 | some q=>bif Nat.beq q.1 t then some q.2 else none
 | none=>none
def hz {A:Type} (h:Option (Nat×Value)) (xs:List A):List (A×Option Value):=xs.mapIdx fun t x=>(x,hvAt h t)
def ElR {A B:Type} (Ra:A→List Value→Prop) (Rb:B→List Value→Prop) (Rk:List Int→Value→Prop) (y:(A×List Int×B)×Option Value) (c:List Value):Prop :=
 ∃c1 v c2,c=c1++v::c2∧Ra y.1.1 c1∧Rb y.1.2.2 c2∧v.oneCell'=true∧(match y.2 with
  | some v'=>v=v'
  | none=>Rk y.1.2.1 v)
def HoleI (w:World) (j:TypeId) (n:Nat) (x:Option (Nat×Option (List Int))) (h:Option (Nat×Value)) (M:List Nat):Prop :=
 (x=none∧h=none∧M=[])∨∃k y v,x=some (k,y)∧h=some (k,v)∧k<n∧KidO w j y M v
def Rep (w:World) (S:Sp):(τ:Ty)→D τ→List Nat→List Value→Prop
 | .int k,n,M,cs=>M=[]∧cs=[.int k n]
 | .bool,b,M,cs=>M=[]∧cs=[.bool b]
 | .str,s,M,cs=>M=[]∧cs=[.string s]
 | .sl e,xs,M,cs=>M=[]∧∃ao cap us,cs=[.slice ao xs.length cap]∧xs.length≤cap∧RepL (fun x c=>Rep w S e x [] c) xs us∧(xs≠[]→∃a,ao=some a∧S a.block∧CellsAt w a us)
 | .osl i e,xs,M,cs=>∃v us,cs=[v]∧OwnR w i e.size v M xs.length us∧RepL (fun x c=>Rep w S e x [] c) xs us
 | .obx e,x,M,cs=>∃b M' T cells,M=b::M'∧cs=[.pointer (some ⟨b,0,none⟩)]∧w.heap[b]?=some (.cells cells T (0,0))∧Rep w S e x M' cells.toList
 | .onl i e,x,M,cs=>(x=none∧M=[]∧cs=[.slice none 0 0])∨∃xs v us,x=some xs∧cs=[v]∧OwnR w i e.size v M xs.length us∧RepL (fun x c=>Rep w S e x [] c) xs us
 | .err,b,M,cs=>M=[]∧∃v,cs=[v]∧((b=false∧v = .nilIface)∨(b=true∧∃t p,v = .iface t p))
 | .bld t i,xs,M,cs=>∃b M' p v us,M=b::M'∧cs=[.pointer (some ⟨b,0,none⟩)]∧w.heap[b]?=some (.cells #[p,v] t (0,0))∧((p = .pointer none∨p = .pointer (some ⟨b,0,none⟩))∧NE v) ∧
   OwnR w i 1 v M' (List.length (α:=Int) xs) us∧us=List.map (α:=Int) (Value.int .u8) xs
 | .nil,_,M,cs=>M=[]∧cs=[]
 | .ref,x,M,cs=>M=[]∧RefR S.m x cs
 | .ifc t e,x,M,cs=>M=[]∧cs=[.iface t (valF e x)]
 | .omp k v,xs,M,cs=>∃b,M=[b]∧cs=[.map (some b)]∧MapR w b k v xs
 | .hrl i p q j b,x,M,cs=>∃v us b1 b2 h,cs=[v]∧M=b1++b2∧OwnR w i (p.size+(1+q.size)) v b1 (List.length (α:=D p×List Int×D q) x.1) us ∧
   RepL (ElR (fun x c=>Rep w S p x [] c) (fun x c=>Rep w S q x [] c) (KidI w S)) (hz h x.1) us∧HoleI w j (List.length (α:=D p×List Int×D q) x.1) (hOpt b x.2) h b2
 | .st f r,x,M,cs=>∃c1 c2 M1 M2,cs=c1++c2∧M=M1++M2∧Rep w S f x.1 M1 c1∧Rep w S r x.2 M2 c2

section
variable {A : Type} {R R' : A → List Value → Prop} {sz : Nat}
theorem RepL.mono (h:∀x c,R x c→R' x c):∀ {xs:List A} {us:List Value},RepL R xs us→RepL R' xs us
 | [],_,h0=>h0
 | _::_,_,⟨c,r,e,h1,h2⟩=>⟨c,r,e,h _ _ h1,RepL.mono h h2⟩
theorem RepL.length (hs:∀x c,R x c→c.length=sz):∀ {xs:List A} {us:List Value},RepL R xs us→us.length=xs.length*sz
 | [],_,h0=>by simp[RepL] at h0;simp[h0]
 | x::xs,_,⟨c,r,e,h1,h2⟩=>by
  rw[e,List.length_append,hs _ _ h1,RepL.length hs h2,List.length_cons,Nat.add_mul];omega
theorem RepL.get (hs:∀x c,R x c→c.length=sz):∀ {xs:List A} {us:List Value} {j:Nat} {x:A},RepL R xs us→xs[j]?=some x→R x ((us.drop (j*sz)).take sz)
 | [],_,j,x,_,hj=>by simp at hj
 | y::xs,_,0,x,⟨c,r,e,h1,h2⟩,hj=>by
  simp at hj;subst hj;subst e;rw[←hs _ _ h1];simpa using h1
 | y::xs,_,j+1,x,⟨c,r,e,h1,h2⟩,hj=>by
  have:=RepL.get hs (j:=j) h2 (by simpa using hj);subst e;rw[show(j+1)*sz=c.length+j*sz by rw[hs _ _ h1,Nat.add_mul];omega,←List.drop_drop,List.drop_left];exact this
theorem RepL.append:∀ {xs ys:List A} {us vs:List Value},RepL R xs us→RepL R ys vs→RepL R (xs++ys) (us++vs)
 | [],_,_,_,h0,h=>by simp[RepL] at h0;simpa[h0] using h
 | _::_,_,_,vs,⟨c,r,e,h1,h2⟩,h=>⟨c,r++vs,by simp[e],h1,RepL.append h2 h⟩
theorem RepL.take (hs:∀x c,R x c→c.length=sz):∀ {xs:List A} {us:List Value} (k:Nat),RepL R xs us→RepL R (xs.take k) (us.take (k*sz))
 | [],_,k,h0=>by simp[RepL] at h0;simp[h0,RepL]
 | x::xs,_,0,_=>by simp[RepL]
 | x::xs,_,k+1,⟨c,r,e,h1,h2⟩=>by
  subst e;refine⟨c,r.take (k*sz),?_,h1,RepL.take hs k h2⟩;rw[List.take_append,hs _ _ h1,show(k+1)*sz-sz=k*sz by rw[Nat.add_mul];omega,List.take_of_length_le (by rw[hs _ _ h1,Nat.add_mul];omega)]
theorem RepL.drop (hs:∀x c,R x c→c.length=sz):∀ {xs:List A} {us:List Value} (k:Nat),RepL R xs us→RepL R (xs.drop k) (us.drop (k*sz))
 | [],_,k,h0=>by simp[RepL] at h0;simp[h0,RepL]
 | x::xs,_,0,h=>by simpa using h
 | x::xs,_,k+1,⟨c,r,e,h1,h2⟩=>by
  subst e;rw[List.drop_succ_cons,show(k+1)*sz=c.length+k*sz by rw[hs _ _ h1,Nat.add_mul];omega,←List.drop_drop,List.drop_left];exact RepL.drop hs k h2
theorem RepL.set (hs:∀x c,R x c→c.length=sz) {d:A} {cd:List Value} (hd:R d cd):∀ {xs:List A} {us:List Value} (k:Nat),k<xs.length→RepL R xs us→RepL R (xs.set k d) (us.take (k*sz)++cd++us.drop (k*sz+sz))
 | [],_,k,hk,_=>by simp at hk
 | x::xs,_,0,_,⟨c,r,e,h1,h2⟩=>by
  subst e;refine⟨cd,r,?_,hd,h2⟩;rw[←hs _ _ h1];simp
 | x::xs,_,k+1,hk,⟨c,r,e,h1,h2⟩=>by
  subst e;refine⟨c,r.take (k*sz)++cd++r.drop (k*sz+sz),?_,h1,RepL.set hs hd k (by simpa using hk) h2⟩
  have e1:(k+1)*sz=c.length+k*sz:=by rw[hs _ _ h1,Nat.add_mul];omega
  rw[e1,List.take_length_add_append,Nat.add_assoc,←List.drop_drop,List.drop_left];simp
theorem RepL.replicate {d:A} {cd:List Value} (hd:R d cd):∀n:Nat,RepL R (List.replicate n d) (List.replicate n cd).flatten
 | 0=>rfl
 | n+1=>⟨cd,_,by simp[List.replicate_succ],hd,RepL.replicate hd n⟩
theorem RepL.all {p:Value→Bool} (hs:∀x c,R x c→∀u∈c,p u=true):∀ {xs:List A} {us:List Value},RepL R xs us→∀u∈us,p u=true
 | [],_,h0,u,hu=>by simp[RepL] at h0;subst h0;cases hu
 | _::_,_,⟨c,r,e,h1,h2⟩,u,hu=>by
  subst e;rcases List.mem_append.1 hu with h | h
  ·exact hs _ _ h1 u h
  ·exact RepL.all hs h2 u h
end

theorem OwnR.mono {w w':World} {i:TypeId} {size:Nat} {v:Value} {M:List Nat} {n:Nat} {us:List Value} (h:OwnR w i size v M n us) (hM:∀b∈M,w'.heap[b]?=w.heap[b]?):OwnR w' i size v M n us:=by
 rcases h with h | ⟨b,cap,cur,h1,h2,h3,h4⟩
 ·exact .inl h
 ·exact .inr ⟨b,cap,cur,h1,h2,h3.keep (hM b (by simp[h1])),h4⟩
theorem CellsAt.mono {w w':World} {a:Addr} {us:List Value} (h:CellsAt w a us) (he:w'.heap[a.block]?=w.heap[a.block]?):CellsAt w' a us:=by
 intro j v hv
 have e:w'.heap[(a.add j).block]?=w.heap[(a.add j).block]?:=by rw[add_block];exact he
 exact(World.cell?_of_block e).trans (h j v hv)
theorem KidI.mono {w w':World} {S S':Sp} (hS:Sp.le S S') (hw:∀k,S k→w'.heap[k]?=w.heap[k]?) {ks:List Int} {v:Value} (h:KidI w S ks v):KidI w' S' ks v:=by
 rcases h with h | ⟨a,cap,h1,h2,h3,h4,h5⟩
 ·exact .inl h
 ·exact .inr ⟨a,cap,h1,h2,h3,hS _ h4,CellsAt.mono h5 (hw _ h4)⟩
theorem KidO.mono {w w':World} {j:TypeId} {x:Option (List Int)} {M:List Nat} {v:Value} (h:KidO w j x M v) (hM:∀b∈M,w'.heap[b]?=w.heap[b]?):KidO w' j x M v:=by
 rcases h with h | ⟨ks,h1,h2⟩
 ·exact .inl h
 ·exact .inr ⟨ks,h1,h2.mono hM⟩
theorem ElR.mono {A B:Type} {Ra Ra':A→List Value→Prop} {Rb Rb':B→List Value→Prop} {Rk Rk':List Int→Value→Prop} (ha:∀x c,Ra x c→Ra' x c) (hb:∀x c,Rb x c→Rb' x c) (hk:∀ks v,Rk ks v→Rk' ks v) (y:(A×List Int×B)×Option Value) (c:List Value) (h:ElR Ra Rb Rk y c):ElR Ra' Rb' Rk' y c:=by
 obtain⟨c1,v,c2,h1,h2,h3,h4,h5⟩:=h;refine⟨c1,v,c2,h1,ha _ _ h2,hb _ _ h3,h4,?_⟩;split at h5
 ·exact h5
 ·exact hk _ _ h5
theorem HoleI.mono {w w':World} {j:TypeId} {n:Nat} {x:Option (Nat×Option (List Int))} {h:Option (Nat×Value)} {M:List Nat} (hh:HoleI w j n x h M) (hM:∀b∈M,w'.heap[b]?=w.heap[b]?):HoleI w' j n x h M:=by
 rcases hh with hh | ⟨k,y,v,h1,h2,h3,h4⟩
 ·exact .inl hh
 ·exact .inr ⟨k,y,v,h1,h2,h3,h4.mono hM⟩
theorem Rep.mono {w w':World} {S S':Sp} (hS:Sp.le S S') (hw:∀k,S k→w'.heap[k]?=w.heap[k]?):∀(τ:Ty) {x:D τ} {M:List Nat} {cs:List Value},
  Rep w S τ x M cs→(∀b∈M,w'.heap[b]?=w.heap[b]?)→Rep w' S' τ x M cs
 | .int _,_,_,_,h,_=>h
 | .bool,_,_,_,h,_=>h
 | .str,_,_,_,h,_=>h
 | .nil,_,_,_,h,_=>h
 | .ref,_,_,_,h,_=>⟨h.1,h.2.mono hS.m⟩
 | .ifc _ _,_,_,_,h,_=>h
 | .omp _ _,_,_,_,h,hM=>by
  obtain⟨b,rfl,h1,h2,es,clk,h3,h4⟩:=h;exact⟨b,rfl,h1,h2,es,clk,(hM b (by simp)).trans h3,h4⟩
 | .hrl i p q j bh,x,M,cs,h,hM=>by
  obtain⟨v,us,b1,b2,hv,h1,h2,h3,h4,h5⟩:=h;subst h2
  exact⟨v,us,b1,b2,hv,h1,rfl,h3.mono (fun b hb=>hM b (List.mem_append_left _ hb)),h4.mono (ElR.mono (fun x c hx=>Rep.mono hS hw p hx (by simp)) (fun x c hx=>Rep.mono hS hw q hx (by simp)) fun ks v hk=>hk.mono hS hw),
   h5.mono fun b hb=>hM b (List.mem_append_right _ hb)⟩
 | .sl e,xs,M,cs,h,_=>by
  obtain⟨hM,ao,cap,us,h1,h2,h3,h4⟩:=h;refine⟨hM,ao,cap,us,h1,h2,h3.mono fun x c hx=>Rep.mono hS hw e hx (by simp),fun hne=>?_⟩;obtain⟨a,e1,e2,e3⟩:=h4 hne;exact⟨a,e1,hS _ e2,CellsAt.mono e3 (hw _ e2)⟩
 | .osl i e,xs,M,cs,h,hM=>by
  obtain⟨v,us,h1,h2,h3⟩:=h;exact⟨v,us,h1,h2.mono hM,h3.mono fun x c hx=>Rep.mono hS hw e hx (by simp)⟩
 | .obx e,x,M,cs,h,hM=>by
  obtain⟨b,M',T,cells,h1,h2,h3,h4⟩:=h;subst h1;exact⟨b,M',T,cells,rfl,h2,(hM b (by simp)).trans h3,Rep.mono hS hw e h4 (fun b hb=>hM b (by simp[hb]))⟩
 | .onl i e,x,M,cs,h,hM=>by
  rcases h with h | ⟨xs,v,us,h0,h1,h2,h3⟩
  ·exact .inl h
  ·exact .inr ⟨xs,v,us,h0,h1,h2.mono hM,h3.mono fun x c hx=>Rep.mono hS hw e hx (by simp)⟩
 | .err,_,_,_,h,_=>h
 | .bld t i,xs,M,cs,h,hM=>by
  obtain⟨b,M',p,v,us,h1,h2,h3,h4,h5,h6⟩:=h;subst h1;exact⟨b,M',p,v,us,rfl,h2,(hM b (by simp)).trans h3,h4,h5.mono fun b hb=>hM b (by simp[hb]),h6⟩
 | .st f r,x,M,cs,h,hM=>by
  obtain⟨c1,c2,M1,M2,h1,h2,h3,h4⟩:=h;subst h2;exact⟨c1,c2,M1,M2,h1,rfl,Rep.mono hS hw f h3 (fun b hb=>hM b (by simp[hb])),Rep.mono hS hw r h4 (fun b hb=>hM b (by simp[hb]))⟩
theorem Rep.length {w:World} {S:Sp}:∀(τ:Ty) {x:D τ} {M:List Nat} {cs:List Value},Rep w S τ x M cs→cs.length=τ.size
 | .int _,_,_,_,h=>by rw[h.2];rfl
 | .bool,_,_,_,h=>by rw[h.2];rfl
 | .str,_,_,_,h=>by rw[h.2];rfl
 | .nil,_,_,_,h=>by rw[h.2];rfl
 | .ref,_,_,_,h=>h.2.length
 | .ifc _ _,_,_,_,h=>by rw[h.2];rfl
 | .omp _ _,_,_,_,⟨_,_,h,_⟩=>by rw[h];rfl
 | .hrl _ _ _ _ _,_,_,_,⟨_,_,_,_,_,h,_⟩=>by rw[h];rfl
 | .sl e,_,_,_,⟨_,_,_,_,h,_⟩=>by rw[h];rfl
 | .osl _ _,_,_,_,⟨_,_,h,_⟩=>by rw[h];rfl
 | .obx _,_,_,_,⟨_,_,_,_,_,h,_⟩=>by rw[h];rfl
 | .onl _ _,_,_,_,h=>by
  rcases h with ⟨_,_,h⟩ | ⟨_,_,_,_,h,_⟩<;>(rw[h];rfl)
 | .err,_,_,_,⟨_,_,h,_⟩=>by rw[h];rfl
 | .bld _ _,_,_,_,⟨_,_,_,_,_,_,h,_⟩=>by rw[h];rfl
 | .st f r,_,_,_,⟨_,_,_,_,h,_,h1,h2⟩=>by rw[h,List.length_append,Rep.length f h1,Rep.length r h2];rfl
theorem Rep.one {w:World} {S:Sp}:∀(τ:Ty) {x:D τ} {M:List Nat} {cs:List Value},Rep w S τ x M cs→∀u∈cs,u.oneCell'=true
 | .int _,_,_,_,h,u,hu=>by rw[h.2] at hu;simp at hu;subst hu;rfl
 | .bool,_,_,_,h,u,hu=>by rw[h.2] at hu;simp at hu;subst hu;rfl
 | .str,_,_,_,h,u,hu=>by rw[h.2] at hu;simp at hu;subst hu;rfl
 | .nil,_,_,_,h,u,hu=>by rw[h.2] at hu;cases hu
 | .ref,_,_,_,h,u,hu=>h.2.one u hu
 | .ifc _ _,_,_,_,h,u,hu=>by rw[h.2] at hu;simp at hu;subst hu;rfl
 | .omp _ _,_,_,_,⟨_,_,h,_⟩,u,hu=>by rw[h] at hu;simp at hu;subst hu;rfl
 | .hrl _ _ _ _ _,_,_,_,⟨v,_,_,_,_,h,_,h2,_⟩,u,hu=>by
  rw[h] at hu;simp at hu;subst hu
  rcases h2 with ⟨_,⟨_,rfl⟩,_⟩ | ⟨_,_,_,_,rfl,_⟩<;>rfl
 | .sl e,_,_,_,⟨_,_,_,_,h,_⟩,u,hu=>by rw[h] at hu;simp at hu;subst hu;rfl
 | .osl _ _,_,_,_,⟨v,_,h,h2,_⟩,u,hu=>by
  rw[h] at hu;simp at hu;subst hu
  rcases h2 with ⟨_,⟨_,rfl⟩,_⟩ | ⟨_,_,_,_,rfl,_⟩<;>rfl
 | .obx _,_,_,_,⟨_,_,_,_,_,h,_⟩,u,hu=>by rw[h] at hu;simp at hu;subst hu;rfl
 | .onl _ _,_,_,_,h,u,hu=>by
  rcases h with ⟨_,_,h⟩ | ⟨_,_,_,_,h,h2,_⟩
  ·rw[h] at hu;simp at hu;subst hu;rfl
  ·rw[h] at hu;simp at hu;subst hu
   rcases h2 with ⟨_,⟨_,rfl⟩,_⟩ | ⟨_,_,_,_,rfl,_⟩<;>rfl
 | .err,_,_,_,⟨_,v,h,h2⟩,u,hu=>by
  rw[h] at hu;simp at hu;subst hu
  rcases h2 with ⟨_,rfl⟩ | ⟨_,_,_,rfl⟩<;>rfl
 | .bld _ _,_,_,_,⟨_,_,_,_,_,_,h,_⟩,u,hu=>by rw[h] at hu;simp at hu;subst hu;rfl
 | .st f r,_,_,_,⟨_,_,_,_,h,_,h1,h2⟩,u,hu=>by
  rw[h] at hu;rcases List.mem_append.1 hu with h3 | h3
  ·exact Rep.one f h1 u h3
  ·exact Rep.one r h2 u h3

structure Gh where
 g:Nat→Value×Option Nat
 S:Nat→Prop
 m:Nat→Option Value
 B:List Nat
 kc:Nat→Nat→Option Value
instance:CoeFun Gh fun _=>Nat→Value×Option Nat:=⟨Gh.g⟩
def mutOb:OB→Bool
 | .box _=>true
 | .arr _ _ _ fz=>!fz
 | .dead=>false
 | .bld _ _=>true
 | .mbr _ _ _=>true
 | .nilr=>true
 | .fbx _=>false
 | .mp _ _ _=>true
 | .ar _ _ _ _ _=>false
 | .hr _ _ _ _ _ _=>true
def Mut (objs:List OB) (o:Nat):Prop:=∃ob,objs[o]?=some ob∧mutOb ob=true
structure ImmP (objs:List OB) (γ:Gh) (w:World) (k:Nat):Prop where
 lt:k<w.heap.size
 s:γ.S k
 own:∀o,Mut objs o→(γ o).2≠some k
 nb:k∉γ.B
abbrev Imm (objs:List OB) (γ:Gh) (w:World):Sp:=⟨ImmP objs γ w,γ.m⟩
def flatB (ls:List (Nat×List Nat)):List Nat:=ls.flatMap fun q=>q.1::q.2
def NodeR (w:World) (S:Sp) (t:TypeId) (p:Ty) (ow:Option TypeId) (lent:Bool) (q:Nat×List Nat) (x:D p×Option (List Nat)) (h:Option Value):Prop:=match p,x with
 | .sl e,x=>∃v us,h=some v∧OwnR w t e.size v [q.1] (List.length (α:=D e) x.1) us∧RepL (fun (d:D e) c=>Rep w S e d [] c) x.1 us∧q.2=[]∧ow=none
 | _,_=>False
structure ArW (w:World) (S:Sp) (t:TypeId) (p:Ty) (ow:Option TypeId) (lent:Option Nat) (xs:Ents p) (ls:List (Nat×List Nat)) (hs:List (Option Value)):Prop where
 len:ls.length=xs.length
 lenH:hs.length=xs.length
 m0:S.m 0=none
 m:∀i,S.m (i+1)=(hs[i]?).join
 nd:(flatB ls).Nodup
 node:∀i q x h,ls[i]?=some q→xs[i]?=some x→hs[i]?=some h→NodeR w S t p ow (lent==some i) q x h
def ArO (objs:List OB) (γ:Gh) (w:World) (o:Nat) (t:TypeId) (p:Ty) (ow:Option TypeId) (xs:Ents p) (lent:Option Nat):Prop :=
 ∃ls hs,ArW w (Imm objs γ w) t p ow lent xs ls hs∧(∀k∈flatB ls,k∈γ.B)∧(∀i v,hs[i]?=some (some v)→γ.kc o (i+1)=some v)∧∀x,xs.length<x→γ.kc o x=none
def PtrL (γ:Gh):List (Nat×Nat)→List Value→Prop
 | [],l=>l=[]
 | (o,off)::r,l=>∃b q,l = .pointer (some ⟨b,off,none⟩)::q∧(γ o).2=some b∧PtrL γ r q
def capsLt (n:Nat):List (Nat×Nat)→Prop
 | []=>True
 | q::r=>q.1<n∧capsLt n r
def VR (objs:List OB) (γ:Gh) (w:World):Cv→Value→Prop
 | .v x,v=>v=x
 | .sl e xs,v=>Rep w (Imm objs γ w) (.sl e) xs [] [v]
 | .os o,v=>o<objs.length∧v=(γ o).1∧∃ao n c,v = .slice ao n c
 | .ptr o off,v=>o<objs.length∧∃b,(γ o).2=some b∧v = .pointer (some ⟨b,off,none⟩)
 | .fn f caps,v=>capsLt objs.length caps∧∃l,v = .func (.func f) #[] l.toArray∧PtrL γ caps l
 | .e0,v=>∃ao,v = .slice ao 0 0
 | .er b,v=>(b=false∧v = .nilIface)∨(b=true∧∃t p,v = .iface t p)
 | .rf x,v=>RefR γ.m x [v]
 | .ifc t e x,v=>v = .iface t (valF e x)
 | .mp o,v=>o<objs.length∧∃b,(γ o).2=some b∧v = .map (some b)
def VRL (objs:List OB) (γ:Gh) (w:World):List Cv→List Value→Prop
 | [],vs=>vs=[]
 | c::l,vs=>∃v r,vs=v::r∧VR objs γ w c v∧VRL objs γ w l r
def PWR (objs:List OB) (γ:Gh) (w:World):PW→Value→Prop
 | .c x,v=>VR objs γ w x v
 | .agg l,v=>∃cs,v = .agg cs∧VRL objs γ w l cs.toList
def PWL (objs:List OB) (γ:Gh) (w:World):List PW→List Value→Prop
 | [],vs=>vs=[]
 | c::l,vs=>∃v r,vs=v::r∧PWR objs γ w c v∧PWL objs γ w l r
def PR (objs:List OB) (γ:Gh) (w:World):PV→Value→Prop
 | .c x,v=>VR objs γ w x v
 | .agg l,v=>∃cs,v = .agg cs∧VRL objs γ w l cs.toList
 | .tup l,v=>∃vs,v = .tuple vs∧PWL objs γ w l vs.toList
 | .rp l,v=>∃a us,v = .pointer (some a)∧a.block<w.heap.size∧(us≠[]→Imm objs γ w a.block)∧CellsAt w a us∧VRL objs γ w l us
 | .ep o sz i off,v=>o<objs.length∧∃b,(γ o).2=some b∧v = .pointer (some ⟨b,i*sz+off,none⟩)∧∃ao0 n0 c0,(γ o).1 = .slice ao0 n0 c0∧i<n0
 | .pa o off sz cnt inner i,v=>o<objs.length∧∃b,(γ o).2=some b∧0≤i∧i<(cnt:Int)∧v = .pointer (some ⟨b,off+i.toNat*sz+inner,none⟩)
 | .vw o sz lo n,v=>o<objs.length∧∃ao0 n0 c0 ao cap,(γ o).1 = .slice ao0 n0 c0∧lo+n≤n0∧v = .slice ao n cap∧n≤cap∧(0<n→∃b,(γ o).2=some b∧ao=some ⟨b,lo*sz,none⟩)∧cap+lo=c0∧(lo=0→ao=ao0)
 | .ra x sz j off,v=>∃b n c,x≠0∧γ.m x=some (.slice (some ⟨b,0,none⟩) n c)∧j<n∧v = .pointer (some ⟨b,j*sz+off,none⟩)
def ObR (objs:List OB) (γ:Gh) (w:World):OB→Value×Option Nat→Prop
 | .box l,g=>∃b T cs,g=(.pointer (some ⟨b,0,none⟩),some b)∧w.heap[b]?=some (.cells cs T (0,0))∧VRL objs γ w l cs.toList
 | .fbx l,g=>∃b T cs,g=(.pointer (some ⟨b,0,none⟩),some b)∧w.heap[b]?=some (.cells cs T (0,0))∧VRL objs γ w l cs.toList∧Imm objs γ w b
 | .arr i e xs _,g=>∃us,OwnR w i e.size g.1 g.2.toList xs.length us∧RepL (fun x c=>Rep w (Imm objs γ w) e x [] c) xs us
 | .dead,_=>True
 | .mbr i e x,g=>(x=none∧g=(.slice none 0 0,none))∨∃xs us,x=some xs∧OwnR w i e.size g.1 g.2.toList xs.length us∧RepL (fun x c=>Rep w (Imm objs γ w) e x [] c) xs us
 | .nilr,g=>g=(.slice none 0 0,none)
 | .mp k v xs,g=>∃b,g=(.map (some b),some b)∧MapR w b k v xs
 | .ar _ _ _ _ _,g=>g.2=none
 | .hr i p q j xs hole,g=>∃us,OwnR w i (p.size+(1+q.size)) g.1 g.2.toList xs.length us∧RepL (ElR (fun x c=>Rep w (Imm objs γ w) p x [] c) (fun x c=>Rep w (Imm objs γ w) q x [] c) (KidI w (Imm objs γ w))) (hz (hole.map fun h=>(h.1,(γ h.2).1)) xs) us ∧
   ∀k r,hole=some (k,r)→k<xs.length∧VR objs γ w (.os r) (γ r).1
 | .bld t c,g=>∃b p v,g=(.pointer (some ⟨b,0,none⟩),some b)∧w.heap[b]?=some (.cells #[p,v] t (0,0))∧((p = .pointer none∨p = .pointer (some ⟨b,0,none⟩))∧NE v)∧VR objs γ w c v

theorem ObR.len {objs:List OB} {γ:Gh} {w:World} {i:TypeId} {e:Ty} {xs:List (D e)} {fz:Bool} {g:Value×Option Nat} (h:ObR objs γ w (.arr i e xs fz) g) {ao:Option Addr} {n c:Nat} (hg:g.1 = .slice ao n c):n=xs.length:=by
 obtain⟨us,h9,_⟩:=h;rcases h9 with ⟨_,⟨ao1,h10⟩,h11,_⟩ | ⟨b1,cap1,cur,_,h10,_⟩
 ·rw[hg] at h10;simp only[Value.slice.injEq] at h10;omega
 ·rw[hg] at h10;simp only[Value.slice.injEq] at h10;exact h10.2.1
theorem VRL.length {objs:List OB} {γ:Gh} {w:World}:∀ {l:List Cv} {vs:List Value},VRL objs γ w l vs→vs.length=l.length
 | [],_,h=>by simp[VRL] at h;simp[h]
 | _::_,_,⟨_,_,e,_,h⟩=>by simp[e,VRL.length h]
theorem VRL.append {objs:List OB} {γ:Gh} {w:World}:∀ {l r:List Cv} {us vs:List Value},VRL objs γ w l us→VRL objs γ w r vs→VRL objs γ w (l++r) (us++vs)
 | [],_,_,_,h,g=>by simp[VRL] at h;simpa[h] using g
 | _::_,_,_,vs,⟨v,q,e,h1,h2⟩,g=>⟨v,q++vs,by simp[e],h1,VRL.append h2 g⟩
theorem VRL.take {objs:List OB} {γ:Gh} {w:World}:∀ {l:List Cv} {vs:List Value} (k:Nat),VRL objs γ w l vs→VRL objs γ w (l.take k) (vs.take k)
 | [],_,_,h=>by simp[VRL] at h;simp[h,VRL]
 | _::_,_,0,_=>by simp[VRL]
 | _::_,_,k+1,⟨v,q,e,h1,h2⟩=>⟨v,q.take k,by simp[e],h1,VRL.take k h2⟩
theorem VRL.drop {objs:List OB} {γ:Gh} {w:World}:∀ {l:List Cv} {vs:List Value} (k:Nat),VRL objs γ w l vs→VRL objs γ w (l.drop k) (vs.drop k)
 | [],_,_,h=>by simp[VRL] at h;simp[h,VRL]
 | _::_,_,0,h=>by simpa using h
 | _::_,_,k+1,⟨v,q,e,h1,h2⟩=>by subst e;simpa using VRL.drop k h2
theorem VRL.get {objs:List OB} {γ:Gh} {w:World}:∀ {l:List Cv} {vs:List Value} {k:Nat} {c:Cv},VRL objs γ w l vs→l[k]?=some c→∃v,vs[k]?=some v∧VR objs γ w c v
 | [],_,_,_,_,hk=>by simp at hk
 | _::_,_,0,_,⟨v,q,e,h1,h2⟩,hk=>by simp at hk;subst hk;exact⟨v,by simp[e],h1⟩
 | _::_,_,k+1,_,⟨v,q,e,h1,h2⟩,hk=>by
  obtain⟨u,hu,hr⟩:=VRL.get h2 (by simpa using hk);exact⟨u,by simpa[e] using hu,hr⟩
theorem VRL.cvs {objs:List OB} {γ:Gh} {w:World}:∀(l:List Value),VRL objs γ w (cvs l) l
 | []=>rfl
 | v::r=>⟨v,r,rfl,rfl,VRL.cvs r⟩

def Cv.below (n:Nat):Cv→Prop
 | .os o=>o<n
 | .ptr o _=>o<n
 | .fn _ caps=>capsLt n caps
 | .mp o=>o<n
 | _=>True
def CvL.below (n:Nat):List Cv→Prop
 | []=>True
 | c::r=>c.below n∧CvL.below n r
def PW.below (n:Nat):PW→Prop
 | .c x=>x.below n
 | .agg l=>CvL.below n l
def PWL.below (n:Nat):List PW→Prop
 | []=>True
 | c::r=>c.below n∧PWL.below n r
def PV.below (n:Nat):PV→Prop
 | .c x=>x.below n
 | .agg l=>CvL.below n l
 | .tup l=>PWL.below n l
 | .rp l=>CvL.below n l
 | .ep o _ _ _=>o<n
 | .pa o _ _ _ _ _=>o<n
 | .vw o _ _ _=>o<n
 | .ra _ _ _ _=>True

section
variable {objs objs' : List OB} {γ γ' : Gh} {w w' : World} {n : Nat}
structure Keep (objs:List OB) (γ:Gh) (w:World) (objs':List OB) (γ':Gh) (w':World) (n:Nat):Prop where
 imm:Sp.le (Imm objs γ w) (Imm objs' γ' w')
 heap:∀k,Imm objs γ w k→w'.heap[k]?=w.heap[k]?
 len:n≤objs'.length
 gh:∀o,o<n→γ' o=γ o
 size:w.heap.size≤w'.heap.size
 s:γ'.S=γ.S
 kc:∀o,o<n→∀x v,γ.kc o x=some v→γ'.kc o x=some v

theorem Rep.keep (h:Keep objs γ w objs' γ' w' n) {τ:Ty} {x:D τ} {cs:List Value} (hr:Rep w (Imm objs γ w) τ x [] cs):Rep w' (Imm objs' γ' w') τ x [] cs :=
 Rep.mono h.imm h.heap τ hr (by simp)
theorem RepL.keep (h:Keep objs γ w objs' γ' w' n) {τ:Ty} {xs:List (D τ)} {us:List Value} (hr:RepL (fun x c=>Rep w (Imm objs γ w) τ x [] c) xs us):RepL (fun x c=>Rep w' (Imm objs' γ' w') τ x [] c) xs us :=
 hr.mono fun _ _=>Rep.keep h
theorem PtrL.keep (hg:∀o,o<n→γ' o=γ o):∀ {caps:List (Nat×Nat)} {l:List Value},capsLt n caps→PtrL γ caps l→PtrL γ' caps l
 | [],_,_,h=>h
 | (o,off)::r,_,hb,⟨b,q,e,h1,h2⟩=>⟨b,q,e,by rw[hg o hb.1];exact h1,PtrL.keep hg hb.2 h2⟩
theorem capsLt.mono {m:Nat} (h:n≤m):∀ {caps:List (Nat×Nat)},capsLt n caps→capsLt m caps
 | [],_=>trivial
 | _::_,hb=>⟨Nat.lt_of_lt_of_le hb.1 h,capsLt.mono h hb.2⟩
theorem VR.keep (h:Keep objs γ w objs' γ' w' n) {c:Cv} {v:Value} (hb:c.below n) (hr:VR objs γ w c v):VR objs' γ' w' c v:=by
 cases c with
 | v x=>exact hr
 | sl e xs=>exact Rep.keep h (τ := .sl e) hr
 | os o=>exact⟨Nat.lt_of_lt_of_le hb h.len,by rw[h.gh o hb];exact hr.2.1,hr.2.2⟩
 | ptr o off=>exact⟨Nat.lt_of_lt_of_le hb h.len,by rw[h.gh o hb];exact hr.2⟩
 | fn f caps =>
  obtain⟨_,l,e,h1⟩:=hr;exact⟨capsLt.mono h.len hb,l,e,PtrL.keep h.gh hb h1⟩
 | e0=>exact hr
 | er b=>exact hr
 | rf x=>exact RefR.mono h.imm.m hr
 | ifc t e x=>exact hr
 | mp o=>exact⟨Nat.lt_of_lt_of_le hb h.len,by rw[h.gh o hb];exact hr.2⟩
theorem VRL.keep (h:Keep objs γ w objs' γ' w' n):∀ {l:List Cv} {vs:List Value},CvL.below n l→VRL objs γ w l vs→VRL objs' γ' w' l vs
 | [],_,_,hr=>hr
 | _::_,_,hb,⟨v,r,e,h1,h2⟩=>⟨v,r,e,VR.keep h hb.1 h1,VRL.keep h hb.2 h2⟩
theorem PWR.keep (h:Keep objs γ w objs' γ' w' n) {p:PW} {v:Value} (hb:p.below n) (hr:PWR objs γ w p v):PWR objs' γ' w' p v:=by
 cases p with
 | c x=>exact VR.keep h hb hr
 | agg l=>obtain⟨cs,e,h1⟩:=hr;exact⟨cs,e,VRL.keep h hb h1⟩
theorem PWL.keep (h:Keep objs γ w objs' γ' w' n):∀ {l:List PW} {vs:List Value},PWL.below n l→PWL objs γ w l vs→PWL objs' γ' w' l vs
 | [],_,_,hr=>hr
 | _::_,_,hb,⟨v,r,e,h1,h2⟩=>⟨v,r,e,PWR.keep h hb.1 h1,PWL.keep h hb.2 h2⟩
def SameLen (objs objs':List OB):Prop:=∀o ti e xs fz,objs'[o]?=some (.arr ti e xs fz)→o<objs.length→∃ti' e' xs' fz',objs[o]?=some (.arr ti' e' xs' fz')∧xs'.length=xs.length
theorem PR.keep (h:Keep objs γ w objs' γ' w' n) {p:PV} {v:Value} (hb:p.below n) (hs:stable p=true∨SameLen objs objs') (hr:PR objs γ w p v):PR objs' γ' w' p v:=by
 cases p with
 | c x=>exact VR.keep h hb hr
 | agg l=>obtain⟨cs,e,h1⟩:=hr;exact⟨cs,e,VRL.keep h hb h1⟩
 | tup l=>obtain⟨cs,e,h1⟩:=hr;exact⟨cs,e,PWL.keep h hb h1⟩
 | rp l =>
  obtain⟨a,us,e,hl,h1,h2,h3⟩:=hr;refine⟨a,us,e,Nat.lt_of_lt_of_le hl h.size,fun hne=>h.imm _ (h1 hne),?_,VRL.keep h hb h3⟩;by_cases hne:us=[]
  ·subst hne;intro j v hv;simp at hv
  ·exact CellsAt.mono h2 (h.heap _ (h1 hne))
 | ep o sz i off=>exact⟨Nat.lt_of_lt_of_le hb h.len,by rw[h.gh o hb];exact hr.2⟩
 | pa o off sz cnt inner i =>
  obtain⟨_,b,h1,h2⟩:=hr;exact⟨Nat.lt_of_lt_of_le hb h.len,b,by rw[h.gh o hb];exact h1,h2⟩
 | vw o sz lo n=>exact⟨Nat.lt_of_lt_of_le hb h.len,by rw[h.gh o hb];exact hr.2⟩
 | ra x sz j off =>
  obtain⟨b,n,c,h0,h1,h2⟩:=hr;exact⟨b,n,c,h0,h.imm.m _ _ h1,h2⟩
theorem VR.below {c:Cv} {v:Value} (h:VR objs γ w c v):c.below objs.length:=by
 cases c with
 | v x=>trivial
 | sl e xs=>trivial
 | e0=>trivial
 | er b=>trivial
 | rf x=>trivial
 | ifc t e x=>trivial
 | mp o=>exact h.1
 | os o=>exact h.1
 | ptr o off=>exact h.1
 | fn f caps=>exact h.1
theorem VRL.below:∀ {l:List Cv} {vs:List Value},VRL objs γ w l vs→CvL.below objs.length l
 | [],_,_=>trivial
 | _::_,_,⟨_,_,_,h1,h2⟩=>⟨h1.below,VRL.below h2⟩
theorem PWR.below {p:PW} {v:Value} (h:PWR objs γ w p v):p.below objs.length:=by
 cases p with
 | c x=>exact VR.below h
 | agg l=>obtain⟨cs,_,h1⟩:=h;exact VRL.below h1
theorem PWL.below':∀ {l:List PW} {vs:List Value},PWL objs γ w l vs→PWL.below objs.length l
 | [],_,_=>trivial
 | _::_,_,⟨_,_,_,h1,h2⟩=>⟨PWR.below h1,PWL.below' h2⟩
theorem PR.below {p:PV} {v:Value} (h:PR objs γ w p v):p.below objs.length:=by
 cases p with
 | c x=>exact VR.below h
 | agg l=>obtain⟨cs,_,h1⟩:=h;exact VRL.below h1
 | tup l=>obtain⟨cs,_,h1⟩:=h;exact PWL.below' h1
 | rp l=>obtain⟨a,us,_,_,_,_,h1⟩:=h;exact VRL.below h1
 | ep o sz i off=>exact h.1
 | pa o off sz cnt inner i=>exact h.1
 | vw o sz lo n=>exact h.1
 | ra x sz j off=>trivial
theorem ObR.keep (h:Keep objs γ w objs' γ' w' objs.length) {ob:OB} {g:Value×Option Nat} (hb:∀b,g.2=some b→w'.heap[b]?=w.heap[b]?) (hr:ObR objs γ w ob g):ObR objs' γ' w' ob g:=by
 cases ob with
 | box l =>
  obtain⟨b,T,cs,e,h1,h2⟩:=hr;exact⟨b,T,cs,e,(hb b (by simp[e])).trans h1,VRL.keep h h2.below h2⟩
 | fbx l =>
  obtain⟨b,T,cs,e,h1,h2,h3⟩:=hr;exact⟨b,T,cs,e,(hb b (by simp[e])).trans h1,VRL.keep h h2.below h2,h.imm _ h3⟩
 | arr i e xs fz =>
  obtain⟨us,h1,h2⟩:=hr;exact⟨us,h1.mono fun b hm=>hb b (by simpa using hm),RepL.keep h h2⟩
 | mp k v xs =>
  obtain⟨b,e,h1,es,clk,h2,h3⟩:=hr;exact⟨b,e,h1,es,clk,(hb b (by simp[e])).trans h2,h3⟩
 | ar _ _ _ _ _=>exact hr
 | hr i p q j xs hole =>
  obtain⟨us,h1,h2,h3⟩:=hr;have e:(hole.map fun x=>(x.1,(γ' x.2).1))=hole.map fun x=>(x.1,(γ x.2).1):=by
   cases hole with
   | none=>rfl
   | some x=>rw[Option.map_some,Option.map_some,h.gh x.2 (h3 x.1 x.2 rfl).2.1]
  refine⟨us,h1.mono fun b hm=>hb b (by simpa using hm),?_,fun k r hk=>⟨(h3 k r hk).1,by rw[h.gh r (h3 k r hk).2.1];exact VR.keep h (h3 k r hk).2.1 (h3 k r hk).2⟩⟩;rw[e];exact h2.mono (ElR.mono (fun x c=>Rep.keep h) (fun x c=>Rep.keep h) fun ks v hk=>hk.mono h.imm h.heap)
 | dead=>trivial
 | mbr i e x =>
  rcases hr with hr | ⟨xs,us,h0,h1,h2⟩
  ·exact .inl hr
  ·exact .inr ⟨xs,us,h0,h1.mono fun b hm=>hb b (by simpa using hm),RepL.keep h h2⟩
 | nilr=>exact hr
 | bld t c =>
  obtain⟨b,p,v,e,h1,h2,h3⟩:=hr;exact⟨b,p,v,e,(hb b (by simp[e])).trans h1,h2,VR.keep h h3.below h3⟩
end

structure TabR (S:Nat→Prop) (w:World):Prop where
 tab:∀g cs,tabOf g=some cs→S g∧∃T fz,w.heap[g]?=some (.cells cs.toArray T fz)
 opn:∀g e,(g,e)∈Ctx.opens→S g∧∃v T fz,w.heap[g]?=some (.cells #[v] T fz)∧(if e=true then v = .nilIface∨∃te pe,v = .iface te pe else ∃m,v = .int .i64 m)
theorem TabR.mono {S S':Nat→Prop} {w w':World} (h:TabR S w) (hS:∀k,S k→S' k) (hw:∀k,S k→w'.heap[k]?=w.heap[k]?):TabR S' w' where
 tab g cs hg:=by
  obtain⟨h1,h2⟩:=h.tab g cs hg;exact⟨hS g h1,by rw[hw g h1];exact h2⟩
 opn g e hg:=by
  obtain⟨h1,h2⟩:=h.opn g e hg;exact⟨hS g h1,by rw[hw g h1];exact h2⟩
theorem TabR.cells {S:Nat→Prop} {w:World} (h:TabR S w) {g:Nat} {cs:List Value} (hg:tabOf g=some cs):S g∧CellsAt w ⟨g,0,none⟩ cs:=by
 obtain⟨h1,T,fz,h2⟩:=h.tab g cs hg;refine⟨h1,fun j v hj=>?_⟩;have hj':=(List.getElem?_eq_some_iff.1 hj);by_cases h0:j=0
 ·subst h0;simp[World.cell?,Addr.add,h2,hj]
 ·simp[World.cell?,Addr.add,h0,h2,hj]
theorem tabR_nil {S:Nat→Prop} {w:World} (h:Ctx.tabs=[]) (h':Ctx.opens=[]):TabR S w where
 tab g cs hg:=by
  rw[tabOf,h] at hg;cases hg
 opn g e hg:=by
  rw[h'] at hg;cases hg
structure Fr where
 w0:World
 M:List Nat
def tagT (σ:AState) (tg:Tag):Prop:=∀x∈tg,litB σ x=true
structure ORel (F:Fr) (objs:List OB) (γ:Gh) (w:World):Prop where
 rep:∀o ob,objs[o]?=some ob→ObR objs γ w ob (γ o)
 inj:∀o o' b,Mut objs o→Mut objs o'→(γ o).2=some b→(γ o').2=some b→o=o'
 own:∀o b,Mut objs o→(γ o).2=some b→F.w0.heap.size≤b∨b∈F.M
 lt:∀o b,o<objs.length→(γ o).2=some b→b<w.heap.size
 chg:Chg F.M F.w0 w
 frz:∀o i e xs b,objs[o]?=some (.arr i e xs true)→(γ o).2=some b→Imm objs γ w b
 up:∀k,F.w0.heap.size≤k∨k∈F.M→γ.S k
 tab:TabR (Imm objs γ w) w
 bl:∀k∈γ.B,k<w.heap.size∧(F.w0.heap.size≤k∨k∈F.M)
 bo:∀o b,Mut objs o→(γ o).2=some b→b∉γ.B
 ar:∀o t p ow xs lent,objs[o]?=some (.ar t p ow xs lent)→ArO objs γ w o t p ow xs lent
def DfR (d:Deferred):Prop:=∃g v,Ctx.dq=some g∧d=⟨.fn (.func g) #[v],#[]⟩
structure Rel (F:Fr) (σ:AState) (γ:Gh) (a:Act) (w:World):Prop where
 size:a.tmps.size=σ.n
 defers:∀d∈a.defers,DfR d
 slots:∀t tg pv,get σ.slots t=some (tg,pv)→tagT σ tg→∃v,a.tmps[t]?=some v∧PR σ.objs γ w pv v
 off:∀t tg pv,get σ.slots t=some (tg,pv)→¬tagT σ tg→a.tmps[t]?=some undef
 gs:∀t tg pv,get σ.slots t=some (tg,pv)→∀x∈tg,bitB σ.gs x.1=true
 known:∀x∈σ.known,litB σ x=true∧bitB σ.gs x.1=true
 o:ORel F σ.objs γ w
theorem Keep.trans {a b c:List OB} {x y z:Gh} {u v w:World} {n:Nat} (h:Keep a x u b y v n) (g:Keep b y v c z w n):Keep a x u c z w n :=
 ⟨h.imm.trans g.imm,fun k hk=>(g.heap k (h.imm k hk)).trans (h.heap k hk),g.len,fun o ho=>(g.gh o ho).trans (h.gh o ho),Nat.le_trans h.size g.size,g.s.trans h.s,fun o ho x v hv=>g.kc o ho x v (h.kc o ho x v hv)⟩
theorem Keep.less {a b:List OB} {x y:Gh} {u v:World} {n m:Nat} (h:Keep a x u b y v n) (hm:m≤n):Keep a x u b y v m :=
 ⟨h.imm,h.heap,Nat.le_trans hm h.len,fun o ho=>h.gh o (Nat.lt_of_lt_of_le ho hm),h.size,h.s,fun o ho=>h.kc o (Nat.lt_of_lt_of_le ho hm)⟩
theorem Keep.refl (a:List OB) (x:Gh) (u:World):Keep a x u a x u a.length:=⟨Sp.le.refl _,fun _ _=>rfl,Nat.le_refl _,fun _ _=>rfl,Nat.le_refl _,rfl,fun _ _ _ _ h=>h⟩
structure Step (σ:AState) (γ:Gh) (w:World) (σ':AState) (γ':Gh) (w':World):Prop where
 n:σ'.n=σ.n
 prS:σ'.prS=σ.prS
 prO:σ'.prO=σ.prO
 slots:∀t e,bitB σ.prS t=true→kf σ.slots t=some e→kf σ'.slots t=some e
 objs:∀o,o<σ.objs.length→bitB σ.prO o=true→σ'.objs[o]?=σ.objs[o]?
 keep:Keep σ.objs γ w σ'.objs γ' w' σ.objs.length
theorem Step.len {σ σ':AState} {γ γ':Gh} {w w':World} (h:Step σ γ w σ' γ' w'):σ.objs.length≤σ'.objs.length:=h.keep.len
theorem Step.refl (σ:AState) (γ:Gh) (w:World):Step σ γ w σ γ w:=⟨rfl,rfl,rfl,fun _ _ _ h=>h,fun _ _ _=>rfl,Keep.refl _ _ _⟩
theorem Step.trans {a b c:AState} {x y z:Gh} {u v w:World} (h:Step a x u b y v) (g:Step b y v c z w):Step a x u c z w :=
 ⟨g.n.trans h.n,g.prS.trans h.prS,g.prO.trans h.prO,fun t e ht he=>g.slots t e (h.prS▸ht) (h.slots t e ht he),
  fun o ho hp=>(g.objs o (Nat.lt_of_lt_of_le ho h.len) (h.prO▸hp)).trans (h.objs o ho hp),h.keep.trans (g.keep.less h.len)⟩

theorem ImmP.ext {objs:List OB} {γ:Gh} {w w':World} (h:w.heap.size≤w'.heap.size) {k:Nat} (hi:Imm objs γ w k):Imm objs γ w' k:=⟨Nat.lt_of_lt_of_le hi.1 h,hi.2,hi.3,hi.4⟩
theorem Keep.ext {objs:List OB} {γ:Gh} {w w':World} (h:Chg [] w w'):Keep objs γ w objs γ w' objs.length :=
 ⟨⟨fun k hk=>ImmP.ext h.size hk,fun _ _ h=>h⟩,fun k hk=>h.block k hk.1 (by simp),Nat.le_refl _,fun _ _=>rfl,h.size,rfl,fun _ _ _ _ h=>h⟩
theorem NodeR.mono {w w':World} {S S':Sp} {t:TypeId} {p:Ty} {ow:Option TypeId} {lent:Bool} {q:Nat×List Nat} {x:D p×Option (List Nat)} {h:Option Value} (hS:Sp.le S S') (hw:∀k,S k→w'.heap[k]?=w.heap[k]?)
  (hb:∀k∈q.1::q.2,w'.heap[k]?=w.heap[k]?) (hr:NodeR w S t p ow lent q x h):NodeR w' S' t p ow lent q x h:=by
 cases p with
 | sl e =>
  obtain⟨v,us,h1,h2,h3,h4⟩:=hr;exact⟨v,us,h1,h2.mono fun b hm=>hb b (by rw[List.mem_singleton] at hm;subst hm;exact List.mem_cons_self),h3.mono fun d c hd=>Rep.mono hS hw e hd (by simp),h4⟩
 | _=>exact hr.elim
theorem qeT {ls:List (Nat×List Nat)} {i:Nat} {q:Nat×List Nat} (h:ls[i]?=some q):∀k∈q.1::q.2,k∈flatB ls:=fun k hk=>List.mem_flatMap.2 ⟨q,List.mem_of_getElem? h,hk⟩
theorem ArW.mono {w w':World} {S S':Sp} {t:TypeId} {p:Ty} {ow:Option TypeId} {lent:Option Nat} {xs:Ents p} {ls:List (Nat×List Nat)} {hs:List (Option Value)} (hS:Sp.le S S') (hm:S'.m=S.m) (hw:∀k,S k→w'.heap[k]?=w.heap[k]?)
  (hb:∀k∈flatB ls,w'.heap[k]?=w.heap[k]?) (hr:ArW w S t p ow lent xs ls hs):ArW w' S' t p ow lent xs ls hs :=
 ⟨hr.len,hr.lenH,by rw[hm];exact hr.m0,fun i=>by rw[hm];exact hr.m i,hr.nd,fun i q x h h1 h2 h3=>(hr.node i q x h h1 h2 h3).mono hS hw fun k hk=>hb k (qeT h1 k hk)⟩
theorem ArO.keep {objs objs':List OB} {γ γ':Gh} {w w':World} {n o:Nat} {t:TypeId} {p:Ty} {ow:Option TypeId} {xs:Ents p} {lent:Option Nat} (K:Keep objs γ w objs' γ' w' n) (hm:γ'.m=γ.m) (hB:γ'.B=γ.B)
  (hk:∀x,γ'.kc o x=γ.kc o x) (hw:∀k∈γ.B,w'.heap[k]?=w.heap[k]?) (h:ArO objs γ w o t p ow xs lent):ArO objs' γ' w' o t p ow xs lent:=by
 obtain⟨ls,hs,h1,h2,h3,h4⟩:=h;exact⟨ls,hs,h1.mono K.imm hm K.heap fun k hk=>hw k (h2 k hk),fun k hk=>by rw[hB];exact h2 k hk,fun i v hv=>by rw[hk];exact h3 i v hv,fun x hx=>by rw[hk];exact h4 x hx⟩
theorem SameLen.refl (objs:List OB):SameLen objs objs:=fun o ti e xs fz h _=>⟨ti,e,xs,fz,h,rfl⟩
theorem PR.ext {objs:List OB} {γ:Gh} {w w':World} (h:Chg [] w w') {p:PV} {v:Value} (hr:PR objs γ w p v):PR objs γ w' p v :=
 PR.keep (Keep.ext h) hr.below (.inr (SameLen.refl _)) hr
theorem Chg.trans' {ex:List Nat} {a b c:World} (h:Chg ex a b) (g:Chg [] b c):Chg ex a c:=by simpa using h.trans g
theorem ORel.ext {F:Fr} {objs:List OB} {γ:Gh} {w w':World} (r:ORel F objs γ w) (h:Chg [] w w'):ORel F objs γ w' :=
 ⟨fun o ob ho=>ObR.keep (Keep.ext h) (fun b hb=>h.block b (r.lt o b (by
   rcases Nat.lt_or_ge o objs.length with h1 | h1
   ·exact h1
   ·rw[List.getElem?_eq_none h1] at ho;cases ho) hb) (by simp)) (r.rep o ob ho),
  r.inj,r.own,fun o b ho hb=>Nat.lt_of_lt_of_le (r.lt o b ho hb) h.size,Chg.trans' r.chg h,fun o i e xs b ho hb=>(r.frz o i e xs b ho hb).ext h.size,r.up,r.tab.mono (Keep.ext h).imm (Keep.ext h).heap,fun k hk=>⟨Nat.lt_of_lt_of_le (r.bl k hk).1 h.size,(r.bl k hk).2⟩,r.bo,
  fun o t p ow xs lent ho=>(r.ar o t p ow xs lent ho).keep (Keep.ext h) rfl rfl (fun _=>rfl) fun k hk=>h.block k (r.bl k hk).1 (by simp)⟩
theorem Rel.ext {F:Fr} {σ:AState} {γ:Gh} {a:Act} {w w':World} (r:Rel F σ γ a w) (h:Chg [] w w'):Rel F σ γ a w' :=
 ⟨r.size,r.defers,fun t tg pv ht hg=>let ⟨v,h1,h2⟩:=r.slots t tg pv ht hg; ⟨v,h1,h2.ext h⟩,r.off,r.gs,r.known,r.o.ext h⟩

theorem qU {s:Slots} {d t:Nat} {e:Option (Tag×PV)}:get ((d,e)::s) t=if d=t then e else get s t:=by
 simp only[get];by_cases h:d=t
 ·subst h;simp
 ·have:Nat.beq d t=false:=Bool.eq_false_iff.2 fun hb=>h (Nat.eq_of_beq_eq_true hb);simp[this,h]
theorem litB_cons {σ:AState} {d:Nat} {e:Option (Tag×PV)} {x:Nat×Bool} (h:x.1≠d):litB { σ with slots:=(d,e)::σ.slots } x=litB σ x:=by
 simp only[litB,qU,if_neg (Ne.symm h)]
theorem Rel.putA {F:Fr} {σ:AState} {γ:Gh} {a:Act} {w:World} (r:Rel F σ γ a w) {d:Nat} {tg:Tag} {pv:PV} {v:Value}
  (hd:d<σ.n) (hg:bitB σ.gs d=false) (hn:names d tg=false) (hgs:∀x∈tg,bitB σ.gs x.1=true) (hv:tagT σ tg→PR σ.objs γ w pv v) (hu:¬tagT σ tg→v=undef) :
  Rel F { σ with slots:=(d,some (tg,pv))::σ.slots } γ (a.put (some d) v) w:=by
 have hlit:∀x:Nat×Bool,bitB σ.gs x.1=true→litB { σ with slots:=(d,some (tg,pv))::σ.slots } x=litB σ x:=fun x hx=>litB_cons (fun e=>by rw[e,hg] at hx;cases hx);refine⟨by simp[Act.put,r.size],r.defers,fun t tg' pv' ht hT=>?_,fun t tg' pv' ht hT=>?_,fun t tg' pv' ht x hx=>?_,fun x hx=>?_,r.o⟩
 ·rw[qU] at ht;split at ht
  ·rename_i e;subst e;cases ht;refine⟨v,by simp[Act.put,r.size,hd],hv fun x hx=>?_⟩;have:=hT x hx
   rwa [hlit x (hgs x hx)] at this
  ·rename_i e
   obtain⟨u,h1,h2⟩:=r.slots t tg' pv' ht (fun x hx=>by
    have:=hT x hx
    rwa [hlit x (r.gs t tg' pv' ht x hx)] at this)
   exact⟨u,by simp only[Act.put];rw[Array.getElem?_setIfInBounds_ne e];exact h1,h2⟩
 ·rw[qU] at ht;split at ht
  ·rename_i e;subst e;cases ht
   have:v=undef:=hu fun hT'=>hT fun x hx=>by rw[hlit x (hgs x hx)];exact hT' x hx
   simp[Act.put,r.size,hd,this]
  ·rename_i e;have:=r.off t tg' pv' ht (fun hT'=>hT fun x hx=>by rw[hlit x (r.gs t tg' pv' ht x hx)];exact hT' x hx);simp only[Act.put];rw[Array.getElem?_setIfInBounds_ne e];exact this
 ·rw[qU] at ht;split at ht
  ·cases ht;exact hgs x hx
  ·exact r.gs t tg' pv' ht x hx
 ·obtain⟨h1,h2⟩:=r.known x hx;exact⟨(hlit x h2).trans h1,h2⟩
theorem qgU (m d:Nat):bitB m d=m.testBit d:=by
 have h1:Nat.land (Nat.shiftRight m d) 1=(m >>> d) % 2:=Nat.and_one_is_mod _;have h2:m.testBit d=decide ((m >>> d) % 2=1):=by
  have:=Nat.testBit_shiftRight (i:=d) (j:=0) m;rw[Nat.add_zero] at this;rw[←this,Nat.testBit_zero]
 unfold bitB;rw[h1,h2];by_cases h:(m >>> d) % 2=1
 ·rw[h];rfl
 ·rw[decide_eq_false h];exact Bool.eq_false_iff.2 fun hb=>h (Nat.eq_of_beq_eq_true hb)
theorem qef {m k d:Nat} (h:bitB m d=true):bitB (Nat.lor m k) d=true:=by
 rw[qgU] at *;show(m ||| k).testBit d=true;rw[Nat.testBit_or,h];rfl
theorem qdd {m k d:Nat}:bitB (Nat.lor m k) d=(bitB m d||bitB k d):=by
 rw[qgU,qgU,qgU];exact Nat.testBit_or m k d
theorem qoC (t d:Nat):bitB (Nat.shiftLeft 1 t) d=decide (t=d):=by
 rw[qgU];show(1 <<< t).testBit d=_;rw[Nat.testBit_shiftLeft];by_cases h:t=d
 ·subst h;simp
 ·simp only[h,decide_false];by_cases h2:t≤d
  ·obtain⟨j,hj⟩:∃j,d-t=j+1:=⟨d-t-1,by omega⟩;rw[hj,Nat.testBit_succ];simp
  ·simp[h2]
theorem qnl (k d:Nat):bitB (Nat.lor k (Nat.shiftLeft 1 d)) d=true:=by rw[qdd,qoC];simp
theorem Rel.gsUp {F:Fr} {σ:AState} {γ:Gh} {a:Act} {w:World} (r:Rel F σ γ a w) (k:Nat):Rel F { σ with gs:=Nat.lor σ.gs k } γ a w :=
 ⟨r.size,r.defers,r.slots,r.off,fun t tg pv ht x hx=>qef (r.gs t tg pv ht x hx),fun x hx=>⟨(r.known x hx).1,qef (r.known x hx).2⟩,r.o⟩
theorem qrX {σ σ':AState} {d:Option Nat} {tg:Tag} {pv:PV} (h:σ.putO d tg pv=some σ') :
  (d=none∧σ'=σ)∨∃t,d=some t∧t<σ.n∧bitB σ.prS t=false∧bitB σ.gs t=false∧names t tg=false∧σ'={ σ with slots:=(t,some (tg,pv))::σ.slots }:=by
 cases d with
 | none=>simp only[AState.putO] at h;cases h;exact .inl ⟨rfl,rfl⟩
 | some t =>
  simp only[AState.putO,AState.put,chk_some,Bool.and_eq_true,Bool.not_eq_true',Option.some.injEq] at h;obtain⟨⟨h1,h2,h3,h4⟩,rfl⟩:=h;exact .inr ⟨t,rfl,by simpa[Nat.blt_eq] using h1,h2,h3,h4,rfl⟩
theorem Rel.putO {F:Fr} {σ σ':AState} {γ:Gh} {a:Act} {w:World} (r:Rel F σ γ a w) {d:Option Nat} {tg:Tag} {pv:PV} {v:Value} (h:σ.putO d tg pv=some σ')
  (hgs:∀x∈tg,bitB σ.gs x.1=true) (hv:tagT σ tg→PR σ.objs γ w pv v) (hu:¬tagT σ tg→v=undef):Rel F σ' γ (a.put d v) w:=by
 rcases qrX h with ⟨rfl,rfl⟩ | ⟨t,rfl,h1,h2,h3,h4,rfl⟩
 ·exact r
 ·exact r.putA h1 h3 h4 hgs hv hu
theorem Step.ext {σ:AState} {γ:Gh} {w w':World} (h:Chg [] w w'):Step σ γ w σ γ w':=⟨rfl,rfl,rfl,fun _ _ _ h=>h,fun _ _ _=>rfl,Keep.ext h⟩
theorem Step.putO {σ σ':AState} {γ:Gh} {w:World} {d:Option Nat} {tg:Tag} {pv:PV} (h:σ.putO d tg pv=some σ'):Step σ γ w σ' γ w:=by
 rcases qrX h with ⟨rfl,rfl⟩ | ⟨t,rfl,h1,h2,h3,h4,rfl⟩
 ·exact Step.refl _ _ _
 ·refine⟨rfl,rfl,rfl,fun t' e ht he=>?_,fun _ _ _=>rfl,Keep.refl _ _ _⟩;unfold kf at he ⊢;rw[qU,if_neg]
  ·exact he
  ·intro e;subst e;rw[h2] at ht;cases ht

theorem qc8 {x:Nat×Bool}:∀ {tg:Tag},memT x tg=true→x∈tg
 | [],h=>by cases h
 | y::r,h=>by
  simp only[memT,Bool.or_eq_true,Bool.and_eq_true] at h;rcases h with ⟨h1,h2⟩ | h
  ·have e1:=Nat.eq_of_beq_eq_true h1
   have e2:x.2=y.2:=by revert h2;cases x.2<;>cases y.2<;>simp[beqB]
   exact List.mem_cons.2 (.inl (Prod.ext e1 e2))
  ·exact List.mem_cons_of_mem _ (qc8 h)
theorem qnx {kn:Tag}:∀ {a b:Tag},subT kn a b=true→∀x∈a,x∈kn∨x∈b
 | [],_,_,x,hx=>by cases hx
 | y::r,b,h,x,hx=>by
  simp only[subT,Bool.and_eq_true,Bool.or_eq_true] at h;rcases List.mem_cons.1 hx with rfl | hx
  ·exact h.1.imp qc8 qc8
  ·exact qnx h.2 x hx
theorem qf {F:Fr} {σ:AState} {γ:Gh} {a:Act} {w:World} (r:Rel F σ γ a w) {tg:Tag} (hT:tagT σ tg) {x:Operand} {pv:PV} (h:ev σ tg x=some pv):PR σ.objs γ w pv (a.eval x):=by
 cases x with
 | tmp t =>
  simp only[ev,Option.bind_eq_some_iff,chk_some,Option.some.injEq] at h;obtain⟨⟨tg',pv'⟩,h1,h2,rfl⟩:=h;obtain⟨v,hv,hp⟩:=r.slots t tg' pv' h1 (fun x hx=>(qnx h2 x hx).elim (fun hk=>(r.known x hk).1) (hT x))
  have:a.eval (.tmp t)=v:=by simp[Act.eval,Array.getD_eq_getD_getElem?,hv]
  rw[this];exact hp
 | const v =>
  simp only[ev,Option.some.injEq] at h;subst h;show PR _ _ _ _ v
  cases v<;>first | rfl | exact⟨_,rfl,VRL.cvs _⟩
 | global g =>
  simp only[ev,Option.bind_eq_some_iff,Option.some.injEq] at h;obtain⟨cs,h1,rfl⟩:=h;obtain⟨h2,h3⟩:=r.o.tab.cells h1;exact⟨⟨g,0,none⟩,cs,rfl,h2.lt,fun _=>h2,h3,VRL.cvs _⟩
 | func f =>
  simp only[ev,Option.some.injEq] at h;subst h;exact⟨trivial,[],rfl,rfl⟩
theorem qmp {objs:List OB} {γ:Gh} {w:World}:∀ {l:List Cv} {vs us:List Value},qrw l=some vs→VRL objs γ w l us→us=vs
 | [],vs,us,h,hr=>by simp only[qrw,Option.some.injEq] at h;simp only[VRL] at hr;rw[hr,h]
 | c::l,vs,us,h,⟨v,q,e,h1,h2⟩=>by
  cases c<;>simp only[qrw,Option.bind_eq_some_iff,Option.some.injEq] at h<;>try (cases h;done)
  obtain⟨ws,h3,rfl⟩:=h;simp only[VR] at h1;rw[e,h1,qmp h3 h2]
theorem quY {objs:List OB} {γ:Gh} {w:World} {pv:PV} {x v:Value} (h:plain pv=some x) (hr:PR objs γ w pv v):v=x:=by
 cases pv with
 | c c=>cases c<;>simp only[plain,Option.some.injEq] at h<;>first | (cases h;done) | (subst h;exact hr)
 | agg l =>
  simp only[plain,Option.bind_eq_some_iff,Option.some.injEq] at h;obtain⟨vs,h1,rfl⟩:=h;obtain⟨cs,rfl,h2⟩:=hr;rw[←qmp h1 h2]
 | _=>simp[plain] at h
theorem tagB_spec {σ:AState}:∀ {tg:Tag},tagB σ tg=true↔tagT σ tg
 | []=>by simp[tagB,tagT]
 | [x]=>by simp[tagB,tagT]
 | x::y::r=>by
  have ih:=tagB_spec (σ:=σ) (tg:=y::r);simp only[tagB,Bool.and_eq_true,ih];simp[tagT]
end Go.Den
