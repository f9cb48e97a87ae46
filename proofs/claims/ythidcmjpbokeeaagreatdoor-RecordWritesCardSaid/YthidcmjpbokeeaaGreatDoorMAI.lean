/- Several texts in one: DqC, Base, MSortC, StrC. -/
import Derived.Test.YthidcmjpbokeeaaGreatDoorProg
import Derived.Test.YthidcmjpbokeeaaGreatDoorMAE
import Derived.Recover
import Derived.Test.YthidcmjpbokeeaaGreatDoorMAA
import Derived.Test.YthidcmjpbokeeaaGreatDoorMAF
import Derived.Shelf.Strings.OnBuilder
import Derived.Shelf.Small.Strs
import Derived.Shelf.Strings.Split
import Derived.Shelf.GgClosure.StringsIndexFuncTop
import Derived.TacticsInMore
import Derived.WalkKit
import Derived.WalkSmall
import Derived.Shelf.Strings.Search2
import Derived.Shelf.Strconv.Clone
import Derived.Shelf.Strings.SlTrimAscii
import Derived.Shelf.Strings.Cut
import Derived.Shelf.Strings.IndexAnyAll
import Derived.Shelf.Strings.Builder1
namespace Go.Proofs.YthidcmjpbokeeaaGreatDoor
open Go.Den Go.Eng
set_option linter.unusedSimpArgs false
set_option linter.unusedVariables false
set_option maxRecDepth 10000
set_option maxHeartbeats 1000000
section
variable {P : Program} {Q : Exit → Act → List Frame → World → Prop} {ops : Array Oper} {i : Nat} {rest : List Nat} {a : Act} {cs : List Frame} {w w' : World} {o : Oper} {v : Value}
theorem qnj (ho:ops[i]?=some o) (hg:o.guard=none) (hr:(execOp a.eval o).run P w = .ok (.value v) w') (a':Act) (ha:a.put o.dst v=a') (h:wpOpsS P ops Q rest a' cs w'):wpOpsS P ops Q (i::rest) a cs w:=by
  subst ha
  have hw:Region.wanted o (yielded ops a.tmps)=true:=by simp[Region.wanted,hg]
  simp only[wpOpsS,ho,hw,if_true,hr,Oper.upon_value];exact h
theorem dq_skip (ho:ops[i]?=some o) (hg:o.guard=none) (hr:(execOp a.eval o).run P w = .ok .skip w') (a':Act) (ha:a.put o.dst undef=a') (h:wpOpsS P ops Q rest a' cs w'):wpOpsS P ops Q (i::rest) a cs w:=by
  subst ha
  have hw:Region.wanted o (yielded ops a.tmps)=true:=by simp[Region.wanted,hg]
  simp only[wpOpsS,ho,hw,if_true,hr,Oper.upon_skip];exact h
theorem dq_rec (ho:ops[i]?=some o) (hg:o.guard=none) (hr:(execOp a.eval o).run P w = .ok .recover w') (hc:recoverD cs=none) (a':Act) (ha:a.put o.dst .nilIface=a') (h:wpOpsS P ops Q rest a' cs w'):wpOpsS P ops Q (i::rest) a cs w:=by
  subst ha
  have hw:Region.wanted o (yielded ops a.tmps)=true:=by simp[Region.wanted,hg]
  simp only[wpOpsS,ho,hw,if_true,hr,hc];exact h
end
noncomputable def dqOps:Array Oper:=match (Tryz.f73.body).getD .skip with
  | .seq (.region _ ops _) _=>ops
  | _=>#[]
noncomputable def dqOps1:Array Oper:=match (Tryz.f73.body).getD .skip with
  | .seq _ (.seq (.region _ ops _) _)=>ops
  | _=>#[]
noncomputable def dqThen:Code:=match (Tryz.f73.body).getD .skip with
  | .seq _ (.seq _ (.cond _ c _))=>c
  | _ => .skip
theorem dq_tmps (v:Value) : #[v]++Array.replicate (Tryz.f73.ntmps-(#[v]:Array Value).size) undef = #[v,undef,undef,undef,undef,undef,undef,undef,undef,undef,undef]:=by
  rw[Tryz.ntmps73];simp[Array.replicate]
theorem dq_calls (v:Value) (w:World):CallsD Tryz.prog 73 #[v] .returning w (fun e u' w'=>(∃x,e = .returned x)∧u' = .returning∧Chg [] w w'):=by
  refine callsD_of_wpS (c := .seq (.region 0 dqOps false) (.seq (.region 1 dqOps1 false) (.cond (.tmp 8) dqThen .skip))) Tryz.func73 (by rfl) fun c₀ cs hu=>?_
  have hrec:recoverD (c₀::cs)=none:=by simp[recoverD,hu]
  have hcs:c₀::cs={ c₀ with mode := .returning }::cs:=by cases c₀;simp at hu;simp[hu]
  rw[dq_tmps];apply wpS_seq;apply wpS_region;show wpOpsS _ _ _ [0,1,2,3,4,5,6,7] _ _ _;refine dq_rec (P:=Tryz.prog) (i:=0) (w':=w) (o:=⟨some 4,.call ⟨.builtin .recover,#[],#[]⟩,_,_,_,none⟩) (by rfl) rfl (by simp[execOp,resolve,invoke,builtin,go_sem]) hrec ⟨#[v,undef,undef,undef,.nilIface,undef,undef,undef,undef,undef,undef],[]⟩ (by simp[Act.put]) ?_;refine qnj (P:=Tryz.prog) (i:=1) (v := .tuple #[.agg #[.int .i64 0],.bool false]) (w':=w) (o:=⟨some 5,.typeAssert (.tmp 4) 20 151 true,_,_,_,none⟩) (by rfl) rfl ?_ ⟨#[v,undef,undef,undef,.nilIface,.tuple #[.agg #[.int .i64 0],.bool false],undef,undef,undef,undef,undef],[]⟩ (by simp[Act.put]) ?_
  · simp[execOp,Act.eval,Instr.typeAssert,run_underlying Tryz.underlying151,Tryz.zeroValue151]
  refine qnj (P:=Tryz.prog) (i:=2) (v := .tuple #[.agg #[.int .i64 0],.bool false]) (w':=w) (o:=⟨some 3,.move (.tmp 5),_,_,_,none⟩) (by rfl) rfl (by simp[execOp,Act.eval]) ⟨#[v,undef,undef,.tuple #[.agg #[.int .i64 0],.bool false],.nilIface,.tuple #[.agg #[.int .i64 0],.bool false],undef,undef,undef,undef,undef],[]⟩ (by simp[Act.put]) ?_;refine qnj (P:=Tryz.prog) (i:=3) (v := .agg #[.int .i64 0]) (w':=w) (o:=⟨some 6,.extract (.tmp 3) 0,_,_,_,none⟩) (by rfl) rfl (by simp[execOp,Act.eval,go_sem]) ⟨#[v,undef,undef,.tuple #[.agg #[.int .i64 0],.bool false],.nilIface,.tuple #[.agg #[.int .i64 0],.bool false],.agg #[.int .i64 0],undef,undef,undef,undef],[]⟩ (by simp[Act.put]) ?_
  refine qnj (P:=Tryz.prog) (i:=4) (v := .bool false) (w':=w) (o:=⟨some 7,.extract (.tmp 3) 1,_,_,_,none⟩) (by rfl) rfl (by simp[execOp,Act.eval,go_sem]) ⟨#[v,undef,undef,.tuple #[.agg #[.int .i64 0],.bool false],.nilIface,.tuple #[.agg #[.int .i64 0],.bool false],.agg #[.int .i64 0],.bool false,undef,undef,undef],[]⟩ (by simp[Act.put]) ?_;refine qnj (P:=Tryz.prog) (i:=5) (v := .pointer (some ⟨w.heap.size,0,none⟩)) (w':=w.alloc (.cells #[.int .i64 0] 151)) (o:=⟨some 1,.alloc 151,_,_,_,none⟩) (by rfl) rfl ?_ ⟨#[v,.pointer (some ⟨w.heap.size,0,none⟩),undef,.tuple #[.agg #[.int .i64 0],.bool false],.nilIface,.tuple #[.agg #[.int .i64 0],.bool false],.agg #[.int .i64 0],.bool false,undef,undef,undef],[]⟩ (by simp[Act.put]) ?_
  · simp only[execOp,Instr.alloc,Sem.run_bind,Tryz.zeroValue151,Result.andThen_ok,newVar,newRow,newObj];rfl
  refine dq_skip (P:=Tryz.prog) (i:=6) (w':=(w.alloc (.cells #[.int .i64 0] 151)).setRow w.heap.size #[.int .i64 0]) (o:=⟨none,.store 151 (.tmp 1) (.tmp 6),_,_,_,none⟩) (by rfl) rfl ?_ ⟨#[v,.pointer (some ⟨w.heap.size,0,none⟩),undef,.tuple #[.agg #[.int .i64 0],.bool false],.nilIface,.tuple #[.agg #[.int .i64 0],.bool false],.agg #[.int .i64 0],.bool false,undef,undef,undef],[]⟩ rfl ?_
  · have hrow:Row (w.alloc (.cells #[.int .i64 0] 151)) w.heap.size #[.int .i64 0] 151:=Row.of (heap_alloc_new w (.cells #[.int .i64 0] 151));have hst:=qgE (P:=Tryz.prog) hrow 0 [.int .i64 0] (by simp) (by intro u hu;simp at hu;subst hu;rfl);have hsv:(storeVar 151 ⟨w.heap.size,0,none⟩ (.agg #[.int .i64 0])).run Tryz.prog (w.alloc (.cells #[.int .i64 0] 151)) = .ok () ((w.alloc (.cells #[.int .i64 0] 151)).setRow w.heap.size #[.int .i64 0]):=by
      unfold storeVar;simp only[Sem.run_bind,Tryz.sizeOf151,Result.andThen_ok];simpa[Value.cells] using hst
    simp only[execOp,Sem.run_bind];simp[Act.eval,Instr.storeAt,Instr.sureAddr,hsv]
  refine qnj (P:=Tryz.prog) (i:=7) (v := .bool false) (o:=⟨some 2,.assign (.tmp 7),_,_,_,none⟩) (by rfl) rfl (by simp[execOp,Act.eval];rfl) ⟨#[v,.pointer (some ⟨w.heap.size,0,none⟩),.bool false,.tuple #[.agg #[.int .i64 0],.bool false],.nilIface,.tuple #[.agg #[.int .i64 0],.bool false],.agg #[.int .i64 0],.bool false,undef,undef,undef],[]⟩ (by simp[Act.put]) ?_;show Exit.thenS _ _ .normal _ _ _;apply wpS_seq;apply wpS_region;show wpOpsS _ _ _ [0] _ _ _;refine qnj (P:=Tryz.prog) (i:=0) (v := .bool false) (o:=⟨some 8,.move (.tmp 2),_,_,_,none⟩) (by rfl) rfl (by simp[execOp,Act.eval];rfl) ⟨#[v,.pointer (some ⟨w.heap.size,0,none⟩),.bool false,.tuple #[.agg #[.int .i64 0],.bool false],.nilIface,.tuple #[.agg #[.int .i64 0],.bool false],.agg #[.int .i64 0],.bool false,.bool false,undef,undef],[]⟩ (by simp[Act.put]) ?_
  show Exit.thenS _ _ .normal _ _ _;refine wpS_cond (t:=false) (by simp[Act.eval]) ?_;refine wpS_of_wp (wp_skip ?_);refine⟨rfl,.returning,hcs,.tuple #[],by simp[results,Tryz.results73],⟨_,rfl⟩,rfl,?_⟩;have h1:=qbY w (.cells #[.int .i64 0] 151);exact⟨rfl,rfl,rfl,by simp[World.setRow,qbf],fun k hk hn=>(setRow_other _ _ k _ (by omega)).trans (h1.block k hk hn),fun _=>Nat.le_refl _⟩
instance dqAll:DqAll Tryz.prog:=⟨fun g h=>by
  have h:some 73=some g:=h;obtain rfl:=Option.some.inj h
  exact⟨by kernel_rfl,dq_calls⟩⟩
end Go.Proofs.YthidcmjpbokeeaaGreatDoor
namespace Go.Proofs.YthidcmjpbokeeaaGreatDoor
theorem mixed:Tryz.prog.follows .mixedOrders=true:=by kernel_rfl
instance dqUp:Go.Den.DqAll (CT:=Go.Den.ctxUp) Tryz.prog:=@Go.Den.DqAll.mk Go.Den.ctxUp Tryz.prog (fun g h=>by cases h)
end Go.Proofs.YthidcmjpbokeeaaGreatDoor
namespace Go.Proofs.YthidcmjpbokeeaaGreatDoor
open Go.Den
set_option linter.unusedVariables false
set_option maxRecDepth 100000
def qgL:Ann := .nil
noncomputable def cmpIsNaN_int_con:Con:=⟨[Zt44],true,[],.bool,fun x=>qfF x.1,some fun x=>qax x.1⟩
noncomputable def qgP:Env:=[]
theorem qk1 (x:DL cmpIsNaN_int_con.ps):cmpIsNaN_int_con.φ x=denF (CT:=ctxUp) Tryz.prog qgP qgL Tryz.f168 cmpIsNaN_int_con.ps cmpIsNaN_int_con.one cmpIsNaN_int_con.res cmpIsNaN_int_con.ρ x:=by kernel_rfl
theorem ql8:ConOK (CT:=ctxUp) Tryz.prog 168 cmpIsNaN_int_con :=
  qc (CT:=ctxUp) (env:=qgP) ((EnvOK.nil (CT:=ctxUp) _)) mixed Tryz.func168 cmpIsNaN_int_con qgL (by kernel_rfl) (fun h=>by first | rfl | cases h) (fun g hg x=>by
    cases hg
    exact qn7 _) qk1
def qfy:Ann := .nil
noncomputable def cmpCompare_int_con:Con:=⟨[Zt44,Zt44],true,[],Zt44,fun x=>qdN x.1 x.2.1,some fun x=>qaz x.1 x.2.1⟩
noncomputable def qfr:Env:=(168,.con cmpIsNaN_int_con)::[]
theorem qi8 (x:DL cmpCompare_int_con.ps):cmpCompare_int_con.φ x=denF (CT:=ctxUp) Tryz.prog qfr qfy Tryz.f107 cmpCompare_int_con.ps cmpCompare_int_con.one cmpCompare_int_con.res cmpCompare_int_con.ρ x:=by kernel_rfl
theorem qj4:ConOK (CT:=ctxUp) Tryz.prog 107 cmpCompare_int_con :=
  qc (CT:=ctxUp) (env:=qfr) ((EnvOK.cons (CT:=ctxUp) (EnvOK.nil (CT:=ctxUp) _) ql8)) mixed Tryz.func107 cmpCompare_int_con qfy (by kernel_rfl) (fun h=>by first | rfl | cases h) (fun g hg x=>by
    cases hg
    exact qla _ _) qi8
def qkf:Ann:=(.two .nil (.two .nil (.two (.two .nil (.joinE ⟨[3],[],[]⟩ (.two (.loop ⟨[3,6,7],[(8,Zt44)],[]⟩ .nil) .nil))) .nil)))
noncomputable def cmpOr_int_con:Con:=⟨[Zt42],true,[],Zt44,fun x=>qjK x.1,none⟩
noncomputable def qkd:Env:=[]
theorem qok (x:DL cmpOr_int_con.ps):cmpOr_int_con.φ x=denF (CT:=ctxUp) Tryz.prog qkd qkf Tryz.f106 cmpOr_int_con.ps cmpOr_int_con.one cmpOr_int_con.res cmpOr_int_con.ρ x:=by kernel_rfl
theorem qpG:ConOK (CT:=ctxUp) Tryz.prog 106 cmpOr_int_con :=
  qc (CT:=ctxUp) (env:=qkd) ((EnvOK.nil (CT:=ctxUp) _)) mixed Tryz.func106 cmpOr_int_con qkf (by kernel_rfl) (fun h=>by first | rfl | cases h) (fun g hg=>by cases hg) qok
def qlY:Ann:=(.two .nil (.two (.tail 15 .nil) .nil))
noncomputable def movesCmp_con:Con:=⟨[Zt37,Zt37],true,[],Zt44,fun x=>qqg x.1 x.2.1,none⟩
noncomputable def qlv:Env:=(106,.con cmpOr_int_con)::(107,.con cmpCompare_int_con)::[]
theorem qrz (x:DL movesCmp_con.ps):movesCmp_con.φ x=denF (CT:=ctxUp) Tryz.prog qlv qlY Tryz.f105 movesCmp_con.ps movesCmp_con.one movesCmp_con.res movesCmp_con.ρ x:=by kernel_rfl
theorem qsM:ConOK (CT:=ctxUp) Tryz.prog 105 movesCmp_con :=
  qc (CT:=ctxUp) (env:=qlv) ((EnvOK.cons (CT:=ctxUp) (EnvOK.cons (CT:=ctxUp) (EnvOK.nil (CT:=ctxUp) _) qj4) qpG)) mixed Tryz.func105 movesCmp_con qlY (by kernel_rfl) (fun h=>by first | rfl | cases h) (fun g hg=>by cases hg) qrz
def qrm:Go.Shelf.Ren:=⟨fun | 6=>104 | 15=>167 | 14=>166 | 28=>216 | 29=>217 | 20=>208 | 21=>209 | 22=>210 | 23=>211 | 24=>212 | 25=>213 | 26=>214 | 27=>215 | 46=>244 | 47=>245 | 48=>246 | 49=>247 | 50=>248 | 57=>270 | n=>n,fun | 22=>42 | 24=>49 | 25=>190 | 3=>3 | 39=>246 | 0=>0 | 53=>288 | 55=>229 | 4=>4 | 46=>281 | 45=>280 | 50=>285 | 5=>5 | 9=>9 | 66=>308 | 70=>312 | 76=>327 | 77=>328 | n=>n,fun | n=>n⟩
theorem msort_lay:SlLaysF0.n6 Tryz.prog qrm where
  mixed:=by kernel_rfl
  f6:=⟨Tryz.f104.name,by decide,Tryz.func104.trans (congrArg some (by kernel_rfl))⟩
  f14:=⟨Tryz.f166.name,by decide,Tryz.func166.trans (congrArg some (by kernel_rfl))⟩
  f15:=Tryz.func167.trans (congrArg some (by kernel_rfl))
  f20:=⟨Tryz.f208.name,by decide,Tryz.func208.trans (congrArg some (by kernel_rfl))⟩
  f21:=⟨Tryz.f209.name,by decide,Tryz.func209.trans (congrArg some (by kernel_rfl))⟩
  f22:=⟨Tryz.f210.name,by decide,Tryz.func210.trans (congrArg some (by kernel_rfl))⟩
  f23:=⟨Tryz.f211.name,by decide,Tryz.func211.trans (congrArg some (by kernel_rfl))⟩
  f24:=⟨Tryz.f212.name,by decide,Tryz.func212.trans (congrArg some (by kernel_rfl))⟩
  f25:=⟨Tryz.f213.name,by decide,Tryz.func213.trans (congrArg some (by kernel_rfl))⟩
  f26:=⟨Tryz.f214.name,by decide,Tryz.func214.trans (congrArg some (by kernel_rfl))⟩
  f27:=⟨Tryz.f215.name,by decide,Tryz.func215.trans (congrArg some (by kernel_rfl))⟩
  f28:=Tryz.func216.trans (congrArg some (by kernel_rfl))
  f29:=Tryz.func217.trans (congrArg some (by kernel_rfl))
  f46:=⟨Tryz.f244.name,by decide,Tryz.func244.trans (congrArg some (by kernel_rfl))⟩
  f47:=Tryz.func245.trans (congrArg some (by kernel_rfl))
  f48:=Tryz.func246.trans (congrArg some (by kernel_rfl))
  f49:=⟨Tryz.f247.name,by decide,Tryz.func247.trans (congrArg some (by kernel_rfl))⟩
  f50:=⟨Tryz.f248.name,by decide,Tryz.func248.trans (congrArg some (by kernel_rfl))⟩
  f57:=⟨Tryz.f270.name,by decide,Tryz.func270.trans (congrArg some (by kernel_rfl))⟩
  t0:=Tryz.underlying0
  a0:=Tryz.isAgg0
  z0:=Tryz.sizeOf0
  v0:=Tryz.zeroValue0
  t3:=Tryz.underlying3
  a3:=Tryz.isAgg3
  z3:=Tryz.sizeOf3
  v3:=Tryz.zeroValue3
  t4:=Tryz.underlying4
  a4:=Tryz.isAgg4
  z4:=Tryz.sizeOf4
  v4:=Tryz.zeroValue4
  t5:=Tryz.underlying5
  a5:=Tryz.isAgg5
  z5:=Tryz.sizeOf5
  v5:=Tryz.zeroValue5
  t9:=Tryz.underlying9
  a9:=Tryz.isAgg9
  z9:=Tryz.sizeOf9
  v9:=Tryz.zeroValue9
  t22:=Tryz.underlying42
  a22:=Tryz.isAgg42
  z22:=Tryz.sizeOf42
  v22:=Tryz.zeroValue42
  t25:=Tryz.underlying190
  a25:=Tryz.isAgg190
  z25:=Tryz.sizeOf190
  v25:=Tryz.zeroValue190
  t39:=Tryz.underlying246
  a39:=Tryz.isAgg246
  z39:=Tryz.sizeOf246
  v39:=Tryz.zeroValue246
  t45:=Tryz.underlying280
  a45:=Tryz.isAgg280
  z45:=Tryz.sizeOf280
  v45:=Tryz.zeroValue280
  t46:=Tryz.underlying281
  a46:=Tryz.isAgg281
  z46:=Tryz.sizeOf281
  v46:=Tryz.zeroValue281
  t50:=Tryz.underlying285
  a50:=Tryz.isAgg285
  z50:=Tryz.sizeOf285
  v50:=Tryz.zeroValue285
  t53:=Tryz.underlying288
  a53:=Tryz.isAgg288
  z53:=Tryz.sizeOf288
  v53:=Tryz.zeroValue288
  t55:=Tryz.underlying229
  a55:=Tryz.isAgg229
  z55:=Tryz.sizeOf229
  v55:=Tryz.zeroValue229
  t66:=Tryz.underlying308
  a66:=Tryz.isAgg308
  z66:=Tryz.sizeOf308
  v66:=Tryz.zeroValue308
  t70:=Tryz.underlying312
  a70:=Tryz.isAgg312
  z70:=Tryz.sizeOf312
  v70:=Tryz.zeroValue312
  t76:=Tryz.underlying327
  a76:=Tryz.isAgg327
  z76:=Tryz.sizeOf327
  v76:=Tryz.zeroValue327
  t77:=Tryz.underlying328
  a77:=Tryz.isAgg328
  z77:=Tryz.sizeOf328
  v77:=Tryz.zeroValue328
open Go.Sort Go.Lib in
section
def cmp3 (a b:Int):Int:=if a<b then -1 else if b<a then 1 else 0
theorem qsX (a b:Int):qaz a b=cmp3 a b:=by
  unfold qaz qax cmp3
  by_cases h:a<b
  · simp[h]
  · by_cases h2:b<a<;>simp[h,h2]
theorem quY (a b c:Int):qjK [a,b,c]=some (if a=0 then if b=0 then c else b else a):=by
  unfold qjK
  by_cases ha:a=0
  · subst ha
    rw[qn (y:=((1,()),())) (by simp[qa5,at?,qe])]
    by_cases hb:b=0
    · subst hb
      rw[qn (y:=((2,()),())) (by simp[qa5,at?,qe])]
      by_cases hc:c=0
      · subst hc
        rw[qn (y:=((3,()),())) (by simp[qa5,at?,qe])]
        rw[qg (r := .inl ((),())) (by simp[qa5])]
        rfl
      · rw[qg (r := .inr c) (by simp[qa5,at?,bne_t hc])]
        simp
    · rw[qg (r := .inr b) (by simp[qa5,at?,bne_t hb])]
      simp[hb]
  · rw[qg (r := .inr a) (by simp[qa5,at?,bne_t ha])]
    simp[ha]
def mvCf (x y:Mv):Int:=if cmp3 x.1 y.1=0 then if cmp3 x.2.1 y.2.1=0 then cmp3 x.2.2.1 y.2.2.1 else cmp3 x.2.1 y.2.1 else cmp3 x.1 y.1
theorem qpC (x y:Mv):qqg x y=some (mvCf x y):=by
  unfold qqg mvCf
  rw[qsX,qsX,qsX,quY]
  rfl
theorem qrM (a b:Int):cmp3 a b=0↔a=b:=by
  unfold cmp3
  split
  · constructor<;>intro h<;>omega
  · split<;>constructor<;>intro h<;>omega
theorem qs4 (a b:Int):cmp3 a b<0↔a<b:=by
  unfold cmp3
  split
  · constructor<;>intro h<;>omega
  · split<;>constructor<;>intro h<;>omega
theorem qpK:ltOf mvCf=mvLt:=by
  funext x y
  unfold ltOf mvCf mvLt
  by_cases h1:x.1=y.1
  · by_cases h2:x.2.1=y.2.1
    · simp[h1,h2,(qrM y.1 y.1).2 rfl,(qrM y.2.1 y.2.1).2 rfl,qs4]
    · have:¬cmp3 x.2.1 y.2.1=0:=fun h=>h2 ((qrM _ _).1 h)
      simp[h1,h2,(qrM y.1 y.1).2 rfl,this,qs4]
  · have:¬cmp3 x.1 y.1=0:=fun h=>h1 ((qrM _ _).1 h)
    simp[h1,this,qs4]
theorem qtu (x y:Mv):mvLt x y=true↔x.1<y.1∨x.1=y.1∧(x.2.1<y.2.1∨x.2.1=y.2.1∧x.2.2.1<y.2.2.1):=by simp[mvLt]
theorem mvLt_f (x y:Mv):mvLt x y=false↔¬(x.1<y.1∨x.1=y.1∧(x.2.1<y.2.1∨x.2.1=y.2.1∧x.2.2.1<y.2.2.1)):=by rw[←qtu,Bool.not_eq_true]
theorem mv_swo:SWO mvLt where
  irrefl x:=by rw[mvLt_f];omega
  trans x y z h1 h2:=by rw[qtu] at *;omega
  ntrans x y z h1 h2:=by rw[mvLt_f] at *;omega
theorem mv_tot (x y:Mv) (h1:mvLt x y=false) (h2:mvLt y x=false):x=y:=by
  rw[mvLt_f] at h1 h2
  obtain⟨a,b,c,⟨⟩⟩:=x
  obtain⟨a',b',c',⟨⟩⟩:=y
  simp only at h1 h2
  have e1:a=a':=by omega
  subst e1
  have e2:b=b':=by omega
  subst e2
  have e3:c=c':=by omega
  subst e3
  rfl
def qgw:Srt:=⟨49,Zt37,some 105,qbu⟩
theorem qrQ:SrtOK Tryz.prog 104 qgw:=by
  have h:=qta (ρ:=qrm) (g:=105) (f:=104) (τ:=Zt37) (i:=49) msort_lay rfl rfl rfl rfl Tryz.isAgg49 Tryz.sizeOf49 qsM mvCf (fun x y=>qpC x y) (show SWO (ltOf mvCf) from qpK▸mv_swo) (fun x y h1 h2=>mv_tot x y (by rw[←qpK];exact h1) (by rw[←qpK];exact h2)) (enters_of Tryz.func105 (by kernel_rfl) rfl)
  have e:(fun xs:List Mv=>xs.mergeSort fun x y=>!(ltOf mvCf) y x)=qbu:=by rw[qpK];rfl
  have:qgw=⟨49,Zt37,some 105,fun xs:List Mv=>xs.mergeSort fun x y=>!(ltOf mvCf) y x⟩:=by rw[e];rfl
  rw[this]
  exact h
end
set_option linter.unusedSimpArgs false
theorem qku {w w':World} (hd:Go.Den.Ctx.drawsUp=false) (h:Go.RowKit.Below w.heap.size w w'):Go.Eng.Chg [] w w' :=
  ⟨h.os,h.tape,h.output,h.size,fun k hk _=>h.block k hk,fun e=>by rw[hd] at e;cases e⟩
theorem qkw {α:Type} {c:Bool} {x r:α} (h:(bif c then some x else none)=some r):c=true∧x=r:=by cases c<;>simp_all
theorem qrb {w:World} {S:Sp}:∀ {l:List ByteArray} {us:List Value},RepL (fun (x:D .str) c=>Rep w S .str x [] c) l us→us=l.map Value.string
  | [],us,h=>h
  | n::ns,us,⟨c,r,h1,h2,h3⟩=>by
    subst h1
    rw[h2.2,qrb h3]
    rfl
theorem open_int {S:Nat→Prop} {w:World} {g:Nat} (hT:TabR S w) (hg:(g,false)∈Ctx.opens):∃m,w.cell? ⟨g,0,none⟩=some (.int .i64 m):=by
  obtain⟨_,v,T,fz,hh,hv⟩:=hT.opn g false hg
  rw[if_neg (by decide)] at hv
  obtain⟨m,rfl⟩:=hv
  exact⟨m,by simp[World.cell?,hh]⟩

def qmn:Go.Shelf.Ren:=⟨fun | 156=>25 | 165=>63 | 166=>22 | 169=>28 | 240=>58 | 241=>122 | 276=>121 | 277=>177 | n=>n,fun | 31=>71 | 9=>9 | 3=>3 | 4=>4 | 0=>0 | 20=>20 | 72=>64 | 76=>69 | 70=>61 | 37=>62 | 75=>68 | 127=>144 | 164=>202 | 5=>5 | 80=>82 | n=>n,fun | n=>n⟩
open Go.Shelf in
theorem qt9:Go.Proofs.Lays.n156 Tryz.prog qmn where
  mixed:=by kernel_rfl
  f156:=Tryz.func25.trans (congrArg some (by kernel_rfl))
  f165:=Tryz.func63.trans (congrArg some (by kernel_rfl))
  f166:=Tryz.func22.trans (congrArg some (by kernel_rfl))
  f169:=Tryz.func28.trans (congrArg some (by kernel_rfl))
  f240:=Tryz.func58.trans (congrArg some (by kernel_rfl))
  f241:=Tryz.func122.trans (congrArg some (by kernel_rfl))
  f276:=Tryz.func121.trans (congrArg some (by kernel_rfl))
  f277:=Tryz.func177.trans (congrArg some (by kernel_rfl))
  t0:=Tryz.underlying0
  a0:=Tryz.isAgg0
  z0:=Tryz.sizeOf0
  v0:=Tryz.zeroValue0
  t3:=Tryz.underlying3
  a3:=Tryz.isAgg3
  z3:=Tryz.sizeOf3
  v3:=Tryz.zeroValue3
  t4:=Tryz.underlying4
  a4:=Tryz.isAgg4
  z4:=Tryz.sizeOf4
  v4:=Tryz.zeroValue4
  t9:=Tryz.underlying9
  a9:=Tryz.isAgg9
  z9:=Tryz.sizeOf9
  v9:=Tryz.zeroValue9
  t20:=Tryz.underlying20
  a20:=Tryz.isAgg20
  z20:=Tryz.sizeOf20
  v20:=Tryz.zeroValue20
  t31:=Tryz.underlying71
  a31:=Tryz.isAgg71
  z31:=Tryz.sizeOf71
  v31:=Tryz.zeroValue71
  t37:=Tryz.underlying62
  a37:=Tryz.isAgg62
  z37:=Tryz.sizeOf62
  v37:=Tryz.zeroValue62
  t70:=Tryz.underlying61
  a70:=Tryz.isAgg61
  z70:=Tryz.sizeOf61
  v70:=Tryz.zeroValue61
  t72:=Tryz.underlying64
  a72:=Tryz.isAgg64
  z72:=Tryz.sizeOf64
  v72:=Tryz.zeroValue64
  t75:=Tryz.underlying68
  a75:=Tryz.isAgg68
  z75:=Tryz.sizeOf68
  v75:=Tryz.zeroValue68
  t76:=Tryz.underlying69
  a76:=Tryz.isAgg69
  z76:=Tryz.sizeOf69
  v76:=Tryz.zeroValue69
  t127:=Tryz.underlying144
  a127:=Tryz.isAgg144
  z127:=Tryz.sizeOf144
  v127:=Tryz.zeroValue144
  t164:=Tryz.underlying202
  a164:=Tryz.isAgg202
  z164:=Tryz.sizeOf202
  v164:=Tryz.zeroValue202
theorem qo1:Go.Proofs.Builder.Extra Tryz.prog qmn where
  sizeBuilder:=by kernel_rfl
  liesBuilder:=by kernel_rfl
  t5:=Tryz.underlying5
  a5:=Tryz.isAgg5
  z5:=Tryz.sizeOf5
  v5:=Tryz.zeroValue5
  infoByte:=by kernel_rfl
  cellsByte:=by kernel_rfl
  sizeByte:=by kernel_rfl
  neB5:=by decide
noncomputable def qkv:Con:=⟨[.sl .str,.str],true,[],.str,fun x=>joinS x.1 x.2.1,none⟩
theorem qtl:ConOK Tryz.prog 25 qkv:=by
  refine⟨rfl,fun h=>(by cases h),fun g h=>(by cases h),fun w S args x r hS hT ha hr=>?_⟩
  obtain⟨l,sep,⟨⟩⟩:=x
  obtain⟨v,q,e1,⟨cs,⟨_,ao,cap,us,rfl,hcap,hrep,hne⟩,rfl⟩,v2,q2,rfl,⟨cs2,⟨_,rfl⟩,rfl⟩,h2⟩:=ha
  obtain rfl:q2=[]:=h2
  obtain rfl:args = #[.slice ao l.length cap,.string sep]:=by rw[←Array.toList_inj,e1];rfl
  have hr:joinS l sep=some r:=hr
  obtain⟨hb,rfl⟩:=qkw hr
  · simp only[Bool.and_eq_true] at hb
    have h3:=Nat.le_of_ble_eq_true hb.1
    have h4:=Nat.le_of_ble_eq_true hb.2
    have hus:=qrb hrep
    subst hus
    have fin:∀w',Go.Eng.Chg [] w w'→∃v,Ending.returned (.string ⟨(Go.Lib.join (l.map (·.data.toList)) sep.data.toList).toArray⟩)=Ending.returned v∧Go.Eng.Chg [] w w'∧ResR w w' S qkv (⟨(Go.Lib.join (l.map (·.data.toList)) sep.data.toList).toArray⟩:ByteArray) v :=
      fun w' hc=>⟨_,rfl,hc,[],[.string ⟨(Go.Lib.join (l.map (·.data.toList)) sep.data.toList).toArray⟩],List.nodup_nil,(by simp),⟨rfl,rfl⟩,rfl⟩
    by_cases h0:l=[]
    · subst h0
      refine(Any.strings_Join_none (P:=Tryz.prog) (ρ:=qmn) qt9 qo1 ao cap sep w).mono ?_
      rintro e w' ⟨rfl,rfl⟩
      exact fin _ (Go.Eng.Chg.refl _ _)
    · obtain⟨a,rfl,ha,hcells⟩:=hne h0
      obtain⟨bk,o,spot⟩:=a
      have hsp:spot=none:=by
        cases l with
        | nil=>exact absurd rfl h0
        | cons x l' =>
          have:=hcells 0 (.string x) rfl
          cases spot with
          | none=>rfl
          | some s=>exact absurd this (by simp[Addr.add,World.cell?];split<;>simp)
      subst hsp
      refine(Any.strings_Join (P:=Tryz.prog) (ρ:=qmn) qt9 qo1 bk o cap l sep w (fun j x hj=>by
        have:=hcells j (.string x) ((List.getElem?_map (f:=Value.string) (l:=(l:List ByteArray)) (i:=j)).trans (congrArg (Option.map Value.string) hj))
        rwa [Go.Eng.adr_add] at this) (hS bk ha) h3 hcap h4).mono ?_
      rintro e w' ⟨rfl,hb⟩
      exact fin _ (qku rfl hb)

def ixb_ren:Go.Shelf.Ren:=⟨fun | 137=>173 | 217=>223 | 266=>254 | n=>n,fun | 9=>9 | 5=>5 | 3=>3 | n=>n,fun | n=>n⟩
open Go.Shelf in
theorem ixb_lay:Go.Proofs.Lays.n137 Tryz.prog ixb_ren where
  mixed:=by kernel_rfl
  f137:=Tryz.func173.trans (congrArg some (by kernel_rfl))
  f217:=Tryz.func223.trans (congrArg some (by kernel_rfl))
  f266:=Tryz.func254.trans (congrArg some (by kernel_rfl))
  t3:=Tryz.underlying3
  a3:=Tryz.isAgg3
  z3:=Tryz.sizeOf3
  v3:=Tryz.zeroValue3
  t5:=Tryz.underlying5
  a5:=Tryz.isAgg5
  z5:=Tryz.sizeOf5
  v5:=Tryz.zeroValue5
  t9:=Tryz.underlying9
  a9:=Tryz.isAgg9
  z9:=Tryz.sizeOf9
  v9:=Tryz.zeroValue9
noncomputable def qiv:Con:=⟨[.str,.int .u8],true,[],.int .i64,fun x=>some (qel x.1 x.2.1),some fun x=>qel x.1 x.2.1⟩
theorem qpv:ConOK Tryz.prog 173 qiv:=by
  refine⟨rfl,fun h=>(by cases h),fun g h x=>(by cases h;rfl),fun w S args x r hS hT ha hr=>?_⟩
  obtain⟨s,c,⟨⟩⟩:=x
  obtain⟨v,q,e1,⟨cs,⟨_,rfl⟩,rfl⟩,v2,q2,rfl,⟨cs2,⟨_,rfl⟩,rfl⟩,h2⟩:=ha
  obtain rfl:q2=[]:=h2
  obtain rfl:args = #[.string s,.int .u8 c]:=by rw[←Array.toList_inj,e1];rfl
  obtain rfl:qel s c=r:=Option.some.inj hr
  refine(Any.strings_IndexByte (P:=Tryz.prog) (ρ:=ixb_ren) ixb_lay s c w).mono ?_
  rintro e w' ⟨rfl,rfl⟩
  exact⟨_,rfl,Go.Eng.Chg.refl _ _,[],[.int .i64 _],List.nodup_nil,(by simp),⟨rfl,rfl⟩,rfl⟩

def ix1_ren:Go.Shelf.Ren:=⟨fun | 219=>221 | 217=>223 | 225=>226 | 224=>225 | 267=>250 | 266=>254 | 314=>271 | n=>n,fun | 9=>9 | 3=>3 | 4=>4 | 5=>5 | 46=>246 | 146=>334 | 51=>288 | n=>n,fun | 1=>0 | n=>n⟩
def clo_ren:Go.Shelf.Ren:=⟨fun | 316=>181 | n=>n,fun | 9=>9 | 3=>3 | 4=>4 | 37=>62 | 0=>0 | 127=>144 | 5=>5 | n=>n,fun | n=>n⟩
open Go.Shelf in
theorem clo_lay:Go.Proofs.LaysM.n316 Tryz.prog clo_ren where
  mixed:=by kernel_rfl
  f316:=Tryz.func181.trans (congrArg some (by kernel_rfl))
  t0:=Tryz.underlying0
  a0:=Tryz.isAgg0
  z0:=Tryz.sizeOf0
  v0:=Tryz.zeroValue0
  t3:=Tryz.underlying3
  a3:=Tryz.isAgg3
  z3:=Tryz.sizeOf3
  v3:=Tryz.zeroValue3
  t4:=Tryz.underlying4
  a4:=Tryz.isAgg4
  z4:=Tryz.sizeOf4
  v4:=Tryz.zeroValue4
  t9:=Tryz.underlying9
  a9:=Tryz.isAgg9
  z9:=Tryz.sizeOf9
  v9:=Tryz.zeroValue9
  t37:=Tryz.underlying62
  a37:=Tryz.isAgg62
  z37:=Tryz.sizeOf62
  v37:=Tryz.zeroValue62
  t127:=Tryz.underlying144
  a127:=Tryz.isAgg144
  z127:=Tryz.sizeOf144
  v127:=Tryz.zeroValue144
  t5:=Tryz.underlying5
  a5:=Tryz.isAgg5
  z5:=Tryz.sizeOf5
  v5:=Tryz.zeroValue5
  i0:=by kernel_rfl
  i3:=by kernel_rfl
  i4:=by kernel_rfl
  i5:=by kernel_rfl
  i9:=by kernel_rfl
  i37:=by kernel_rfl
  i127:=by kernel_rfl
noncomputable def qoT:Con:=⟨[.str],true,[],.str,fun x=>qtR x.1,none⟩
theorem cloneS_ok:ConOK Tryz.prog 181 qoT:=by
  refine⟨rfl,fun h=>(by cases h),fun g h=>(by cases h),fun w S args x r hS hT ha hr=>?_⟩
  obtain⟨s,⟨⟩⟩:=x
  obtain⟨v,q,e1,⟨cs,⟨_,rfl⟩,rfl⟩,h2⟩:=ha
  obtain rfl:q=[]:=h2
  obtain rfl:args = #[.string s]:=by rw[←Array.toList_inj,e1];rfl
  have hr:qtR s=some r:=hr
  obtain⟨hb,rfl⟩:=qkw hr
  refine(Any.stringslite_Clone (P:=Tryz.prog) (ρ:=clo_ren) clo_lay s w (Nat.le_of_ble_eq_true hb)).mono ?_
  rintro e w' ⟨rfl,hb⟩
  exact⟨_,rfl,qku rfl hb,[],[.string s],List.nodup_nil,(by simp),⟨rfl,rfl⟩,rfl⟩

def qui:Go.Shelf.Ren:=⟨fun | 161=>136 | 231=>186 | 227=>184 | 233=>187 | 235=>188 | 228=>185 | 197=>219 | 151=>227 | 260=>249 | 152=>182 | 137=>173 | 119=>224 | 224=>225 | 225=>226 | 217=>223 | 266=>254 | n=>n,fun | 9=>9 | 4=>4 | 3=>3 | 5=>5 | 117=>259 | 116=>258 | 0=>0 | 124=>263 | 105=>291 | 21=>21 | 119=>330 | 46=>246 | 139=>333 | 138=>332 | n=>n,fun | 3=>2 | 4=>3 | n=>n⟩
open Go.Shelf in
theorem tril_lay:Go.Proofs.Lays.n161 Tryz.prog qui where
  mixed:=by kernel_rfl
  f119:=Tryz.func224.trans (congrArg some (by kernel_rfl))
  f137:=Tryz.func173.trans (congrArg some (by kernel_rfl))
  f151:=Tryz.func227.trans (congrArg some (by kernel_rfl))
  f152:=Tryz.func182.trans (congrArg some (by kernel_rfl))
  f161:=Tryz.func136.trans (congrArg some (by kernel_rfl))
  f197:=Tryz.func219.trans (congrArg some (by kernel_rfl))
  f217:=Tryz.func223.trans (congrArg some (by kernel_rfl))
  f224:=Tryz.func225.trans (congrArg some (by kernel_rfl))
  f225:=Tryz.func226.trans (congrArg some (by kernel_rfl))
  f227:=Tryz.func184.trans (congrArg some (by kernel_rfl))
  f228:=Tryz.func185.trans (congrArg some (by kernel_rfl))
  f231:=Tryz.func186.trans (congrArg some (by kernel_rfl))
  f233:=Tryz.func187.trans (congrArg some (by kernel_rfl))
  f235:=Tryz.func188.trans (congrArg some (by kernel_rfl))
  f260:=Tryz.func249.trans (congrArg some (by kernel_rfl))
  f266:=Tryz.func254.trans (congrArg some (by kernel_rfl))
  t0:=Tryz.underlying0
  a0:=Tryz.isAgg0
  z0:=Tryz.sizeOf0
  v0:=Tryz.zeroValue0
  t3:=Tryz.underlying3
  a3:=Tryz.isAgg3
  z3:=Tryz.sizeOf3
  v3:=Tryz.zeroValue3
  t4:=Tryz.underlying4
  a4:=Tryz.isAgg4
  z4:=Tryz.sizeOf4
  v4:=Tryz.zeroValue4
  t5:=Tryz.underlying5
  a5:=Tryz.isAgg5
  z5:=Tryz.sizeOf5
  v5:=Tryz.zeroValue5
  t9:=Tryz.underlying9
  a9:=Tryz.isAgg9
  z9:=Tryz.sizeOf9
  v9:=Tryz.zeroValue9
  t21:=Tryz.underlying21
  a21:=Tryz.isAgg21
  z21:=Tryz.sizeOf21
  v21:=Tryz.zeroValue21
  t46:=Tryz.underlying246
  a46:=Tryz.isAgg246
  z46:=Tryz.sizeOf246
  v46:=Tryz.zeroValue246
  t105:=Tryz.underlying291
  a105:=Tryz.isAgg291
  z105:=Tryz.sizeOf291
  v105:=Tryz.zeroValue291
  t116:=Tryz.underlying258
  a116:=Tryz.isAgg258
  z116:=Tryz.sizeOf258
  t117:=Tryz.underlying259
  a117:=Tryz.isAgg259
  z117:=Tryz.sizeOf259
  v117:=Tryz.zeroValue259
  t119:=Tryz.underlying330
  a119:=Tryz.isAgg330
  z119:=Tryz.sizeOf330
  t124:=Tryz.underlying263
  a124:=Tryz.isAgg263
  z124:=Tryz.sizeOf263
  v124:=Tryz.zeroValue263
  t138:=Tryz.underlying332
  a138:=Tryz.isAgg332
  z138:=Tryz.sizeOf332
  v138:=Tryz.zeroValue332
  t139:=Tryz.underlying333
  a139:=Tryz.isAgg333
  z139:=Tryz.sizeOf333
  v139:=Tryz.zeroValue333
  g3:=by kernel_rfl
  g4:=by kernel_rfl
noncomputable def qoU:Con:=⟨[.str,.str],true,[],.str,fun x=>qto x.1 x.2.1,none⟩
theorem trimLS_ok:ConOK Tryz.prog 136 qoU:=by
  refine⟨rfl,fun h=>(by cases h),fun g h=>(by cases h),fun w S args x r hS hT ha hr=>?_⟩
  obtain⟨s,sep,⟨⟩⟩:=x
  obtain⟨v,q,e1,⟨cs,⟨_,rfl⟩,rfl⟩,v2,q2,rfl,⟨cs2,⟨_,rfl⟩,rfl⟩,h2⟩:=ha
  obtain rfl:q2=[]:=h2
  obtain rfl:args = #[.string s,.string sep]:=by rw[←Array.toList_inj,e1];rfl
  have hr:qto s sep=some r:=hr
  obtain⟨hb,rfl⟩:=qkw hr
  simp only[Bool.and_eq_true] at hb
  obtain⟨h4,h5⟩:=hb
  have h4:=Nat.le_of_ble_eq_true h4
  refine(Any.strings_TrimLeft_laid (P:=Tryz.prog) (ρ:=qui) tril_lay (by kernel_rfl) s sep w (by omega) (fun j b hj=>of_decide_eq_true (List.all_eq_true.1 h5 b (List.mem_of_getElem? hj)))).mono ?_
  rintro e w' ⟨rfl,hb⟩
  exact⟨_,rfl,qku rfl hb,[],[.string _],List.nodup_nil,(by simp),⟨rfl,rfl⟩,rfl⟩

def qtU:Go.Shelf.Ren:=⟨fun | 145=>130 | 220=>180 | 219=>221 | 217=>223 | 225=>226 | 224=>225 | 267=>250 | 266=>254 | 314=>271 | n=>n,fun | 9=>9 | 4=>4 | 59=>213 | 3=>3 | 5=>5 | 46=>246 | 146=>334 | 51=>288 | n=>n,fun | 1=>0 | n=>n⟩
open Go.Shelf in
theorem scut_lay:Go.Proofs.Lays.n145 Tryz.prog qtU where
  mixed:=by kernel_rfl
  f145:=Tryz.func130.trans (congrArg some (by kernel_rfl))
  f217:=Tryz.func223.trans (congrArg some (by kernel_rfl))
  f219:=Tryz.func221.trans (congrArg some (by kernel_rfl))
  f220:=Tryz.func180.trans (congrArg some (by kernel_rfl))
  f224:=Tryz.func225.trans (congrArg some (by kernel_rfl))
  f225:=Tryz.func226.trans (congrArg some (by kernel_rfl))
  f266:=Tryz.func254.trans (congrArg some (by kernel_rfl))
  f267:=Tryz.func250.trans (congrArg some (by kernel_rfl))
  f314:=Tryz.func271.trans (congrArg some (by kernel_rfl))
  t3:=Tryz.underlying3
  a3:=Tryz.isAgg3
  z3:=Tryz.sizeOf3
  v3:=Tryz.zeroValue3
  t4:=Tryz.underlying4
  a4:=Tryz.isAgg4
  z4:=Tryz.sizeOf4
  v4:=Tryz.zeroValue4
  t5:=Tryz.underlying5
  a5:=Tryz.isAgg5
  z5:=Tryz.sizeOf5
  v5:=Tryz.zeroValue5
  t9:=Tryz.underlying9
  a9:=Tryz.isAgg9
  z9:=Tryz.sizeOf9
  v9:=Tryz.zeroValue9
  t46:=Tryz.underlying246
  a46:=Tryz.isAgg246
  z46:=Tryz.sizeOf246
  v46:=Tryz.zeroValue246
  t51:=Tryz.underlying288
  a51:=Tryz.isAgg288
  z51:=Tryz.sizeOf288
  v51:=Tryz.zeroValue288
  t59:=Tryz.underlying213
  a59:=Tryz.isAgg213
  z59:=Tryz.sizeOf213
  v59:=Tryz.zeroValue213
  t146:=Tryz.underlying334
  a146:=Tryz.isAgg334
  z146:=Tryz.sizeOf334
  v146:=Tryz.zeroValue334
  g1:=by kernel_rfl
noncomputable def qtr:Con:=⟨[.str,.str],false,[.str,.str,.bool],.st .str (.st .str (.st .bool .nil)),fun x=>cutS x.1 x.2.1,none⟩
theorem cutS_ok:ConOK Tryz.prog 130 qtr:=by
  refine⟨rfl,fun _=>rfl,fun g h=>(by cases h),fun w S args x r hS hT ha hr=>?_⟩
  obtain⟨s,sep,⟨⟩⟩:=x
  obtain⟨v,q,e1,⟨cs,⟨_,rfl⟩,rfl⟩,v2,q2,rfl,⟨cs2,⟨_,rfl⟩,rfl⟩,h2⟩:=ha
  obtain rfl:q2=[]:=h2
  obtain rfl:args = #[.string s,.string sep]:=by rw[←Array.toList_inj,e1];rfl
  have hr:cutS s sep=some r:=hr
  obtain⟨hb,rfl⟩:=qkw hr
  have h3:=Nat.le_of_ble_eq_true hb
  obtain⟨m,hm⟩:=open_int (g:=0) hT (by decide)
  refine(Any.strings_Cut (P:=Tryz.prog) (ρ:=qtU) scut_lay s sep m w (Nat.lt_succ_of_le h3) hm).mono ?_
  rintro e w' ⟨rfl,n,rfl⟩
  exact⟨_,rfl,⟨rfl,rfl,rfl,Nat.le_refl _,fun j hj _=>rfl,fun _=>Nat.le_add_right _ _⟩,[],[.string _,.string _,.bool _],List.nodup_nil,(by simp),⟨[.string _],[.string _,.bool _],[],[],rfl,rfl,⟨rfl,rfl⟩,⟨[.string _],[.bool _],[],[],rfl,rfl,⟨rfl,rfl⟩,⟨[.bool _],[],[],[],rfl,rfl,⟨rfl,rfl⟩,⟨rfl,rfl⟩⟩⟩⟩,rfl⟩

def ixa_ren:Go.Shelf.Ren:=⟨fun | 153=>135 | 152=>182 | 226=>183 | 227=>184 | 228=>185 | 137=>173 | 119=>224 | 224=>225 | 225=>226 | 217=>223 | 266=>254 | n=>n,fun | 9=>9 | 3=>3 | 4=>4 | 5=>5 | 21=>21 | 117=>259 | 116=>258 | 0=>0 | 46=>246 | 124=>263 | n=>n,fun | n=>n⟩
open Go.Shelf in
theorem ixa_lay:Go.Proofs.Lays.n153 Tryz.prog ixa_ren where
  mixed:=by kernel_rfl
  f119:=Tryz.func224.trans (congrArg some (by kernel_rfl))
  f137:=Tryz.func173.trans (congrArg some (by kernel_rfl))
  f152:=Tryz.func182.trans (congrArg some (by kernel_rfl))
  f153:=Tryz.func135.trans (congrArg some (by kernel_rfl))
  f217:=Tryz.func223.trans (congrArg some (by kernel_rfl))
  f224:=Tryz.func225.trans (congrArg some (by kernel_rfl))
  f225:=Tryz.func226.trans (congrArg some (by kernel_rfl))
  f226:=Tryz.func183.trans (congrArg some (by kernel_rfl))
  f227:=Tryz.func184.trans (congrArg some (by kernel_rfl))
  f228:=Tryz.func185.trans (congrArg some (by kernel_rfl))
  f266:=Tryz.func254.trans (congrArg some (by kernel_rfl))
  t0:=Tryz.underlying0
  a0:=Tryz.isAgg0
  z0:=Tryz.sizeOf0
  v0:=Tryz.zeroValue0
  t3:=Tryz.underlying3
  a3:=Tryz.isAgg3
  z3:=Tryz.sizeOf3
  v3:=Tryz.zeroValue3
  t4:=Tryz.underlying4
  a4:=Tryz.isAgg4
  z4:=Tryz.sizeOf4
  v4:=Tryz.zeroValue4
  t5:=Tryz.underlying5
  a5:=Tryz.isAgg5
  z5:=Tryz.sizeOf5
  v5:=Tryz.zeroValue5
  t9:=Tryz.underlying9
  a9:=Tryz.isAgg9
  z9:=Tryz.sizeOf9
  v9:=Tryz.zeroValue9
  t21:=Tryz.underlying21
  a21:=Tryz.isAgg21
  z21:=Tryz.sizeOf21
  v21:=Tryz.zeroValue21
  t46:=Tryz.underlying246
  a46:=Tryz.isAgg246
  z46:=Tryz.sizeOf246
  v46:=Tryz.zeroValue246
  t116:=Tryz.underlying258
  a116:=Tryz.isAgg258
  z116:=Tryz.sizeOf258
  t117:=Tryz.underlying259
  a117:=Tryz.isAgg259
  z117:=Tryz.sizeOf259
  v117:=Tryz.zeroValue259
  t124:=Tryz.underlying263
  a124:=Tryz.isAgg263
  z124:=Tryz.sizeOf263
  v124:=Tryz.zeroValue263
noncomputable def qkA:Con:=⟨[.str,.str],true,[],.int .i64,fun x=>qga x.1 x.2.1,none⟩
theorem qrE:ConOK Tryz.prog 135 qkA:=by
  refine⟨rfl,fun h=>(by cases h),fun g h=>(by cases h),fun w S args x r hS hT ha hr=>?_⟩
  obtain⟨s,sep,⟨⟩⟩:=x
  obtain⟨v,q,e1,⟨cs,⟨_,rfl⟩,rfl⟩,v2,q2,rfl,⟨cs2,⟨_,rfl⟩,rfl⟩,h2⟩:=ha
  obtain rfl:q2=[]:=h2
  obtain rfl:args = #[.string s,.string sep]:=by rw[←Array.toList_inj,e1];rfl
  have hr:qga s sep=some r:=hr
  obtain⟨hb,rfl⟩:=qkw hr
  simp only[Bool.and_eq_true] at hb
  obtain⟨h3,h4,h5,h6⟩:=hb
  have h3:=Nat.le_of_ble_eq_true h3
  have h4:=Nat.le_of_ble_eq_true h4
  refine(Any.strings_IndexAny_laid (P:=Tryz.prog) (ρ:=ixa_ren) ixa_lay (by kernel_rfl) s sep w (by omega) (by omega) (fun j b hj=>of_decide_eq_true (List.all_eq_true.1 h5 b (List.mem_of_getElem? hj))) (fun j b hj=>of_decide_eq_true (List.all_eq_true.1 h6 b (List.mem_of_getElem? hj)))).mono ?_
  rintro e w' ⟨rfl,hb⟩
  exact⟨_,rfl,qku rfl hb,[],[.int .i64 _],List.nodup_nil,(by simp),⟨rfl,rfl⟩,rfl⟩

def bck_ren:Go.Shelf.Ren:=⟨fun | 240=>58 | 276=>121 | n=>n,fun | 0=>0 | 4=>4 | 5=>5 | 9=>9 | 20=>20 | 37=>62 | 70=>61 | 72=>64 | 164=>202 | n=>n,fun | n=>n⟩
open Go.Shelf in
theorem bck_lay:Go.Proofs.Lays.n240 Tryz.prog bck_ren where
  mixed:=by kernel_rfl
  f240:=Tryz.func58.trans (congrArg some (by kernel_rfl))
  f276:=Tryz.func121.trans (congrArg some (by kernel_rfl))
  t0:=Tryz.underlying0
  a0:=Tryz.isAgg0
  z0:=Tryz.sizeOf0
  v0:=Tryz.zeroValue0
  t4:=Tryz.underlying4
  a4:=Tryz.isAgg4
  z4:=Tryz.sizeOf4
  v4:=Tryz.zeroValue4
  t9:=Tryz.underlying9
  a9:=Tryz.isAgg9
  z9:=Tryz.sizeOf9
  v9:=Tryz.zeroValue9
  t20:=Tryz.underlying20
  a20:=Tryz.isAgg20
  z20:=Tryz.sizeOf20
  v20:=Tryz.zeroValue20
  t70:=Tryz.underlying61
  a70:=Tryz.isAgg61
  z70:=Tryz.sizeOf61
  v70:=Tryz.zeroValue61
  t72:=Tryz.underlying64
  a72:=Tryz.isAgg64
  z72:=Tryz.sizeOf64
  v72:=Tryz.zeroValue64
  t164:=Tryz.underlying202
  a164:=Tryz.isAgg202
  z164:=Tryz.sizeOf202
  v164:=Tryz.zeroValue202
theorem qd:CkOK Tryz.prog 58 64:=ck_of (P:=Tryz.prog) (ρ:=bck_ren) bck_lay ⟨by kernel_rfl,by kernel_rfl⟩

def qsc:Go.Shelf.Ren:=⟨fun | 169=>28 | n=>n,fun | 70=>61 | 9=>9 | 0=>0 | 72=>64 | 37=>62 | 127=>144 | 3=>3 | 5=>5 | n=>n,fun | n=>n⟩
open Go.Shelf in
theorem bst_lay:Go.Proofs.Lays.n169 Tryz.prog qsc where
  mixed:=by kernel_rfl
  f169:=Tryz.func28.trans (congrArg some (by kernel_rfl))
  t0:=Tryz.underlying0
  a0:=Tryz.isAgg0
  z0:=Tryz.sizeOf0
  v0:=Tryz.zeroValue0
  t3:=Tryz.underlying3
  a3:=Tryz.isAgg3
  z3:=Tryz.sizeOf3
  v3:=Tryz.zeroValue3
  t9:=Tryz.underlying9
  a9:=Tryz.isAgg9
  z9:=Tryz.sizeOf9
  v9:=Tryz.zeroValue9
  t37:=Tryz.underlying62
  a37:=Tryz.isAgg62
  z37:=Tryz.sizeOf62
  v37:=Tryz.zeroValue62
  t70:=Tryz.underlying61
  a70:=Tryz.isAgg61
  z70:=Tryz.sizeOf61
  v70:=Tryz.zeroValue61
  t72:=Tryz.underlying64
  a72:=Tryz.isAgg64
  z72:=Tryz.sizeOf64
  v72:=Tryz.zeroValue64
  t127:=Tryz.underlying144
  a127:=Tryz.isAgg144
  z127:=Tryz.sizeOf144
  v127:=Tryz.zeroValue144
theorem bst_extra:Go.Proofs.Builder.Extra Tryz.prog qsc where
  sizeBuilder:=by kernel_rfl
  liesBuilder:=by kernel_rfl
  t5:=Tryz.underlying5
  a5:=Tryz.isAgg5
  z5:=Tryz.sizeOf5
  v5:=Tryz.zeroValue5
  infoByte:=by kernel_rfl
  cellsByte:=by kernel_rfl
  sizeByte:=by kernel_rfl
  neB5:=by decide
theorem qmc:BsOK Tryz.prog 28 64 5:=bs_of (P:=Tryz.prog) (ρ:=qsc) bst_lay bst_extra

end Go.Proofs.YthidcmjpbokeeaaGreatDoor
