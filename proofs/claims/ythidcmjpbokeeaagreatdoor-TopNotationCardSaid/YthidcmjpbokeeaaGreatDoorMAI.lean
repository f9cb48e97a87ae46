/- Several texts in one: DqC, Base, MSortC, Jtx, StrC, CoreC, GameC. -/
import Derived.Test.YthidcmjpbokeeaaGreatDoorProg
import Derived.Test.YthidcmjpbokeeaaGreatDoorMAE
import Derived.Recover
import Derived.Test.YthidcmjpbokeeaaGreatDoorMAA
import Derived.Test.YthidcmjpbokeeaaGreatDoorMAF
import Derived.Shelf.GgClosure.StringsIndexFuncTop
import Derived.TacticsInMore
import Derived.WalkKit
import Derived.WalkSmall
import Derived.Shelf.Strconv.Itoa3
import Derived.Shelf.Strings.OnBuilder
import Derived.Shelf.Small.Strs
import Derived.Shelf.Strings.Split
import Derived.Shelf.Strings.Search2
import Derived.Shelf.Strconv.Clone
import Derived.Shelf.Strings.SlTrimAscii
import Derived.Shelf.Strings.IndexAnyAll
import Derived.Shelf.Strings.Builder1
namespace Go.Proofs.YthidcmjpbokeeaaGreatDoor
open Go.Den Go.Eng
set_option linter.unusedSimpArgs false
set_option linter.unusedVariables false
set_option maxRecDepth 10000
set_option maxHeartbeats 1000000
section
variable {P : Program} {Q : Exit → Act → List Frame → World → Prop} {ops : Array Oper} {i : Nat} {rest : List Nat} {a : Act} {cs : List Frame} {w w' : World} {o : Oper} {v : Value}
theorem qpa (ho:ops[i]?=some o) (hg:o.guard=none) (hr:(execOp a.eval o).run P w = .ok (.value v) w') (a':Act) (ha:a.put o.dst v=a') (h:wpOpsS P ops Q rest a' cs w'):wpOpsS P ops Q (i::rest) a cs w:=by
 subst ha
 have hw:Region.wanted o (yielded ops a.tmps)=true:=by simp[Region.wanted,hg]
 simp only[wpOpsS,ho,hw,if_true,hr,Oper.upon_value];exact h
theorem dq_skip (ho:ops[i]?=some o) (hg:o.guard=none) (hr:(execOp a.eval o).run P w = .ok .skip w') (a':Act) (ha:a.put o.dst undef=a') (h:wpOpsS P ops Q rest a' cs w'):wpOpsS P ops Q (i::rest) a cs w:=by
 subst ha
 have hw:Region.wanted o (yielded ops a.tmps)=true:=by simp[Region.wanted,hg]
 simp only[wpOpsS,ho,hw,if_true,hr,Oper.upon_skip];exact h
theorem dq_rec (ho:ops[i]?=some o) (hg:o.guard=none) (hr:(execOp a.eval o).run P w = .ok .recover w') (hc:recoverD cs=none) (a':Act) (ha:a.put o.dst .nilIface=a') (h:wpOpsS P ops Q rest a' cs w'):wpOpsS P ops Q (i::rest) a cs w:=by
 subst ha
 have hw:Region.wanted o (yielded ops a.tmps)=true:=by simp[Region.wanted,hg]
 simp only[wpOpsS,ho,hw,if_true,hr,hc];exact h
end
noncomputable def dqOps:Array Oper:=match (Tryz.f73.body).getD .skip with
 | .seq (.region _ ops _) _=>ops
 | _=>#[]
noncomputable def dqOps1:Array Oper:=match (Tryz.f73.body).getD .skip with
 | .seq _ (.seq (.region _ ops _) _)=>ops
 | _=>#[]
noncomputable def dqThen:Code:=match (Tryz.f73.body).getD .skip with
 | .seq _ (.seq _ (.cond _ c _))=>c
 | _ => .skip
theorem dq_tmps (v:Value) : #[v]++Array.replicate (Tryz.f73.ntmps-(#[v]:Array Value).size) undef = #[v,undef,undef,undef,undef,undef,undef,undef,undef,undef,undef]:=by
 rw[Tryz.ntmps73];simp[Array.replicate]
theorem dq_calls (v:Value) (w:World):CallsD Tryz.prog 73 #[v] .returning w (fun e u' w'=>(∃x,e = .returned x)∧u' = .returning∧Chg [] w w'):=by
 refine callsD_of_wpS (c := .seq (.region 0 dqOps false) (.seq (.region 1 dqOps1 false) (.cond (.tmp 8) dqThen .skip))) Tryz.func73 (by rfl) fun c₀ cs hu=>?_
 have hrec:recoverD (c₀::cs)=none:=by simp[recoverD,hu]
 have hcs:c₀::cs={ c₀ with mode := .returning }::cs:=by cases c₀;simp at hu;simp[hu]
 rw[dq_tmps];apply wpS_seq;apply wpS_region;show wpOpsS _ _ _ [0,1,2,3,4,5,6,7] _ _ _;refine dq_rec (P:=Tryz.prog) (i:=0) (w':=w) (o:=⟨some 4,.call ⟨.builtin .recover,#[],#[]⟩,_,_,_,none⟩) (by rfl) rfl (by simp[execOp,resolve,invoke,builtin,go_sem]) hrec ⟨#[v,undef,undef,undef,.nilIface,undef,undef,undef,undef,undef,undef],[]⟩ (by simp[Act.put]) ?_;refine qpa (P:=Tryz.prog) (i:=1) (v := .tuple #[.agg #[.int .i64 0],.bool false]) (w':=w) (o:=⟨some 5,.typeAssert (.tmp 4) 20 151 true,_,_,_,none⟩) (by rfl) rfl ?_ ⟨#[v,undef,undef,undef,.nilIface,.tuple #[.agg #[.int .i64 0],.bool false],undef,undef,undef,undef,undef],[]⟩ (by simp[Act.put]) ?_
 ·simp[execOp,Act.eval,Instr.typeAssert,run_underlying Tryz.underlying151,Tryz.zeroValue151]
 refine qpa (P:=Tryz.prog) (i:=2) (v := .tuple #[.agg #[.int .i64 0],.bool false]) (w':=w) (o:=⟨some 3,.move (.tmp 5),_,_,_,none⟩) (by rfl) rfl (by simp[execOp,Act.eval]) ⟨#[v,undef,undef,.tuple #[.agg #[.int .i64 0],.bool false],.nilIface,.tuple #[.agg #[.int .i64 0],.bool false],undef,undef,undef,undef,undef],[]⟩ (by simp[Act.put]) ?_;refine qpa (P:=Tryz.prog) (i:=3) (v := .agg #[.int .i64 0]) (w':=w) (o:=⟨some 6,.extract (.tmp 3) 0,_,_,_,none⟩) (by rfl) rfl (by simp[execOp,Act.eval,go_sem]) ⟨#[v,undef,undef,.tuple #[.agg #[.int .i64 0],.bool false],.nilIface,.tuple #[.agg #[.int .i64 0],.bool false],.agg #[.int .i64 0],undef,undef,undef,undef],[]⟩ (by simp[Act.put]) ?_
 refine qpa (P:=Tryz.prog) (i:=4) (v := .bool false) (w':=w) (o:=⟨some 7,.extract (.tmp 3) 1,_,_,_,none⟩) (by rfl) rfl (by simp[execOp,Act.eval,go_sem]) ⟨#[v,undef,undef,.tuple #[.agg #[.int .i64 0],.bool false],.nilIface,.tuple #[.agg #[.int .i64 0],.bool false],.agg #[.int .i64 0],.bool false,undef,undef,undef],[]⟩ (by simp[Act.put]) ?_;refine qpa (P:=Tryz.prog) (i:=5) (v := .pointer (some ⟨w.heap.size,0,none⟩)) (w':=w.alloc (.cells #[.int .i64 0] 151)) (o:=⟨some 1,.alloc 151,_,_,_,none⟩) (by rfl) rfl ?_ ⟨#[v,.pointer (some ⟨w.heap.size,0,none⟩),undef,.tuple #[.agg #[.int .i64 0],.bool false],.nilIface,.tuple #[.agg #[.int .i64 0],.bool false],.agg #[.int .i64 0],.bool false,undef,undef,undef],[]⟩ (by simp[Act.put]) ?_
 ·simp only[execOp,Instr.alloc,Sem.run_bind,Tryz.zeroValue151,Result.andThen_ok,newVar,newRow,newObj];rfl
 refine dq_skip (P:=Tryz.prog) (i:=6) (w':=(w.alloc (.cells #[.int .i64 0] 151)).setRow w.heap.size #[.int .i64 0]) (o:=⟨none,.store 151 (.tmp 1) (.tmp 6),_,_,_,none⟩) (by rfl) rfl ?_ ⟨#[v,.pointer (some ⟨w.heap.size,0,none⟩),undef,.tuple #[.agg #[.int .i64 0],.bool false],.nilIface,.tuple #[.agg #[.int .i64 0],.bool false],.agg #[.int .i64 0],.bool false,undef,undef,undef],[]⟩ rfl ?_
 ·have hrow:Row (w.alloc (.cells #[.int .i64 0] 151)) w.heap.size #[.int .i64 0] 151:=Row.of (heap_alloc_new w (.cells #[.int .i64 0] 151));have hst:=qhV (P:=Tryz.prog) hrow 0 [.int .i64 0] (by simp) (by intro u hu;simp at hu;subst hu;rfl);have hsv:(storeVar 151 ⟨w.heap.size,0,none⟩ (.agg #[.int .i64 0])).run Tryz.prog (w.alloc (.cells #[.int .i64 0] 151)) = .ok () ((w.alloc (.cells #[.int .i64 0] 151)).setRow w.heap.size #[.int .i64 0]):=by
   unfold storeVar;simp only[Sem.run_bind,Tryz.sizeOf151,Result.andThen_ok];simpa[Value.cells] using hst
  simp only[execOp,Sem.run_bind];simp[Act.eval,Instr.storeAt,Instr.sureAddr,hsv]
 refine qpa (P:=Tryz.prog) (i:=7) (v := .bool false) (o:=⟨some 2,.assign (.tmp 7),_,_,_,none⟩) (by rfl) rfl (by simp[execOp,Act.eval];rfl) ⟨#[v,.pointer (some ⟨w.heap.size,0,none⟩),.bool false,.tuple #[.agg #[.int .i64 0],.bool false],.nilIface,.tuple #[.agg #[.int .i64 0],.bool false],.agg #[.int .i64 0],.bool false,undef,undef,undef],[]⟩ (by simp[Act.put]) ?_;show Exit.thenS _ _ .normal _ _ _;apply wpS_seq;apply wpS_region;show wpOpsS _ _ _ [0] _ _ _;refine qpa (P:=Tryz.prog) (i:=0) (v := .bool false) (o:=⟨some 8,.move (.tmp 2),_,_,_,none⟩) (by rfl) rfl (by simp[execOp,Act.eval];rfl) ⟨#[v,.pointer (some ⟨w.heap.size,0,none⟩),.bool false,.tuple #[.agg #[.int .i64 0],.bool false],.nilIface,.tuple #[.agg #[.int .i64 0],.bool false],.agg #[.int .i64 0],.bool false,.bool false,undef,undef],[]⟩ (by simp[Act.put]) ?_
 show Exit.thenS _ _ .normal _ _ _;refine wpS_cond (t:=false) (by simp[Act.eval]) ?_;refine wpS_of_wp (wp_skip ?_);refine⟨rfl,.returning,hcs,.tuple #[],by simp[results,Tryz.results73],⟨_,rfl⟩,rfl,?_⟩;have h1:=alloc_chg w (.cells #[.int .i64 0] 151);exact⟨rfl,rfl,rfl,by simp[World.setRow,alloc_size],fun k hk hn=>(setRow_other _ _ k _ (by omega)).trans (h1.block k hk hn),fun _=>Nat.le_refl _⟩
instance dqAll:DqAll Tryz.prog:=⟨fun g h=>by
 have h:some 73=some g:=h;obtain rfl:=Option.some.inj h
 exact⟨by kernel_rfl,dq_calls⟩⟩
end Go.Proofs.YthidcmjpbokeeaaGreatDoor
namespace Go.Proofs.YthidcmjpbokeeaaGreatDoor
theorem mixed:Tryz.prog.follows .mixedOrders=true:=by kernel_rfl
instance dqUp:Go.Den.DqAll (CT:=Go.Den.ctxUp) Tryz.prog:=@Go.Den.DqAll.mk Go.Den.ctxUp Tryz.prog (fun g h=>by cases h)
end Go.Proofs.YthidcmjpbokeeaaGreatDoor
namespace Go.Proofs.YthidcmjpbokeeaaGreatDoor
open Go.Den
set_option linter.unusedVariables false
set_option maxRecDepth 100000
def qig:Ann := .nil
noncomputable def cmpIsNaN_int_con:Con:=⟨[Zt60],true,[],.bool,fun x=>qgT x.1,some fun x=>qaF x.1⟩
noncomputable def qip:Env:=[]
theorem qna (x:DL cmpIsNaN_int_con.ps):cmpIsNaN_int_con.φ x=denF (CT:=ctxUp) Tryz.prog qip qig Tryz.f168 cmpIsNaN_int_con.ps cmpIsNaN_int_con.one cmpIsNaN_int_con.res cmpIsNaN_int_con.ρ x:=by kernel_rfl
theorem qop:ConOK (CT:=ctxUp) Tryz.prog 168 cmpIsNaN_int_con :=
 qb (CT:=ctxUp) (env:=qip) ((EnvOK.nil (CT:=ctxUp) _)) mixed Tryz.func168 cmpIsNaN_int_con qig (by kernel_rfl) (fun h=>by first | rfl | cases h) (fun g hg x=>by
  cases hg
  exact qoX _) qna
def qfT:Ann := .nil
noncomputable def cmpCompare_int_con:Con:=⟨[Zt60,Zt60],true,[],Zt60,fun x=>qer x.1 x.2.1,some fun x=>qaD x.1 x.2.1⟩
noncomputable def qf3:Env:=(168,.con cmpIsNaN_int_con)::[]
theorem qk4 (x:DL cmpCompare_int_con.ps):cmpCompare_int_con.φ x=denF (CT:=ctxUp) Tryz.prog qf3 qfT Tryz.f107 cmpCompare_int_con.ps cmpCompare_int_con.one cmpCompare_int_con.res cmpCompare_int_con.ρ x:=by kernel_rfl
theorem qm3:ConOK (CT:=ctxUp) Tryz.prog 107 cmpCompare_int_con :=
 qb (CT:=ctxUp) (env:=qf3) ((EnvOK.cons (CT:=ctxUp) (EnvOK.nil (CT:=ctxUp) _) qop)) mixed Tryz.func107 cmpCompare_int_con qfT (by kernel_rfl) (fun h=>by first | rfl | cases h) (fun g hg x=>by
  cases hg
  exact qnq _ _) qk4
def qmZ:Ann:=(.two .nil (.two .nil (.two (.two .nil (.joinE ⟨[3],[],[]⟩ (.two (.loop ⟨[3,6,7],[(8,Zt60)],[]⟩ .nil) .nil))) .nil)))
noncomputable def cmpOr_int_con:Con:=⟨[Zt58],true,[],Zt60,fun x=>qlP x.1,none⟩
noncomputable def qm4:Env:=[]
theorem qqy (x:DL cmpOr_int_con.ps):cmpOr_int_con.φ x=denF (CT:=ctxUp) Tryz.prog qm4 qmZ Tryz.f106 cmpOr_int_con.ps cmpOr_int_con.one cmpOr_int_con.res cmpOr_int_con.ρ x:=by kernel_rfl
theorem qrQ:ConOK (CT:=ctxUp) Tryz.prog 106 cmpOr_int_con :=
 qb (CT:=ctxUp) (env:=qm4) ((EnvOK.nil (CT:=ctxUp) _)) mixed Tryz.func106 cmpOr_int_con qmZ (by kernel_rfl) (fun h=>by first | rfl | cases h) (fun g hg=>by cases hg) qqy
def qnU:Ann:=(.two .nil (.two (.tail 15 .nil) .nil))
noncomputable def movesCmp_con:Con:=⟨[Zt49,Zt49],true,[],Zt60,fun x=>qr3 x.1 x.2.1,none⟩
noncomputable def qnM:Env:=(106,.con cmpOr_int_con)::(107,.con cmpCompare_int_con)::[]
theorem qtL (x:DL movesCmp_con.ps):movesCmp_con.φ x=denF (CT:=ctxUp) Tryz.prog qnM qnU Tryz.f105 movesCmp_con.ps movesCmp_con.one movesCmp_con.res movesCmp_con.ρ x:=by kernel_rfl
theorem qu7:ConOK (CT:=ctxUp) Tryz.prog 105 movesCmp_con :=
 qb (CT:=ctxUp) (env:=qnM) ((EnvOK.cons (CT:=ctxUp) (EnvOK.cons (CT:=ctxUp) (EnvOK.nil (CT:=ctxUp) _) qm3) qrQ)) mixed Tryz.func105 movesCmp_con qnU (by kernel_rfl) (fun h=>by first | rfl | cases h) (fun g hg=>by cases hg) qtL
def qtv:Go.Shelf.Ren:=⟨fun | 6=>104 | 15=>167 | 14=>166 | 28=>216 | 29=>217 | 20=>208 | 21=>209 | 22=>210 | 23=>211 | 24=>212 | 25=>213 | 26=>214 | 27=>215 | 46=>244 | 47=>245 | 48=>246 | 49=>247 | 50=>248 | 57=>270 | n=>n,fun | 22=>42 | 24=>49 | 25=>190 | 3=>3 | 39=>246 | 0=>0 | 53=>288 | 55=>229 | 4=>4 | 46=>281 | 45=>280 | 50=>285 | 5=>5 | 9=>9 | 66=>308 | 70=>312 | 76=>327 | 77=>328 | n=>n,fun | n=>n⟩
theorem msort_lay:SlLaysF0.n6 Tryz.prog qtv where
 mixed:=by kernel_rfl
 f6:=⟨Tryz.f104.name,by decide,Tryz.func104.trans (congrArg some (by kernel_rfl))⟩
 f14:=⟨Tryz.f166.name,by decide,Tryz.func166.trans (congrArg some (by kernel_rfl))⟩
 f15:=Tryz.func167.trans (congrArg some (by kernel_rfl))
 f20:=⟨Tryz.f208.name,by decide,Tryz.func208.trans (congrArg some (by kernel_rfl))⟩
 f21:=⟨Tryz.f209.name,by decide,Tryz.func209.trans (congrArg some (by kernel_rfl))⟩
 f22:=⟨Tryz.f210.name,by decide,Tryz.func210.trans (congrArg some (by kernel_rfl))⟩
 f23:=⟨Tryz.f211.name,by decide,Tryz.func211.trans (congrArg some (by kernel_rfl))⟩
 f24:=⟨Tryz.f212.name,by decide,Tryz.func212.trans (congrArg some (by kernel_rfl))⟩
 f25:=⟨Tryz.f213.name,by decide,Tryz.func213.trans (congrArg some (by kernel_rfl))⟩
 f26:=⟨Tryz.f214.name,by decide,Tryz.func214.trans (congrArg some (by kernel_rfl))⟩
 f27:=⟨Tryz.f215.name,by decide,Tryz.func215.trans (congrArg some (by kernel_rfl))⟩
 f28:=Tryz.func216.trans (congrArg some (by kernel_rfl))
 f29:=Tryz.func217.trans (congrArg some (by kernel_rfl))
 f46:=⟨Tryz.f244.name,by decide,Tryz.func244.trans (congrArg some (by kernel_rfl))⟩
 f47:=Tryz.func245.trans (congrArg some (by kernel_rfl))
 f48:=Tryz.func246.trans (congrArg some (by kernel_rfl))
 f49:=⟨Tryz.f247.name,by decide,Tryz.func247.trans (congrArg some (by kernel_rfl))⟩
 f50:=⟨Tryz.f248.name,by decide,Tryz.func248.trans (congrArg some (by kernel_rfl))⟩
 f57:=⟨Tryz.f270.name,by decide,Tryz.func270.trans (congrArg some (by kernel_rfl))⟩
 t0:=Tryz.underlying0
 a0:=Tryz.isAgg0
 z0:=Tryz.sizeOf0
 v0:=Tryz.zeroValue0
 t3:=Tryz.underlying3
 a3:=Tryz.isAgg3
 z3:=Tryz.sizeOf3
 v3:=Tryz.zeroValue3
 t4:=Tryz.underlying4
 a4:=Tryz.isAgg4
 z4:=Tryz.sizeOf4
 v4:=Tryz.zeroValue4
 t5:=Tryz.underlying5
 a5:=Tryz.isAgg5
 z5:=Tryz.sizeOf5
 v5:=Tryz.zeroValue5
 t9:=Tryz.underlying9
 a9:=Tryz.isAgg9
 z9:=Tryz.sizeOf9
 v9:=Tryz.zeroValue9
 t22:=Tryz.underlying42
 a22:=Tryz.isAgg42
 z22:=Tryz.sizeOf42
 v22:=Tryz.zeroValue42
 t25:=Tryz.underlying190
 a25:=Tryz.isAgg190
 z25:=Tryz.sizeOf190
 v25:=Tryz.zeroValue190
 t39:=Tryz.underlying246
 a39:=Tryz.isAgg246
 z39:=Tryz.sizeOf246
 v39:=Tryz.zeroValue246
 t45:=Tryz.underlying280
 a45:=Tryz.isAgg280
 z45:=Tryz.sizeOf280
 v45:=Tryz.zeroValue280
 t46:=Tryz.underlying281
 a46:=Tryz.isAgg281
 z46:=Tryz.sizeOf281
 v46:=Tryz.zeroValue281
 t50:=Tryz.underlying285
 a50:=Tryz.isAgg285
 z50:=Tryz.sizeOf285
 v50:=Tryz.zeroValue285
 t53:=Tryz.underlying288
 a53:=Tryz.isAgg288
 z53:=Tryz.sizeOf288
 v53:=Tryz.zeroValue288
 t55:=Tryz.underlying229
 a55:=Tryz.isAgg229
 z55:=Tryz.sizeOf229
 v55:=Tryz.zeroValue229
 t66:=Tryz.underlying308
 a66:=Tryz.isAgg308
 z66:=Tryz.sizeOf308
 v66:=Tryz.zeroValue308
 t70:=Tryz.underlying312
 a70:=Tryz.isAgg312
 z70:=Tryz.sizeOf312
 v70:=Tryz.zeroValue312
 t76:=Tryz.underlying327
 a76:=Tryz.isAgg327
 z76:=Tryz.sizeOf327
 v76:=Tryz.zeroValue327
 t77:=Tryz.underlying328
 a77:=Tryz.isAgg328
 z77:=Tryz.sizeOf328
 v77:=Tryz.zeroValue328
open Go.Sort Go.Lib in
section
def cmp3 (a b:Int):Int:=if a<b then -1 else if b<a then 1 else 0
theorem qu4 (a b:Int):qaD a b=cmp3 a b:=by
 unfold qaD qaF cmp3
 by_cases h:a<b
 ·simp[h]
 ·by_cases h2:b<a<;>simp[h,h2]
theorem qxo (a b c:Int):qlP [a,b,c]=some (if a=0 then if b=0 then c else b else a):=by
 unfold qlP
 by_cases ha:a=0
 ·subst ha
  rw[qx (y:=((1,()),())) (by simp[qbb,at?,qf])]
  by_cases hb:b=0
  ·subst hb
   rw[qx (y:=((2,()),())) (by simp[qbb,at?,qf])]
   by_cases hc:c=0
   ·subst hc
    rw[qx (y:=((3,()),())) (by simp[qbb,at?,qf])]
    rw[qi (r := .inl ((),())) (by simp[qbb])]
    rfl
   ·rw[qi (r := .inr c) (by simp[qbb,at?,bne_t hc])]
    simp
  ·rw[qi (r := .inr b) (by simp[qbb,at?,bne_t hb])]
   simp[hb]
 ·rw[qi (r := .inr a) (by simp[qbb,at?,bne_t ha])]
  simp[ha]
def mvCf (x y:Mv):Int:=if cmp3 x.1 y.1=0 then if cmp3 x.2.1 y.2.1=0 then cmp3 x.2.2.1 y.2.2.1 else cmp3 x.2.1 y.2.1 else cmp3 x.1 y.1
theorem qrZ (x y:Mv):qr3 x y=some (mvCf x y):=by
 unfold qr3 mvCf
 rw[qu4,qu4,qu4,qxo]
 rfl
theorem qtX (a b:Int):cmp3 a b=0↔a=b:=by
 unfold cmp3
 split
 ·constructor<;>intro h<;>omega
 ·split<;>constructor<;>intro h<;>omega
theorem qvv (a b:Int):cmp3 a b<0↔a<b:=by
 unfold cmp3
 split
 ·constructor<;>intro h<;>omega
 ·split<;>constructor<;>intro h<;>omega
theorem qsk:ltOf mvCf=mvLt:=by
 funext x y
 unfold ltOf mvCf mvLt
 by_cases h1:x.1=y.1
 ·by_cases h2:x.2.1=y.2.1
  ·simp[h1,h2,(qtX y.1 y.1).2 rfl,(qtX y.2.1 y.2.1).2 rfl,qvv]
  ·have:¬cmp3 x.2.1 y.2.1=0:=fun h=>h2 ((qtX _ _).1 h)
   simp[h1,h2,(qtX y.1 y.1).2 rfl,this,qvv]
 ·have:¬cmp3 x.1 y.1=0:=fun h=>h1 ((qtX _ _).1 h)
  simp[h1,this,qvv]
theorem qwf (x y:Mv):mvLt x y=true↔x.1<y.1∨x.1=y.1∧(x.2.1<y.2.1∨x.2.1=y.2.1∧x.2.2.1<y.2.2.1):=by simp[mvLt]
theorem mvLt_f (x y:Mv):mvLt x y=false↔¬(x.1<y.1∨x.1=y.1∧(x.2.1<y.2.1∨x.2.1=y.2.1∧x.2.2.1<y.2.2.1)):=by rw[←qwf,Bool.not_eq_true]
theorem mv_swo:SWO mvLt where
 irrefl x:=by rw[mvLt_f];omega
 trans x y z h1 h2:=by rw[qwf] at *;omega
 ntrans x y z h1 h2:=by rw[mvLt_f] at *;omega
theorem mv_tot (x y:Mv) (h1:mvLt x y=false) (h2:mvLt y x=false):x=y:=by
 rw[mvLt_f] at h1 h2
 obtain⟨a,b,c,⟨⟩⟩:=x
 obtain⟨a',b',c',⟨⟩⟩:=y
 simp only at h1 h2
 have e1:a=a':=by omega
 subst e1
 have e2:b=b':=by omega
 subst e2
 have e3:c=c':=by omega
 subst e3
 rfl
def qhL:Srt:=⟨49,Zt49,some 105,qbW⟩
theorem qtG:SrtOK Tryz.prog 104 qhL:=by
 have h:=qvs (ρ:=qtv) (g:=105) (f:=104) (τ:=Zt49) (i:=49) msort_lay rfl rfl rfl rfl Tryz.isAgg49 Tryz.sizeOf49 qu7 mvCf (fun x y=>qrZ x y) (show SWO (ltOf mvCf) from qsk▸mv_swo) (fun x y h1 h2=>mv_tot x y (by rw[←qsk];exact h1) (by rw[←qsk];exact h2)) (enters_of Tryz.func105 (by kernel_rfl) rfl)
 have e:(fun xs:List Mv=>xs.mergeSort fun x y=>!(ltOf mvCf) y x)=qbW:=by rw[qsk];rfl
 have:qhL=⟨49,Zt49,some 105,fun xs:List Mv=>xs.mergeSort fun x y=>!(ltOf mvCf) y x⟩:=by rw[e];rfl
 rw[this]
 exact h
end
end Go.Proofs.YthidcmjpbokeeaaGreatDoor
namespace Go.Proofs.YthidcmjpbokeeaaGreatDoor
open Go Go.Proofs Go.RowKit Go.Shelf
set_option linter.unusedVariables false
set_option linter.unusedSimpArgs false
attribute [local go_sem] Oper.semAt_some
def jix_ren:Go.Shelf.Ren:=⟨fun | 15=>191 | 20=>228 | n=>n,fun | 9=>9 | 23=>267 | 3=>3 | 4=>4 | 0=>0 | 21=>21 | n=>n,fun | n=>n⟩
open Go.Shelf in
theorem jix_lay:Go.Proofs.LaysGw.n15 Tryz.prog jix_ren where
 mixed:=by kernel_rfl
 f15:=Tryz.func191.trans (congrArg some (by kernel_rfl))
 f20:=Tryz.func228.trans (congrArg some (by kernel_rfl))
 t0:=Tryz.underlying0
 a0:=Tryz.isAgg0
 z0:=Tryz.sizeOf0
 v0:=Tryz.zeroValue0
 i0:=by kernel_rfl
 t3:=Tryz.underlying3
 a3:=Tryz.isAgg3
 z3:=Tryz.sizeOf3
 v3:=Tryz.zeroValue3
 i3:=by kernel_rfl
 t4:=Tryz.underlying4
 a4:=Tryz.isAgg4
 z4:=Tryz.sizeOf4
 v4:=Tryz.zeroValue4
 i4:=by kernel_rfl
 t9:=Tryz.underlying9
 a9:=Tryz.isAgg9
 z9:=Tryz.sizeOf9
 v9:=Tryz.zeroValue9
 i9:=by kernel_rfl
 t21:=Tryz.underlying21
 a21:=Tryz.isAgg21
 z21:=Tryz.sizeOf21
 v21:=Tryz.zeroValue21
 i21:=by kernel_rfl
 t23:=Tryz.underlying267
 a23:=Tryz.isAgg267
 z23:=Tryz.sizeOf267
 v23:=Tryz.zeroValue267
 i23:=by kernel_rfl
theorem jclos (w:World):PredAt Tryz.prog 192 #[] encR qjy w:=fun W r _=>by
 unfold FnGives
 by_cases h1:r<32<;>by_cases h2:126<r
 all_goals
  have z1:(r:Int)<32↔r<32:=by omega
  have z2:(126:Int)<(r:Int)↔126<r:=by omega
  go_enter Tryz.func192,Tryz.ntmps192
  go_wp2
  all_goals first | (exfalso;omega) | (go_ret;exact⟨by simp[qjy,h1,h2],0,rfl⟩)
set_option maxHeartbeats 1000000 in
theorem qvC (s:ByteArray) (w:World):Calls Tryz.prog 143 #[.string s] w fun e w'=>e = .returned (.int .i64 (qay s))∧Below w.heap.size w w':=by
 have hC:=Any.strings_IndexFunc (P:=Tryz.prog) (ρ:=jix_ren) jix_lay 192 #[] (enters_of Tryz.func192 (by kernel_rfl) rfl) qjy s w (jclos w);change Calls Tryz.prog 191 _ _ _ at hC;obtain⟨I,hI⟩:∃I,Lib.idxFunc qjy true s=I:=⟨_,rfl⟩;unfold qay;rw[hI] at hC ⊢;by_cases h1:200<s.size
 ·have z1:(200:Int)<(s.size:Int):=by omega
  rw[if_pos h1]
  go_enter Tryz.func143,Tryz.ntmps143
  go_wp2
  all_goals first | (exfalso;omega) | (go_ret;exact⟨rfl,Below.refl _ _⟩)
 ·have z1:¬(200:Int)<(s.size:Int):=by omega
  rw[if_neg h1];by_cases h2:0≤I
  ·rw[if_pos h2]
   go_enter Tryz.func143,Tryz.ntmps143
   go_wp2_with (go_at_call 191;refine hC.mono ?_;rintro e w' ⟨rfl,hb⟩)
   all_goals first | (exfalso;omega) | (go_ret;exact⟨rfl,hb⟩)
  ·rw[if_neg h2]
   go_enter Tryz.func143,Tryz.ntmps143
   go_wp2_with (go_at_call 191;refine hC.mono ?_;rintro e w' ⟨rfl,hb⟩)
   all_goals first | (exfalso;omega) | (go_ret;exact⟨rfl,hb⟩)
end Go.Proofs.YthidcmjpbokeeaaGreatDoor
namespace Go.Proofs.YthidcmjpbokeeaaGreatDoor
open Go.Den
set_option linter.unusedVariables false
set_option linter.unusedSimpArgs false
set_option maxRecDepth 100000
theorem qjB {w w':World} (hd:Go.Den.Ctx.drawsUp=false) (h:Go.RowKit.Below w.heap.size w w'):Go.Eng.Chg [] w w' :=
 ⟨h.os,h.tape,h.output,h.size,fun k hk _=>h.block k hk,fun e=>by rw[hd] at e;cases e⟩
theorem qhR {α:Type} {c:Bool} {x r:α} (h:(bif c then some x else none)=some r):c=true∧x=r:=by cases c<;>simp_all
theorem qsZ {w:World} {S:Sp}:∀ {l:List ByteArray} {us:List Value},RepL (fun (x:D .str) c=>Rep w S .str x [] c) l us→us=l.map Value.string
 | [],us,h=>h
 | n::ns,us,⟨c,r,h1,h2,h3⟩=>by
  subst h1
  rw[h2.2,qsZ h3]
  rfl
theorem qwH {w:World} {S:Sp}:∀l:List ByteArray,RepL (fun (x:D .str) c=>Rep w S .str x [] c) l (l.map Value.string)
 | []=>rfl
 | s::l=>⟨[.string s],_,rfl,⟨rfl,rfl⟩,qwH l⟩
theorem open_int {S:Nat→Prop} {w:World} {g:Nat} (hT:TabR S w) (hg:(g,false)∈Ctx.opens):∃m,w.cell? ⟨g,0,none⟩=some (.int .i64 m):=by
 obtain⟨_,v,T,fz,hh,hv⟩:=hT.opn g false hg
 rw[if_neg (by decide)] at hv
 obtain⟨m,rfl⟩:=hv
 exact⟨m,by simp[World.cell?,hh]⟩

theorem chg_grown {w:World} {k:Nat} {os:Array Obj}:Go.Eng.Chg [] w (Go.Sort.grow (w.drewN k) os) :=
 ⟨rfl,rfl,rfl,by simp[Go.Sort.grow],fun j hj _=>by
  show(w.heap++os)[j]?=_
  rw[Array.getElem?_append_left hj],fun _=>Nat.le_add_right _ _⟩
theorem tab_pow10 {S:Nat→Prop} {w:World} (hT:TabR S w):Go.Lib.TabIs Tryz.prog w "internal/strconv.uint64pow10" .u64 Go.Lib.pow10Tab:=by
 obtain⟨_,T,fz,h⟩:=hT.tab 1 (Go.Lib.pow10Tab.map (Value.int .u64)) rfl
 have hg:Tryz.prog.globalNamed "internal/strconv.uint64pow10" = some 1:=by kernel_rfl
 unfold Go.Lib.TabIs World.var?
 rw[hg]
 show(match w.heap[1]? with | some (.cells cs _ _)=>some cs | _=>none)=_
 rw[h]
def qwE:Go.Shelf.Ren:=⟨fun | 171=>87 | 243=>147 | 246=>193 | 283=>229 | 284=>230 | 285=>231 | 286=>232 | 129=>217 | 317=>255 | 318=>256 | 319=>257 | 320=>258 | 337=>273 | 338=>274 | n=>n,fun | 3=>3 | 9=>9 | 2=>2 | 4=>4 | 171=>295 | 0=>0 | 53=>229 | 37=>62 | 5=>5 | 173=>297 | 212=>317 | 51=>288 | 20=>20 | 213=>318 | 46=>246 | 232=>344 | 233=>345 | n=>n,fun | 17=>1 | 18=>4 | 19=>5 | n=>n⟩
open Go.Shelf in
theorem itoa_lay:Go.Proofs.LaysM.n171 Tryz.prog qwE where
 mixed:=by kernel_rfl
 f129:=Tryz.func217.trans (congrArg some (by kernel_rfl))
 f171:=Tryz.func87.trans (congrArg some (by kernel_rfl))
 f243:=Tryz.func147.trans (congrArg some (by kernel_rfl))
 f246:=Tryz.func193.trans (congrArg some (by kernel_rfl))
 f283:=Tryz.func229.trans (congrArg some (by kernel_rfl))
 f284:=Tryz.func230.trans (congrArg some (by kernel_rfl))
 f285:=Tryz.func231.trans (congrArg some (by kernel_rfl))
 f286:=Tryz.func232.trans (congrArg some (by kernel_rfl))
 f317:=Tryz.func255.trans (congrArg some (by kernel_rfl))
 f318:=Tryz.func256.trans (congrArg some (by kernel_rfl))
 f319:=Tryz.func257.trans (congrArg some (by kernel_rfl))
 f320:=Tryz.func258.trans (congrArg some (by kernel_rfl))
 f337:=Tryz.func273.trans (congrArg some (by kernel_rfl))
 f338:=Tryz.func274.trans (congrArg some (by kernel_rfl))
 t0:=Tryz.underlying0
 a0:=Tryz.isAgg0
 z0:=Tryz.sizeOf0
 v0:=Tryz.zeroValue0
 t2:=Tryz.underlying2
 a2:=Tryz.isAgg2
 z2:=Tryz.sizeOf2
 v2:=Tryz.zeroValue2
 t3:=Tryz.underlying3
 a3:=Tryz.isAgg3
 z3:=Tryz.sizeOf3
 v3:=Tryz.zeroValue3
 t4:=Tryz.underlying4
 a4:=Tryz.isAgg4
 z4:=Tryz.sizeOf4
 v4:=Tryz.zeroValue4
 t5:=Tryz.underlying5
 a5:=Tryz.isAgg5
 z5:=Tryz.sizeOf5
 v5:=Tryz.zeroValue5
 t9:=Tryz.underlying9
 a9:=Tryz.isAgg9
 z9:=Tryz.sizeOf9
 v9:=Tryz.zeroValue9
 t20:=Tryz.underlying20
 a20:=Tryz.isAgg20
 z20:=Tryz.sizeOf20
 v20:=Tryz.zeroValue20
 t37:=Tryz.underlying62
 a37:=Tryz.isAgg62
 z37:=Tryz.sizeOf62
 v37:=Tryz.zeroValue62
 t46:=Tryz.underlying246
 a46:=Tryz.isAgg246
 z46:=Tryz.sizeOf246
 v46:=Tryz.zeroValue246
 t51:=Tryz.underlying288
 a51:=Tryz.isAgg288
 z51:=Tryz.sizeOf288
 v51:=Tryz.zeroValue288
 t53:=Tryz.underlying229
 a53:=Tryz.isAgg229
 z53:=Tryz.sizeOf229
 v53:=Tryz.zeroValue229
 t171:=Tryz.underlying295
 a171:=Tryz.isAgg295
 z171:=Tryz.sizeOf295
 v171:=Tryz.zeroValue295
 t173:=Tryz.underlying297
 a173:=Tryz.isAgg297
 z173:=Tryz.sizeOf297
 v173:=Tryz.zeroValue297
 t212:=Tryz.underlying317
 a212:=Tryz.isAgg317
 z212:=Tryz.sizeOf317
 v212:=Tryz.zeroValue317
 t213:=Tryz.underlying318
 a213:=Tryz.isAgg318
 z213:=Tryz.sizeOf318
 t232:=Tryz.underlying344
 a232:=Tryz.isAgg344
 z232:=Tryz.sizeOf344
 v232:=Tryz.zeroValue344
 t233:=Tryz.underlying345
 a233:=Tryz.isAgg345
 z233:=Tryz.sizeOf345
 v233:=Tryz.zeroValue345
 g17:=by kernel_rfl
 g18:=by kernel_rfl
 g19:=by kernel_rfl
 i0:=by kernel_rfl
 i2:=by kernel_rfl
 i3:=by kernel_rfl
 i4:=by kernel_rfl
 i5:=by kernel_rfl
 i9:=by kernel_rfl
 i20:=by kernel_rfl
 i37:=by kernel_rfl
 i46:=by kernel_rfl
 i51:=by kernel_rfl
 i53:=by kernel_rfl
 i171:=by kernel_rfl
 i173:=by kernel_rfl
 i212:=by kernel_rfl
 i232:=by kernel_rfl
 i233:=by kernel_rfl
 m17:=by kernel_rfl
 m18:=by kernel_rfl
 m19:=by kernel_rfl
noncomputable def qps:Con:=⟨[.int .i64],true,[],.str,fun x=>itoaS x.1,none⟩
theorem qwM:ConOK Tryz.prog 87 qps:=by
 refine⟨rfl,fun h=>(by cases h),fun g h=>(by cases h),fun w S args x r hS hT ha hr=>?_⟩
 obtain⟨n,⟨⟩⟩:=x
 obtain⟨v,q,e1,⟨cs,⟨_,rfl⟩,rfl⟩,h2⟩:=ha
 obtain rfl:q=[]:=h2
 obtain rfl:args = #[.int .i64 n]:=by rw[←Array.toList_inj,e1];rfl
 have hr:itoaS n=some r:=hr
 obtain⟨hb,rfl⟩:=qhR hr
 ·simp only[Bool.and_eq_true,decide_eq_true_eq] at hb
  refine(Any.strconv_Itoa (P:=Tryz.prog) (ρ:=qwE) itoa_lay n hb.1 hb.2 w (tab_pow10 hT)).mono ?_
  rintro e w' ⟨rfl,k,os,rfl⟩
  exact⟨_,rfl,chg_grown,[],[.string ⟨(Go.Lib.itoa n).toArray⟩],List.nodup_nil,(by simp),⟨rfl,rfl⟩,rfl⟩

def qoI:Go.Shelf.Ren:=⟨fun | 156=>25 | 165=>63 | 166=>22 | 169=>28 | 240=>58 | 241=>122 | 276=>121 | 277=>177 | n=>n,fun | 31=>71 | 9=>9 | 3=>3 | 4=>4 | 0=>0 | 20=>20 | 72=>64 | 76=>69 | 70=>61 | 37=>62 | 75=>68 | 127=>144 | 164=>202 | 5=>5 | 80=>82 | n=>n,fun | n=>n⟩
open Go.Shelf in
theorem qvI:Go.Proofs.Lays.n156 Tryz.prog qoI where
 mixed:=by kernel_rfl
 f156:=Tryz.func25.trans (congrArg some (by kernel_rfl))
 f165:=Tryz.func63.trans (congrArg some (by kernel_rfl))
 f166:=Tryz.func22.trans (congrArg some (by kernel_rfl))
 f169:=Tryz.func28.trans (congrArg some (by kernel_rfl))
 f240:=Tryz.func58.trans (congrArg some (by kernel_rfl))
 f241:=Tryz.func122.trans (congrArg some (by kernel_rfl))
 f276:=Tryz.func121.trans (congrArg some (by kernel_rfl))
 f277:=Tryz.func177.trans (congrArg some (by kernel_rfl))
 t0:=Tryz.underlying0
 a0:=Tryz.isAgg0
 z0:=Tryz.sizeOf0
 v0:=Tryz.zeroValue0
 t3:=Tryz.underlying3
 a3:=Tryz.isAgg3
 z3:=Tryz.sizeOf3
 v3:=Tryz.zeroValue3
 t4:=Tryz.underlying4
 a4:=Tryz.isAgg4
 z4:=Tryz.sizeOf4
 v4:=Tryz.zeroValue4
 t9:=Tryz.underlying9
 a9:=Tryz.isAgg9
 z9:=Tryz.sizeOf9
 v9:=Tryz.zeroValue9
 t20:=Tryz.underlying20
 a20:=Tryz.isAgg20
 z20:=Tryz.sizeOf20
 v20:=Tryz.zeroValue20
 t31:=Tryz.underlying71
 a31:=Tryz.isAgg71
 z31:=Tryz.sizeOf71
 v31:=Tryz.zeroValue71
 t37:=Tryz.underlying62
 a37:=Tryz.isAgg62
 z37:=Tryz.sizeOf62
 v37:=Tryz.zeroValue62
 t70:=Tryz.underlying61
 a70:=Tryz.isAgg61
 z70:=Tryz.sizeOf61
 v70:=Tryz.zeroValue61
 t72:=Tryz.underlying64
 a72:=Tryz.isAgg64
 z72:=Tryz.sizeOf64
 v72:=Tryz.zeroValue64
 t75:=Tryz.underlying68
 a75:=Tryz.isAgg68
 z75:=Tryz.sizeOf68
 v75:=Tryz.zeroValue68
 t76:=Tryz.underlying69
 a76:=Tryz.isAgg69
 z76:=Tryz.sizeOf69
 v76:=Tryz.zeroValue69
 t127:=Tryz.underlying144
 a127:=Tryz.isAgg144
 z127:=Tryz.sizeOf144
 v127:=Tryz.zeroValue144
 t164:=Tryz.underlying202
 a164:=Tryz.isAgg202
 z164:=Tryz.sizeOf202
 v164:=Tryz.zeroValue202
theorem qqU:Go.Proofs.Builder.Extra Tryz.prog qoI where
 sizeBuilder:=by kernel_rfl
 liesBuilder:=by kernel_rfl
 t5:=Tryz.underlying5
 a5:=Tryz.isAgg5
 z5:=Tryz.sizeOf5
 v5:=Tryz.zeroValue5
 infoByte:=by kernel_rfl
 cellsByte:=by kernel_rfl
 sizeByte:=by kernel_rfl
 neB5:=by decide
noncomputable def qg9:Con:=⟨[.sl .str,.str],true,[],.str,fun x=>joinS x.1 x.2.1,none⟩
theorem qoN:ConOK Tryz.prog 25 qg9:=by
 refine⟨rfl,fun h=>(by cases h),fun g h=>(by cases h),fun w S args x r hS hT ha hr=>?_⟩
 obtain⟨l,sep,⟨⟩⟩:=x
 obtain⟨v,q,e1,⟨cs,⟨_,ao,cap,us,rfl,hcap,hrep,hne⟩,rfl⟩,v2,q2,rfl,⟨cs2,⟨_,rfl⟩,rfl⟩,h2⟩:=ha
 obtain rfl:q2=[]:=h2
 obtain rfl:args = #[.slice ao l.length cap,.string sep]:=by rw[←Array.toList_inj,e1];rfl
 have hr:joinS l sep=some r:=hr
 obtain⟨hb,rfl⟩:=qhR hr
 ·simp only[Bool.and_eq_true] at hb
  have h3:=Nat.le_of_ble_eq_true hb.1
  have h4:=Nat.le_of_ble_eq_true hb.2
  have hus:=qsZ hrep
  subst hus
  have fin:∀w',Go.Eng.Chg [] w w'→∃v,Ending.returned (.string ⟨(Go.Lib.join (l.map (·.data.toList)) sep.data.toList).toArray⟩)=Ending.returned v∧Go.Eng.Chg [] w w'∧ResR w w' S qg9 (⟨(Go.Lib.join (l.map (·.data.toList)) sep.data.toList).toArray⟩:ByteArray) v :=
   fun w' hc=>⟨_,rfl,hc,[],[.string ⟨(Go.Lib.join (l.map (·.data.toList)) sep.data.toList).toArray⟩],List.nodup_nil,(by simp),⟨rfl,rfl⟩,rfl⟩
  by_cases h0:l=[]
  ·subst h0
   refine(Any.strings_Join_none (P:=Tryz.prog) (ρ:=qoI) qvI qqU ao cap sep w).mono ?_
   rintro e w' ⟨rfl,rfl⟩
   exact fin _ (Go.Eng.Chg.refl _ _)
  ·obtain⟨a,rfl,ha,hcells⟩:=hne h0
   obtain⟨bk,o,spot⟩:=a
   have hsp:spot=none:=by
    cases l with
    | nil=>exact absurd rfl h0
    | cons x l' =>
     have:=hcells 0 (.string x) rfl
     cases spot with
     | none=>rfl
     | some s=>exact absurd this (by simp[Addr.add,World.cell?];split<;>simp)
   subst hsp
   refine(Any.strings_Join (P:=Tryz.prog) (ρ:=qoI) qvI qqU bk o cap l sep w (fun j x hj=>by
    have:=hcells j (.string x) ((List.getElem?_map (f:=Value.string) (l:=(l:List ByteArray)) (i:=j)).trans (congrArg (Option.map Value.string) hj))
    rwa [Go.Eng.adr_add] at this) (hS bk ha) h3 hcap h4).mono ?_
   rintro e w' ⟨rfl,hb⟩
   exact fin _ (qjB rfl hb)

def ixb_ren:Go.Shelf.Ren:=⟨fun | 137=>173 | 217=>223 | 266=>254 | n=>n,fun | 9=>9 | 5=>5 | 3=>3 | n=>n,fun | n=>n⟩
open Go.Shelf in
theorem ixb_lay:Go.Proofs.Lays.n137 Tryz.prog ixb_ren where
 mixed:=by kernel_rfl
 f137:=Tryz.func173.trans (congrArg some (by kernel_rfl))
 f217:=Tryz.func223.trans (congrArg some (by kernel_rfl))
 f266:=Tryz.func254.trans (congrArg some (by kernel_rfl))
 t3:=Tryz.underlying3
 a3:=Tryz.isAgg3
 z3:=Tryz.sizeOf3
 v3:=Tryz.zeroValue3
 t5:=Tryz.underlying5
 a5:=Tryz.isAgg5
 z5:=Tryz.sizeOf5
 v5:=Tryz.zeroValue5
 t9:=Tryz.underlying9
 a9:=Tryz.isAgg9
 z9:=Tryz.sizeOf9
 v9:=Tryz.zeroValue9
noncomputable def qkG:Con:=⟨[.str,.int .u8],true,[],.int .i64,fun x=>some (qe9 x.1 x.2.1),some fun x=>qe9 x.1 x.2.1⟩
theorem qsS:ConOK Tryz.prog 173 qkG:=by
 refine⟨rfl,fun h=>(by cases h),fun g h x=>(by cases h;rfl),fun w S args x r hS hT ha hr=>?_⟩
 obtain⟨s,c,⟨⟩⟩:=x
 obtain⟨v,q,e1,⟨cs,⟨_,rfl⟩,rfl⟩,v2,q2,rfl,⟨cs2,⟨_,rfl⟩,rfl⟩,h2⟩:=ha
 obtain rfl:q2=[]:=h2
 obtain rfl:args = #[.string s,.int .u8 c]:=by rw[←Array.toList_inj,e1];rfl
 obtain rfl:qe9 s c=r:=Option.some.inj hr
 refine(Any.strings_IndexByte (P:=Tryz.prog) (ρ:=ixb_ren) ixb_lay s c w).mono ?_
 rintro e w' ⟨rfl,rfl⟩
 exact⟨_,rfl,Go.Eng.Chg.refl _ _,[],[.int .i64 _],List.nodup_nil,(by simp),⟨rfl,rfl⟩,rfl⟩

def split_ren:Go.Shelf.Ren:=⟨fun | 146=>51 | 221=>109 | 268=>169 | 138=>170 | 143=>171 | 195=>218 | 197=>219 | 218=>220 | 219=>221 | 260=>249 | 217=>223 | 225=>226 | 224=>225 | 267=>250 | 266=>254 | 314=>271 | n=>n,fun | 9=>9 | 31=>71 | 3=>3 | 4=>4 | 0=>0 | 105=>291 | 21=>21 | 5=>5 | 46=>246 | 119=>330 | 139=>333 | 138=>332 | 146=>334 | 51=>288 | n=>n,fun | 1=>0 | 3=>2 | 4=>3 | n=>n⟩
open Go.Shelf in
theorem split_lay:Go.Proofs.Lays.n146 Tryz.prog split_ren where
 mixed:=by kernel_rfl
 f138:=Tryz.func170.trans (congrArg some (by kernel_rfl))
 f143:=Tryz.func171.trans (congrArg some (by kernel_rfl))
 f146:=Tryz.func51.trans (congrArg some (by kernel_rfl))
 f195:=Tryz.func218.trans (congrArg some (by kernel_rfl))
 f197:=Tryz.func219.trans (congrArg some (by kernel_rfl))
 f217:=Tryz.func223.trans (congrArg some (by kernel_rfl))
 f218:=Tryz.func220.trans (congrArg some (by kernel_rfl))
 f219:=Tryz.func221.trans (congrArg some (by kernel_rfl))
 f221:=Tryz.func109.trans (congrArg some (by kernel_rfl))
 f224:=Tryz.func225.trans (congrArg some (by kernel_rfl))
 f225:=Tryz.func226.trans (congrArg some (by kernel_rfl))
 f260:=Tryz.func249.trans (congrArg some (by kernel_rfl))
 f266:=Tryz.func254.trans (congrArg some (by kernel_rfl))
 f267:=Tryz.func250.trans (congrArg some (by kernel_rfl))
 f268:=Tryz.func169.trans (congrArg some (by kernel_rfl))
 f314:=Tryz.func271.trans (congrArg some (by kernel_rfl))
 t0:=Tryz.underlying0
 a0:=Tryz.isAgg0
 z0:=Tryz.sizeOf0
 v0:=Tryz.zeroValue0
 t3:=Tryz.underlying3
 a3:=Tryz.isAgg3
 z3:=Tryz.sizeOf3
 v3:=Tryz.zeroValue3
 t4:=Tryz.underlying4
 a4:=Tryz.isAgg4
 z4:=Tryz.sizeOf4
 v4:=Tryz.zeroValue4
 t5:=Tryz.underlying5
 a5:=Tryz.isAgg5
 z5:=Tryz.sizeOf5
 v5:=Tryz.zeroValue5
 t9:=Tryz.underlying9
 a9:=Tryz.isAgg9
 z9:=Tryz.sizeOf9
 v9:=Tryz.zeroValue9
 t21:=Tryz.underlying21
 a21:=Tryz.isAgg21
 z21:=Tryz.sizeOf21
 v21:=Tryz.zeroValue21
 t31:=Tryz.underlying71
 a31:=Tryz.isAgg71
 z31:=Tryz.sizeOf71
 v31:=Tryz.zeroValue71
 t46:=Tryz.underlying246
 a46:=Tryz.isAgg246
 z46:=Tryz.sizeOf246
 v46:=Tryz.zeroValue246
 t51:=Tryz.underlying288
 a51:=Tryz.isAgg288
 z51:=Tryz.sizeOf288
 v51:=Tryz.zeroValue288
 t105:=Tryz.underlying291
 a105:=Tryz.isAgg291
 z105:=Tryz.sizeOf291
 v105:=Tryz.zeroValue291
 t119:=Tryz.underlying330
 a119:=Tryz.isAgg330
 z119:=Tryz.sizeOf330
 t138:=Tryz.underlying332
 a138:=Tryz.isAgg332
 z138:=Tryz.sizeOf332
 v138:=Tryz.zeroValue332
 t139:=Tryz.underlying333
 a139:=Tryz.isAgg333
 z139:=Tryz.sizeOf333
 v139:=Tryz.zeroValue333
 t146:=Tryz.underlying334
 a146:=Tryz.isAgg334
 z146:=Tryz.sizeOf334
 v146:=Tryz.zeroValue334
 g1:=by kernel_rfl
 g3:=by kernel_rfl
 g4:=by kernel_rfl
noncomputable def qrw:Con:=⟨[.str,.str],true,[],.sl .str,fun x=>qq2 x.1 x.2.1,none⟩
theorem splitS_ok:ConOK Tryz.prog 51 qrw:=by
 refine⟨rfl,fun h=>(by cases h),fun g h=>(by cases h),fun w S args x r hS hT ha hr=>?_⟩
 obtain⟨s,sep,⟨⟩⟩:=x
 obtain⟨v,q,e1,⟨cs,⟨_,rfl⟩,rfl⟩,v2,q2,rfl,⟨cs2,⟨_,rfl⟩,rfl⟩,h2⟩:=ha
 obtain rfl:q2=[]:=h2
 obtain rfl:args = #[.string s,.string sep]:=by rw[←Array.toList_inj,e1];rfl
 have hr:qq2 s sep=some r:=hr
 obtain⟨hb,rfl⟩:=qhR hr
 simp only[Bool.and_eq_true] at hb
 have h3:=Nat.le_of_ble_eq_true hb.1
 have h4:=Nat.le_of_ble_eq_true hb.2
 obtain⟨m,hm⟩:=open_int (g:=0) hT (by decide)
 have hlen:=Go.Lib.splitB_all sep h4 0 _ s rfl
 refine(Any.strings_Split (P:=Tryz.prog) (ρ:=split_ren) split_lay (by kernel_rfl) s sep m w (Nat.lt_succ_of_le h3) hm h4).mono ?_
 rintro e w' ⟨rfl,rfl⟩
 generalize Go.Lib.splitB sep 0 (Go.Lib.countB s sep) s=l at hlen ⊢
 rw[←hlen]
 have hnew:=Go.Eng.alloc_blk w (l.map Value.string).toArray (split_ren.t 9)
 have hsz:=Go.Eng.alloc_size w (.cells (l.map Value.string).toArray (split_ren.t 9))
 refine⟨_,rfl,Go.Eng.alloc_chg _ _,[],[.slice (some ⟨w.heap.size,0,none⟩) l.length l.length],List.nodup_nil,(by simp),⟨rfl,_,_,l.map Value.string,rfl,Nat.le_refl _,qwH l,fun _=>⟨_,rfl,⟨by rw[hsz];exact Nat.lt_succ_self _,.inr (Nat.le_refl _),by simp⟩,?_⟩⟩,rfl⟩
 have:=qb6 (w:=w.alloc (.cells (l.map Value.string).toArray (split_ren.t 9))) (b:=w.heap.size) hnew 0
 simpa using this

noncomputable def qfK:Con:=⟨[.str],true,[],.int .i64,fun x=>some (qay x.1),some fun x=>qay x.1⟩
theorem qkJ:ConOK Tryz.prog 143 qfK:=by
 refine⟨rfl,fun h=>(by cases h),fun g h=>(by cases h;intro x;rfl),fun w S args x r hS hT ha hr=>?_⟩
 obtain⟨s,⟨⟩⟩:=x
 obtain⟨v,q,e1,⟨cs,⟨_,rfl⟩,rfl⟩,h2⟩:=ha
 obtain rfl:q=[]:=h2
 obtain rfl:args = #[.string s]:=by rw[←Array.toList_inj,e1];rfl
 have hr:some (qay s)=some r:=hr
 cases hr
 refine(qvC s w).mono ?_
 rintro e w' ⟨rfl,hb⟩
 exact⟨_,rfl,qjB rfl hb,[],[.int .i64 (qay s)],List.nodup_nil,(by simp),⟨rfl,rfl⟩,rfl⟩

def ix1_ren:Go.Shelf.Ren:=⟨fun | 219=>221 | 217=>223 | 225=>226 | 224=>225 | 267=>250 | 266=>254 | 314=>271 | n=>n,fun | 9=>9 | 3=>3 | 4=>4 | 5=>5 | 46=>246 | 146=>334 | 51=>288 | n=>n,fun | 1=>0 | n=>n⟩
open Go.Shelf in
theorem ix1_lay:Go.Proofs.Lays.n219 Tryz.prog ix1_ren where
 mixed:=by kernel_rfl
 f217:=Tryz.func223.trans (congrArg some (by kernel_rfl))
 f219:=Tryz.func221.trans (congrArg some (by kernel_rfl))
 f224:=Tryz.func225.trans (congrArg some (by kernel_rfl))
 f225:=Tryz.func226.trans (congrArg some (by kernel_rfl))
 f266:=Tryz.func254.trans (congrArg some (by kernel_rfl))
 f267:=Tryz.func250.trans (congrArg some (by kernel_rfl))
 f314:=Tryz.func271.trans (congrArg some (by kernel_rfl))
 t3:=Tryz.underlying3
 a3:=Tryz.isAgg3
 z3:=Tryz.sizeOf3
 v3:=Tryz.zeroValue3
 t4:=Tryz.underlying4
 a4:=Tryz.isAgg4
 z4:=Tryz.sizeOf4
 v4:=Tryz.zeroValue4
 t5:=Tryz.underlying5
 a5:=Tryz.isAgg5
 z5:=Tryz.sizeOf5
 v5:=Tryz.zeroValue5
 t9:=Tryz.underlying9
 a9:=Tryz.isAgg9
 z9:=Tryz.sizeOf9
 v9:=Tryz.zeroValue9
 t46:=Tryz.underlying246
 a46:=Tryz.isAgg246
 z46:=Tryz.sizeOf246
 v46:=Tryz.zeroValue246
 t51:=Tryz.underlying288
 a51:=Tryz.isAgg288
 z51:=Tryz.sizeOf288
 v51:=Tryz.zeroValue288
 t146:=Tryz.underlying334
 a146:=Tryz.isAgg334
 z146:=Tryz.sizeOf334
 v146:=Tryz.zeroValue334
 g1:=by kernel_rfl
noncomputable def qtA:Con:=⟨[.str,.str],true,[],.int .i64,fun x=>idx1S x.1 x.2.1,none⟩
theorem idx1S_ok:ConOK Tryz.prog 221 qtA:=by
 refine⟨rfl,fun h=>(by cases h),fun g h=>(by cases h),fun w S args x r hS hT ha hr=>?_⟩
 obtain⟨s,sep,⟨⟩⟩:=x
 obtain⟨v,q,e1,⟨cs,⟨_,rfl⟩,rfl⟩,v2,q2,rfl,⟨cs2,⟨_,rfl⟩,rfl⟩,h2⟩:=ha
 obtain rfl:q2=[]:=h2
 obtain rfl:args = #[.string s,.string sep]:=by rw[←Array.toList_inj,e1];rfl
 have hr:idx1S s sep=some r:=hr
 obtain⟨hb,rfl⟩:=qhR hr
 obtain⟨c,rfl⟩:∃c:UInt8,sep=⟨#[c]⟩:=by
  have hb:=Nat.eq_of_beq_eq_true hb
  obtain⟨⟨l⟩⟩:=sep
  cases l with
  | nil=>cases hb
  | cons c l =>
   cases l with
   | nil=>exact⟨c,rfl⟩
   | cons d l=>exact absurd hb (by simp[ByteArray.size])
 refine(Any.stringslite_Index_one (P:=Tryz.prog) (ρ:=ix1_ren) ix1_lay s c w).mono ?_
 rintro e w' ⟨rfl,rfl⟩
 exact⟨_,rfl,Go.Eng.Chg.refl _ _,[],[.int .i64 _],List.nodup_nil,(by simp),⟨rfl,rfl⟩,rfl⟩

def clo_ren:Go.Shelf.Ren:=⟨fun | 316=>181 | n=>n,fun | 9=>9 | 3=>3 | 4=>4 | 37=>62 | 0=>0 | 127=>144 | 5=>5 | n=>n,fun | n=>n⟩
open Go.Shelf in
theorem clo_lay:Go.Proofs.LaysM.n316 Tryz.prog clo_ren where
 mixed:=by kernel_rfl
 f316:=Tryz.func181.trans (congrArg some (by kernel_rfl))
 t0:=Tryz.underlying0
 a0:=Tryz.isAgg0
 z0:=Tryz.sizeOf0
 v0:=Tryz.zeroValue0
 t3:=Tryz.underlying3
 a3:=Tryz.isAgg3
 z3:=Tryz.sizeOf3
 v3:=Tryz.zeroValue3
 t4:=Tryz.underlying4
 a4:=Tryz.isAgg4
 z4:=Tryz.sizeOf4
 v4:=Tryz.zeroValue4
 t9:=Tryz.underlying9
 a9:=Tryz.isAgg9
 z9:=Tryz.sizeOf9
 v9:=Tryz.zeroValue9
 t37:=Tryz.underlying62
 a37:=Tryz.isAgg62
 z37:=Tryz.sizeOf62
 v37:=Tryz.zeroValue62
 t127:=Tryz.underlying144
 a127:=Tryz.isAgg144
 z127:=Tryz.sizeOf144
 v127:=Tryz.zeroValue144
 t5:=Tryz.underlying5
 a5:=Tryz.isAgg5
 z5:=Tryz.sizeOf5
 v5:=Tryz.zeroValue5
 i0:=by kernel_rfl
 i3:=by kernel_rfl
 i4:=by kernel_rfl
 i5:=by kernel_rfl
 i9:=by kernel_rfl
 i37:=by kernel_rfl
 i127:=by kernel_rfl
noncomputable def qqX:Con:=⟨[.str],true,[],.str,fun x=>cloneS x.1,none⟩
theorem cloneS_ok:ConOK Tryz.prog 181 qqX:=by
 refine⟨rfl,fun h=>(by cases h),fun g h=>(by cases h),fun w S args x r hS hT ha hr=>?_⟩
 obtain⟨s,⟨⟩⟩:=x
 obtain⟨v,q,e1,⟨cs,⟨_,rfl⟩,rfl⟩,h2⟩:=ha
 obtain rfl:q=[]:=h2
 obtain rfl:args = #[.string s]:=by rw[←Array.toList_inj,e1];rfl
 have hr:cloneS s=some r:=hr
 obtain⟨hb,rfl⟩:=qhR hr
 refine(Any.stringslite_Clone (P:=Tryz.prog) (ρ:=clo_ren) clo_lay s w (Nat.le_of_ble_eq_true hb)).mono ?_
 rintro e w' ⟨rfl,hb⟩
 exact⟨_,rfl,qjB rfl hb,[],[.string s],List.nodup_nil,(by simp),⟨rfl,rfl⟩,rfl⟩

def qvZ:Go.Shelf.Ren:=⟨fun | 161=>136 | 231=>186 | 227=>184 | 233=>187 | 235=>188 | 228=>185 | 197=>219 | 151=>227 | 260=>249 | 152=>182 | 137=>173 | 119=>224 | 224=>225 | 225=>226 | 217=>223 | 266=>254 | n=>n,fun | 9=>9 | 4=>4 | 3=>3 | 5=>5 | 117=>259 | 116=>258 | 0=>0 | 124=>263 | 105=>291 | 21=>21 | 119=>330 | 46=>246 | 139=>333 | 138=>332 | n=>n,fun | 3=>2 | 4=>3 | n=>n⟩
open Go.Shelf in
theorem tril_lay:Go.Proofs.Lays.n161 Tryz.prog qvZ where
 mixed:=by kernel_rfl
 f119:=Tryz.func224.trans (congrArg some (by kernel_rfl))
 f137:=Tryz.func173.trans (congrArg some (by kernel_rfl))
 f151:=Tryz.func227.trans (congrArg some (by kernel_rfl))
 f152:=Tryz.func182.trans (congrArg some (by kernel_rfl))
 f161:=Tryz.func136.trans (congrArg some (by kernel_rfl))
 f197:=Tryz.func219.trans (congrArg some (by kernel_rfl))
 f217:=Tryz.func223.trans (congrArg some (by kernel_rfl))
 f224:=Tryz.func225.trans (congrArg some (by kernel_rfl))
 f225:=Tryz.func226.trans (congrArg some (by kernel_rfl))
 f227:=Tryz.func184.trans (congrArg some (by kernel_rfl))
 f228:=Tryz.func185.trans (congrArg some (by kernel_rfl))
 f231:=Tryz.func186.trans (congrArg some (by kernel_rfl))
 f233:=Tryz.func187.trans (congrArg some (by kernel_rfl))
 f235:=Tryz.func188.trans (congrArg some (by kernel_rfl))
 f260:=Tryz.func249.trans (congrArg some (by kernel_rfl))
 f266:=Tryz.func254.trans (congrArg some (by kernel_rfl))
 t0:=Tryz.underlying0
 a0:=Tryz.isAgg0
 z0:=Tryz.sizeOf0
 v0:=Tryz.zeroValue0
 t3:=Tryz.underlying3
 a3:=Tryz.isAgg3
 z3:=Tryz.sizeOf3
 v3:=Tryz.zeroValue3
 t4:=Tryz.underlying4
 a4:=Tryz.isAgg4
 z4:=Tryz.sizeOf4
 v4:=Tryz.zeroValue4
 t5:=Tryz.underlying5
 a5:=Tryz.isAgg5
 z5:=Tryz.sizeOf5
 v5:=Tryz.zeroValue5
 t9:=Tryz.underlying9
 a9:=Tryz.isAgg9
 z9:=Tryz.sizeOf9
 v9:=Tryz.zeroValue9
 t21:=Tryz.underlying21
 a21:=Tryz.isAgg21
 z21:=Tryz.sizeOf21
 v21:=Tryz.zeroValue21
 t46:=Tryz.underlying246
 a46:=Tryz.isAgg246
 z46:=Tryz.sizeOf246
 v46:=Tryz.zeroValue246
 t105:=Tryz.underlying291
 a105:=Tryz.isAgg291
 z105:=Tryz.sizeOf291
 v105:=Tryz.zeroValue291
 t116:=Tryz.underlying258
 a116:=Tryz.isAgg258
 z116:=Tryz.sizeOf258
 t117:=Tryz.underlying259
 a117:=Tryz.isAgg259
 z117:=Tryz.sizeOf259
 v117:=Tryz.zeroValue259
 t119:=Tryz.underlying330
 a119:=Tryz.isAgg330
 z119:=Tryz.sizeOf330
 t124:=Tryz.underlying263
 a124:=Tryz.isAgg263
 z124:=Tryz.sizeOf263
 v124:=Tryz.zeroValue263
 t138:=Tryz.underlying332
 a138:=Tryz.isAgg332
 z138:=Tryz.sizeOf332
 v138:=Tryz.zeroValue332
 t139:=Tryz.underlying333
 a139:=Tryz.isAgg333
 z139:=Tryz.sizeOf333
 v139:=Tryz.zeroValue333
 g3:=by kernel_rfl
 g4:=by kernel_rfl
noncomputable def qq8:Con:=⟨[.str,.str],true,[],.str,fun x=>qwp x.1 x.2.1,none⟩
theorem trimLS_ok:ConOK Tryz.prog 136 qq8:=by
 refine⟨rfl,fun h=>(by cases h),fun g h=>(by cases h),fun w S args x r hS hT ha hr=>?_⟩
 obtain⟨s,sep,⟨⟩⟩:=x
 obtain⟨v,q,e1,⟨cs,⟨_,rfl⟩,rfl⟩,v2,q2,rfl,⟨cs2,⟨_,rfl⟩,rfl⟩,h2⟩:=ha
 obtain rfl:q2=[]:=h2
 obtain rfl:args = #[.string s,.string sep]:=by rw[←Array.toList_inj,e1];rfl
 have hr:qwp s sep=some r:=hr
 obtain⟨hb,rfl⟩:=qhR hr
 simp only[Bool.and_eq_true] at hb
 obtain⟨h4,h5⟩:=hb
 have h4:=Nat.le_of_ble_eq_true h4
 refine(Any.strings_TrimLeft_laid (P:=Tryz.prog) (ρ:=qvZ) tril_lay (by kernel_rfl) s sep w (by omega) (fun j b hj=>of_decide_eq_true (List.all_eq_true.1 h5 b (List.mem_of_getElem? hj)))).mono ?_
 rintro e w' ⟨rfl,hb⟩
 exact⟨_,rfl,qjB rfl hb,[],[.string _],List.nodup_nil,(by simp),⟨rfl,rfl⟩,rfl⟩

def ixa_ren:Go.Shelf.Ren:=⟨fun | 153=>135 | 152=>182 | 226=>183 | 227=>184 | 228=>185 | 137=>173 | 119=>224 | 224=>225 | 225=>226 | 217=>223 | 266=>254 | n=>n,fun | 9=>9 | 3=>3 | 4=>4 | 5=>5 | 21=>21 | 117=>259 | 116=>258 | 0=>0 | 46=>246 | 124=>263 | n=>n,fun | n=>n⟩
open Go.Shelf in
theorem ixa_lay:Go.Proofs.Lays.n153 Tryz.prog ixa_ren where
 mixed:=by kernel_rfl
 f119:=Tryz.func224.trans (congrArg some (by kernel_rfl))
 f137:=Tryz.func173.trans (congrArg some (by kernel_rfl))
 f152:=Tryz.func182.trans (congrArg some (by kernel_rfl))
 f153:=Tryz.func135.trans (congrArg some (by kernel_rfl))
 f217:=Tryz.func223.trans (congrArg some (by kernel_rfl))
 f224:=Tryz.func225.trans (congrArg some (by kernel_rfl))
 f225:=Tryz.func226.trans (congrArg some (by kernel_rfl))
 f226:=Tryz.func183.trans (congrArg some (by kernel_rfl))
 f227:=Tryz.func184.trans (congrArg some (by kernel_rfl))
 f228:=Tryz.func185.trans (congrArg some (by kernel_rfl))
 f266:=Tryz.func254.trans (congrArg some (by kernel_rfl))
 t0:=Tryz.underlying0
 a0:=Tryz.isAgg0
 z0:=Tryz.sizeOf0
 v0:=Tryz.zeroValue0
 t3:=Tryz.underlying3
 a3:=Tryz.isAgg3
 z3:=Tryz.sizeOf3
 v3:=Tryz.zeroValue3
 t4:=Tryz.underlying4
 a4:=Tryz.isAgg4
 z4:=Tryz.sizeOf4
 v4:=Tryz.zeroValue4
 t5:=Tryz.underlying5
 a5:=Tryz.isAgg5
 z5:=Tryz.sizeOf5
 v5:=Tryz.zeroValue5
 t9:=Tryz.underlying9
 a9:=Tryz.isAgg9
 z9:=Tryz.sizeOf9
 v9:=Tryz.zeroValue9
 t21:=Tryz.underlying21
 a21:=Tryz.isAgg21
 z21:=Tryz.sizeOf21
 v21:=Tryz.zeroValue21
 t46:=Tryz.underlying246
 a46:=Tryz.isAgg246
 z46:=Tryz.sizeOf246
 v46:=Tryz.zeroValue246
 t116:=Tryz.underlying258
 a116:=Tryz.isAgg258
 z116:=Tryz.sizeOf258
 t117:=Tryz.underlying259
 a117:=Tryz.isAgg259
 z117:=Tryz.sizeOf259
 v117:=Tryz.zeroValue259
 t124:=Tryz.underlying263
 a124:=Tryz.isAgg263
 z124:=Tryz.sizeOf263
 v124:=Tryz.zeroValue263
noncomputable def qlS:Con:=⟨[.str,.str],true,[],.int .i64,fun x=>qhg x.1 x.2.1,none⟩
theorem qsW:ConOK Tryz.prog 135 qlS:=by
 refine⟨rfl,fun h=>(by cases h),fun g h=>(by cases h),fun w S args x r hS hT ha hr=>?_⟩
 obtain⟨s,sep,⟨⟩⟩:=x
 obtain⟨v,q,e1,⟨cs,⟨_,rfl⟩,rfl⟩,v2,q2,rfl,⟨cs2,⟨_,rfl⟩,rfl⟩,h2⟩:=ha
 obtain rfl:q2=[]:=h2
 obtain rfl:args = #[.string s,.string sep]:=by rw[←Array.toList_inj,e1];rfl
 have hr:qhg s sep=some r:=hr
 obtain⟨hb,rfl⟩:=qhR hr
 simp only[Bool.and_eq_true] at hb
 obtain⟨h3,h4,h5,h6⟩:=hb
 have h3:=Nat.le_of_ble_eq_true h3
 have h4:=Nat.le_of_ble_eq_true h4
 refine(Any.strings_IndexAny_laid (P:=Tryz.prog) (ρ:=ixa_ren) ixa_lay (by kernel_rfl) s sep w (by omega) (by omega) (fun j b hj=>of_decide_eq_true (List.all_eq_true.1 h5 b (List.mem_of_getElem? hj))) (fun j b hj=>of_decide_eq_true (List.all_eq_true.1 h6 b (List.mem_of_getElem? hj)))).mono ?_
 rintro e w' ⟨rfl,hb⟩
 exact⟨_,rfl,qjB rfl hb,[],[.int .i64 _],List.nodup_nil,(by simp),⟨rfl,rfl⟩,rfl⟩

def bck_ren:Go.Shelf.Ren:=⟨fun | 240=>58 | 276=>121 | n=>n,fun | 0=>0 | 4=>4 | 5=>5 | 9=>9 | 20=>20 | 37=>62 | 70=>61 | 72=>64 | 164=>202 | n=>n,fun | n=>n⟩
open Go.Shelf in
theorem bck_lay:Go.Proofs.Lays.n240 Tryz.prog bck_ren where
 mixed:=by kernel_rfl
 f240:=Tryz.func58.trans (congrArg some (by kernel_rfl))
 f276:=Tryz.func121.trans (congrArg some (by kernel_rfl))
 t0:=Tryz.underlying0
 a0:=Tryz.isAgg0
 z0:=Tryz.sizeOf0
 v0:=Tryz.zeroValue0
 t4:=Tryz.underlying4
 a4:=Tryz.isAgg4
 z4:=Tryz.sizeOf4
 v4:=Tryz.zeroValue4
 t9:=Tryz.underlying9
 a9:=Tryz.isAgg9
 z9:=Tryz.sizeOf9
 v9:=Tryz.zeroValue9
 t20:=Tryz.underlying20
 a20:=Tryz.isAgg20
 z20:=Tryz.sizeOf20
 v20:=Tryz.zeroValue20
 t70:=Tryz.underlying61
 a70:=Tryz.isAgg61
 z70:=Tryz.sizeOf61
 v70:=Tryz.zeroValue61
 t72:=Tryz.underlying64
 a72:=Tryz.isAgg64
 z72:=Tryz.sizeOf64
 v72:=Tryz.zeroValue64
 t164:=Tryz.underlying202
 a164:=Tryz.isAgg202
 z164:=Tryz.sizeOf202
 v164:=Tryz.zeroValue202
theorem qd:CkOK Tryz.prog 58 64:=ck_of (P:=Tryz.prog) (ρ:=bck_ren) bck_lay ⟨by kernel_rfl,by kernel_rfl⟩

def quF:Go.Shelf.Ren:=⟨fun | 169=>28 | n=>n,fun | 70=>61 | 9=>9 | 0=>0 | 72=>64 | 37=>62 | 127=>144 | 3=>3 | 5=>5 | n=>n,fun | n=>n⟩
open Go.Shelf in
theorem bst_lay:Go.Proofs.Lays.n169 Tryz.prog quF where
 mixed:=by kernel_rfl
 f169:=Tryz.func28.trans (congrArg some (by kernel_rfl))
 t0:=Tryz.underlying0
 a0:=Tryz.isAgg0
 z0:=Tryz.sizeOf0
 v0:=Tryz.zeroValue0
 t3:=Tryz.underlying3
 a3:=Tryz.isAgg3
 z3:=Tryz.sizeOf3
 v3:=Tryz.zeroValue3
 t9:=Tryz.underlying9
 a9:=Tryz.isAgg9
 z9:=Tryz.sizeOf9
 v9:=Tryz.zeroValue9
 t37:=Tryz.underlying62
 a37:=Tryz.isAgg62
 z37:=Tryz.sizeOf62
 v37:=Tryz.zeroValue62
 t70:=Tryz.underlying61
 a70:=Tryz.isAgg61
 z70:=Tryz.sizeOf61
 v70:=Tryz.zeroValue61
 t72:=Tryz.underlying64
 a72:=Tryz.isAgg64
 z72:=Tryz.sizeOf64
 v72:=Tryz.zeroValue64
 t127:=Tryz.underlying144
 a127:=Tryz.isAgg144
 z127:=Tryz.sizeOf144
 v127:=Tryz.zeroValue144
theorem bst_extra:Go.Proofs.Builder.Extra Tryz.prog quF where
 sizeBuilder:=by kernel_rfl
 liesBuilder:=by kernel_rfl
 t5:=Tryz.underlying5
 a5:=Tryz.isAgg5
 z5:=Tryz.sizeOf5
 v5:=Tryz.zeroValue5
 infoByte:=by kernel_rfl
 cellsByte:=by kernel_rfl
 sizeByte:=by kernel_rfl
 neB5:=by decide
theorem qot:BsOK Tryz.prog 28 64 5:=bs_of (P:=Tryz.prog) (ρ:=quF) bst_lay bst_extra

def qm1:Ann:=(.two .nil (.two (.two .nil (.joinE ⟨[0],[],[]⟩ (.two (.loop ⟨[0,6],[(7,Zt60)],[]⟩ .nil) .nil))) .nil))
noncomputable def rulesName_con:Con:=⟨[.str],true,[],.bool,fun x=>qjj x.1,none⟩
noncomputable def ql2:Env:=[]
theorem qsn (x:DL rulesName_con.ps):rulesName_con.φ x=denF Tryz.prog ql2 qm1 Tryz.f67 rulesName_con.ps rulesName_con.one rulesName_con.res rulesName_con.ρ x:=by kernel_rfl
theorem qn0:ConOK Tryz.prog 67 rulesName_con :=
 qb (env:=ql2) ((EnvOK.nil _)) mixed Tryz.func67 rulesName_con qm1 (by kernel_rfl) (fun h=>by first | rfl | cases h) (fun g hg=>by cases hg) qsn
def qjt:Ann := .nil
noncomputable def rulesWithin_con:Con:=⟨[Zt60,Zt60,Zt60],true,[],.bool,fun x=>qhB x.1 x.2.1 x.2.2.1,some fun x=>qe x.1 x.2.1 x.2.2.1⟩
noncomputable def qi4:Env:=[]
theorem qoS (x:DL rulesWithin_con.ps):rulesWithin_con.φ x=denF Tryz.prog qi4 qjt Tryz.f68 rulesWithin_con.ps rulesWithin_con.one rulesWithin_con.res rulesWithin_con.ρ x:=by kernel_rfl
theorem qgP:ConOK Tryz.prog 68 rulesWithin_con :=
 qb (env:=qi4) ((EnvOK.nil _)) mixed Tryz.func68 rulesWithin_con qjt (by kernel_rfl) (fun h=>by first | rfl | cases h) (fun g hg x=>by
  cases hg
  exact qqr _ _ _) qoS
def qju:Ann:=(.two .nil (.two .nil (.two .nil (.two (.two .nil (.joinE ⟨[],[],[]⟩ (.two (.loop ⟨[1,16,17],[(18,Zt60)],[]⟩ (.two .nil (.two .nil (.two (.joinE ⟨[1,16,17,18],[],[]⟩ (.two (.two .nil (.two (.two (.two .nil (.two .nil (.two (.two (.two .nil (.two (.two (.two .nil (.two (.two .nil (.joinE ⟨[],[],[]⟩ (.two (.loop ⟨[0,1,7],[(8,Zt60)],[]⟩ .nil) .nil))) .nil)) .nil) .nil)) .nil) .nil))) .nil) (.two .nil (.joinE ⟨[1,16,17,18],[],[]⟩ (.two (.loop ⟨[1,16,17,18,59,60],[(61,Zt60)],[]⟩ .nil) .nil))))) .nil)) .nil)))) .nil))) .nil))))
noncomputable def rulesPieces_con:Con:=⟨[Zt15],true,[],Zt60,fun x=>qhH x.1,none⟩
noncomputable def qi5:Env:=(68,.con rulesWithin_con)::(128,.body Tryz.f128)::(179,.body Tryz.f179)::(127,.body Tryz.f127)::(58,.ck 64)::[]
theorem qpF (x:DL rulesPieces_con.ps):rulesPieces_con.φ x=denF Tryz.prog qi5 qju Tryz.f69 rulesPieces_con.ps rulesPieces_con.one rulesPieces_con.res rulesPieces_con.ρ x:=by kernel_rfl
theorem qqJ:ConOK Tryz.prog 69 rulesPieces_con :=
 qb (env:=qi5) ((EnvOK.cons (EnvOK.body (EnvOK.body (EnvOK.body (EnvOK.check (EnvOK.nil _) qd) Tryz.func127) Tryz.func179) Tryz.func128) qgP)) mixed Tryz.func69 rulesPieces_con qju (by kernel_rfl) (fun h=>by first | rfl | cases h) (fun g hg=>by cases hg) qpF
def qfy:Ann:=(.two .nil (.two .nil (.two (.two .nil (.joinE ⟨[],[],[]⟩ (.two (.loop ⟨[1,12,13],[(14,Zt60)],[]⟩ (.two .nil (.two .nil (.two (.two (.two .nil (.two .nil (.two (.two .nil (.two (.two .nil (.joinE ⟨[1,12,13,14],[(5,.bool),(6,.bool)],[]⟩ (.two .nil (.two .nil (.joinE ⟨[1,6,12,13,14],[(5,.bool)],[]⟩ .nil))))) .nil)) .nil))) .nil) .nil)))) .nil))) .nil)))
noncomputable def rulesConditions_con:Con:=⟨[Zt15],true,[],Zt60,fun x=>qb5 x.1,none⟩
noncomputable def qfn:Env:=(68,.con rulesWithin_con)::(58,.ck 64)::[]
theorem qlj (x:DL rulesConditions_con.ps):rulesConditions_con.φ x=denF Tryz.prog qfn qfy Tryz.f72 rulesConditions_con.ps rulesConditions_con.one rulesConditions_con.res rulesConditions_con.ρ x:=by kernel_rfl
theorem qm0:ConOK Tryz.prog 72 rulesConditions_con :=
 qb (env:=qfn) ((EnvOK.cons (EnvOK.check (EnvOK.nil _) qd) qgP)) mixed Tryz.func72 rulesConditions_con qfy (by kernel_rfl) (fun h=>by first | rfl | cases h) (fun g hg=>by cases hg) qlj
def qk1:Ann:=(.two .nil (.two .nil (.two .nil (.two .nil (.two .nil (.two (.two (.two (.two .nil (.two (.two (.two .nil (.two (.two .nil (.joinE ⟨[],[],[]⟩ (.two (.loop ⟨[0,1,7],[(8,Zt60)],[]⟩ .nil) .nil))) .nil)) .nil) .nil)) .nil) .nil) .nil))))))
noncomputable def rulesCheck_con:Con:=⟨[Zt15],true,[],Zt60,fun x=>qdG x.1,none⟩
noncomputable def qkC:Env:=(72,.con rulesConditions_con)::(71,.body Tryz.f71)::(129,.body Tryz.f129)::(70,.body Tryz.f70)::(69,.con rulesPieces_con)::(68,.con rulesWithin_con)::(67,.con rulesName_con)::[]
theorem qqI (x:DL rulesCheck_con.ps):rulesCheck_con.φ x=denF Tryz.prog qkC qk1 Tryz.f36 rulesCheck_con.ps rulesCheck_con.one rulesCheck_con.res rulesCheck_con.ρ x:=by kernel_rfl
theorem qe3:ConOK Tryz.prog 36 rulesCheck_con :=
 qb (env:=qkC) ((EnvOK.cons (EnvOK.body (EnvOK.body (EnvOK.body (EnvOK.cons (EnvOK.cons (EnvOK.cons (EnvOK.nil _) qn0) qgP) qqJ) Tryz.func70) Tryz.func129) Tryz.func71) qm0)) mixed Tryz.func36 rulesCheck_con qk1 (by kernel_rfl) (fun h=>by first | rfl | cases h) (fun g hg=>by cases hg) qqI
def qex:Ann:=(.two .nil (.two .nil (.two (.two .nil (.join ⟨[0],[(3,Zt60)],[]⟩ (.two (.loop ⟨[0,9,10],[(3,Zt60),(11,Zt60)],[]⟩ .nil) .nil))) (.two (.two (.two .nil (.two .nil (.two (.two .nil (.two .nil (.join ⟨[],[(0,Zt57)],[]⟩ (.two (.own (.own .nil)) .nil)))) .nil))) .nil) (.two (.two .nil (.join ⟨[],[(6,Zt57)],[(0,none)]⟩ (.two (.loop ⟨[25,26],[(6,Zt57),(27,Zt60)],[(0,none)]⟩ .nil) .nil))) .nil)))))
noncomputable def slicesConcat_int_con:Con:=⟨[(.sl Zt58)],true,[],Zt57,fun x=>qcE x.1,none⟩
noncomputable def qeH:Env:=(272,.body Tryz.f272)::[]
theorem qj6 (x:DL slicesConcat_int_con.ps):slicesConcat_int_con.φ x=denF Tryz.prog qeH qex Tryz.f253 slicesConcat_int_con.ps slicesConcat_int_con.one slicesConcat_int_con.res slicesConcat_int_con.ρ x:=by kernel_rfl
theorem qlk:ConOK Tryz.prog 253 slicesConcat_int_con :=
 qb (env:=qeH) ((EnvOK.body (EnvOK.nil _) Tryz.func272)) mixed Tryz.func253 slicesConcat_int_con qex (by kernel_rfl) (fun h=>by first | rfl | cases h) (fun g hg=>by cases hg) qj6
def qi8:Ann:=(.ord 6 0 (.two .nil (.two (.two (.two .nil (.two (.two .nil (.joinE ⟨[],[],[]⟩ (.two (.loop ⟨[0,1,7],[(8,Zt60)],[]⟩ .nil) .nil))) .nil)) .nil) .nil)) (.ord 7 0 .nil (.ord 8 0 .nil (.ord 9 0 .nil (.ord 10 0 .nil (.ord 11 0 (.two .nil (.two (.two (.two .nil (.two (.two .nil (.joinE ⟨[],[],[]⟩ (.two (.loop ⟨[0,1,7],[(8,Zt60)],[]⟩ .nil) .nil))) .nil)) .nil) .nil)) (.ord 12 0 .nil (.ord 13 0 .nil (.ord 14 0 .nil (.ord 15 0 .nil (.ord 16 0 .nil (.ord 17 0 .nil (.ord 18 0 .nil (.ord 19 0 .nil (.ord 20 0 .nil (.ord 21 0 .nil (.ord 22 0 .nil (.ord 23 0 .nil (.ord 24 0 .nil (.ord 25 0 .nil (.ord 26 0 .nil (.ord 27 0 .nil (.ord 28 0 .nil (.ord 29 0 .nil (.ord 30 0 .nil (.ord 31 0 .nil (.ord 32 0 .nil .nil)))))))))))))))))))))))))))
def qkP:Ann:=(.two .nil (.two .nil (.two .nil (.two .nil (.two .nil (.two (.two (.join ⟨[],[(76,.bool)],[]⟩ (.any 8589931423 0 (.ord 0 0 .nil (.ord 2 0 .nil (.ord 3 0 .nil (.ord 4 0 .nil (.alt (.ord 1 0 .nil (.ord 5 0 .nil qi8)) (.ord 5 0 .nil (.ord 1 0 .nil qi8))))))))) .nil) .nil))))))
noncomputable def placeSound_con:Con:=⟨[Zt15,Zt29],true,[],Zt60,fun x=>qjU x.1 x.2.1,none⟩
noncomputable def qk2:Env:=(252,.body Tryz.f252)::(129,.body Tryz.f129)::(70,.body Tryz.f70)::(251,.body Tryz.f251)::(253,.con slicesConcat_int_con)::[]
theorem qqf (x:DL placeSound_con.ps):placeSound_con.φ x=denF Tryz.prog qk2 qkP Tryz.f222 placeSound_con.ps placeSound_con.one placeSound_con.res placeSound_con.ρ x:=by kernel_rfl
theorem qsa:ConOK Tryz.prog 222 placeSound_con :=
 qb (env:=qk2) ((EnvOK.body (EnvOK.body (EnvOK.body (EnvOK.body (EnvOK.cons (EnvOK.nil _) qlk) Tryz.func251) Tryz.func70) Tryz.func129) Tryz.func252)) mixed Tryz.func222 placeSound_con qkP (by kernel_rfl) (fun h=>by first | rfl | cases h) (fun g hg=>by cases hg) qqf
def qkk:Ann := .nil
noncomputable def placeCheck_con:Con:=⟨[Zt15,Zt29],true,[],Zt60,fun x=>qhe x.1 x.2.1,none⟩
noncomputable def qkN:Env:=(222,.con placeSound_con)::(36,.con rulesCheck_con)::[]
theorem qqL (x:DL placeCheck_con.ps):placeCheck_con.φ x=denF Tryz.prog qkN qkk Tryz.f172 placeCheck_con.ps placeCheck_con.one placeCheck_con.res placeCheck_con.ρ x:=by kernel_rfl
theorem qmX:ConOK Tryz.prog 172 placeCheck_con :=
 qb (env:=qkN) ((EnvOK.cons (EnvOK.cons (EnvOK.nil _) qe3) qsa)) mixed Tryz.func172 placeCheck_con qkk (by kernel_rfl) (fun h=>by first | rfl | cases h) (fun g hg=>by cases hg) qqL
def qoh:Ann:=(.two .nil (.two .nil (.two (.two .nil (.joinE ⟨[],[],[]⟩ (.two (.loop ⟨[3,4,9,19],[(20,Zt60)],[]⟩ (.two .nil (.two .nil (.two (.joinE ⟨[3,4,9,19,20],[],[]⟩ (.two (.two .nil (.two .nil (.joinE ⟨[3,4,9,19,20],[],[]⟩ (.two (.loop ⟨[3,4,9,10,19,20,27],[(28,Zt60)],[]⟩ (.two .nil (.two .nil (.two (.joinE ⟨[3,4,9,10,19,20,27,28],[],[]⟩ (.two (.two .nil (.two .nil (.two (.join ⟨[3,4,9,10,19,20,27,28],[(15,Zt60)],[]⟩ (.two (.loop ⟨[3,4,9,10,12,19,20,27,28],[(13,Zt60),(14,Zt60),(15,Zt60)],[]⟩ (.two (.two (.join ⟨[3,4,9,10,12,13,14,15,19,20,27,28],[(47,.bool)],[]⟩ .nil) .nil) .nil)) .nil)) .nil))) .nil)) .nil)))) .nil)))) .nil)) .nil)))) .nil))) .nil)))
noncomputable def endsLine_con:Con:=⟨[Zt15,Zt29,Zt60,Zt60],true,[],.bool,fun x=>qoB x.1 x.2.1 x.2.2.1 x.2.2.2.1,none⟩
noncomputable def qnX:Env:=(243,.body Tryz.f243)::(58,.ck 64)::[]
theorem qtC (x:DL endsLine_con.ps):endsLine_con.φ x=denF Tryz.prog qnX qoh Tryz.f207 endsLine_con.ps endsLine_con.one endsLine_con.res endsLine_con.ρ x:=by kernel_rfl
theorem qvj:ConOK Tryz.prog 207 endsLine_con :=
 qb (env:=qnX) ((EnvOK.body (EnvOK.check (EnvOK.nil _) qd) Tryz.func243)) mixed Tryz.func207 endsLine_con qoh (by kernel_rfl) (fun h=>by first | rfl | cases h) (fun g hg=>by cases hg) qtC
def qja:Ann := .nil
noncomputable def rulesIsLast_con:Con:=⟨[Zt15,Zt60,Zt60],true,[],.bool,fun x=>qfC x.1 x.2.1 x.2.2.1,none⟩
noncomputable def qjg:Env:=[]
theorem qoQ (x:DL rulesIsLast_con.ps):rulesIsLast_con.φ x=denF Tryz.prog qjg qja Tryz.f103 rulesIsLast_con.ps rulesIsLast_con.one rulesIsLast_con.res rulesIsLast_con.ρ x:=by kernel_rfl
theorem qkX:ConOK Tryz.prog 103 rulesIsLast_con :=
 qb (env:=qjg) ((EnvOK.nil _)) mixed Tryz.func103 rulesIsLast_con qja (by kernel_rfl) (fun h=>by first | rfl | cases h) (fun g hg=>by cases hg) qoQ
def qmq:Ann:=(.two .nil (.two (.two .nil (.joinE ⟨[3,5,6],[],[]⟩ (.two (.two .nil (.two .nil (.two .nil (.two (.two (.two .nil (.joinE ⟨[3,5,6],[],[]⟩ (.two (.loop ⟨[3,4,5,6,27,28],[(29,Zt60)],[]⟩ .nil) .nil))) .nil) .nil)))) .nil))) (.two .nil (.two (.two .nil (.join ⟨[6],[(11,Zt60)],[]⟩ (.two (.loop ⟨[3,6,50,51],[(11,Zt60),(52,Zt60)],[]⟩ (.two .nil (.two .nil (.two (.two (.two .nil (.two .nil (.join ⟨[3,6,50,51,52],[(11,Zt60)],[]⟩ .nil))) .nil) .nil)))) .nil))) .nil))))
noncomputable def endsHolds_con:Con:=⟨[Zt15,Zt29,Zt43,Zt60],true,[],.bool,fun x=>qme x.1 x.2.1 x.2.2.1 x.2.2.2.1,none⟩
noncomputable def qmR:Env:=(103,.con rulesIsLast_con)::(207,.con endsLine_con)::[]
theorem qse (x:DL endsHolds_con.ps):endsHolds_con.φ x=denF Tryz.prog qmR qmq Tryz.f158 endsHolds_con.ps endsHolds_con.one endsHolds_con.res endsHolds_con.ρ x:=by kernel_rfl
theorem qub:ConOK Tryz.prog 158 endsHolds_con :=
 qb (env:=qmR) ((EnvOK.cons (EnvOK.cons (EnvOK.nil _) qvj) qkX)) mixed Tryz.func158 endsHolds_con qmq (by kernel_rfl) (fun h=>by first | rfl | cases h) (fun g hg=>by cases hg) qse
def qog:Ann := .nil
noncomputable def endsWins_con:Con:=⟨[Zt60],true,[],Zt60,fun x=>qnw x.1,some fun x=>qcS x.1⟩
noncomputable def qnT:Env:=[]
theorem qtm (x:DL endsWins_con.ps):endsWins_con.φ x=denF Tryz.prog qnT qog Tryz.f159 endsWins_con.ps endsWins_con.one endsWins_con.res endsWins_con.ρ x:=by kernel_rfl
theorem quC:ConOK Tryz.prog 159 endsWins_con :=
 qb (env:=qnT) ((EnvOK.nil _)) mixed Tryz.func159 endsWins_con qog (by kernel_rfl) (fun h=>by first | rfl | cases h) (fun g hg x=>by
  cases hg
  exact qvt _) qtm
def qi0:Ann:=(.two .nil (.two (.two .nil (.joinE ⟨[],[],[]⟩ (.two (.loop ⟨[3,4],[(2,Zt60)],[]⟩ .nil) .nil))) .nil))
noncomputable def movesFilled_con:Con:=⟨[Zt15,Zt29,Zt60],true,[],.bool,fun x=>qhy x.1 x.2.1 x.2.2.1,none⟩
noncomputable def qjq:Env:=[]
theorem qpk (x:DL movesFilled_con.ps):movesFilled_con.φ x=denF Tryz.prog qjq qi0 Tryz.f165 movesFilled_con.ps movesFilled_con.one movesFilled_con.res movesFilled_con.ρ x:=by kernel_rfl
theorem qqg:ConOK Tryz.prog 165 movesFilled_con :=
 qb (env:=qjq) ((EnvOK.nil _)) mixed Tryz.func165 movesFilled_con qi0 (by kernel_rfl) (fun h=>by first | rfl | cases h) (fun g hg=>by cases hg) qpk
def qmQ:Ann:=(.two .nil (.two .nil (.two (.two .nil (.join ⟨[],[(5,Zt45)],[]⟩ (.two (.loop ⟨[2,3,11,12],[(5,Zt45),(13,Zt60)],[]⟩ (.two .nil (.two .nil (.two (.join ⟨[2,3,11,12,13],[(5,Zt45)],[(2,none)]⟩ (.two (.two .nil (.two .nil (.two .nil (.join ⟨[2,3,11,12,13],[(5,Zt45)],[(2,none)]⟩ (.two (.loop ⟨[2,3,6,11,12,13,41,42],[(5,Zt45),(43,Zt60)],[(2,none)]⟩ (.two .nil (.two .nil (.two (.two (.two .nil (.two .nil (.join ⟨[2,3,6,11,12,13,41,42,43],[(5,Zt45)],[(3,none)]⟩ .nil))) .nil) .nil)))) .nil))))) .nil)) .nil)))) .nil))) .nil)))
noncomputable def movesPuts_con:Con:=⟨[Zt15,Zt29],true,[],Zt45,fun x=>qmt x.1 x.2.1,none⟩
noncomputable def qmr:Env:=(165,.con movesFilled_con)::[]
theorem qsy (x:DL movesPuts_con.ps):movesPuts_con.φ x=denF Tryz.prog qmr qmQ Tryz.f101 movesPuts_con.ps movesPuts_con.one movesPuts_con.res movesPuts_con.ρ x:=by kernel_rfl
theorem qun:ConOK Tryz.prog 101 movesPuts_con :=
 qb (env:=qmr) ((EnvOK.cons (EnvOK.nil _) qqg)) mixed Tryz.func101 movesPuts_con qmQ (by kernel_rfl) (fun h=>by first | rfl | cases h) (fun g hg=>by cases hg) qsy
def qn3:Ann:=(.two .nil (.two .nil (.two .nil (.two (.two .nil (.join ⟨[2,4,5,7,9],[(10,Zt60)],[]⟩ .nil)) (.two .nil (.two (.two .nil (.join ⟨[],[(9,Zt57)],[]⟩ (.two (.loop ⟨[4,5,7,10,31],[(9,Zt57),(11,Zt60),(12,Zt60),(32,Zt60)],[]⟩ (.two .nil (.two .nil (.two (.two (.two .nil (.two .nil (.two .nil (.two .nil (.two (.two .nil (.join ⟨[4,5,7,10,11,12,13,31,32],[(9,Zt57)],[(3,none)]⟩ .nil)) .nil))))) .nil) .nil)))) .nil))) .nil))))))
noncomputable def movesWay_con:Con:=⟨[Zt15,Zt29,Zt60,Zt41],true,[],Zt57,fun x=>qoD x.1 x.2.1 x.2.2.1 x.2.2.2.1,none⟩
noncomputable def qoi:Env:=[]
theorem qtV (x:DL movesWay_con.ps):movesWay_con.φ x=denF Tryz.prog qoi qn3 Tryz.f102 movesWay_con.ps movesWay_con.one movesWay_con.res movesWay_con.ρ x:=by kernel_rfl
theorem quz:ConOK Tryz.prog 102 movesWay_con :=
 qb (env:=qoi) ((EnvOK.nil _)) mixed Tryz.func102 movesWay_con qn3 (by kernel_rfl) (fun h=>by first | rfl | cases h) (fun g hg=>by cases hg) qtV
def qm5:Ann:=(.two .nil (.two .nil (.two (.two .nil (.join ⟨[],[(5,Zt45)],[(2,none)]⟩ (.two (.loop ⟨[2,3,19,20],[(5,Zt45),(21,Zt60)],[(2,none)]⟩ (.two .nil (.two .nil (.two (.join ⟨[2,3,19,20,21],[(5,Zt45)],[(3,none)]⟩ (.two (.two .nil (.two .nil (.two .nil (.two .nil (.join ⟨[2,3,19,20,21],[(5,Zt45)],[(3,none)]⟩ (.two (.loop ⟨[2,3,6,8,19,20,21,44,45],[(5,Zt45),(46,Zt60)],[(3,none)]⟩ (.two .nil (.two .nil (.two (.join ⟨[2,3,6,8,19,20,21,44,45,46],[(5,Zt45)],[(4,none)]⟩ (.two (.two .nil (.two .nil (.join ⟨[2,3,6,8,19,20,21,44,45,46],[(5,Zt45)],[(4,none)]⟩ (.two (.loop ⟨[2,3,6,8,19,20,21,44,45,46,54,55],[(5,Zt45),(56,Zt60)],[(4,none)]⟩ (.two .nil (.two .nil (.two (.two (.two .nil (.two .nil (.two (.two .nil (.two .nil (.join ⟨[2,3,5,6,8,13,19,20,21,44,45,46,54,55,56],[],[(8,some (.box Zt49))]⟩ .nil))) .nil))) .nil) .nil)))) .nil)))) .nil)) .nil)))) .nil)))))) .nil)) .nil)))) .nil))) (.two .nil (.two (.join ⟨[],[(4,Zt45)],[(3,none)]⟩ (.two (.two .nil (.two .nil (.two (.two .nil (.joinE ⟨[0],[],[(3,some (.arr 49 Zt49))]⟩ (.two (.loop ⟨[0],[(3,Zt60)],[(3,some (.arr 49 Zt49))]⟩ (.two .nil (.two (.joinE ⟨[0],[(3,Zt60)],[(3,some (.arr 49 Zt49))]⟩ (.two (.two .nil (.two (.two (.own .nil) (.two (.two .nil (.join ⟨[0],[(3,Zt60)],[(3,some (.arr 49 Zt49))]⟩ (.two (.loop ⟨[0,4],[(3,Zt60),(5,Zt60)],[(3,some (.arr 49 Zt49))]⟩ (.two .nil (.two (.two (.two .nil (.join ⟨[0,4,5],[(3,Zt60)],[(3,some (.arr 49 Zt49))]⟩ .nil)) .nil) .nil))) .nil))) (.two (.own .nil) (.two (.own .nil) .nil)))) .nil)) .nil)) .nil))) .nil))) .nil))) .nil)) .nil)))))
noncomputable def movesList_con:Con:=⟨[Zt15,Zt29],true,[],Zt45,fun x=>qaj x.1 x.2.1,none⟩
noncomputable def qmu:Env:=(108,.body Tryz.f108)::(104,.srt qhL)::(103,.con rulesIsLast_con)::(102,.con movesWay_con)::(58,.ck 64)::(101,.con movesPuts_con)::[]
theorem qr6 (x:DL movesList_con.ps):movesList_con.φ x=denF Tryz.prog qmu qm5 Tryz.f49 movesList_con.ps movesList_con.one movesList_con.res movesList_con.ρ x:=by kernel_rfl
theorem qcQ:ConOK Tryz.prog 49 movesList_con :=
 qb (env:=qmu) ((EnvOK.body (EnvOK.sort (EnvOK.cons (EnvOK.cons (EnvOK.check (EnvOK.cons (EnvOK.nil _) qun) qd) quz) qkX) qtG) Tryz.func108)) mixed Tryz.func49 movesList_con qm5 (by kernel_rfl) (fun h=>by first | rfl | cases h) (fun g hg=>by cases hg) qr6
def qky:Ann:=(.two .nil (.two .nil (.two (.two (.two (.two .nil (.two (.two .nil (.joinE ⟨[],[],[]⟩ (.two (.loop ⟨[0,1,7],[(8,Zt60)],[]⟩ .nil) .nil))) .nil)) .nil) .nil) .nil)))
noncomputable def endsResult_con:Con:=⟨[Zt15,Zt29],true,[],Zt60,fun x=>qdD x.1 x.2.1,none⟩
noncomputable def qkj:Env:=(159,.con endsWins_con)::(49,.con movesList_con)::(158,.con endsHolds_con)::(157,.body Tryz.f157)::(156,.body Tryz.f156)::(58,.ck 64)::[]
theorem qqq (x:DL endsResult_con.ps):endsResult_con.φ x=denF Tryz.prog qkj qky Tryz.f96 endsResult_con.ps endsResult_con.one endsResult_con.res endsResult_con.ρ x:=by kernel_rfl
theorem qhx:ConOK Tryz.prog 96 endsResult_con :=
 qb (env:=qkj) ((EnvOK.cons (EnvOK.cons (EnvOK.cons (EnvOK.body (EnvOK.body (EnvOK.check (EnvOK.nil _) qd) Tryz.func156) Tryz.func157) qub) qcQ) quC)) mixed Tryz.func96 endsResult_con qky (by kernel_rfl) (fun h=>by first | rfl | cases h) (fun g hg=>by cases hg) qqq
def qmn:Ann := .nil
noncomputable def endsMoves_con:Con:=⟨[Zt15,Zt29],true,[],Zt45,fun x=>qhn x.1 x.2.1,none⟩
noncomputable def ql1:Env:=(49,.con movesList_con)::(96,.con endsResult_con)::[]
theorem qsz (x:DL endsMoves_con.ps):endsMoves_con.φ x=denF Tryz.prog ql1 qmn Tryz.f195 endsMoves_con.ps endsMoves_con.one endsMoves_con.res endsMoves_con.ρ x:=by kernel_rfl
theorem qnK:ConOK Tryz.prog 195 endsMoves_con :=
 qb (env:=ql1) ((EnvOK.cons (EnvOK.cons (EnvOK.nil _) qhx) qcQ)) mixed Tryz.func195 endsMoves_con qmn (by kernel_rfl) (fun h=>by first | rfl | cases h) (fun g hg=>by cases hg) qsz
def qn6:Ann := .nil
noncomputable def movesAll_con:Con:=⟨[Zt15,Zt29],false,[Zt45,Zt60],Zt34,fun x=>qoE x.1 x.2.1,none⟩
noncomputable def qn7:Env:=(49,.con movesList_con)::(172,.con placeCheck_con)::[]
theorem qs5 (x:DL movesAll_con.ps):movesAll_con.φ x=denF Tryz.prog qn7 qn6 Tryz.f110 movesAll_con.ps movesAll_con.one movesAll_con.res movesAll_con.ρ x:=by kernel_rfl
theorem qu9:ConOK Tryz.prog 110 movesAll_con :=
 qb (env:=qn7) ((EnvOK.cons (EnvOK.cons (EnvOK.nil _) qmX) qcQ)) mixed Tryz.func110 movesAll_con qn6 (by kernel_rfl) (fun h=>by first | rfl | cases h) (fun g hg=>by cases hg) qs5
def qeE:Ann:=(.two .nil (.two (.two .nil (.joinE ⟨[],[],[]⟩ (.two (.loop ⟨[0,3,7],[(8,Zt60)],[]⟩ .nil) .nil))) .nil))
noncomputable def slicesIndex_Move_con:Con:=⟨[Zt48,Zt49],true,[],Zt60,fun x=>qep x.1 x.2.1,none⟩
noncomputable def qeI:Env:=[]
theorem qj2 (x:DL slicesIndex_Move_con.ps):slicesIndex_Move_con.φ x=denF Tryz.prog qeI qeE Tryz.f155 slicesIndex_Move_con.ps slicesIndex_Move_con.one slicesIndex_Move_con.res slicesIndex_Move_con.ρ x:=by kernel_rfl
theorem qlI:ConOK Tryz.prog 155 slicesIndex_Move_con :=
 qb (env:=qeI) ((EnvOK.nil _)) mixed Tryz.func155 slicesIndex_Move_con qeE (by kernel_rfl) (fun h=>by first | rfl | cases h) (fun g hg=>by cases hg) qj2
def qc4:Ann := .nil
noncomputable def slicesContains_Move_con:Con:=⟨[Zt48,Zt49],true,[],.bool,fun x=>qp x.1 x.2.1,none⟩
noncomputable def qdl:Env:=(155,.con slicesIndex_Move_con)::[]
theorem qhU (x:DL slicesContains_Move_con.ps):slicesContains_Move_con.φ x=denF Tryz.prog qdl qc4 Tryz.f93 slicesContains_Move_con.ps slicesContains_Move_con.one slicesContains_Move_con.res slicesContains_Move_con.ρ x:=by kernel_rfl
theorem qbA:ConOK Tryz.prog 93 slicesContains_Move_con :=
 qb (env:=qdl) ((EnvOK.cons (EnvOK.nil _) qlI)) mixed Tryz.func93 slicesContains_Move_con qc4 (by kernel_rfl) (fun h=>by first | rfl | cases h) (fun g hg=>by cases hg) qhU
def qfJ:Ann := .nil
noncomputable def slicesClone_int_con:Con:=⟨[Zt58],true,[],Zt57,fun x=>qN x.1,none⟩
noncomputable def qfw:Env:=[]
theorem qlq (x:DL slicesClone_int_con.ps):slicesClone_int_con.φ x=denF Tryz.prog qfw qfJ Tryz.f59 slicesClone_int_con.ps slicesClone_int_con.one slicesClone_int_con.res slicesClone_int_con.ρ x:=by kernel_rfl
theorem qda:ConOK Tryz.prog 59 slicesClone_int_con :=
 qb (env:=qfw) ((EnvOK.nil _)) mixed Tryz.func59 slicesClone_int_con qfJ (by kernel_rfl) (fun h=>by first | rfl | cases h) (fun g hg=>by cases hg) qlq
def qmV:Ann:=(.two .nil (.two .nil (.two (.join ⟨[1,2],[],[(0,some (.box Zt30)),(2,none)]⟩ (.any 887 0 (.ord 0 0 .nil (.ord 1 0 .nil (.ord 2 115 .nil (.ord 4 0 .nil (.ord 5 0 .nil (.alt (.ord 3 0 .nil (.ord 6 0 .nil (.ord 7 0 .nil (.ord 8 0 .nil (.ord 9 0 .nil (.ord 10 0 .nil .nil)))))) (.ord 6 0 .nil (.ord 3 0 .nil (.ord 7 0 .nil (.ord 8 0 .nil (.ord 9 0 .nil (.ord 10 0 .nil .nil)))))))))))))) .nil)))
noncomputable def placeCopy_con:Con:=⟨[Zt29],true,[],Zt28,fun x=>qfe x.1,none⟩
noncomputable def qmm:Env:=(59,.con slicesClone_int_con)::(58,.ck 64)::[]
theorem qsR (x:DL placeCopy_con.ps):placeCopy_con.φ x=denF Tryz.prog qmm qmV Tryz.f95 placeCopy_con.ps placeCopy_con.one placeCopy_con.res placeCopy_con.ρ x:=by kernel_rfl
theorem qnH:ConOK Tryz.prog 95 placeCopy_con :=
 qb (env:=qmm) ((EnvOK.cons (EnvOK.check (EnvOK.nil _) qd) qda)) mixed Tryz.func95 placeCopy_con qmV (by kernel_rfl) (fun h=>by first | rfl | cases h) (fun g hg=>by cases hg) qsR
def qmO:Ann:=(.two .nil (.two .nil (.two .nil (.two (.two .nil (.join ⟨[3,4,5,6,7,8],[],[(4,some (.arr 3 Zt60)),(5,some (.arr 3 Zt60)),(6,some (.arr 3 Zt60))]⟩ (.two .nil (.join ⟨[3,4,5,6,7,8],[],[(5,some (.arr 3 Zt60)),(6,some (.arr 3 Zt60))]⟩ (.tail 11 .nil))))) (.two .nil (.two (.two .nil (.join ⟨[4,5,6,7,8],[],[(5,some (.arr 3 Zt60)),(6,some (.arr 3 Zt60))]⟩ (.two (.two .nil (.join ⟨[4,5,6,7,8],[],[(5,some (.arr 3 Zt60)),(6,some (.arr 3 Zt60))]⟩ (.tail 17 .nil))) .nil))) (.two .nil (.two (.two .nil (.join ⟨[4,6,7],[],[(4,none),(5,none),(6,none),(7,some (.box Zt30))]⟩ .nil)) .nil))))))))
noncomputable def movesMake_con:Con:=⟨[Zt15,Zt29,Zt49],true,[],Zt28,fun x=>qr x.1 x.2.1 x.2.2.1,none⟩
noncomputable def qmd:Env:=(95,.con placeCopy_con)::(58,.ck 64)::[]
theorem qrR (x:DL movesMake_con.ps):movesMake_con.φ x=denF Tryz.prog qmd qmO Tryz.f50 movesMake_con.ps movesMake_con.one movesMake_con.res movesMake_con.ρ x:=by kernel_rfl
theorem qgI:ConOK Tryz.prog 50 movesMake_con :=
 qb (env:=qmd) ((EnvOK.cons (EnvOK.check (EnvOK.nil _) qd) qnH)) mixed Tryz.func50 movesMake_con qmO (by kernel_rfl) (fun h=>by first | rfl | cases h) (fun g hg=>by cases hg) qrR
def qZ:Ann:=(.ord 13 0 .nil (.ord 16 0 .nil (.ord 18 0 .nil (.ord 19 0 .nil .nil))))
def qdm:Ann:=(.alt (.ord 6 0 .nil (.ord 15 0 .nil (.ord 12 0 .nil qZ))) (.ord 12 0 .nil (.ord 6 0 .nil (.ord 15 0 .nil qZ))))
def qjf:Ann:=(.alt (.ord 6 0 .nil (.ord 9 155135 .nil (.ord 15 0 .nil (.ord 12 0 .nil qZ)))) (.alt (.ord 9 0 .nil qdm) (.ord 12 0 .nil (.alt (.ord 6 0 .nil (.ord 9 0 .nil (.ord 15 0 .nil qZ))) (.ord 9 0 .nil (.ord 6 0 .nil (.ord 15 0 .nil qZ)))))))
def qfz:Ann:=(.ord 11 182271 .nil (.ord 15 0 .nil (.ord 12 0 .nil qZ)))
def qjD:Ann:=(.alt (.ord 5 0 .nil qdm) (.ord 12 0 .nil (.ord 5 0 .nil (.ord 6 0 .nil (.ord 15 0 .nil qZ)))))
def qkT:Ann:=(.two .nil (.two .nil (.two .nil (.two (.two .nil (.join ⟨[2,5],[],[(2,none),(3,some (.box Zt30))]⟩ (.two (.loop ⟨[2,5,19,20],[(21,Zt60)],[(2,none),(3,some (.box Zt30))]⟩ (.two .nil (.two .nil (.two (.two (.two .nil (.join ⟨[2,5,19,20,21],[],[(3,some (.box Zt30)),(4,none),(5,none),(6,none)]⟩ (.any 446367 4128 (.ord 0 0 .nil (.ord 1 0 .nil (.ord 2 155579 .nil (.ord 3 0 .nil (.ord 4 155535 .nil (.ord 7 0 .nil (.ord 8 0 .nil (.ord 10 0 .nil (.ord 14 0 .nil (.ord 17 0 .nil (.alt (.ord 5 0 .nil (.alt (.ord 6 0 .nil (.ord 9 155135 .nil qfz)) (.alt (.ord 9 0 .nil (.alt (.ord 6 0 .nil qfz) (.ord 11 0 .nil qdm))) (.ord 11 0 .nil qjf)))) (.alt (.ord 9 0 .nil (.alt (.ord 5 0 .nil (.alt (.ord 6 0 .nil qfz) (.ord 11 0 .nil qdm))) (.ord 11 0 .nil qjD))) (.ord 11 0 .nil (.alt (.ord 5 0 .nil qjf) (.alt (.ord 9 0 .nil qjD) (.ord 12 0 .nil (.alt (.ord 5 0 .nil (.alt (.ord 6 0 .nil (.ord 9 0 .nil (.ord 15 0 .nil qZ))) (.ord 9 0 .nil (.ord 6 0 .nil (.ord 15 0 .nil qZ))))) (.ord 9 0 .nil (.ord 5 0 .nil (.ord 6 0 .nil (.ord 15 0 .nil qZ)))))))))))))))))))))))) .nil) .nil)))) .nil))) .nil))))
noncomputable def placeBegin_con:Con:=⟨[Zt15],false,[Zt28,Zt60],(.st Zt28 Zt56),fun x=>qbx x.1,none⟩
noncomputable def qkx:Env:=(59,.con slicesClone_int_con)::(36,.con rulesCheck_con)::(58,.ck 64)::[]
theorem qqM (x:DL placeBegin_con.ps):placeBegin_con.φ x=denF Tryz.prog qkx qkT Tryz.f23 placeBegin_con.ps placeBegin_con.one placeBegin_con.res placeBegin_con.ρ x:=by kernel_rfl
theorem qcb:ConOK Tryz.prog 23 placeBegin_con :=
 qb (env:=qkx) ((EnvOK.cons (EnvOK.cons (EnvOK.check (EnvOK.nil _) qd) qe3) qda)) mixed Tryz.func23 placeBegin_con qkT (by kernel_rfl) (fun h=>by first | rfl | cases h) (fun g hg=>by cases hg) qqM
def qfA:Ann:=(.two .nil (.two .nil (.two (.two .nil (.joinE ⟨[],[],[]⟩ (.two (.loop ⟨[0,1,12],[(13,Zt60)],[]⟩ .nil) .nil))) .nil)))
noncomputable def slicesEqual_int_con:Con:=⟨[Zt58,Zt58],true,[],.bool,fun x=>qa9 x.1 x.2.1,none⟩
noncomputable def qfd:Env:=[]
theorem qlD (x:DL slicesEqual_int_con.ps):slicesEqual_int_con.φ x=denF Tryz.prog qfd qfA Tryz.f54 slicesEqual_int_con.ps slicesEqual_int_con.one slicesEqual_int_con.res slicesEqual_int_con.ρ x:=by kernel_rfl
theorem qlL:ConOK Tryz.prog 54 slicesEqual_int_con :=
 qb (env:=qfd) ((EnvOK.nil _)) mixed Tryz.func54 slicesEqual_int_con qfA (by kernel_rfl) (fun h=>by first | rfl | cases h) (fun g hg=>by cases hg) qlD
def qmL:Ann := .nil
noncomputable def placeSame_con:Con:=⟨[Zt29,Zt29],true,[],.bool,fun x=>qec x.1 x.2.1,none⟩
noncomputable def qmF:Env:=(54,.con slicesEqual_int_con)::[]
theorem qsP (x:DL placeSame_con.ps):placeSame_con.φ x=denF Tryz.prog qmF qmL Tryz.f18 placeSame_con.ps placeSame_con.one placeSame_con.res placeSame_con.ρ x:=by kernel_rfl
theorem qnV:ConOK Tryz.prog 18 placeSame_con :=
 qb (env:=qmF) ((EnvOK.cons (EnvOK.nil _) qlL)) mixed Tryz.func18 placeSame_con qmL (by kernel_rfl) (fun h=>by first | rfl | cases h) (fun g hg=>by cases hg) qsP
def qdf:Ann := .nil
noncomputable def slicesClone_RuleWay_con:Con:=⟨[Zt38],true,[],(.osl 184 Zt41),fun x=>qbh x.1,none⟩
noncomputable def qc5:Env:=[]
theorem qhO (x:DL slicesClone_RuleWay_con.ps):slicesClone_RuleWay_con.φ x=denF Tryz.prog qc5 qdf Tryz.f139 slicesClone_RuleWay_con.ps slicesClone_RuleWay_con.one slicesClone_RuleWay_con.res slicesClone_RuleWay_con.ρ x:=by kernel_rfl
theorem qix:ConOK Tryz.prog 139 slicesClone_RuleWay_con :=
 qb (env:=qc5) ((EnvOK.nil _)) mixed Tryz.func139 slicesClone_RuleWay_con qdf (by kernel_rfl) (fun h=>by first | rfl | cases h) (fun g hg=>by cases hg) qhO
def qdn:Ann := .nil
noncomputable def slicesClone_RuleEnd_con:Con:=⟨[Zt42],true,[],Zt39,fun x=>qaK x.1,none⟩
noncomputable def qdj:Env:=[]
theorem qhM (x:DL slicesClone_RuleEnd_con.ps):slicesClone_RuleEnd_con.φ x=denF Tryz.prog qdj qdn Tryz.f140 slicesClone_RuleEnd_con.ps slicesClone_RuleEnd_con.one slicesClone_RuleEnd_con.res slicesClone_RuleEnd_con.ρ x:=by kernel_rfl
theorem qiy:ConOK Tryz.prog 140 slicesClone_RuleEnd_con :=
 qb (env:=qdj) ((EnvOK.nil _)) mixed Tryz.func140 slicesClone_RuleEnd_con qdn (by kernel_rfl) (fun h=>by first | rfl | cases h) (fun g hg=>by cases hg) qhM
def qmv:Ann:=(.two .nil (.two .nil (.two .nil (.two (.two .nil (.join ⟨[1,2,3],[],[(2,some (.box Zt14))]⟩ (.two (.loop ⟨[1,2,3,9,10],[(11,Zt60)],[(2,some (.box Zt14))]⟩ .nil) .nil))) (.two (.join ⟨[2,3],[],[(2,some (.box Zt13)),(3,none)]⟩ (.any 347 0 (.ord 0 0 .nil (.ord 1 25 .nil (.ord 3 0 .nil (.alt (.ord 2 0 .nil (.ord 4 79 .nil (.ord 6 0 .nil (.ord 5 0 .nil (.ord 7 0 .nil (.ord 8 0 .nil (.ord 9 0 .nil .nil))))))) (.ord 4 0 .nil (.ord 2 0 .nil (.ord 6 0 .nil (.ord 5 0 .nil (.ord 7 0 .nil (.ord 8 0 .nil (.ord 9 0 .nil .nil))))))))))))) .nil)))))
noncomputable def rulesCopy_con:Con:=⟨[Zt15],true,[],Zt15,fun x=>qaT x.1,none⟩
noncomputable def qmE:Env:=(140,.con slicesClone_RuleEnd_con)::(59,.con slicesClone_int_con)::(139,.con slicesClone_RuleWay_con)::(58,.ck 64)::[]
theorem qr2 (x:DL rulesCopy_con.ps):rulesCopy_con.φ x=denF Tryz.prog qmE qmv Tryz.f83 rulesCopy_con.ps rulesCopy_con.one rulesCopy_con.res rulesCopy_con.ρ x:=by kernel_rfl
theorem qiP:ConOK Tryz.prog 83 rulesCopy_con :=
 qb (env:=qmE) ((EnvOK.cons (EnvOK.cons (EnvOK.cons (EnvOK.check (EnvOK.nil _) qd) qix) qda) qiy)) mixed Tryz.func83 rulesCopy_con qmv (by kernel_rfl) (fun h=>by first | rfl | cases h) (fun g hg=>by cases hg) qr2
def qgG:Ann:=(.two .nil (.two .nil (.two (.two .nil (.join ⟨[],[(3,Zt60)],[]⟩ (.two (.loop ⟨[0,9,10],[(3,Zt60),(11,Zt60)],[]⟩ (.two .nil (.two .nil (.two (.two (.two .nil (.two (.join ⟨[0,3,9,10,11],[(18,.bool)],[]⟩ (.any 3 0 (.ord 1 0 .nil (.alt (.ord 0 0 .nil (.ord 2 0 (.two .nil (.two (.tail 12 .nil) .nil)) (.ord 3 0 .nil .nil))) (.ord 2 0 (.two .nil (.two (.tail 12 .nil) .nil)) (.ord 0 0 .nil (.ord 3 0 .nil .nil))))))) (.join ⟨[0,9,10,11],[(3,Zt60)],[]⟩ .nil))) .nil) .nil)))) .nil))) .nil)))
noncomputable def plainGameCount_con:Con:=⟨[Zt8],true,[],Zt60,fun x=>qdS x.1,none⟩
noncomputable def qfZ:Env:=(18,.con placeSame_con)::(94,.body Tryz.f94)::(58,.ck 64)::[]
theorem qmg (x:DL plainGameCount_con.ps):plainGameCount_con.φ x=denB Tryz.prog qfZ qgG Tryz.f97 true plainGameCount_con.ps plainGameCount_con.one plainGameCount_con.res plainGameCount_con.ρ x:=by kernel_rfl
theorem qnp:qrg Tryz.prog 97 plainGameCount_con :=
 qmT (env:=qfZ) ((EnvOK.cons (EnvOK.body (EnvOK.check (EnvOK.nil _) qd) Tryz.func94) qnV)) mixed Tryz.func97 plainGameCount_con qgG (by kernel_rfl) (fun h=>by first | rfl | cases h) (fun g hg=>by cases hg) qmg
def qfP:Ann:=(.two .nil (.two (.join ⟨[0],[(3,Zt60)],[]⟩ (.any 159 0 (.ord 0 0 .nil (.ord 1 0 .nil (.ord 2 0 .nil (.ord 4 0 .nil (.alt (.ord 3 0 .nil (.ord 5 0 (.two .nil (.two (.tail 12 .nil) .nil)) (.ord 6 0 .nil (.ord 7 0 .nil .nil)))) (.ord 5 0 (.two .nil (.two (.tail 12 .nil) .nil)) (.ord 3 0 .nil (.ord 6 0 .nil (.ord 7 0 .nil .nil))))))))))) .nil))
noncomputable def plainGameResult_con:Con:=⟨[Zt8],true,[],Zt60,fun x=>qP x.1,none⟩
noncomputable def qft:Env:=(97,.rd plainGameCount_con)::(96,.con endsResult_con)::(58,.ck 64)::(94,.body Tryz.f94)::[]
theorem qll (x:DL plainGameResult_con.ps):plainGameResult_con.φ x=denB Tryz.prog qft qfP Tryz.f46 true plainGameResult_con.ps plainGameResult_con.one plainGameResult_con.res plainGameResult_con.ρ x:=by kernel_rfl
theorem qaS:qrg Tryz.prog 46 plainGameResult_con :=
 qmT (env:=qft) ((EnvOK.readonly (EnvOK.cons (EnvOK.check (EnvOK.body (EnvOK.nil _) Tryz.func94) qd) qhx) qnp)) mixed Tryz.func46 plainGameResult_con qfP (by kernel_rfl) (fun h=>by first | rfl | cases h) (fun g hg=>by cases hg) qll
def qau:Ann:=(.ord 13 0 .nil (.ord 14 0 .nil (.ord 15 0 .nil (.ord 16 0 .nil (.ord 17 0 .nil .nil)))))
def qaR:Ann:=(.alt (.ord 4 0 .nil (.ord 12 0 .nil qau)) (.ord 12 0 .nil (.ord 4 16367 .nil qau)))
def qbG:Ann:=(.ord 10 0 (.two .nil (.two (.tail 12 .nil) .nil)) (.ord 12 0 .nil qau))
def qW:Ann:=(.ord 8 0 .nil (.ord 9 0 .nil (.ord 10 0 .nil .nil)))
def qgv:Ann:=(.alt (.ord 10 0 (.two .nil (.two (.tail 12 .nil) .nil)) (.ord 11 0 .nil (.ord 12 0 .nil qau))) (.ord 11 0 .nil qbG))
def qgb:Ann:=(.alt (.ord 8 0 .nil qbG) (.ord 10 0 (.two .nil (.two (.tail 12 .nil) .nil)) (.ord 8 0 .nil (.ord 12 0 .nil qau))))
def qhk:Ann:=(.two .nil (.two (.two (.two .nil (.two .nil (.two (.join ⟨[0,3],[(9,.bool)],[]⟩ (.any 1695 0 (.ord 0 0 .nil (.ord 1 0 .nil (.ord 2 0 .nil (.ord 4 0 .nil (.alt (.ord 3 0 .nil (.alt (.ord 5 0 (.two .nil (.two (.tail 12 .nil) .nil)) (.alt (.ord 6 0 .nil (.ord 7 0 .nil qW)) (.ord 7 0 .nil (.ord 6 0 .nil qW)))) (.ord 7 0 .nil (.ord 5 0 (.two .nil (.two (.tail 12 .nil) .nil)) (.ord 6 0 .nil qW))))) (.alt (.ord 5 0 (.two .nil (.two (.tail 12 .nil) .nil)) (.ord 3 183 .nil (.alt (.ord 6 0 .nil (.ord 7 0 .nil qW)) (.ord 7 0 .nil (.ord 6 0 .nil qW))))) (.ord 7 0 .nil (.alt (.ord 3 0 .nil (.ord 5 0 (.two .nil (.two (.tail 12 .nil) .nil)) (.ord 6 0 .nil qW))) (.ord 5 0 (.two .nil (.two (.tail 12 .nil) .nil)) (.ord 3 0 .nil (.ord 6 0 .nil qW))))))))))))) .nil))) .nil) (.two (.join ⟨[0,3],[],[(0,some (.box Zt9)),(1,none),(2,none)]⟩ (.any 101375 8192 (.ord 0 0 .nil (.ord 1 0 .nil (.ord 2 0 .nil (.ord 3 0 .nil (.ord 5 0 .nil (.ord 6 0 .nil (.ord 7 0 .nil (.ord 9 0 .nil (.alt (.ord 4 0 .nil (.alt (.ord 8 0 .nil qgv) (.alt (.ord 10 0 (.two .nil (.two (.tail 12 .nil) .nil)) (.ord 8 3839 .nil (.ord 11 0 .nil (.ord 12 0 .nil qau)))) (.ord 11 0 .nil qgb)))) (.alt (.ord 8 0 .nil (.alt (.ord 4 0 .nil qgv) (.alt (.ord 10 0 (.two .nil (.two (.tail 12 .nil) .nil)) (.ord 11 2047 .nil qaR)) (.ord 11 0 .nil (.alt (.ord 4 0 .nil qbG) (.ord 10 0 (.two .nil (.two (.tail 12 .nil) .nil)) qaR)))))) (.alt (.ord 10 0 (.two .nil (.two (.tail 12 .nil) .nil)) (.ord 8 3839 .nil (.ord 11 2047 .nil qaR))) (.ord 11 0 .nil (.alt (.ord 4 0 .nil qgb) (.alt (.ord 8 0 .nil (.alt (.ord 4 0 .nil qbG) (.ord 10 0 (.two .nil (.two (.tail 12 .nil) .nil)) qaR))) (.ord 10 0 (.two .nil (.two (.tail 12 .nil) .nil)) (.ord 8 3839 .nil qaR)))))))))))))))))) (.two (.any 831 64 (.ord 0 0 .nil (.ord 1 0 .nil (.ord 2 0 .nil (.ord 3 0 .nil (.ord 4 111 .nil (.ord 5 0 .nil (.ord 6 0 .nil (.ord 7 0 .nil qW))))))))) .nil))))
noncomputable def plainGamePlay_con:Ioc:=⟨Zt5,[Zt49],true,[],Zt60,fun x=>qaU x.1 x.2.1⟩
noncomputable def qhp:Env:=(50,.con movesMake_con)::(93,.con slicesContains_Move_con)::(49,.con movesList_con)::(58,.ck 64)::(94,.body Tryz.f94)::(46,.rd plainGameResult_con)::[]
theorem qns (x:DL (Zt5::[Zt49])):plainGamePlay_con.φ x=denIO Tryz.prog qhp qhk Tryz.f44 Zt5 [Zt49] true [] Zt60 x:=by kernel_rfl
theorem qet:IocOK Tryz.prog 44 plainGamePlay_con :=
 qaG (env:=qhp) ((EnvOK.cons (EnvOK.cons (EnvOK.cons (EnvOK.check (EnvOK.body (EnvOK.readonly (EnvOK.nil _) qaS) Tryz.func94) qd) qcQ) qbA) qgI)) mixed Tryz.func44 plainGamePlay_con qhk (by kernel_rfl) (fun h=>by first | rfl | cases h) qns
def qd5:Ann:=(.two .nil (.two (.two (.two .nil (.two (.tail 12 .nil) .nil)) .nil) .nil))
noncomputable def plainGamePosition_con:Con:=⟨[Zt8],true,[],Zt28,fun x=>qm x.1,none⟩
noncomputable def qd2:Env:=(94,.body Tryz.f94)::(95,.con placeCopy_con)::(58,.ck 64)::[]
theorem qiX (x:DL plainGamePosition_con.ps):plainGamePosition_con.φ x=denB Tryz.prog qd2 qd5 Tryz.f45 true plainGamePosition_con.ps plainGamePosition_con.one plainGamePosition_con.res plainGamePosition_con.ρ x:=by kernel_rfl
theorem qa2:qrg Tryz.prog 45 plainGamePosition_con :=
 qmT (env:=qd2) ((EnvOK.body (EnvOK.cons (EnvOK.check (EnvOK.nil _) qd) qnH) Tryz.func94)) mixed Tryz.func45 plainGamePosition_con qd5 (by kernel_rfl) (fun h=>by first | rfl | cases h) (fun g hg=>by cases hg) qiX
def qnY:Ann:=(.two .nil (.two (.two (.two .nil (.two .nil (.two .nil (.two (.frz [3,4,5] (.join ⟨[],[(2,Zt3),(3,Zt60)],[]⟩ (.any 213 40 (.ord 0 12 .nil (.alt (.ord 1 0 .nil (.ord 2 0 .nil (.ord 3 0 .nil (.ord 4 0 .nil (.ord 5 0 .nil (.ord 6 0 .nil (.ord 7 0 .nil .nil))))))) (.ord 2 0 .nil (.alt (.ord 1 0 .nil (.ord 3 0 .nil (.ord 4 0 .nil (.ord 5 0 .nil (.ord 6 0 .nil (.ord 7 0 .nil .nil)))))) (.ord 3 0 .nil (.ord 1 0 .nil (.ord 4 0 .nil (.ord 5 0 .nil (.ord 6 0 .nil (.ord 7 0 .nil .nil))))))))))))) .nil)))) .nil) (.sel 7 1000013 (.two .nil (.two (.two .nil (.joinE ⟨[4,7],[],[(1,some (.box Zt30)),(7,some (.box Zt9)),(8,none),(9,none)]⟩ (.two (.loop ⟨[4,7,21,22],[(23,Zt60)],[(1,some (.box Zt30)),(7,some (.box Zt9)),(8,none),(9,none)]⟩ .nil) .nil))) .nil)) (.two .nil (.two (.two .nil (.joinE ⟨[4,7],[],[]⟩ (.two (.loop ⟨[4,7,21,22],[(23,Zt60)],[]⟩ .nil) .nil))) .nil)))))
noncomputable def plainRun_con:Con:=⟨[Zt15,Zt48],false,[Zt28,Zt60,Zt60],(.st Zt28 Zt52),fun x=>qah x.1 x.2.1,none⟩
noncomputable def qnO:Env:=(46,.rd plainGameResult_con)::(45,.rd plainGamePosition_con)::(44,.io plainGamePlay_con)::(83,.con rulesCopy_con)::(23,.con placeBegin_con)::(43,.body Tryz.f43)::(58,.ck 64)::[]
theorem qtw (x:DL plainRun_con.ps):plainRun_con.φ x=denF Tryz.prog qnO qnY Tryz.f13 plainRun_con.ps plainRun_con.one plainRun_con.res plainRun_con.ρ x:=by kernel_rfl
theorem qlw:ConOK Tryz.prog 13 plainRun_con :=
 qb (env:=qnO) ((EnvOK.readonly (EnvOK.readonly (EnvOK.inout (EnvOK.cons (EnvOK.cons (EnvOK.body (EnvOK.check (EnvOK.nil _) qd) Tryz.func43) qcb) qiP) qet) qa2) qaS)) mixed Tryz.func13 plainRun_con qnY (by kernel_rfl) (fun h=>by first | rfl | cases h) (fun g hg=>by cases hg) qtw
end Go.Proofs.YthidcmjpbokeeaaGreatDoor
