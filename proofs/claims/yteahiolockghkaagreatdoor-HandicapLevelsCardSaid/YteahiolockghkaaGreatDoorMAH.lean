/- Several texts in one: Base, MSortC, StrC, CoreC, SearchC. -/
import Derived.Test.YteahiolockghkaaGreatDoorProg
import Derived.Test.YteahiolockghkaaGreatDoorMAD
import Derived.Test.YteahiolockghkaaGreatDoorMAA
import Derived.Test.YteahiolockghkaaGreatDoorMAE
import Derived.Shelf.Strconv.Itoa3
import Derived.Shelf.Strings.OnBuilder
import Derived.Shelf.Small.Strs
import Derived.Shelf.Pu.ParseUintPublic10
import Derived.Shelf.Strings.Repeat
import Derived.Shelf.Strings.Search2
import Derived.Shelf.Strconv.Clone
import Derived.Shelf.Strings.SlTrimAscii
import Derived.Shelf.Strings.Builder1
namespace Go.Proofs.YteahiolockghkaaGreatDoor
theorem mixed:Tryz.prog.follows .mixedOrders=true:=by kernel_rfl
instance dqAll:Go.Den.DqAll Tryz.prog:=⟨fun g h=>by cases h⟩
instance dqUp:Go.Den.DqAll (CT:=Go.Den.ctxUp) Tryz.prog:=@Go.Den.DqAll.mk Go.Den.ctxUp Tryz.prog (fun g h=>by cases h)
end Go.Proofs.YteahiolockghkaaGreatDoor
namespace Go.Proofs.YteahiolockghkaaGreatDoor
open Go.Den
set_option linter.unusedVariables false
set_option maxRecDepth 100000
def qbV:Ann := .nil
noncomputable def cmpIsNaN_int_con:Con:=⟨[Zt39],true,[],.bool,fun x=>qez x.1,some fun x=>qC x.1⟩
noncomputable def qbY:Env:=[]
theorem qku (x:DL cmpIsNaN_int_con.ps):cmpIsNaN_int_con.φ x=denF (CT:=ctxUp) Tryz.prog qbY qbV Tryz.f151 cmpIsNaN_int_con.ps cmpIsNaN_int_con.one cmpIsNaN_int_con.res cmpIsNaN_int_con.ρ x:=by kernel_rfl
theorem qlH:ConOK (CT:=ctxUp) Tryz.prog 151 cmpIsNaN_int_con :=
 qa (CT:=ctxUp) (env:=qbY) ((EnvOK.nil (CT:=ctxUp) _)) mixed Tryz.func151 cmpIsNaN_int_con qbV (by kernel_rfl) (fun h=>by first | rfl | cases h) (fun g hg x=>by
  cases hg
  exact qgR _) qku
def qbd:Ann := .nil
noncomputable def cmpCompare_int_con:Con:=⟨[Zt39,Zt39],true,[],Zt39,fun x=>qdn x.1 x.2.1,some fun x=>qG x.1 x.2.1⟩
noncomputable def qbg:Env:=(151,.con cmpIsNaN_int_con)::[]
theorem qh7 (x:DL cmpCompare_int_con.ps):cmpCompare_int_con.φ x=denF (CT:=ctxUp) Tryz.prog qbg qbd Tryz.f125 cmpCompare_int_con.ps cmpCompare_int_con.one cmpCompare_int_con.res cmpCompare_int_con.ρ x:=by kernel_rfl
theorem qis:ConOK (CT:=ctxUp) Tryz.prog 125 cmpCompare_int_con :=
 qa (CT:=ctxUp) (env:=qbg) ((EnvOK.cons (CT:=ctxUp) (EnvOK.nil (CT:=ctxUp) _) qlH)) mixed Tryz.func125 cmpCompare_int_con qbd (by kernel_rfl) (fun h=>by first | rfl | cases h) (fun g hg x=>by
  cases hg
  exact qeC _ _) qh7
def qit:Ann:=(.two .nil (.two .nil (.two (.two .nil (.joinE ⟨[3],[],[]⟩ (.two (.loop ⟨[3,6,7],[(8,Zt39)],[]⟩ .nil) .nil))) .nil)))
noncomputable def cmpOr_int_con:Con:=⟨[Zt36],true,[],Zt39,fun x=>qjU x.1,none⟩
noncomputable def qi5:Env:=[]
theorem qoi (x:DL cmpOr_int_con.ps):cmpOr_int_con.φ x=denF (CT:=ctxUp) Tryz.prog qi5 qit Tryz.f162 cmpOr_int_con.ps cmpOr_int_con.one cmpOr_int_con.res cmpOr_int_con.ρ x:=by kernel_rfl
theorem qqo:ConOK (CT:=ctxUp) Tryz.prog 162 cmpOr_int_con :=
 qa (CT:=ctxUp) (env:=qi5) ((EnvOK.nil (CT:=ctxUp) _)) mixed Tryz.func162 cmpOr_int_con qit (by kernel_rfl) (fun h=>by first | rfl | cases h) (fun g hg=>by cases hg) qoi
def qkQ:Ann:=(.two .nil (.two (.tail 15 .nil) .nil))
noncomputable def movesCmp_con:Con:=⟨[Zt24,Zt24],true,[],Zt39,fun x=>qql x.1 x.2.1,none⟩
noncomputable def qls:Env:=(162,.con cmpOr_int_con)::(125,.con cmpCompare_int_con)::[]
theorem qq2 (x:DL movesCmp_con.ps):movesCmp_con.φ x=denF (CT:=ctxUp) Tryz.prog qls qkQ Tryz.f161 movesCmp_con.ps movesCmp_con.one movesCmp_con.res movesCmp_con.ρ x:=by kernel_rfl
theorem qsV:ConOK (CT:=ctxUp) Tryz.prog 161 movesCmp_con :=
 qa (CT:=ctxUp) (env:=qls) ((EnvOK.cons (CT:=ctxUp) (EnvOK.cons (CT:=ctxUp) (EnvOK.nil (CT:=ctxUp) _) qis) qqo)) mixed Tryz.func161 movesCmp_con qkQ (by kernel_rfl) (fun h=>by first | rfl | cases h) (fun g hg=>by cases hg) qq2
theorem qlF (x:DL cmpIsNaN_int_con.ps):cmpIsNaN_int_con.φ x=denF Tryz.prog qbY qbV Tryz.f151 cmpIsNaN_int_con.ps cmpIsNaN_int_con.one cmpIsNaN_int_con.res cmpIsNaN_int_con.ρ x:=by kernel_rfl
theorem qmN:ConOK Tryz.prog 151 cmpIsNaN_int_con :=
 qa (env:=qbY) ((EnvOK.nil _)) mixed Tryz.func151 cmpIsNaN_int_con qbV (by kernel_rfl) (fun h=>by first | rfl | cases h) (fun g hg x=>by
  cases hg
  exact qgR _) qlF
theorem qjR (x:DL cmpCompare_int_con.ps):cmpCompare_int_con.φ x=denF Tryz.prog qbg qbd Tryz.f125 cmpCompare_int_con.ps cmpCompare_int_con.one cmpCompare_int_con.res cmpCompare_int_con.ρ x:=by kernel_rfl
theorem qkG:ConOK Tryz.prog 125 cmpCompare_int_con :=
 qa (env:=qbg) ((EnvOK.cons (EnvOK.nil _) qmN)) mixed Tryz.func125 cmpCompare_int_con qbd (by kernel_rfl) (fun h=>by first | rfl | cases h) (fun g hg x=>by
  cases hg
  exact qeC _ _) qjR
def qrk:Go.Shelf.Ren:=⟨fun | 6=>160 | 15=>180 | 14=>179 | 28=>195 | 29=>196 | 20=>187 | 21=>188 | 22=>189 | 23=>190 | 24=>191 | 25=>192 | 26=>193 | 27=>194 | 46=>203 | 47=>204 | 48=>205 | 49=>206 | 50=>207 | 57=>212 | n=>n,fun | 22=>197 | 24=>163 | 25=>219 | 3=>3 | 39=>148 | 0=>0 | 53=>105 | 55=>100 | 4=>4 | 46=>255 | 45=>254 | 50=>259 | 5=>5 | 9=>9 | 66=>270 | 70=>274 | 76=>279 | 77=>280 | n=>n,fun | n=>n⟩
theorem msort_lay:SlLaysF0.n6 Tryz.prog qrk where
 mixed:=by kernel_rfl
 f6:=⟨Tryz.f160.name,by decide,Tryz.func160.trans (congrArg some (by kernel_rfl))⟩
 f14:=⟨Tryz.f179.name,by decide,Tryz.func179.trans (congrArg some (by kernel_rfl))⟩
 f15:=Tryz.func180.trans (congrArg some (by kernel_rfl))
 f20:=⟨Tryz.f187.name,by decide,Tryz.func187.trans (congrArg some (by kernel_rfl))⟩
 f21:=⟨Tryz.f188.name,by decide,Tryz.func188.trans (congrArg some (by kernel_rfl))⟩
 f22:=⟨Tryz.f189.name,by decide,Tryz.func189.trans (congrArg some (by kernel_rfl))⟩
 f23:=⟨Tryz.f190.name,by decide,Tryz.func190.trans (congrArg some (by kernel_rfl))⟩
 f24:=⟨Tryz.f191.name,by decide,Tryz.func191.trans (congrArg some (by kernel_rfl))⟩
 f25:=⟨Tryz.f192.name,by decide,Tryz.func192.trans (congrArg some (by kernel_rfl))⟩
 f26:=⟨Tryz.f193.name,by decide,Tryz.func193.trans (congrArg some (by kernel_rfl))⟩
 f27:=⟨Tryz.f194.name,by decide,Tryz.func194.trans (congrArg some (by kernel_rfl))⟩
 f28:=Tryz.func195.trans (congrArg some (by kernel_rfl))
 f29:=Tryz.func196.trans (congrArg some (by kernel_rfl))
 f46:=⟨Tryz.f203.name,by decide,Tryz.func203.trans (congrArg some (by kernel_rfl))⟩
 f47:=Tryz.func204.trans (congrArg some (by kernel_rfl))
 f48:=Tryz.func205.trans (congrArg some (by kernel_rfl))
 f49:=⟨Tryz.f206.name,by decide,Tryz.func206.trans (congrArg some (by kernel_rfl))⟩
 f50:=⟨Tryz.f207.name,by decide,Tryz.func207.trans (congrArg some (by kernel_rfl))⟩
 f57:=⟨Tryz.f212.name,by decide,Tryz.func212.trans (congrArg some (by kernel_rfl))⟩
 t0:=Tryz.underlying0
 a0:=Tryz.isAgg0
 z0:=Tryz.sizeOf0
 v0:=Tryz.zeroValue0
 t3:=Tryz.underlying3
 a3:=Tryz.isAgg3
 z3:=Tryz.sizeOf3
 v3:=Tryz.zeroValue3
 t4:=Tryz.underlying4
 a4:=Tryz.isAgg4
 z4:=Tryz.sizeOf4
 v4:=Tryz.zeroValue4
 t5:=Tryz.underlying5
 a5:=Tryz.isAgg5
 z5:=Tryz.sizeOf5
 v5:=Tryz.zeroValue5
 t9:=Tryz.underlying9
 a9:=Tryz.isAgg9
 z9:=Tryz.sizeOf9
 v9:=Tryz.zeroValue9
 t22:=Tryz.underlying197
 a22:=Tryz.isAgg197
 z22:=Tryz.sizeOf197
 v22:=Tryz.zeroValue197
 t25:=Tryz.underlying219
 a25:=Tryz.isAgg219
 z25:=Tryz.sizeOf219
 v25:=Tryz.zeroValue219
 t39:=Tryz.underlying148
 a39:=Tryz.isAgg148
 z39:=Tryz.sizeOf148
 v39:=Tryz.zeroValue148
 t45:=Tryz.underlying254
 a45:=Tryz.isAgg254
 z45:=Tryz.sizeOf254
 v45:=Tryz.zeroValue254
 t46:=Tryz.underlying255
 a46:=Tryz.isAgg255
 z46:=Tryz.sizeOf255
 v46:=Tryz.zeroValue255
 t50:=Tryz.underlying259
 a50:=Tryz.isAgg259
 z50:=Tryz.sizeOf259
 v50:=Tryz.zeroValue259
 t53:=Tryz.underlying105
 a53:=Tryz.isAgg105
 z53:=Tryz.sizeOf105
 v53:=Tryz.zeroValue105
 t55:=Tryz.underlying100
 a55:=Tryz.isAgg100
 z55:=Tryz.sizeOf100
 v55:=Tryz.zeroValue100
 t66:=Tryz.underlying270
 a66:=Tryz.isAgg270
 z66:=Tryz.sizeOf270
 v66:=Tryz.zeroValue270
 t70:=Tryz.underlying274
 a70:=Tryz.isAgg274
 z70:=Tryz.sizeOf274
 v70:=Tryz.zeroValue274
 t76:=Tryz.underlying279
 a76:=Tryz.isAgg279
 z76:=Tryz.sizeOf279
 v76:=Tryz.zeroValue279
 t77:=Tryz.underlying280
 a77:=Tryz.isAgg280
 z77:=Tryz.sizeOf280
 v77:=Tryz.zeroValue280
open Go.Sort Go.Lib in
section
def cmp3 (a b:Int):Int:=if a<b then -1 else if b<a then 1 else 0
theorem qsY (a b:Int):qG a b=cmp3 a b:=by
 unfold qG qC cmp3
 by_cases h:a<b
 ·simp[h]
 ·by_cases h2:b<a<;>simp[h,h2]
theorem qvL (a b c:Int):qjU [a,b,c]=some (if a=0 then if b=0 then c else b else a):=by
 unfold qjU
 by_cases ha:a=0
 ·subst ha
  rw[qX (y:=((1,()),())) (by simp[qaL,at?,qi])]
  by_cases hb:b=0
  ·subst hb
   rw[qX (y:=((2,()),())) (by simp[qaL,at?,qi])]
   by_cases hc:c=0
   ·subst hc
    rw[qX (y:=((3,()),())) (by simp[qaL,at?,qi])]
    rw[qz (r := .inl ((),())) (by simp[qaL])]
    rfl
   ·rw[qz (r := .inr c) (by simp[qaL,at?,bne_t hc])]
    simp
  ·rw[qz (r := .inr b) (by simp[qaL,at?,bne_t hb])]
   simp[hb]
 ·rw[qz (r := .inr a) (by simp[qaL,at?,bne_t ha])]
  simp[ha]
def mvCf (x y:Mv):Int:=if cmp3 x.1 y.1=0 then if cmp3 x.2.1 y.2.1=0 then cmp3 x.2.2.1 y.2.2.1 else cmp3 x.2.1 y.2.1 else cmp3 x.1 y.1
theorem qpD (x y:Mv):qql x y=some (mvCf x y):=by
 unfold qql mvCf
 rw[qsY,qsY,qsY,qvL]
 rfl
theorem qqT (a b:Int):cmp3 a b=0↔a=b:=by
 unfold cmp3
 split
 ·constructor<;>intro h<;>omega
 ·split<;>constructor<;>intro h<;>omega
theorem qsH (a b:Int):cmp3 a b<0↔a<b:=by
 unfold cmp3
 split
 ·constructor<;>intro h<;>omega
 ·split<;>constructor<;>intro h<;>omega
theorem qpz:ltOf mvCf=mvLt:=by
 funext x y
 unfold ltOf mvCf mvLt
 by_cases h1:x.1=y.1
 ·by_cases h2:x.2.1=y.2.1
  ·simp[h1,h2,(qqT y.1 y.1).2 rfl,(qqT y.2.1 y.2.1).2 rfl,qsH]
  ·have:¬cmp3 x.2.1 y.2.1=0:=fun h=>h2 ((qqT _ _).1 h)
   simp[h1,h2,(qqT y.1 y.1).2 rfl,this,qsH]
 ·have:¬cmp3 x.1 y.1=0:=fun h=>h1 ((qqT _ _).1 h)
  simp[h1,this,qsH]
theorem quL (x y:Mv):mvLt x y=true↔x.1<y.1∨x.1=y.1∧(x.2.1<y.2.1∨x.2.1=y.2.1∧x.2.2.1<y.2.2.1):=by simp[mvLt]
theorem mvLt_f (x y:Mv):mvLt x y=false↔¬(x.1<y.1∨x.1=y.1∧(x.2.1<y.2.1∨x.2.1=y.2.1∧x.2.2.1<y.2.2.1)):=by rw[←quL,Bool.not_eq_true]
theorem mv_swo:SWO mvLt where
 irrefl x:=by rw[mvLt_f];omega
 trans x y z h1 h2:=by rw[quL] at *;omega
 ntrans x y z h1 h2:=by rw[mvLt_f] at *;omega
theorem mv_tot (x y:Mv) (h1:mvLt x y=false) (h2:mvLt y x=false):x=y:=by
 rw[mvLt_f] at h1 h2
 obtain⟨a,b,c,⟨⟩⟩:=x
 obtain⟨a',b',c',⟨⟩⟩:=y
 simp only at h1 h2
 have e1:a=a':=by omega
 subst e1
 have e2:b=b':=by omega
 subst e2
 have e3:c=c':=by omega
 subst e3
 rfl
def qe9:Srt:=⟨163,Zt24,some 161,qbn⟩
theorem qqJ:SrtOK Tryz.prog 160 qe9:=by
 have h:=qtg (ρ:=qrk) (g:=161) (f:=160) (τ:=Zt24) (i:=163) msort_lay rfl rfl rfl rfl Tryz.isAgg163 Tryz.sizeOf163 qsV mvCf (fun x y=>qpD x y) (show SWO (ltOf mvCf) from qpz▸mv_swo) (fun x y h1 h2=>mv_tot x y (by rw[←qpz];exact h1) (by rw[←qpz];exact h2)) (enters_of Tryz.func161 (by kernel_rfl) rfl)
 have e:(fun xs:List Mv=>xs.mergeSort fun x y=>!(ltOf mvCf) y x)=qbn:=by rw[qpz];rfl
 have:qe9=⟨163,Zt24,some 161,fun xs:List Mv=>xs.mergeSort fun x y=>!(ltOf mvCf) y x⟩:=by rw[e];rfl
 rw[this]
 exact h
end
set_option linter.unusedSimpArgs false
theorem qiJ {w w':World} (hd:Go.Den.Ctx.drawsUp=false) (h:Go.RowKit.Below w.heap.size w w'):Go.Eng.Chg [] w w' :=
 ⟨h.os,h.tape,h.output,h.size,fun k hk _=>h.block k hk,fun e=>by rw[hd] at e;cases e⟩
theorem qjK {α:Type} {c:Bool} {x r:α} (h:(bif c then some x else none)=some r):c=true∧x=r:=by cases c<;>simp_all
theorem qrp {w:World} {S:Sp}:∀ {l:List ByteArray} {us:List Value},RepL (fun (x:D .str) c=>Rep w S .str x [] c) l us→us=l.map Value.string
 | [],us,h=>h
 | n::ns,us,⟨c,r,h1,h2,h3⟩=>by
  subst h1
  rw[h2.2,qrp h3]
  rfl
theorem chg_grown {w:World} {k:Nat} {os:Array Obj}:Go.Eng.Chg [] w (Go.Sort.grow (w.drewN k) os) :=
 ⟨rfl,rfl,rfl,by simp[Go.Sort.grow],fun j hj _=>by
  show(w.heap++os)[j]?=_
  rw[Array.getElem?_append_left hj],fun _=>Nat.le_add_right _ _⟩
theorem tab_pow10 {S:Nat→Prop} {w:World} (hT:TabR S w):Go.Lib.TabIs Tryz.prog w "internal/strconv.uint64pow10" .u64 Go.Lib.pow10Tab:=by
 obtain⟨_,T,fz,h⟩:=hT.tab 5 (Go.Lib.pow10Tab.map (Value.int .u64)) rfl
 have hg:Tryz.prog.globalNamed "internal/strconv.uint64pow10" = some 5:=by kernel_rfl
 unfold Go.Lib.TabIs World.var?
 rw[hg]
 show(match w.heap[5]? with | some (.cells cs _ _)=>some cs | _=>none)=_
 rw[h]
def quv:Go.Shelf.Ren:=⟨fun | 171=>140 | 243=>165 | 246=>181 | 283=>197 | 284=>198 | 285=>199 | 286=>200 | 129=>196 | 317=>208 | 318=>209 | 319=>210 | 320=>211 | 337=>213 | 338=>214 | n=>n,fun | 3=>3 | 9=>9 | 2=>2 | 4=>4 | 171=>263 | 0=>0 | 53=>100 | 37=>178 | 5=>5 | 173=>265 | 212=>277 | 51=>105 | 20=>20 | 213=>278 | 46=>148 | 232=>282 | 233=>283 | n=>n,fun | 17=>5 | 18=>6 | 19=>7 | n=>n⟩
open Go.Shelf in
theorem itoa_lay:Go.Proofs.LaysM.n171 Tryz.prog quv where
 mixed:=by kernel_rfl
 f129:=Tryz.func196.trans (congrArg some (by kernel_rfl))
 f171:=Tryz.func140.trans (congrArg some (by kernel_rfl))
 f243:=Tryz.func165.trans (congrArg some (by kernel_rfl))
 f246:=Tryz.func181.trans (congrArg some (by kernel_rfl))
 f283:=Tryz.func197.trans (congrArg some (by kernel_rfl))
 f284:=Tryz.func198.trans (congrArg some (by kernel_rfl))
 f285:=Tryz.func199.trans (congrArg some (by kernel_rfl))
 f286:=Tryz.func200.trans (congrArg some (by kernel_rfl))
 f317:=Tryz.func208.trans (congrArg some (by kernel_rfl))
 f318:=Tryz.func209.trans (congrArg some (by kernel_rfl))
 f319:=Tryz.func210.trans (congrArg some (by kernel_rfl))
 f320:=Tryz.func211.trans (congrArg some (by kernel_rfl))
 f337:=Tryz.func213.trans (congrArg some (by kernel_rfl))
 f338:=Tryz.func214.trans (congrArg some (by kernel_rfl))
 t0:=Tryz.underlying0
 a0:=Tryz.isAgg0
 z0:=Tryz.sizeOf0
 v0:=Tryz.zeroValue0
 t2:=Tryz.underlying2
 a2:=Tryz.isAgg2
 z2:=Tryz.sizeOf2
 v2:=Tryz.zeroValue2
 t3:=Tryz.underlying3
 a3:=Tryz.isAgg3
 z3:=Tryz.sizeOf3
 v3:=Tryz.zeroValue3
 t4:=Tryz.underlying4
 a4:=Tryz.isAgg4
 z4:=Tryz.sizeOf4
 v4:=Tryz.zeroValue4
 t5:=Tryz.underlying5
 a5:=Tryz.isAgg5
 z5:=Tryz.sizeOf5
 v5:=Tryz.zeroValue5
 t9:=Tryz.underlying9
 a9:=Tryz.isAgg9
 z9:=Tryz.sizeOf9
 v9:=Tryz.zeroValue9
 t20:=Tryz.underlying20
 a20:=Tryz.isAgg20
 z20:=Tryz.sizeOf20
 v20:=Tryz.zeroValue20
 t37:=Tryz.underlying178
 a37:=Tryz.isAgg178
 z37:=Tryz.sizeOf178
 v37:=Tryz.zeroValue178
 t46:=Tryz.underlying148
 a46:=Tryz.isAgg148
 z46:=Tryz.sizeOf148
 v46:=Tryz.zeroValue148
 t51:=Tryz.underlying105
 a51:=Tryz.isAgg105
 z51:=Tryz.sizeOf105
 v51:=Tryz.zeroValue105
 t53:=Tryz.underlying100
 a53:=Tryz.isAgg100
 z53:=Tryz.sizeOf100
 v53:=Tryz.zeroValue100
 t171:=Tryz.underlying263
 a171:=Tryz.isAgg263
 z171:=Tryz.sizeOf263
 v171:=Tryz.zeroValue263
 t173:=Tryz.underlying265
 a173:=Tryz.isAgg265
 z173:=Tryz.sizeOf265
 v173:=Tryz.zeroValue265
 t212:=Tryz.underlying277
 a212:=Tryz.isAgg277
 z212:=Tryz.sizeOf277
 v212:=Tryz.zeroValue277
 t213:=Tryz.underlying278
 a213:=Tryz.isAgg278
 z213:=Tryz.sizeOf278
 t232:=Tryz.underlying282
 a232:=Tryz.isAgg282
 z232:=Tryz.sizeOf282
 v232:=Tryz.zeroValue282
 t233:=Tryz.underlying283
 a233:=Tryz.isAgg283
 z233:=Tryz.sizeOf283
 v233:=Tryz.zeroValue283
 g17:=by kernel_rfl
 g18:=by kernel_rfl
 g19:=by kernel_rfl
 i0:=by kernel_rfl
 i2:=by kernel_rfl
 i3:=by kernel_rfl
 i4:=by kernel_rfl
 i5:=by kernel_rfl
 i9:=by kernel_rfl
 i20:=by kernel_rfl
 i37:=by kernel_rfl
 i46:=by kernel_rfl
 i51:=by kernel_rfl
 i53:=by kernel_rfl
 i171:=by kernel_rfl
 i173:=by kernel_rfl
 i212:=by kernel_rfl
 i232:=by kernel_rfl
 i233:=by kernel_rfl
 m17:=by kernel_rfl
 m18:=by kernel_rfl
 m19:=by kernel_rfl
noncomputable def qr4:Con:=⟨[.int .i64],true,[],.str,fun x=>itoaS x.1,none⟩
theorem itoaS_ok:ConOK Tryz.prog 140 qr4:=by
 refine⟨rfl,fun h=>(by cases h),fun g h=>(by cases h),fun w S args x r hS hT ha hr=>?_⟩
 obtain⟨n,⟨⟩⟩:=x
 obtain⟨v,q,e1,⟨cs,⟨_,rfl⟩,rfl⟩,h2⟩:=ha
 obtain rfl:q=[]:=h2
 obtain rfl:args = #[.int .i64 n]:=by rw[←Array.toList_inj,e1];rfl
 have hr:itoaS n=some r:=hr
 obtain⟨hb,rfl⟩:=qjK hr
 ·simp only[Bool.and_eq_true,decide_eq_true_eq] at hb
  refine(Any.strconv_Itoa (P:=Tryz.prog) (ρ:=quv) itoa_lay n hb.1 hb.2 w (tab_pow10 hT)).mono ?_
  rintro e w' ⟨rfl,k,os,rfl⟩
  exact⟨_,rfl,chg_grown,[],[.string ⟨(Go.Lib.itoa n).toArray⟩],List.nodup_nil,(by simp),⟨rfl,rfl⟩,rfl⟩

def qlS:Go.Shelf.Ren:=⟨fun | 156=>143 | 165=>168 | 166=>169 | 169=>171 | 240=>184 | 241=>185 | 276=>201 | 277=>202 | n=>n,fun | 31=>200 | 9=>9 | 3=>3 | 4=>4 | 0=>0 | 20=>20 | 72=>226 | 76=>228 | 70=>224 | 37=>178 | 75=>102 | 127=>235 | 164=>267 | 5=>5 | 80=>137 | n=>n,fun | n=>n⟩
open Go.Shelf in
theorem quQ:Go.Proofs.Lays.n156 Tryz.prog qlS where
 mixed:=by kernel_rfl
 f156:=Tryz.func143.trans (congrArg some (by kernel_rfl))
 f165:=Tryz.func168.trans (congrArg some (by kernel_rfl))
 f166:=Tryz.func169.trans (congrArg some (by kernel_rfl))
 f169:=Tryz.func171.trans (congrArg some (by kernel_rfl))
 f240:=Tryz.func184.trans (congrArg some (by kernel_rfl))
 f241:=Tryz.func185.trans (congrArg some (by kernel_rfl))
 f276:=Tryz.func201.trans (congrArg some (by kernel_rfl))
 f277:=Tryz.func202.trans (congrArg some (by kernel_rfl))
 t0:=Tryz.underlying0
 a0:=Tryz.isAgg0
 z0:=Tryz.sizeOf0
 v0:=Tryz.zeroValue0
 t3:=Tryz.underlying3
 a3:=Tryz.isAgg3
 z3:=Tryz.sizeOf3
 v3:=Tryz.zeroValue3
 t4:=Tryz.underlying4
 a4:=Tryz.isAgg4
 z4:=Tryz.sizeOf4
 v4:=Tryz.zeroValue4
 t9:=Tryz.underlying9
 a9:=Tryz.isAgg9
 z9:=Tryz.sizeOf9
 v9:=Tryz.zeroValue9
 t20:=Tryz.underlying20
 a20:=Tryz.isAgg20
 z20:=Tryz.sizeOf20
 v20:=Tryz.zeroValue20
 t31:=Tryz.underlying200
 a31:=Tryz.isAgg200
 z31:=Tryz.sizeOf200
 v31:=Tryz.zeroValue200
 t37:=Tryz.underlying178
 a37:=Tryz.isAgg178
 z37:=Tryz.sizeOf178
 v37:=Tryz.zeroValue178
 t70:=Tryz.underlying224
 a70:=Tryz.isAgg224
 z70:=Tryz.sizeOf224
 v70:=Tryz.zeroValue224
 t72:=Tryz.underlying226
 a72:=Tryz.isAgg226
 z72:=Tryz.sizeOf226
 v72:=Tryz.zeroValue226
 t75:=Tryz.underlying102
 a75:=Tryz.isAgg102
 z75:=Tryz.sizeOf102
 v75:=Tryz.zeroValue102
 t76:=Tryz.underlying228
 a76:=Tryz.isAgg228
 z76:=Tryz.sizeOf228
 v76:=Tryz.zeroValue228
 t127:=Tryz.underlying235
 a127:=Tryz.isAgg235
 z127:=Tryz.sizeOf235
 v127:=Tryz.zeroValue235
 t164:=Tryz.underlying267
 a164:=Tryz.isAgg267
 z164:=Tryz.sizeOf267
 v164:=Tryz.zeroValue267
theorem qoV:Go.Proofs.Builder.Extra Tryz.prog qlS where
 sizeBuilder:=by kernel_rfl
 liesBuilder:=by kernel_rfl
 t5:=Tryz.underlying5
 a5:=Tryz.isAgg5
 z5:=Tryz.sizeOf5
 v5:=Tryz.zeroValue5
 infoByte:=by kernel_rfl
 cellsByte:=by kernel_rfl
 sizeByte:=by kernel_rfl
 neB5:=by decide
noncomputable def qnk:Con:=⟨[.sl .str,.str],true,[],.str,fun x=>joinS x.1 x.2.1,none⟩
theorem joinS_ok:ConOK Tryz.prog 143 qnk:=by
 refine⟨rfl,fun h=>(by cases h),fun g h=>(by cases h),fun w S args x r hS hT ha hr=>?_⟩
 obtain⟨l,sep,⟨⟩⟩:=x
 obtain⟨v,q,e1,⟨cs,⟨_,ao,cap,us,rfl,hcap,hrep,hne⟩,rfl⟩,v2,q2,rfl,⟨cs2,⟨_,rfl⟩,rfl⟩,h2⟩:=ha
 obtain rfl:q2=[]:=h2
 obtain rfl:args = #[.slice ao l.length cap,.string sep]:=by rw[←Array.toList_inj,e1];rfl
 have hr:joinS l sep=some r:=hr
 obtain⟨hb,rfl⟩:=qjK hr
 ·simp only[Bool.and_eq_true] at hb
  have h3:=Nat.le_of_ble_eq_true hb.1
  have h4:=Nat.le_of_ble_eq_true hb.2
  have hus:=qrp hrep
  subst hus
  have fin:∀w',Go.Eng.Chg [] w w'→∃v,Ending.returned (.string ⟨(Go.Lib.join (l.map (·.data.toList)) sep.data.toList).toArray⟩)=Ending.returned v∧Go.Eng.Chg [] w w'∧ResR w w' S qnk (⟨(Go.Lib.join (l.map (·.data.toList)) sep.data.toList).toArray⟩:ByteArray) v :=
   fun w' hc=>⟨_,rfl,hc,[],[.string ⟨(Go.Lib.join (l.map (·.data.toList)) sep.data.toList).toArray⟩],List.nodup_nil,(by simp),⟨rfl,rfl⟩,rfl⟩
  by_cases h0:l=[]
  ·subst h0
   refine(Any.strings_Join_none (P:=Tryz.prog) (ρ:=qlS) quQ qoV ao cap sep w).mono ?_
   rintro e w' ⟨rfl,rfl⟩
   exact fin _ (Go.Eng.Chg.refl _ _)
  ·obtain⟨a,rfl,ha,hcells⟩:=hne h0
   obtain⟨bk,o,spot⟩:=a
   have hsp:spot=none:=by
    cases l with
    | nil=>exact absurd rfl h0
    | cons x l' =>
     have:=hcells 0 (.string x) rfl
     cases spot with
     | none=>rfl
     | some s=>exact absurd this (by simp[Addr.add,World.cell?];split<;>simp)
   subst hsp
   refine(Any.strings_Join (P:=Tryz.prog) (ρ:=qlS) quQ qoV bk o cap l sep w (fun j x hj=>by
    have:=hcells j (.string x) ((List.getElem?_map (f:=Value.string) (l:=(l:List ByteArray)) (i:=j)).trans (congrArg (Option.map Value.string) hj))
    rwa [Go.Eng.adr_add] at this) (hS bk ha) h3 hcap h4).mono ?_
   rintro e w' ⟨rfl,hb⟩
   exact fin _ (qiJ rfl hb)

def pui_ren:Go.Shelf.Ren:=⟨fun | 14=>43 | 16=>79 | 17=>80 | 19=>119 | 20=>120 | 21=>121 | 22=>122 | 23=>123 | 24=>124 | 25=>149 | 27=>140 | 26=>150 | 28=>165 | 29=>181 | 30=>197 | 31=>198 | 32=>199 | 33=>200 | 35=>196 | 34=>208 | 36=>209 | 37=>210 | 38=>211 | 39=>213 | 40=>214 | n=>n,fun | 9=>9 | 3=>3 | 22=>100 | 24=>102 | 25=>103 | 4=>4 | 34=>176 | 5=>5 | 36=>148 | 37=>178 | 0=>0 | 39=>179 | 21=>21 | 44=>210 | 47=>235 | 50=>238 | 48=>236 | 2=>2 | 52=>263 | 55=>265 | 59=>277 | 60=>105 | 20=>20 | 61=>278 | 65=>282 | 66=>283 | 67=>137 | n=>n,fun | 0=>1 | 1=>2 | 2=>5 | 3=>6 | 4=>7 | n=>n⟩
open Go.Shelf in
theorem pui_lay:Go.Proofs.LaysPu.n14 Tryz.prog pui_ren where
 mixed:=by kernel_rfl
 f14:=Tryz.func43.trans (congrArg some (by kernel_rfl))
 f16:=Tryz.func79.trans (congrArg some (by kernel_rfl))
 f17:=Tryz.func80.trans (congrArg some (by kernel_rfl))
 f19:=Tryz.func119.trans (congrArg some (by kernel_rfl))
 f20:=Tryz.func120.trans (congrArg some (by kernel_rfl))
 f21:=Tryz.func121.trans (congrArg some (by kernel_rfl))
 f22:=Tryz.func122.trans (congrArg some (by kernel_rfl))
 f23:=Tryz.func123.trans (congrArg some (by kernel_rfl))
 f24:=Tryz.func124.trans (congrArg some (by kernel_rfl))
 f25:=Tryz.func149.trans (congrArg some (by kernel_rfl))
 f26:=Tryz.func150.trans (congrArg some (by kernel_rfl))
 f27:=Tryz.func140.trans (congrArg some (by kernel_rfl))
 f28:=Tryz.func165.trans (congrArg some (by kernel_rfl))
 f29:=Tryz.func181.trans (congrArg some (by kernel_rfl))
 f30:=Tryz.func197.trans (congrArg some (by kernel_rfl))
 f31:=Tryz.func198.trans (congrArg some (by kernel_rfl))
 f32:=Tryz.func199.trans (congrArg some (by kernel_rfl))
 f33:=Tryz.func200.trans (congrArg some (by kernel_rfl))
 f34:=Tryz.func208.trans (congrArg some (by kernel_rfl))
 f35:=Tryz.func196.trans (congrArg some (by kernel_rfl))
 f36:=Tryz.func209.trans (congrArg some (by kernel_rfl))
 f37:=Tryz.func210.trans (congrArg some (by kernel_rfl))
 f38:=Tryz.func211.trans (congrArg some (by kernel_rfl))
 f39:=Tryz.func213.trans (congrArg some (by kernel_rfl))
 f40:=Tryz.func214.trans (congrArg some (by kernel_rfl))
 t0:=Tryz.underlying0
 a0:=Tryz.isAgg0
 z0:=Tryz.sizeOf0
 v0:=Tryz.zeroValue0
 i0:=by kernel_rfl
 t2:=Tryz.underlying2
 a2:=Tryz.isAgg2
 z2:=Tryz.sizeOf2
 v2:=Tryz.zeroValue2
 i2:=by kernel_rfl
 t3:=Tryz.underlying3
 a3:=Tryz.isAgg3
 z3:=Tryz.sizeOf3
 v3:=Tryz.zeroValue3
 i3:=by kernel_rfl
 t4:=Tryz.underlying4
 a4:=Tryz.isAgg4
 z4:=Tryz.sizeOf4
 v4:=Tryz.zeroValue4
 i4:=by kernel_rfl
 t5:=Tryz.underlying5
 a5:=Tryz.isAgg5
 z5:=Tryz.sizeOf5
 v5:=Tryz.zeroValue5
 i5:=by kernel_rfl
 t9:=Tryz.underlying9
 a9:=Tryz.isAgg9
 z9:=Tryz.sizeOf9
 v9:=Tryz.zeroValue9
 i9:=by kernel_rfl
 t20:=Tryz.underlying20
 a20:=Tryz.isAgg20
 z20:=Tryz.sizeOf20
 v20:=Tryz.zeroValue20
 i20:=by kernel_rfl
 t21:=Tryz.underlying21
 a21:=Tryz.isAgg21
 z21:=Tryz.sizeOf21
 v21:=Tryz.zeroValue21
 i21:=by kernel_rfl
 t22:=Tryz.underlying100
 a22:=Tryz.isAgg100
 z22:=Tryz.sizeOf100
 v22:=Tryz.zeroValue100
 i22:=by kernel_rfl
 t24:=Tryz.underlying102
 a24:=Tryz.isAgg102
 z24:=Tryz.sizeOf102
 v24:=Tryz.zeroValue102
 i24:=by kernel_rfl
 t25:=Tryz.underlying103
 a25:=Tryz.isAgg103
 z25:=Tryz.sizeOf103
 v25:=Tryz.zeroValue103
 i25:=by kernel_rfl
 t34:=Tryz.underlying176
 a34:=Tryz.isAgg176
 z34:=Tryz.sizeOf176
 v34:=Tryz.zeroValue176
 i34:=by kernel_rfl
 c34:=by kernel_rfl
 t36:=Tryz.underlying148
 a36:=Tryz.isAgg148
 z36:=Tryz.sizeOf148
 v36:=Tryz.zeroValue148
 i36:=by kernel_rfl
 t37:=Tryz.underlying178
 a37:=Tryz.isAgg178
 z37:=Tryz.sizeOf178
 v37:=Tryz.zeroValue178
 i37:=by kernel_rfl
 t39:=Tryz.underlying179
 a39:=Tryz.isAgg179
 z39:=Tryz.sizeOf179
 v39:=Tryz.zeroValue179
 i39:=by kernel_rfl
 t44:=Tryz.underlying210
 a44:=Tryz.isAgg210
 z44:=Tryz.sizeOf210
 v44:=Tryz.zeroValue210
 i44:=by kernel_rfl
 t47:=Tryz.underlying235
 a47:=Tryz.isAgg235
 z47:=Tryz.sizeOf235
 v47:=Tryz.zeroValue235
 i47:=by kernel_rfl
 t48:=Tryz.underlying236
 a48:=Tryz.isAgg236
 z48:=Tryz.sizeOf236
 v48:=Tryz.zeroValue236
 i48:=by kernel_rfl
 t50:=Tryz.underlying238
 a50:=Tryz.isAgg238
 z50:=Tryz.sizeOf238
 v50:=Tryz.zeroValue238
 i50:=by kernel_rfl
 t52:=Tryz.underlying263
 a52:=Tryz.isAgg263
 z52:=Tryz.sizeOf263
 v52:=Tryz.zeroValue263
 i52:=by kernel_rfl
 t55:=Tryz.underlying265
 a55:=Tryz.isAgg265
 z55:=Tryz.sizeOf265
 v55:=Tryz.zeroValue265
 i55:=by kernel_rfl
 t59:=Tryz.underlying277
 a59:=Tryz.isAgg277
 z59:=Tryz.sizeOf277
 v59:=Tryz.zeroValue277
 i59:=by kernel_rfl
 t60:=Tryz.underlying105
 a60:=Tryz.isAgg105
 z60:=Tryz.sizeOf105
 v60:=Tryz.zeroValue105
 i60:=by kernel_rfl
 t61:=Tryz.underlying278
 a61:=Tryz.isAgg278
 z61:=Tryz.sizeOf278
 t65:=Tryz.underlying282
 a65:=Tryz.isAgg282
 z65:=Tryz.sizeOf282
 v65:=Tryz.zeroValue282
 i65:=by kernel_rfl
 t66:=Tryz.underlying283
 a66:=Tryz.isAgg283
 z66:=Tryz.sizeOf283
 v66:=Tryz.zeroValue283
 i66:=by kernel_rfl
 t67:=Tryz.underlying137
 a67:=Tryz.isAgg137
 z67:=Tryz.sizeOf137
 v67:=Tryz.zeroValue137
 i67:=by kernel_rfl
 g0:=by kernel_rfl
 m0:=by kernel_rfl
 g1:=by kernel_rfl
 m1:=by kernel_rfl
 g2:=by kernel_rfl
 m2:=by kernel_rfl
 g3:=by kernel_rfl
 m3:=by kernel_rfl
 g4:=by kernel_rfl
 m4:=by kernel_rfl
theorem qvD {s:ByteArray} {b k:Int} {r:Int×Bool×Unit} (h:qmY s b k=some r):b=10∧k=32∧s.size≤9223372036854775806∧∃v:Nat,Go.Lib.parseUintB 32 s.data.toList = .ok v∧r=((v:Int),(false,())):=by
 unfold qmY at h
 cases hc:((decide (b=10)&&decide (k=32))&&(Nat.blt 0 s.size&&Nat.ble s.size 9223372036854775806))
 ·rw[hc] at h;cases h
 ·rw[hc,cond_true] at h
  simp only[Bool.and_eq_true,decide_eq_true_eq] at hc
  obtain⟨⟨h1,h2⟩,h3,h4⟩:=hc
  rw[Nat.blt_eq] at h3
  refine⟨h1,h2,Nat.le_of_ble_eq_true h4,?_⟩
  cases hq:Go.Lib.parseUintM 4294967295 0 s.data.toList with
  | ok v =>
   rw[hq] at h
   refine⟨v,?_,(Option.some.inj h).symm⟩
   unfold Go.Lib.parseUintB
   rw[if_neg]
   ·exact hq
   ·intro h
    have h9:s.data.toList.length=0:=by rw[h];rfl
    have h8:s.data.toList.length=s.size:=Array.length_toList
    omega
  | _=>rw[hq] at h;cases h
noncomputable def qoK:Con:=⟨[.str,.int .i64,.int .i64],false,[.int .u64,.err],.st Zt40 (.st .err .nil),fun x=>qmY x.1 x.2.1 x.2.2.1,none⟩
theorem puintS_ok:ConOK Tryz.prog 43 qoK:=by
 refine⟨rfl,fun _=>rfl,fun g h=>(by cases h),fun w S args x r hS hT ha hr=>?_⟩
 obtain⟨s,b,k,⟨⟩⟩:=x
 obtain⟨v,q,e1,⟨cs,⟨_,rfl⟩,rfl⟩,v2,q2,rfl,⟨cs2,⟨_,rfl⟩,rfl⟩,v3,q3,rfl,⟨cs3,⟨_,rfl⟩,rfl⟩,h2⟩:=ha
 obtain rfl:q3=[]:=h2
 obtain rfl:args = #[.string s,.int .i64 b,.int .i64 k]:=by rw[←Array.toList_inj,e1];rfl
 have hr:qmY s b k=some r:=hr
 obtain⟨rfl,rfl,h1,v,hu,rfl⟩:=qvD hr
 refine(Any.strconv_ParseUint_10_at32_ok (P:=Tryz.prog) (ρ:=pui_ren) pui_lay s h1 v hu w).mono ?_
 rintro e w' ⟨rfl,hw⟩
 have hch:Go.Eng.Chg [] w w':=by
  rcases hw with rfl | rfl
  ·exact Go.Eng.Chg.refl _ _
  ·exact qiJ rfl (Go.Lib.bytesWorld_below w _ s)
 exact⟨_,rfl,hch,[],[.int .u64 v,.nilIface],List.nodup_nil,(by simp),⟨[.int .u64 v],[.nilIface],[],[],rfl,rfl,⟨rfl,rfl⟩,⟨[.nilIface],[],[],[],rfl,rfl,⟨rfl,.nilIface,rfl,.inl ⟨rfl,rfl⟩⟩,⟨rfl,rfl⟩⟩⟩,rfl⟩

def qsK:Go.Shelf.Ren:=⟨fun | 105=>141 | 212=>166 | 99=>167 | 165=>168 | 166=>169 | 170=>170 | 169=>171 | 263=>182 | 264=>183 | 206=>70 | 240=>184 | 241=>185 | 276=>201 | 277=>202 | n=>n,fun | 9=>9 | 3=>3 | 4=>4 | 20=>20 | 0=>0 | 46=>148 | 109=>222 | 5=>5 | 72=>226 | 76=>228 | 51=>105 | 146=>205 | 53=>100 | 148=>249 | 70=>224 | 37=>178 | 75=>102 | 127=>235 | 164=>267 | 80=>137 | n=>n,fun | n=>n⟩
open Go.Shelf in
theorem rep_lay:Go.Proofs.Lays.n105 Tryz.prog qsK where
 mixed:=by kernel_rfl
 f99:=Tryz.func167.trans (congrArg some (by kernel_rfl))
 f105:=Tryz.func141.trans (congrArg some (by kernel_rfl))
 f165:=Tryz.func168.trans (congrArg some (by kernel_rfl))
 f166:=Tryz.func169.trans (congrArg some (by kernel_rfl))
 f169:=Tryz.func171.trans (congrArg some (by kernel_rfl))
 f170:=Tryz.func170.trans (congrArg some (by kernel_rfl))
 f206:=Tryz.func70.trans (congrArg some (by kernel_rfl))
 f212:=Tryz.func166.trans (congrArg some (by kernel_rfl))
 f240:=Tryz.func184.trans (congrArg some (by kernel_rfl))
 f241:=Tryz.func185.trans (congrArg some (by kernel_rfl))
 f263:=Tryz.func182.trans (congrArg some (by kernel_rfl))
 f264:=Tryz.func183.trans (congrArg some (by kernel_rfl))
 f276:=Tryz.func201.trans (congrArg some (by kernel_rfl))
 f277:=Tryz.func202.trans (congrArg some (by kernel_rfl))
 t0:=Tryz.underlying0
 a0:=Tryz.isAgg0
 z0:=Tryz.sizeOf0
 v0:=Tryz.zeroValue0
 t3:=Tryz.underlying3
 a3:=Tryz.isAgg3
 z3:=Tryz.sizeOf3
 v3:=Tryz.zeroValue3
 t4:=Tryz.underlying4
 a4:=Tryz.isAgg4
 z4:=Tryz.sizeOf4
 v4:=Tryz.zeroValue4
 t5:=Tryz.underlying5
 a5:=Tryz.isAgg5
 z5:=Tryz.sizeOf5
 v5:=Tryz.zeroValue5
 t9:=Tryz.underlying9
 a9:=Tryz.isAgg9
 z9:=Tryz.sizeOf9
 v9:=Tryz.zeroValue9
 t20:=Tryz.underlying20
 a20:=Tryz.isAgg20
 z20:=Tryz.sizeOf20
 v20:=Tryz.zeroValue20
 t37:=Tryz.underlying178
 a37:=Tryz.isAgg178
 z37:=Tryz.sizeOf178
 v37:=Tryz.zeroValue178
 t46:=Tryz.underlying148
 a46:=Tryz.isAgg148
 z46:=Tryz.sizeOf148
 v46:=Tryz.zeroValue148
 t51:=Tryz.underlying105
 a51:=Tryz.isAgg105
 z51:=Tryz.sizeOf105
 v51:=Tryz.zeroValue105
 t53:=Tryz.underlying100
 a53:=Tryz.isAgg100
 z53:=Tryz.sizeOf100
 v53:=Tryz.zeroValue100
 t70:=Tryz.underlying224
 a70:=Tryz.isAgg224
 z70:=Tryz.sizeOf224
 v70:=Tryz.zeroValue224
 t72:=Tryz.underlying226
 a72:=Tryz.isAgg226
 z72:=Tryz.sizeOf226
 v72:=Tryz.zeroValue226
 t75:=Tryz.underlying102
 a75:=Tryz.isAgg102
 z75:=Tryz.sizeOf102
 v75:=Tryz.zeroValue102
 t76:=Tryz.underlying228
 a76:=Tryz.isAgg228
 z76:=Tryz.sizeOf228
 v76:=Tryz.zeroValue228
 t109:=Tryz.underlying222
 a109:=Tryz.isAgg222
 z109:=Tryz.sizeOf222
 v109:=Tryz.zeroValue222
 t127:=Tryz.underlying235
 a127:=Tryz.isAgg235
 z127:=Tryz.sizeOf235
 v127:=Tryz.zeroValue235
 t146:=Tryz.underlying205
 a146:=Tryz.isAgg205
 z146:=Tryz.sizeOf205
 v146:=Tryz.zeroValue205
 t148:=Tryz.underlying249
 a148:=Tryz.isAgg249
 z148:=Tryz.sizeOf249
 v148:=Tryz.zeroValue249
 t164:=Tryz.underlying267
 a164:=Tryz.isAgg267
 z164:=Tryz.sizeOf267
 v164:=Tryz.zeroValue267
theorem rep_extra:Go.Proofs.Builder.Extra Tryz.prog qsK where
 sizeBuilder:=by kernel_rfl
 liesBuilder:=by kernel_rfl
 t5:=Tryz.underlying5
 a5:=Tryz.isAgg5
 z5:=Tryz.sizeOf5
 v5:=Tryz.zeroValue5
 infoByte:=by kernel_rfl
 cellsByte:=by kernel_rfl
 sizeByte:=by kernel_rfl
 neB5:=by decide
noncomputable def qnW:Con:=⟨[.str,.int .i64],true,[],.str,fun x=>qkl x.1 x.2.1,none⟩
theorem qvU:ConOK Tryz.prog 141 qnW:=by
 refine⟨rfl,fun h=>(by cases h),fun g h=>(by cases h),fun w S args x r hS hT ha hr=>?_⟩
 obtain⟨s,n,⟨⟩⟩:=x
 obtain⟨v,q,e1,⟨cs,⟨_,rfl⟩,rfl⟩,v2,q2,rfl,⟨cs2,⟨_,rfl⟩,rfl⟩,h2⟩:=ha
 obtain rfl:q2=[]:=h2
 obtain rfl:args = #[.string s,.int .i64 n]:=by rw[←Array.toList_inj,e1];rfl
 have hr:qkl s n=some r:=hr
 obtain⟨hb,rfl⟩:=qjK hr
 simp only[Bool.and_eq_true,decide_eq_true_eq] at hb
 obtain⟨h0,h1,h3⟩:=hb
 have h3:=Nat.le_of_ble_eq_true h3
 obtain⟨m,rfl⟩:=Int.eq_ofNat_of_zero_le h0
 rw[Int.toNat_natCast] at h3
 refine(Any.strings_Repeat (P:=Tryz.prog) (ρ:=qsK) rep_lay rep_extra s m w (by omega) h3).mono ?_
 rintro e w' ⟨rfl,hb⟩
 exact⟨_,rfl,qiJ rfl hb,[],[.string _],List.nodup_nil,(by simp),⟨rfl,rfl⟩,rfl⟩

def ix1_ren:Go.Shelf.Ren:=⟨fun | 219=>71 | 217=>111 | 225=>112 | 224=>113 | 267=>114 | 266=>144 | 314=>145 | n=>n,fun | 9=>9 | 3=>3 | 4=>4 | 5=>5 | 46=>148 | 146=>205 | 51=>105 | n=>n,fun | 1=>0 | n=>n⟩
open Go.Shelf in
theorem ix1_lay:Go.Proofs.Lays.n219 Tryz.prog ix1_ren where
 mixed:=by kernel_rfl
 f217:=Tryz.func111.trans (congrArg some (by kernel_rfl))
 f219:=Tryz.func71.trans (congrArg some (by kernel_rfl))
 f224:=Tryz.func113.trans (congrArg some (by kernel_rfl))
 f225:=Tryz.func112.trans (congrArg some (by kernel_rfl))
 f266:=Tryz.func144.trans (congrArg some (by kernel_rfl))
 f267:=Tryz.func114.trans (congrArg some (by kernel_rfl))
 f314:=Tryz.func145.trans (congrArg some (by kernel_rfl))
 t3:=Tryz.underlying3
 a3:=Tryz.isAgg3
 z3:=Tryz.sizeOf3
 v3:=Tryz.zeroValue3
 t4:=Tryz.underlying4
 a4:=Tryz.isAgg4
 z4:=Tryz.sizeOf4
 v4:=Tryz.zeroValue4
 t5:=Tryz.underlying5
 a5:=Tryz.isAgg5
 z5:=Tryz.sizeOf5
 v5:=Tryz.zeroValue5
 t9:=Tryz.underlying9
 a9:=Tryz.isAgg9
 z9:=Tryz.sizeOf9
 v9:=Tryz.zeroValue9
 t46:=Tryz.underlying148
 a46:=Tryz.isAgg148
 z46:=Tryz.sizeOf148
 v46:=Tryz.zeroValue148
 t51:=Tryz.underlying105
 a51:=Tryz.isAgg105
 z51:=Tryz.sizeOf105
 v51:=Tryz.zeroValue105
 t146:=Tryz.underlying205
 a146:=Tryz.isAgg205
 z146:=Tryz.sizeOf205
 v146:=Tryz.zeroValue205
 g1:=by kernel_rfl
noncomputable def qq7:Con:=⟨[.str,.str],true,[],.int .i64,fun x=>idx1S x.1 x.2.1,none⟩
theorem idx1S_ok:ConOK Tryz.prog 71 qq7:=by
 refine⟨rfl,fun h=>(by cases h),fun g h=>(by cases h),fun w S args x r hS hT ha hr=>?_⟩
 obtain⟨s,sep,⟨⟩⟩:=x
 obtain⟨v,q,e1,⟨cs,⟨_,rfl⟩,rfl⟩,v2,q2,rfl,⟨cs2,⟨_,rfl⟩,rfl⟩,h2⟩:=ha
 obtain rfl:q2=[]:=h2
 obtain rfl:args = #[.string s,.string sep]:=by rw[←Array.toList_inj,e1];rfl
 have hr:idx1S s sep=some r:=hr
 obtain⟨hb,rfl⟩:=qjK hr
 obtain⟨c,rfl⟩:∃c:UInt8,sep=⟨#[c]⟩:=by
  have hb:=Nat.eq_of_beq_eq_true hb
  obtain⟨⟨l⟩⟩:=sep
  cases l with
  | nil=>cases hb
  | cons c l =>
   cases l with
   | nil=>exact⟨c,rfl⟩
   | cons d l=>exact absurd hb (by simp[ByteArray.size])
 refine(Any.stringslite_Index_one (P:=Tryz.prog) (ρ:=ix1_ren) ix1_lay s c w).mono ?_
 rintro e w' ⟨rfl,rfl⟩
 exact⟨_,rfl,Go.Eng.Chg.refl _ _,[],[.int .i64 _],List.nodup_nil,(by simp),⟨rfl,rfl⟩,rfl⟩

def tri_ren:Go.Shelf.Ren:=⟨fun | 160=>42 | 232=>73 | 231=>72 | 227=>74 | 234=>76 | 233=>75 | 236=>78 | 235=>77 | 228=>115 | 271=>118 | 151=>117 | 197=>116 | 120=>148 | 152=>147 | 260=>146 | 137=>172 | 119=>173 | 224=>113 | 225=>112 | 217=>111 | 266=>144 | n=>n,fun | 9=>9 | 4=>4 | 3=>3 | 5=>5 | 117=>143 | 116=>142 | 0=>0 | 124=>146 | 21=>21 | 105=>173 | 46=>148 | 119=>230 | 139=>233 | 138=>232 | n=>n,fun | 3=>3 | 4=>4 | n=>n⟩
open Go.Shelf in
theorem tri_lay:Go.Proofs.Lays.n160 Tryz.prog tri_ren where
 mixed:=by kernel_rfl
 f119:=Tryz.func173.trans (congrArg some (by kernel_rfl))
 f120:=Tryz.func148.trans (congrArg some (by kernel_rfl))
 f137:=Tryz.func172.trans (congrArg some (by kernel_rfl))
 f151:=Tryz.func117.trans (congrArg some (by kernel_rfl))
 f152:=Tryz.func147.trans (congrArg some (by kernel_rfl))
 f160:=Tryz.func42.trans (congrArg some (by kernel_rfl))
 f197:=Tryz.func116.trans (congrArg some (by kernel_rfl))
 f217:=Tryz.func111.trans (congrArg some (by kernel_rfl))
 f224:=Tryz.func113.trans (congrArg some (by kernel_rfl))
 f225:=Tryz.func112.trans (congrArg some (by kernel_rfl))
 f227:=Tryz.func74.trans (congrArg some (by kernel_rfl))
 f228:=Tryz.func115.trans (congrArg some (by kernel_rfl))
 f231:=Tryz.func72.trans (congrArg some (by kernel_rfl))
 f232:=Tryz.func73.trans (congrArg some (by kernel_rfl))
 f233:=Tryz.func75.trans (congrArg some (by kernel_rfl))
 f234:=Tryz.func76.trans (congrArg some (by kernel_rfl))
 f235:=Tryz.func77.trans (congrArg some (by kernel_rfl))
 f236:=Tryz.func78.trans (congrArg some (by kernel_rfl))
 f260:=Tryz.func146.trans (congrArg some (by kernel_rfl))
 f266:=Tryz.func144.trans (congrArg some (by kernel_rfl))
 f271:=Tryz.func118.trans (congrArg some (by kernel_rfl))
 t0:=Tryz.underlying0
 a0:=Tryz.isAgg0
 z0:=Tryz.sizeOf0
 v0:=Tryz.zeroValue0
 t3:=Tryz.underlying3
 a3:=Tryz.isAgg3
 z3:=Tryz.sizeOf3
 v3:=Tryz.zeroValue3
 t4:=Tryz.underlying4
 a4:=Tryz.isAgg4
 z4:=Tryz.sizeOf4
 v4:=Tryz.zeroValue4
 t5:=Tryz.underlying5
 a5:=Tryz.isAgg5
 z5:=Tryz.sizeOf5
 v5:=Tryz.zeroValue5
 t9:=Tryz.underlying9
 a9:=Tryz.isAgg9
 z9:=Tryz.sizeOf9
 v9:=Tryz.zeroValue9
 t21:=Tryz.underlying21
 a21:=Tryz.isAgg21
 z21:=Tryz.sizeOf21
 v21:=Tryz.zeroValue21
 t46:=Tryz.underlying148
 a46:=Tryz.isAgg148
 z46:=Tryz.sizeOf148
 v46:=Tryz.zeroValue148
 t105:=Tryz.underlying173
 a105:=Tryz.isAgg173
 z105:=Tryz.sizeOf173
 v105:=Tryz.zeroValue173
 t116:=Tryz.underlying142
 a116:=Tryz.isAgg142
 z116:=Tryz.sizeOf142
 t117:=Tryz.underlying143
 a117:=Tryz.isAgg143
 z117:=Tryz.sizeOf143
 v117:=Tryz.zeroValue143
 t119:=Tryz.underlying230
 a119:=Tryz.isAgg230
 z119:=Tryz.sizeOf230
 t124:=Tryz.underlying146
 a124:=Tryz.isAgg146
 z124:=Tryz.sizeOf146
 v124:=Tryz.zeroValue146
 t138:=Tryz.underlying232
 a138:=Tryz.isAgg232
 z138:=Tryz.sizeOf232
 v138:=Tryz.zeroValue232
 t139:=Tryz.underlying233
 a139:=Tryz.isAgg233
 z139:=Tryz.sizeOf233
 v139:=Tryz.zeroValue233
 g3:=by kernel_rfl
 g4:=by kernel_rfl
noncomputable def qrl:Con:=⟨[.str,.str],true,[],.str,fun x=>trimS x.1 x.2.1,none⟩
theorem trimS_ok:ConOK Tryz.prog 42 qrl:=by
 refine⟨rfl,fun h=>(by cases h),fun g h=>(by cases h),fun w S args x r hS hT ha hr=>?_⟩
 obtain⟨s,sep,⟨⟩⟩:=x
 obtain⟨v,q,e1,⟨cs,⟨_,rfl⟩,rfl⟩,v2,q2,rfl,⟨cs2,⟨_,rfl⟩,rfl⟩,h2⟩:=ha
 obtain rfl:q2=[]:=h2
 obtain rfl:args = #[.string s,.string sep]:=by rw[←Array.toList_inj,e1];rfl
 have hr:trimS s sep=some r:=hr
 obtain⟨hb,rfl⟩:=qjK hr
 simp only[Bool.and_eq_true] at hb
 obtain⟨h3,h4,h5⟩:=hb
 have h3:=Nat.le_of_ble_eq_true h3
 have h4:=Nat.le_of_ble_eq_true h4
 refine(Any.strings_Trim_laid (P:=Tryz.prog) (ρ:=tri_ren) tri_lay (by kernel_rfl) s sep w h3 (by omega) (fun j b hj=>of_decide_eq_true (List.all_eq_true.1 h5 b (List.mem_of_getElem? hj)))).mono ?_
 rintro e w' ⟨rfl,hb⟩
 exact⟨_,rfl,qiJ rfl hb,[],[.string _],List.nodup_nil,(by simp),⟨rfl,rfl⟩,rfl⟩

def bck_ren:Go.Shelf.Ren:=⟨fun | 240=>184 | 276=>201 | n=>n,fun | 0=>0 | 4=>4 | 5=>5 | 9=>9 | 20=>20 | 37=>178 | 70=>224 | 72=>226 | 164=>267 | n=>n,fun | n=>n⟩
open Go.Shelf in
theorem bck_lay:Go.Proofs.Lays.n240 Tryz.prog bck_ren where
 mixed:=by kernel_rfl
 f240:=Tryz.func184.trans (congrArg some (by kernel_rfl))
 f276:=Tryz.func201.trans (congrArg some (by kernel_rfl))
 t0:=Tryz.underlying0
 a0:=Tryz.isAgg0
 z0:=Tryz.sizeOf0
 v0:=Tryz.zeroValue0
 t4:=Tryz.underlying4
 a4:=Tryz.isAgg4
 z4:=Tryz.sizeOf4
 v4:=Tryz.zeroValue4
 t9:=Tryz.underlying9
 a9:=Tryz.isAgg9
 z9:=Tryz.sizeOf9
 v9:=Tryz.zeroValue9
 t20:=Tryz.underlying20
 a20:=Tryz.isAgg20
 z20:=Tryz.sizeOf20
 v20:=Tryz.zeroValue20
 t70:=Tryz.underlying224
 a70:=Tryz.isAgg224
 z70:=Tryz.sizeOf224
 v70:=Tryz.zeroValue224
 t72:=Tryz.underlying226
 a72:=Tryz.isAgg226
 z72:=Tryz.sizeOf226
 v72:=Tryz.zeroValue226
 t164:=Tryz.underlying267
 a164:=Tryz.isAgg267
 z164:=Tryz.sizeOf267
 v164:=Tryz.zeroValue267
theorem qe:CkOK Tryz.prog 184 226:=ck_of (P:=Tryz.prog) (ρ:=bck_ren) bck_lay ⟨by kernel_rfl,by kernel_rfl⟩

def qkO:Ann:=(.two .nil (.two .nil (.two (.two .nil (.joinE ⟨[],[],[]⟩ (.two (.loop ⟨[3,4,9,19],[(20,Zt39)],[]⟩ (.two .nil (.two .nil (.two (.joinE ⟨[3,4,9,19,20],[],[]⟩ (.two (.two .nil (.two .nil (.joinE ⟨[3,4,9,19,20],[],[]⟩ (.two (.loop ⟨[3,4,9,10,19,20,27],[(28,Zt39)],[]⟩ (.two .nil (.two .nil (.two (.joinE ⟨[3,4,9,10,19,20,27,28],[],[]⟩ (.two (.two .nil (.two .nil (.two (.join ⟨[3,4,9,10,19,20,27,28],[(15,Zt39)],[]⟩ (.two (.loop ⟨[3,4,9,10,12,19,20,27,28],[(13,Zt39),(14,Zt39),(15,Zt39)],[]⟩ (.two (.two (.join ⟨[3,4,9,10,12,13,14,15,19,20,27,28],[(47,.bool)],[]⟩ .nil) .nil) .nil)) .nil)) .nil))) .nil)) .nil)))) .nil)))) .nil)) .nil)))) .nil))) .nil)))
noncomputable def endsLine_con:Con:=⟨[Zt4,Zt10,Zt39,Zt39],true,[],.bool,fun x=>qlN x.1 x.2.1 x.2.2.1 x.2.2.2.1,none⟩
noncomputable def qla:Env:=(177,.body Tryz.f177)::(184,.ck 226)::[]
theorem qqH (x:DL endsLine_con.ps):endsLine_con.φ x=denF Tryz.prog qla qkO Tryz.f156 endsLine_con.ps endsLine_con.one endsLine_con.res endsLine_con.ρ x:=by kernel_rfl
theorem qtw:ConOK Tryz.prog 156 endsLine_con :=
 qa (env:=qla) ((EnvOK.body (EnvOK.check (EnvOK.nil _) qe) Tryz.func177)) mixed Tryz.func156 endsLine_con qkO (by kernel_rfl) (fun h=>by first | rfl | cases h) (fun g hg=>by cases hg) qqH
def qf4:Ann := .nil
noncomputable def rulesIsLast_con:Con:=⟨[Zt4,Zt39,Zt39],true,[],.bool,fun x=>qdN x.1 x.2.1 x.2.2.1,none⟩
noncomputable def qgY:Env:=[]
theorem qmE (x:DL rulesIsLast_con.ps):rulesIsLast_con.φ x=denF Tryz.prog qgY qf4 Tryz.f157 rulesIsLast_con.ps rulesIsLast_con.one rulesIsLast_con.res rulesIsLast_con.ρ x:=by kernel_rfl
theorem qhO:ConOK Tryz.prog 157 rulesIsLast_con :=
 qa (env:=qgY) ((EnvOK.nil _)) mixed Tryz.func157 rulesIsLast_con qf4 (by kernel_rfl) (fun h=>by first | rfl | cases h) (fun g hg=>by cases hg) qmE
def qjL:Ann:=(.two .nil (.two (.two .nil (.joinE ⟨[3,5,6],[],[]⟩ (.two (.two .nil (.two .nil (.two .nil (.two (.two (.two .nil (.joinE ⟨[3,5,6],[],[]⟩ (.two (.loop ⟨[3,4,5,6,27,28],[(29,Zt39)],[]⟩ .nil) .nil))) .nil) .nil)))) .nil))) (.two .nil (.two (.two .nil (.join ⟨[6],[(11,Zt39)],[]⟩ (.two (.loop ⟨[3,6,50,51],[(11,Zt39),(52,Zt39)],[]⟩ (.two .nil (.two .nil (.two (.two (.two .nil (.two .nil (.join ⟨[3,6,50,51,52],[(11,Zt39)],[]⟩ .nil))) .nil) .nil)))) .nil))) .nil))))
noncomputable def endsHolds_con:Con:=⟨[Zt4,Zt10,Zt21,Zt39],true,[],.bool,fun x=>qi3 x.1 x.2.1 x.2.2.1 x.2.2.2.1,none⟩
noncomputable def qiy:Env:=(157,.con rulesIsLast_con)::(156,.con endsLine_con)::[]
theorem qpU (x:DL endsHolds_con.ps):endsHolds_con.φ x=denF Tryz.prog qiy qjL Tryz.f134 endsHolds_con.ps endsHolds_con.one endsHolds_con.res endsHolds_con.ρ x:=by kernel_rfl
theorem qq4:ConOK Tryz.prog 134 endsHolds_con :=
 qa (env:=qiy) ((EnvOK.cons (EnvOK.cons (EnvOK.nil _) qtw) qhO)) mixed Tryz.func134 endsHolds_con qjL (by kernel_rfl) (fun h=>by first | rfl | cases h) (fun g hg=>by cases hg) qpU
def qlk:Ann := .nil
noncomputable def endsWins_con:Con:=⟨[Zt39],true,[],Zt39,fun x=>qkE x.1,some fun x=>qck x.1⟩
noncomputable def qly:Env:=[]
theorem qrx (x:DL endsWins_con.ps):endsWins_con.φ x=denF Tryz.prog qly qlk Tryz.f135 endsWins_con.ps endsWins_con.one endsWins_con.res endsWins_con.ρ x:=by kernel_rfl
theorem qtQ:ConOK Tryz.prog 135 endsWins_con :=
 qa (env:=qly) ((EnvOK.nil _)) mixed Tryz.func135 endsWins_con qlk (by kernel_rfl) (fun h=>by first | rfl | cases h) (fun g hg x=>by
  cases hg
  exact qtA _) qrx
def qgW:Ann:=(.two .nil (.two (.two .nil (.joinE ⟨[],[],[]⟩ (.two (.loop ⟨[3,4],[(2,Zt39)],[]⟩ .nil) .nil))) .nil))
noncomputable def movesFilled_con:Con:=⟨[Zt4,Zt10,Zt39],true,[],.bool,fun x=>qfv x.1 x.2.1 x.2.2.1,none⟩
noncomputable def qgK:Env:=[]
theorem ql6 (x:DL movesFilled_con.ps):movesFilled_con.φ x=denF Tryz.prog qgK qgW Tryz.f178 movesFilled_con.ps movesFilled_con.one movesFilled_con.res movesFilled_con.ρ x:=by kernel_rfl
theorem qoo:ConOK Tryz.prog 178 movesFilled_con :=
 qa (env:=qgK) ((EnvOK.nil _)) mixed Tryz.func178 movesFilled_con qgW (by kernel_rfl) (fun h=>by first | rfl | cases h) (fun g hg=>by cases hg) ql6
def qj7:Ann:=(.two .nil (.two .nil (.two (.two .nil (.join ⟨[],[(5,Zt22)],[]⟩ (.two (.loop ⟨[2,3,11,12],[(5,Zt22),(13,Zt39)],[]⟩ (.two .nil (.two .nil (.two (.join ⟨[2,3,11,12,13],[(5,Zt22)],[(2,none)]⟩ (.two (.two .nil (.two .nil (.two .nil (.join ⟨[2,3,11,12,13],[(5,Zt22)],[(2,none)]⟩ (.two (.loop ⟨[2,3,6,11,12,13,41,42],[(5,Zt22),(43,Zt39)],[(2,none)]⟩ (.two .nil (.two .nil (.two (.two (.two .nil (.two .nil (.join ⟨[2,3,6,11,12,13,41,42,43],[(5,Zt22)],[(3,none)]⟩ .nil))) .nil) .nil)))) .nil))))) .nil)) .nil)))) .nil))) .nil)))
noncomputable def movesPuts_con:Con:=⟨[Zt4,Zt10],true,[],Zt22,fun x=>qir x.1 x.2.1,none⟩
noncomputable def qjA:Env:=(178,.con movesFilled_con)::[]
theorem qqd (x:DL movesPuts_con.ps):movesPuts_con.φ x=denF Tryz.prog qjA qj7 Tryz.f158 movesPuts_con.ps movesPuts_con.one movesPuts_con.res movesPuts_con.ρ x:=by kernel_rfl
theorem qqz:ConOK Tryz.prog 158 movesPuts_con :=
 qa (env:=qjA) ((EnvOK.cons (EnvOK.nil _) qoo)) mixed Tryz.func158 movesPuts_con qj7 (by kernel_rfl) (fun h=>by first | rfl | cases h) (fun g hg=>by cases hg) qqd
def qkY:Ann:=(.two .nil (.two .nil (.two .nil (.two (.two .nil (.join ⟨[2,4,5,7,9],[(10,Zt39)],[]⟩ .nil)) (.two .nil (.two (.two .nil (.join ⟨[],[(9,Zt34)],[]⟩ (.two (.loop ⟨[4,5,7,10,31],[(9,Zt34),(11,Zt39),(12,Zt39),(32,Zt39)],[]⟩ (.two .nil (.two .nil (.two (.two (.two .nil (.two .nil (.two .nil (.two .nil (.two (.two .nil (.join ⟨[4,5,7,10,11,12,13,31,32],[(9,Zt34)],[(3,none)]⟩ .nil)) .nil))))) .nil) .nil)))) .nil))) .nil))))))
noncomputable def movesWay_con:Con:=⟨[Zt4,Zt10,Zt39,Zt18],true,[],Zt34,fun x=>ql1 x.1 x.2.1 x.2.2.1 x.2.2.2.1,none⟩
noncomputable def qk7:Env:=[]
theorem qqM (x:DL movesWay_con.ps):movesWay_con.φ x=denF Tryz.prog qk7 qkY Tryz.f159 movesWay_con.ps movesWay_con.one movesWay_con.res movesWay_con.ρ x:=by kernel_rfl
theorem qsU:ConOK Tryz.prog 159 movesWay_con :=
 qa (env:=qk7) ((EnvOK.nil _)) mixed Tryz.func159 movesWay_con qkY (by kernel_rfl) (fun h=>by first | rfl | cases h) (fun g hg=>by cases hg) qqM
def qi8:Ann:=(.two .nil (.two .nil (.two (.two .nil (.join ⟨[],[(5,Zt22)],[(2,none)]⟩ (.two (.loop ⟨[2,3,19,20],[(5,Zt22),(21,Zt39)],[(2,none)]⟩ (.two .nil (.two .nil (.two (.join ⟨[2,3,19,20,21],[(5,Zt22)],[(3,none)]⟩ (.two (.two .nil (.two .nil (.two .nil (.two .nil (.join ⟨[2,3,19,20,21],[(5,Zt22)],[(3,none)]⟩ (.two (.loop ⟨[2,3,6,8,19,20,21,44,45],[(5,Zt22),(46,Zt39)],[(3,none)]⟩ (.two .nil (.two .nil (.two (.join ⟨[2,3,6,8,19,20,21,44,45,46],[(5,Zt22)],[(4,none)]⟩ (.two (.two .nil (.two .nil (.join ⟨[2,3,6,8,19,20,21,44,45,46],[(5,Zt22)],[(4,none)]⟩ (.two (.loop ⟨[2,3,6,8,19,20,21,44,45,46,54,55],[(5,Zt22),(56,Zt39)],[(4,none)]⟩ (.two .nil (.two .nil (.two (.two (.two .nil (.two .nil (.two (.two .nil (.two .nil (.join ⟨[2,3,5,6,8,13,19,20,21,44,45,46,54,55,56],[],[(8,some (.box Zt24))]⟩ .nil))) .nil))) .nil) .nil)))) .nil)))) .nil)) .nil)))) .nil)))))) .nil)) .nil)))) .nil))) (.two .nil (.two (.join ⟨[],[(4,Zt22)],[(3,none)]⟩ (.two (.two .nil (.two .nil (.two (.two .nil (.joinE ⟨[0],[],[(3,some (.arr 163 Zt24))]⟩ (.two (.loop ⟨[0],[(3,Zt39)],[(3,some (.arr 163 Zt24))]⟩ (.two .nil (.two (.joinE ⟨[0],[(3,Zt39)],[(3,some (.arr 163 Zt24))]⟩ (.two (.two .nil (.two (.two (.own .nil) (.two (.two .nil (.join ⟨[0],[(3,Zt39)],[(3,some (.arr 163 Zt24))]⟩ (.two (.loop ⟨[0,4],[(3,Zt39),(5,Zt39)],[(3,some (.arr 163 Zt24))]⟩ (.two .nil (.two (.two (.two .nil (.join ⟨[0,4,5],[(3,Zt39)],[(3,some (.arr 163 Zt24))]⟩ .nil)) .nil) .nil))) .nil))) (.two (.own .nil) (.two (.own .nil) .nil)))) .nil)) .nil)) .nil))) .nil))) .nil))) .nil)) .nil)))))
noncomputable def movesList_con:Con:=⟨[Zt4,Zt10],true,[],Zt22,fun x=>qc5 x.1 x.2.1,none⟩
noncomputable def qiU:Env:=(163,.body Tryz.f163)::(160,.srt qe9)::(157,.con rulesIsLast_con)::(159,.con movesWay_con)::(184,.ck 226)::(158,.con movesPuts_con)::[]
theorem qpo (x:DL movesList_con.ps):movesList_con.φ x=denF Tryz.prog qiU qi8 Tryz.f136 movesList_con.ps movesList_con.one movesList_con.res movesList_con.ρ x:=by kernel_rfl
theorem qg1:ConOK Tryz.prog 136 movesList_con :=
 qa (env:=qiU) ((EnvOK.body (EnvOK.sort (EnvOK.cons (EnvOK.cons (EnvOK.check (EnvOK.cons (EnvOK.nil _) qqz) qe) qsU) qhO) qqJ) Tryz.func163)) mixed Tryz.func136 movesList_con qi8 (by kernel_rfl) (fun h=>by first | rfl | cases h) (fun g hg=>by cases hg) qpo
def qhy:Ann:=(.two .nil (.two .nil (.two (.two (.two (.two .nil (.two (.two .nil (.joinE ⟨[],[],[]⟩ (.two (.loop ⟨[0,1,7],[(8,Zt39)],[]⟩ .nil) .nil))) .nil)) .nil) .nil) .nil)))
noncomputable def endsResult_con:Con:=⟨[Zt4,Zt10],true,[],Zt39,fun x=>qeM x.1 x.2.1,none⟩
noncomputable def qhv:Env:=(135,.con endsWins_con)::(136,.con movesList_con)::(134,.con endsHolds_con)::(133,.body Tryz.f133)::(132,.body Tryz.f132)::(184,.ck 226)::[]
theorem qon (x:DL endsResult_con.ps):endsResult_con.φ x=denF Tryz.prog qhv qhy Tryz.f98 endsResult_con.ps endsResult_con.one endsResult_con.res endsResult_con.ρ x:=by kernel_rfl
theorem qjN:ConOK Tryz.prog 98 endsResult_con :=
 qa (env:=qhv) ((EnvOK.cons (EnvOK.cons (EnvOK.cons (EnvOK.body (EnvOK.body (EnvOK.check (EnvOK.nil _) qe) Tryz.func132) Tryz.func133) qq4) qg1) qtQ)) mixed Tryz.func98 endsResult_con qhy (by kernel_rfl) (fun h=>by first | rfl | cases h) (fun g hg=>by cases hg) qon
def qiX:Ann := .nil
noncomputable def endsMoves_con:Con:=⟨[Zt4,Zt10],true,[],Zt22,fun x=>qg2 x.1 x.2.1,none⟩
noncomputable def qiQ:Env:=(136,.con movesList_con)::(98,.con endsResult_con)::[]
theorem qqj (x:DL endsMoves_con.ps):endsMoves_con.φ x=denF Tryz.prog qiQ qiX Tryz.f155 endsMoves_con.ps endsMoves_con.one endsMoves_con.res endsMoves_con.ρ x:=by kernel_rfl
theorem qrj:ConOK Tryz.prog 155 endsMoves_con :=
 qa (env:=qiQ) ((EnvOK.cons (EnvOK.cons (EnvOK.nil _) qjN) qg1)) mixed Tryz.func155 endsMoves_con qiX (by kernel_rfl) (fun h=>by first | rfl | cases h) (fun g hg=>by cases hg) qqj
def qiI:Ann:=(.two .nil (.two (.two .nil (.joinE ⟨[0],[],[]⟩ (.two (.loop ⟨[0,6],[(7,Zt39)],[]⟩ .nil) .nil))) .nil))
noncomputable def rulesName_con:Con:=⟨[.str],true,[],.bool,fun x=>qjD x.1,none⟩
noncomputable def qiB:Env:=[]
theorem qqr (x:DL rulesName_con.ps):rulesName_con.φ x=denF Tryz.prog qiB qiI Tryz.f91 rulesName_con.ps rulesName_con.one rulesName_con.res rulesName_con.ρ x:=by kernel_rfl
theorem qra:ConOK Tryz.prog 91 rulesName_con :=
 qa (env:=qiB) ((EnvOK.nil _)) mixed Tryz.func91 rulesName_con qiI (by kernel_rfl) (fun h=>by first | rfl | cases h) (fun g hg=>by cases hg) qqr
def qgb:Ann := .nil
noncomputable def rulesWithin_con:Con:=⟨[Zt39,Zt39,Zt39],true,[],.bool,fun x=>qfE x.1 x.2.1 x.2.2.1,some fun x=>qd x.1 x.2.1 x.2.2.1⟩
noncomputable def qf6:Env:=[]
theorem qnr (x:DL rulesWithin_con.ps):rulesWithin_con.φ x=denF Tryz.prog qf6 qgb Tryz.f92 rulesWithin_con.ps rulesWithin_con.one rulesWithin_con.res rulesWithin_con.ρ x:=by kernel_rfl
theorem qey:ConOK Tryz.prog 92 rulesWithin_con :=
 qa (env:=qf6) ((EnvOK.nil _)) mixed Tryz.func92 rulesWithin_con qgb (by kernel_rfl) (fun h=>by first | rfl | cases h) (fun g hg x=>by
  cases hg
  exact qnX _ _ _) qnr
def qgH:Ann:=(.two .nil (.two .nil (.two .nil (.two (.two .nil (.joinE ⟨[],[],[]⟩ (.two (.loop ⟨[1,16,17],[(18,Zt39)],[]⟩ (.two .nil (.two .nil (.two (.joinE ⟨[1,16,17,18],[],[]⟩ (.two (.two .nil (.two (.two (.two .nil (.two .nil (.two (.two (.two .nil (.two (.two (.two .nil (.two (.two .nil (.joinE ⟨[],[],[]⟩ (.two (.loop ⟨[0,1,7],[(8,Zt39)],[]⟩ .nil) .nil))) .nil)) .nil) .nil)) .nil) .nil))) .nil) (.two .nil (.joinE ⟨[1,16,17,18],[],[]⟩ (.two (.loop ⟨[1,16,17,18,59,60],[(61,Zt39)],[]⟩ .nil) .nil))))) .nil)) .nil)))) .nil))) .nil))))
noncomputable def rulesPieces_con:Con:=⟨[Zt4],true,[],Zt39,fun x=>qfz x.1,none⟩
noncomputable def qgh:Env:=(92,.con rulesWithin_con)::(128,.body Tryz.f128)::(153,.body Tryz.f153)::(127,.body Tryz.f127)::(184,.ck 226)::[]
theorem qmZ (x:DL rulesPieces_con.ps):rulesPieces_con.φ x=denF Tryz.prog qgh qgH Tryz.f93 rulesPieces_con.ps rulesPieces_con.one rulesPieces_con.res rulesPieces_con.ρ x:=by kernel_rfl
theorem qoc:ConOK Tryz.prog 93 rulesPieces_con :=
 qa (env:=qgh) ((EnvOK.cons (EnvOK.body (EnvOK.body (EnvOK.body (EnvOK.check (EnvOK.nil _) qe) Tryz.func127) Tryz.func153) Tryz.func128) qey)) mixed Tryz.func93 rulesPieces_con qgH (by kernel_rfl) (fun h=>by first | rfl | cases h) (fun g hg=>by cases hg) qmZ
def qd6:Ann:=(.two .nil (.two .nil (.two (.two .nil (.joinE ⟨[],[],[]⟩ (.two (.loop ⟨[1,12,13],[(14,Zt39)],[]⟩ (.two .nil (.two .nil (.two (.two (.two .nil (.two .nil (.two (.two .nil (.two (.two .nil (.joinE ⟨[1,12,13,14],[(5,.bool),(6,.bool)],[]⟩ (.two .nil (.two .nil (.joinE ⟨[1,6,12,13,14],[(5,.bool)],[]⟩ .nil))))) .nil)) .nil))) .nil) .nil)))) .nil))) .nil)))
noncomputable def rulesConditions_con:Con:=⟨[Zt4],true,[],Zt39,fun x=>qbx x.1,none⟩
noncomputable def qdY:Env:=(92,.con rulesWithin_con)::(184,.ck 226)::[]
theorem qh9 (x:DL rulesConditions_con.ps):rulesConditions_con.φ x=denF Tryz.prog qdY qd6 Tryz.f96 rulesConditions_con.ps rulesConditions_con.one rulesConditions_con.res rulesConditions_con.ρ x:=by kernel_rfl
theorem qjf:ConOK Tryz.prog 96 rulesConditions_con :=
 qa (env:=qdY) ((EnvOK.cons (EnvOK.check (EnvOK.nil _) qe) qey)) mixed Tryz.func96 rulesConditions_con qd6 (by kernel_rfl) (fun h=>by first | rfl | cases h) (fun g hg=>by cases hg) qh9
def qhA:Ann:=(.two .nil (.two .nil (.two .nil (.two .nil (.two .nil (.two (.two (.two (.two .nil (.two (.two (.two .nil (.two (.two .nil (.joinE ⟨[],[],[]⟩ (.two (.loop ⟨[0,1,7],[(8,Zt39)],[]⟩ .nil) .nil))) .nil)) .nil) .nil)) .nil) .nil) .nil))))))
noncomputable def rulesCheck_con:Con:=⟨[Zt4],true,[],Zt39,fun x=>qeJ x.1,none⟩
noncomputable def qhw:Env:=(96,.con rulesConditions_con)::(95,.body Tryz.f95)::(129,.body Tryz.f129)::(94,.body Tryz.f94)::(93,.con rulesPieces_con)::(92,.con rulesWithin_con)::(91,.con rulesName_con)::[]
theorem qn9 (x:DL rulesCheck_con.ps):rulesCheck_con.φ x=denF Tryz.prog qhw qhA Tryz.f52 rulesCheck_con.ps rulesCheck_con.one rulesCheck_con.res rulesCheck_con.ρ x:=by kernel_rfl
theorem qjj:ConOK Tryz.prog 52 rulesCheck_con :=
 qa (env:=qhw) ((EnvOK.cons (EnvOK.body (EnvOK.body (EnvOK.body (EnvOK.cons (EnvOK.cons (EnvOK.cons (EnvOK.nil _) qra) qey) qoc) Tryz.func94) Tryz.func129) Tryz.func95) qjf)) mixed Tryz.func52 rulesCheck_con qhA (by kernel_rfl) (fun h=>by first | rfl | cases h) (fun g hg=>by cases hg) qn9
def qdK:Ann := .nil
noncomputable def slicesClone_int_con:Con:=⟨[Zt36],true,[],Zt34,fun x=>qM x.1,none⟩
noncomputable def qdM:Env:=[]
theorem qii (x:DL slicesClone_int_con.ps):slicesClone_int_con.φ x=denF Tryz.prog qdM qdK Tryz.f53 slicesClone_int_con.ps slicesClone_int_con.one slicesClone_int_con.res slicesClone_int_con.ρ x:=by kernel_rfl
theorem qel:ConOK Tryz.prog 53 slicesClone_int_con :=
 qa (env:=qdM) ((EnvOK.nil _)) mixed Tryz.func53 slicesClone_int_con qdK (by kernel_rfl) (fun h=>by first | rfl | cases h) (fun g hg=>by cases hg) qii
def qE:Ann:=(.ord 13 0 .nil (.ord 16 0 .nil (.ord 18 0 .nil (.ord 19 0 .nil .nil))))
def qcr:Ann:=(.alt (.ord 6 0 .nil (.ord 15 0 .nil (.ord 12 0 .nil qE))) (.ord 12 0 .nil (.ord 6 0 .nil (.ord 15 0 .nil qE))))
def qgf:Ann:=(.alt (.ord 6 0 .nil (.ord 9 155135 .nil (.ord 15 0 .nil (.ord 12 0 .nil qE)))) (.alt (.ord 9 0 .nil qcr) (.ord 12 0 .nil (.alt (.ord 6 0 .nil (.ord 9 0 .nil (.ord 15 0 .nil qE))) (.ord 9 0 .nil (.ord 6 0 .nil (.ord 15 0 .nil qE)))))))
def qdI:Ann:=(.ord 11 182271 .nil (.ord 15 0 .nil (.ord 12 0 .nil qE)))
def qgX:Ann:=(.alt (.ord 5 0 .nil qcr) (.ord 12 0 .nil (.ord 5 0 .nil (.ord 6 0 .nil (.ord 15 0 .nil qE)))))
def qhF:Ann:=(.two .nil (.two .nil (.two .nil (.two (.two .nil (.join ⟨[2,5],[],[(2,none),(3,some (.box Zt11))]⟩ (.two (.loop ⟨[2,5,19,20],[(21,Zt39)],[(2,none),(3,some (.box Zt11))]⟩ (.two .nil (.two .nil (.two (.two (.two .nil (.join ⟨[2,5,19,20,21],[],[(3,some (.box Zt11)),(4,none),(5,none),(6,none)]⟩ (.any 446367 4128 (.ord 0 0 .nil (.ord 1 0 .nil (.ord 2 155579 .nil (.ord 3 0 .nil (.ord 4 155535 .nil (.ord 7 0 .nil (.ord 8 0 .nil (.ord 10 0 .nil (.ord 14 0 .nil (.ord 17 0 .nil (.alt (.ord 5 0 .nil (.alt (.ord 6 0 .nil (.ord 9 155135 .nil qdI)) (.alt (.ord 9 0 .nil (.alt (.ord 6 0 .nil qdI) (.ord 11 0 .nil qcr))) (.ord 11 0 .nil qgf)))) (.alt (.ord 9 0 .nil (.alt (.ord 5 0 .nil (.alt (.ord 6 0 .nil qdI) (.ord 11 0 .nil qcr))) (.ord 11 0 .nil qgX))) (.ord 11 0 .nil (.alt (.ord 5 0 .nil qgf) (.alt (.ord 9 0 .nil qgX) (.ord 12 0 .nil (.alt (.ord 5 0 .nil (.alt (.ord 6 0 .nil (.ord 9 0 .nil (.ord 15 0 .nil qE))) (.ord 9 0 .nil (.ord 6 0 .nil (.ord 15 0 .nil qE))))) (.ord 9 0 .nil (.ord 5 0 .nil (.ord 6 0 .nil (.ord 15 0 .nil qE)))))))))))))))))))))))) .nil) .nil)))) .nil))) .nil))))
noncomputable def placeBegin_con:Con:=⟨[Zt4],false,[Zt9,Zt39],(.st Zt9 Zt32),fun x=>qhl x.1,none⟩
noncomputable def qhT:Env:=(53,.con slicesClone_int_con)::(52,.con rulesCheck_con)::(184,.ck 226)::[]
theorem qod (x:DL placeBegin_con.ps):placeBegin_con.φ x=denF Tryz.prog qhT qhF Tryz.f28 placeBegin_con.ps placeBegin_con.one placeBegin_con.res placeBegin_con.ρ x:=by kernel_rfl
theorem qp8:ConOK Tryz.prog 28 placeBegin_con :=
 qa (env:=qhT) ((EnvOK.cons (EnvOK.cons (EnvOK.check (EnvOK.nil _) qe) qjj) qel)) mixed Tryz.func28 placeBegin_con qhF (by kernel_rfl) (fun h=>by first | rfl | cases h) (fun g hg=>by cases hg) qod
def qdw:Ann:=(.two .nil (.two .nil (.two (.two .nil (.join ⟨[0],[(3,Zt39)],[]⟩ (.two (.loop ⟨[0,9,10],[(3,Zt39),(11,Zt39)],[]⟩ .nil) .nil))) (.two (.two (.two .nil (.two .nil (.two (.two .nil (.two .nil (.join ⟨[],[(0,Zt34)],[]⟩ (.two (.own (.own .nil)) .nil)))) .nil))) .nil) (.two (.two .nil (.join ⟨[],[(6,Zt34)],[(0,none)]⟩ (.two (.loop ⟨[25,26],[(6,Zt34),(27,Zt39)],[(0,none)]⟩ .nil) .nil))) .nil)))))
noncomputable def slicesConcat_int_con:Con:=⟨[(.sl Zt36)],true,[],Zt34,fun x=>qbW x.1,none⟩
noncomputable def qdo:Env:=(186,.body Tryz.f186)::[]
theorem qhr (x:DL slicesConcat_int_con.ps):slicesConcat_int_con.φ x=denF Tryz.prog qdo qdw Tryz.f176 slicesConcat_int_con.ps slicesConcat_int_con.one slicesConcat_int_con.res slicesConcat_int_con.ρ x:=by kernel_rfl
theorem qib:ConOK Tryz.prog 176 slicesConcat_int_con :=
 qa (env:=qdo) ((EnvOK.body (EnvOK.nil _) Tryz.func186)) mixed Tryz.func176 slicesConcat_int_con qdw (by kernel_rfl) (fun h=>by first | rfl | cases h) (fun g hg=>by cases hg) qhr
def qfZ:Ann:=(.ord 6 0 (.two .nil (.two (.two (.two .nil (.two (.two .nil (.joinE ⟨[],[],[]⟩ (.two (.loop ⟨[0,1,7],[(8,Zt39)],[]⟩ .nil) .nil))) .nil)) .nil) .nil)) (.ord 7 0 .nil (.ord 8 0 .nil (.ord 9 0 .nil (.ord 10 0 .nil (.ord 11 0 (.two .nil (.two (.two (.two .nil (.two (.two .nil (.joinE ⟨[],[],[]⟩ (.two (.loop ⟨[0,1,7],[(8,Zt39)],[]⟩ .nil) .nil))) .nil)) .nil) .nil)) (.ord 12 0 .nil (.ord 13 0 .nil (.ord 14 0 .nil (.ord 15 0 .nil (.ord 16 0 .nil (.ord 17 0 .nil (.ord 18 0 .nil (.ord 19 0 .nil (.ord 20 0 .nil (.ord 21 0 .nil (.ord 22 0 .nil (.ord 23 0 .nil (.ord 24 0 .nil (.ord 25 0 .nil (.ord 26 0 .nil (.ord 27 0 .nil (.ord 28 0 .nil (.ord 29 0 .nil (.ord 30 0 .nil (.ord 31 0 .nil (.ord 32 0 .nil .nil)))))))))))))))))))))))))))
def qhC:Ann:=(.two .nil (.two .nil (.two .nil (.two .nil (.two .nil (.two (.two (.join ⟨[],[(76,.bool)],[]⟩ (.any 8589931423 0 (.ord 0 0 .nil (.ord 2 0 .nil (.ord 3 0 .nil (.ord 4 0 .nil (.alt (.ord 1 0 .nil (.ord 5 0 .nil qfZ)) (.ord 5 0 .nil (.ord 1 0 .nil qfZ))))))))) .nil) .nil))))))
noncomputable def placeSound_con:Con:=⟨[Zt4,Zt10],true,[],Zt39,fun x=>qg9 x.1 x.2.1,none⟩
noncomputable def qhB:Env:=(175,.body Tryz.f175)::(129,.body Tryz.f129)::(94,.body Tryz.f94)::(174,.body Tryz.f174)::(176,.con slicesConcat_int_con)::[]
theorem qok (x:DL placeSound_con.ps):placeSound_con.φ x=denF Tryz.prog qhB qhC Tryz.f154 placeSound_con.ps placeSound_con.one placeSound_con.res placeSound_con.ρ x:=by kernel_rfl
theorem qpP:ConOK Tryz.prog 154 placeSound_con :=
 qa (env:=qhB) ((EnvOK.body (EnvOK.body (EnvOK.body (EnvOK.body (EnvOK.cons (EnvOK.nil _) qib) Tryz.func174) Tryz.func94) Tryz.func129) Tryz.func175)) mixed Tryz.func154 placeSound_con qhC (by kernel_rfl) (fun h=>by first | rfl | cases h) (fun g hg=>by cases hg) qok
def qhU:Ann := .nil
noncomputable def placeCheck_con:Con:=⟨[Zt4,Zt10],true,[],Zt39,fun x=>qhm x.1 x.2.1,none⟩
noncomputable def qhI:Env:=(154,.con placeSound_con)::(52,.con rulesCheck_con)::[]
theorem qn2 (x:DL placeCheck_con.ps):placeCheck_con.φ x=denF Tryz.prog qhI qhU Tryz.f130 placeCheck_con.ps placeCheck_con.one placeCheck_con.res placeCheck_con.ρ x:=by kernel_rfl
theorem qpE:ConOK Tryz.prog 130 placeCheck_con :=
 qa (env:=qhI) ((EnvOK.cons (EnvOK.cons (EnvOK.nil _) qjj) qpP)) mixed Tryz.func130 placeCheck_con qhU (by kernel_rfl) (fun h=>by first | rfl | cases h) (fun g hg=>by cases hg) qn2
def qiV:Ann:=(.two .nil (.two .nil (.two (.join ⟨[1,2],[],[(0,some (.box Zt11)),(2,none)]⟩ (.any 887 0 (.ord 0 0 .nil (.ord 1 0 .nil (.ord 2 115 .nil (.ord 4 0 .nil (.ord 5 0 .nil (.alt (.ord 3 0 .nil (.ord 6 0 .nil (.ord 7 0 .nil (.ord 8 0 .nil (.ord 9 0 .nil (.ord 10 0 .nil .nil)))))) (.ord 6 0 .nil (.ord 3 0 .nil (.ord 7 0 .nil (.ord 8 0 .nil (.ord 9 0 .nil (.ord 10 0 .nil .nil)))))))))))))) .nil)))
noncomputable def placeCopy_con:Con:=⟨[Zt10],true,[],Zt9,fun x=>qiw x.1,none⟩
noncomputable def qiK:Env:=(53,.con slicesClone_int_con)::(184,.ck 226)::[]
theorem qqi (x:DL placeCopy_con.ps):placeCopy_con.φ x=denF Tryz.prog qiK qiV Tryz.f164 placeCopy_con.ps placeCopy_con.one placeCopy_con.res placeCopy_con.ρ x:=by kernel_rfl
theorem qqN:ConOK Tryz.prog 164 placeCopy_con :=
 qa (env:=qiK) ((EnvOK.cons (EnvOK.check (EnvOK.nil _) qe) qel)) mixed Tryz.func164 placeCopy_con qiV (by kernel_rfl) (fun h=>by first | rfl | cases h) (fun g hg=>by cases hg) qqi
def qjn:Ann:=(.two .nil (.two .nil (.two .nil (.two (.two .nil (.join ⟨[3,4,5,6,7,8],[],[(4,some (.arr 3 Zt39)),(5,some (.arr 3 Zt39)),(6,some (.arr 3 Zt39))]⟩ (.two .nil (.join ⟨[3,4,5,6,7,8],[],[(5,some (.arr 3 Zt39)),(6,some (.arr 3 Zt39))]⟩ (.tail 11 .nil))))) (.two .nil (.two (.two .nil (.join ⟨[4,5,6,7,8],[],[(5,some (.arr 3 Zt39)),(6,some (.arr 3 Zt39))]⟩ (.two (.two .nil (.join ⟨[4,5,6,7,8],[],[(5,some (.arr 3 Zt39)),(6,some (.arr 3 Zt39))]⟩ (.tail 17 .nil))) .nil))) (.two .nil (.two (.two .nil (.join ⟨[4,6,7],[],[(4,none),(5,none),(6,none),(7,some (.box Zt11))]⟩ .nil)) .nil))))))))
noncomputable def movesMake_con:Con:=⟨[Zt4,Zt10,Zt24],true,[],Zt9,fun x=>qdf x.1 x.2.1 x.2.2.1,none⟩
noncomputable def qj0:Env:=(164,.con placeCopy_con)::(184,.ck 226)::[]
theorem qqh (x:DL movesMake_con.ps):movesMake_con.φ x=denF Tryz.prog qj0 qjn Tryz.f138 movesMake_con.ps movesMake_con.one movesMake_con.res movesMake_con.ρ x:=by kernel_rfl
theorem qkR:ConOK Tryz.prog 138 movesMake_con :=
 qa (env:=qj0) ((EnvOK.cons (EnvOK.check (EnvOK.nil _) qe) qqN)) mixed Tryz.func138 movesMake_con qjn (by kernel_rfl) (fun h=>by first | rfl | cases h) (fun g hg=>by cases hg) qqh
def qe1:Ann := .nil
noncomputable def minimaxNearer_con:Con:=⟨[Zt39],true,[],Zt39,fun x=>qdP x.1,some fun x=>qat x.1⟩
noncomputable def qeX:Env:=[]
theorem qkg (x:DL minimaxNearer_con.ps):minimaxNearer_con.φ x=denF Tryz.prog qeX qe1 Tryz.f137 minimaxNearer_con.ps minimaxNearer_con.one minimaxNearer_con.res minimaxNearer_con.ρ x:=by kernel_rfl
theorem qlC:ConOK Tryz.prog 137 minimaxNearer_con :=
 qa (env:=qeX) ((EnvOK.nil _)) mixed Tryz.func137 minimaxNearer_con qe1 (by kernel_rfl) (fun h=>by first | rfl | cases h) (fun g hg x=>by
  cases hg
  exact qlL _) qkg
def qg0:Ann := .nil
noncomputable def minimaxOver_con:Con:=⟨[Zt10,Zt39],true,[],Zt39,fun x=>qff x.1 x.2.1,some fun x=>qcC x.1 x.2.1⟩
noncomputable def qgT:Env:=[]
theorem qno (x:DL minimaxOver_con.ps):minimaxOver_con.φ x=denF Tryz.prog qgT qg0 Tryz.f99 minimaxOver_con.ps minimaxOver_con.one minimaxOver_con.res minimaxOver_con.ρ x:=by kernel_rfl
theorem qoj:ConOK Tryz.prog 99 minimaxOver_con :=
 qa (env:=qgT) ((EnvOK.nil _)) mixed Tryz.func99 minimaxOver_con qg0 (by kernel_rfl) (fun h=>by first | rfl | cases h) (fun g hg x=>by
  cases hg
  exact qol _ _) qno
def qdv:Ann:=(.two .nil (.two .nil (.two .nil (.two (.two (.any 223 0 (.ord 0 0 .nil (.ord 1 0 .nil (.ord 2 0 .nil (.ord 3 151 .nil (.ord 4 143 .nil (.ord 7 0 .nil (.ord 5 0 .nil (.ord 6 0 .nil .nil))))))))) (.joinE ⟨[],[],[(0,some (.box Zt3))]⟩ (.two (.loop ⟨[0,2,4,35,36],[(37,Zt39)],[(0,some (.box Zt3))]⟩ (.two .nil (.two .nil (.two (.two (.two .nil (.two (.any 2943 0 (.ord 0 0 .nil (.ord 1 0 .nil (.ord 2 0 .nil (.ord 3 0 .nil (.ord 4 879 .nil (.ord 5 863 .nil (.ord 6 831 .nil (.ord 8 0 .nil (.ord 9 0 .nil (.ord 7 0 .nil (.ord 10 0 .nil (.ord 11 0 .nil .nil))))))))))))) .nil)) .nil) .nil)))) .nil))) .nil))))
noncomputable def qds:Ioc:=⟨Zt2,[Zt10,Zt39],true,[],.bool,fun x=>qdl x.1 x.2.1 x.2.2.1⟩
noncomputable def qdu (φ:DL (Zt2::[Zt10,Zt39])→Option (D Zt1)):Env:=(131,.io ⟨Zt2,[Zt10,Zt39],true,[],.bool,φ⟩)::(138,.con movesMake_con)::(184,.ck 226)::(155,.con endsMoves_con)::[]
theorem qhp (φ:DL (Zt2::[Zt10,Zt39])→Option (D Zt1)) (x:DL (Zt2::[Zt10,Zt39])):qP φ x=denIO Tryz.prog (qdu φ) qdv Tryz.f131 Zt2 [Zt10,Zt39] true [] .bool x:=by kernel_rfl
theorem qid:IocOK Tryz.prog 131 qds :=
 ioc_fix (bx:=Zt2) (ps:=[Zt10,Zt39]) (ρ := .bool) (G:=qP) (by kernel_rfl) (fun h=>by first | rfl | cases h) fun φ hφ =>
 qvA (env:=qdu φ) ((EnvOK.inout (EnvOK.cons (EnvOK.check (EnvOK.cons (EnvOK.nil _) qrj) qe) qkR) hφ)) mixed Tryz.func131 ⟨Zt2,[Zt10,Zt39],true,[],.bool,qP φ⟩ qdv (by kernel_rfl) (fun h=>by first | rfl | cases h) (qhp φ)
def qhM:Ann := .nil
noncomputable def perftCheck_con:Con:=⟨[Zt4,Zt10,Zt39],false,[Zt39,Zt39,Zt39],Zt24,fun x=>qg6 x.1 x.2.1 x.2.2.1,none⟩
noncomputable def qhG:Env:=(131,.io qds)::(130,.con placeCheck_con)::[]
theorem qn3 (x:DL perftCheck_con.ps):perftCheck_con.φ x=denF Tryz.prog qhG qhM Tryz.f97 perftCheck_con.ps perftCheck_con.one perftCheck_con.res perftCheck_con.ρ x:=by kernel_rfl
theorem qpB:ConOK Tryz.prog 97 perftCheck_con :=
 qa (env:=qhG) ((EnvOK.inout (EnvOK.cons (EnvOK.nil _) qpE) qid)) mixed Tryz.func97 perftCheck_con qhM (by kernel_rfl) (fun h=>by first | rfl | cases h) (fun g hg=>by cases hg) qn3
def qj6:Ann := .nil
noncomputable def perftTree_con:Con:=⟨[Zt4,Zt10,Zt39],false,[Zt39,Zt39],Zt27,fun x=>qiL x.1 x.2.1 x.2.2.1,none⟩
noncomputable def qix:Env:=(97,.con perftCheck_con)::[]
theorem qp0 (x:DL perftTree_con.ps):perftTree_con.φ x=denF Tryz.prog qix qj6 Tryz.f54 perftTree_con.ps perftTree_con.one perftTree_con.res perftTree_con.ρ x:=by kernel_rfl
theorem qsD:ConOK Tryz.prog 54 perftTree_con :=
 qa (env:=qix) ((EnvOK.cons (EnvOK.nil _) qpB)) mixed Tryz.func54 perftTree_con qj6 (by kernel_rfl) (fun h=>by first | rfl | cases h) (fun g hg=>by cases hg) qp0
def qj8:Ann:=(.two .nil (.two .nil (.two .nil (.two (.two (.two .nil (.two .nil (.two .nil (.two (.two .nil (.join ⟨[6,8],[(9,Zt39)],[(5,some (.box Zt24))]⟩ (.two (.loop ⟨[2,3,4,6,8,15,16],[(9,Zt39),(17,Zt39)],[(5,some (.box Zt24))]⟩ (.two .nil (.two .nil (.two (.two (.two .nil (.two (.join ⟨[2,3,4,6,8,9,11,15,16,17],[(12,Zt39)],[]⟩ (.any 1391 0 (.ord 1 109 .nil (.ord 2 107 .nil (.ord 3 103 .nil (.ord 5 0 .nil (.ord 6 0 .nil (.alt (.ord 0 0 .nil (.ord 4 0 .nil (.ord 7 0 .nil (.ord 8 0 .nil (.ord 9 0 .nil (.ord 10 0 .nil .nil)))))) (.ord 4 0 .nil (.ord 0 0 .nil (.ord 7 0 .nil (.ord 8 0 .nil (.ord 9 0 .nil (.ord 10 0 .nil .nil)))))))))))))) (.two .nil (.join ⟨[2,3,4,6,8,15,16,17],[(9,Zt39)],[(5,some (.box Zt24))]⟩ .nil)))) .nil) .nil)))) .nil))) .nil)))) .nil) .nil))))
noncomputable def minimaxOf_con:Con:=⟨[Zt4,Zt10,Zt39],true,[],Zt39,fun x=>qmg x.1 x.2.1 x.2.2.1,none⟩
noncomputable def qj1 (φ:DL [Zt4,Zt10,Zt39]→Option (D Zt39)):Env:=(137,.con minimaxNearer_con)::(55,.con ⟨[Zt4,Zt10,Zt39],true,[],Zt39,φ,none⟩)::(138,.con movesMake_con)::(136,.con movesList_con)::(184,.ck 226)::(100,.body Tryz.f100)::(99,.con minimaxOver_con)::(98,.con endsResult_con)::[]
theorem qp2 (φ:DL [Zt4,Zt10,Zt39]→Option (D Zt39)) (x:DL [Zt4,Zt10,Zt39]):qbZ φ x=denF Tryz.prog (qj1 φ) qj8 Tryz.f55 minimaxOf_con.ps minimaxOf_con.one minimaxOf_con.res minimaxOf_con.ρ x:=by kernel_rfl
theorem qsi:ConOK Tryz.prog 55 minimaxOf_con :=
 con_fix (ps:=[Zt4,Zt10,Zt39]) (ρ:=Zt39) (G:=qbZ) (by kernel_rfl) (fun h=>by first | rfl | cases h) fun φ hφ =>
 qa (env:=qj1 φ) ((EnvOK.cons (EnvOK.cons (EnvOK.cons (EnvOK.cons (EnvOK.check (EnvOK.body (EnvOK.cons (EnvOK.cons (EnvOK.nil _) qjN) qoj) Tryz.func100) qe) qg1) qkR) hφ) qlC)) mixed Tryz.func55 ⟨[Zt4,Zt10,Zt39],true,[],Zt39,qbZ φ,none⟩ qj8 (by kernel_rfl) (fun h=>by first | rfl | cases h) (fun g hg=>by cases hg) (qp2 φ)
def qfQ:Ann := .nil
noncomputable def minimaxScore_con:Con:=⟨[Zt4,Zt10,Zt39],false,[Zt39,Zt39],Zt27,fun x=>qb5 x.1 x.2.1 x.2.2.1,none⟩
noncomputable def qfN:Env:=(55,.con minimaxOf_con)::(54,.con perftTree_con)::[]
theorem qlD (x:DL minimaxScore_con.ps):minimaxScore_con.φ x=denF Tryz.prog qfN qfQ Tryz.f29 minimaxScore_con.ps minimaxScore_con.one minimaxScore_con.res minimaxScore_con.ρ x:=by kernel_rfl
theorem qmB:ConOK Tryz.prog 29 minimaxScore_con :=
 qa (env:=qfN) ((EnvOK.cons (EnvOK.cons (EnvOK.nil _) qsD) qsi)) mixed Tryz.func29 minimaxScore_con qfQ (by kernel_rfl) (fun h=>by first | rfl | cases h) (fun g hg=>by cases hg) qlD
end Go.Proofs.YteahiolockghkaaGreatDoor
