/- Several texts in one: Base, MSortC, Jtx, StrC, CoreC, GameC. -/
import Derived.Test.YtijkabgijfdpfaaGreatDoorProg
import Derived.Test.YtijkabgijfdpfaaGreatDoorMAD
import Derived.Test.YtijkabgijfdpfaaGreatDoorMAA
import Derived.Test.YtijkabgijfdpfaaGreatDoorMAE
import Derived.Shelf.GgClosure.StringsIndexFuncTop
import Derived.TacticsInMore
import Derived.WalkKit
import Derived.WalkSmall
import Derived.Shelf.Strconv.Itoa3
import Derived.Shelf.Strings.OnBuilder
import Derived.Shelf.Small.Strs
import Derived.Shelf.Strings.Split
import Derived.Shelf.Strconv.AtoiAll
import Derived.Shelf.Strconv.Clone
import Derived.Shelf.Strings.Builder1
import Derived.Laws.CopyRow
import Derived.Shelf.Spec.SlicesInsertGrow
namespace Go.Proofs.YtijkabgijfdpfaaGreatDoor
theorem mixed:Tryz.prog.follows .mixedOrders=true:=by kernel_rfl
end Go.Proofs.YtijkabgijfdpfaaGreatDoor
namespace Go.Proofs.YtijkabgijfdpfaaGreatDoor
open Go.Den
set_option linter.unusedVariables false
set_option maxRecDepth 100000
def qij:Ann := .nil
noncomputable def cmpIsNaN_int_con:Con:=⟨[Zt63],true,[],.bool,fun x=>qgI x.1,some fun x=>qaw x.1⟩
noncomputable def qh8:Env:=[]
theorem qnS (x:DL cmpIsNaN_int_con.ps):cmpIsNaN_int_con.φ x=denF (CT:=ctxUp) Tryz.prog qh8 qij Tryz.f184 cmpIsNaN_int_con.ps cmpIsNaN_int_con.one cmpIsNaN_int_con.res cmpIsNaN_int_con.ρ x:=by kernel_rfl
theorem qoM:ConOK (CT:=ctxUp) Tryz.prog 184 cmpIsNaN_int_con :=
  qa (CT:=ctxUp) (env:=qh8) ((EnvOK.nil (CT:=ctxUp) _)) mixed Tryz.func184 cmpIsNaN_int_con qij (by kernel_rfl) (fun h=>by first | rfl | cases h) (fun g hg x=>by
    cases hg
    exact qqi _) qnS
def qfP:Ann := .nil
noncomputable def cmpCompare_int_con:Con:=⟨[Zt63,Zt63],true,[],Zt63,fun x=>qeE x.1 x.2.1,some fun x=>qax x.1 x.2.1⟩
noncomputable def qfY:Env:=(184,.con cmpIsNaN_int_con)::[]
theorem qlo (x:DL cmpCompare_int_con.ps):cmpCompare_int_con.φ x=denF (CT:=ctxUp) Tryz.prog qfY qfP Tryz.f129 cmpCompare_int_con.ps cmpCompare_int_con.one cmpCompare_int_con.res cmpCompare_int_con.ρ x:=by kernel_rfl
theorem qmj:ConOK (CT:=ctxUp) Tryz.prog 129 cmpCompare_int_con :=
  qa (CT:=ctxUp) (env:=qfY) ((EnvOK.cons (CT:=ctxUp) (EnvOK.nil (CT:=ctxUp) _) qoM)) mixed Tryz.func129 cmpCompare_int_con qfP (by kernel_rfl) (fun h=>by first | rfl | cases h) (fun g hg x=>by
    cases hg
    exact qnK _ _) qlo
def qnc:Ann:=(.two .nil (.two .nil (.two (.two .nil (.joinE ⟨[3],[],[]⟩ (.two (.loop ⟨[3,6,7],[(8,Zt63)],[]⟩ .nil) .nil))) .nil)))
noncomputable def cmpOr_int_con:Con:=⟨[Zt61],true,[],Zt63,fun x=>qm7 x.1,none⟩
noncomputable def ql5:Env:=[]
theorem qqP (x:DL cmpOr_int_con.ps):cmpOr_int_con.φ x=denF (CT:=ctxUp) Tryz.prog ql5 qnc Tryz.f127 cmpOr_int_con.ps cmpOr_int_con.one cmpOr_int_con.res cmpOr_int_con.ρ x:=by kernel_rfl
theorem qtb:ConOK (CT:=ctxUp) Tryz.prog 127 cmpOr_int_con :=
  qa (CT:=ctxUp) (env:=ql5) ((EnvOK.nil (CT:=ctxUp) _)) mixed Tryz.func127 cmpOr_int_con qnc (by kernel_rfl) (fun h=>by first | rfl | cases h) (fun g hg=>by cases hg) qqP
def qom:Ann:=(.two .nil (.two (.tail 15 .nil) .nil))
noncomputable def movesCmp_con:Con:=⟨[Zt51,Zt51],true,[],Zt63,fun x=>qsy x.1 x.2.1,none⟩
noncomputable def qof:Env:=(127,.con cmpOr_int_con)::(129,.con cmpCompare_int_con)::[]
theorem qtI (x:DL movesCmp_con.ps):movesCmp_con.φ x=denF (CT:=ctxUp) Tryz.prog qof qom Tryz.f192 movesCmp_con.ps movesCmp_con.one movesCmp_con.res movesCmp_con.ρ x:=by kernel_rfl
theorem qvC:ConOK (CT:=ctxUp) Tryz.prog 192 movesCmp_con :=
  qa (CT:=ctxUp) (env:=qof) ((EnvOK.cons (CT:=ctxUp) (EnvOK.cons (CT:=ctxUp) (EnvOK.nil (CT:=ctxUp) _) qmj) qtb)) mixed Tryz.func192 movesCmp_con qom (by kernel_rfl) (fun h=>by first | rfl | cases h) (fun g hg=>by cases hg) qtI
def qtS:Go.Shelf.Ren:=⟨fun | 6=>191 | 15=>230 | 14=>229 | 28=>271 | 29=>248 | 20=>263 | 21=>264 | 22=>265 | 23=>266 | 24=>267 | 25=>268 | 26=>269 | 27=>270 | 46=>298 | 47=>299 | 48=>300 | 49=>301 | 50=>302 | 57=>307 | n=>n,fun | 22=>44 | 24=>41 | 25=>277 | 3=>3 | 39=>229 | 0=>0 | 53=>330 | 55=>78 | 4=>4 | 46=>341 | 45=>340 | 50=>153 | 5=>5 | 9=>9 | 66=>362 | 70=>366 | 76=>381 | 77=>382 | n=>n,fun | n=>n⟩
theorem msort_lay:SlLaysF0.n6 Tryz.prog qtS where
  mixed:=by kernel_rfl
  f6:=⟨Tryz.f191.name,by decide,Tryz.func191.trans (congrArg some (by kernel_rfl))⟩
  f14:=⟨Tryz.f229.name,by decide,Tryz.func229.trans (congrArg some (by kernel_rfl))⟩
  f15:=Tryz.func230.trans (congrArg some (by kernel_rfl))
  f20:=⟨Tryz.f263.name,by decide,Tryz.func263.trans (congrArg some (by kernel_rfl))⟩
  f21:=⟨Tryz.f264.name,by decide,Tryz.func264.trans (congrArg some (by kernel_rfl))⟩
  f22:=⟨Tryz.f265.name,by decide,Tryz.func265.trans (congrArg some (by kernel_rfl))⟩
  f23:=⟨Tryz.f266.name,by decide,Tryz.func266.trans (congrArg some (by kernel_rfl))⟩
  f24:=⟨Tryz.f267.name,by decide,Tryz.func267.trans (congrArg some (by kernel_rfl))⟩
  f25:=⟨Tryz.f268.name,by decide,Tryz.func268.trans (congrArg some (by kernel_rfl))⟩
  f26:=⟨Tryz.f269.name,by decide,Tryz.func269.trans (congrArg some (by kernel_rfl))⟩
  f27:=⟨Tryz.f270.name,by decide,Tryz.func270.trans (congrArg some (by kernel_rfl))⟩
  f28:=Tryz.func271.trans (congrArg some (by kernel_rfl))
  f29:=Tryz.func248.trans (congrArg some (by kernel_rfl))
  f46:=⟨Tryz.f298.name,by decide,Tryz.func298.trans (congrArg some (by kernel_rfl))⟩
  f47:=Tryz.func299.trans (congrArg some (by kernel_rfl))
  f48:=Tryz.func300.trans (congrArg some (by kernel_rfl))
  f49:=⟨Tryz.f301.name,by decide,Tryz.func301.trans (congrArg some (by kernel_rfl))⟩
  f50:=⟨Tryz.f302.name,by decide,Tryz.func302.trans (congrArg some (by kernel_rfl))⟩
  f57:=⟨Tryz.f307.name,by decide,Tryz.func307.trans (congrArg some (by kernel_rfl))⟩
  t0:=Tryz.underlying0
  a0:=Tryz.isAgg0
  z0:=Tryz.sizeOf0
  v0:=Tryz.zeroValue0
  t3:=Tryz.underlying3
  a3:=Tryz.isAgg3
  z3:=Tryz.sizeOf3
  v3:=Tryz.zeroValue3
  t4:=Tryz.underlying4
  a4:=Tryz.isAgg4
  z4:=Tryz.sizeOf4
  v4:=Tryz.zeroValue4
  t5:=Tryz.underlying5
  a5:=Tryz.isAgg5
  z5:=Tryz.sizeOf5
  v5:=Tryz.zeroValue5
  t9:=Tryz.underlying9
  a9:=Tryz.isAgg9
  z9:=Tryz.sizeOf9
  v9:=Tryz.zeroValue9
  t22:=Tryz.underlying44
  a22:=Tryz.isAgg44
  z22:=Tryz.sizeOf44
  v22:=Tryz.zeroValue44
  t25:=Tryz.underlying277
  a25:=Tryz.isAgg277
  z25:=Tryz.sizeOf277
  v25:=Tryz.zeroValue277
  t39:=Tryz.underlying229
  a39:=Tryz.isAgg229
  z39:=Tryz.sizeOf229
  v39:=Tryz.zeroValue229
  t45:=Tryz.underlying340
  a45:=Tryz.isAgg340
  z45:=Tryz.sizeOf340
  v45:=Tryz.zeroValue340
  t46:=Tryz.underlying341
  a46:=Tryz.isAgg341
  z46:=Tryz.sizeOf341
  v46:=Tryz.zeroValue341
  t50:=Tryz.underlying153
  a50:=Tryz.isAgg153
  z50:=Tryz.sizeOf153
  v50:=Tryz.zeroValue153
  t53:=Tryz.underlying330
  a53:=Tryz.isAgg330
  z53:=Tryz.sizeOf330
  v53:=Tryz.zeroValue330
  t55:=Tryz.underlying78
  a55:=Tryz.isAgg78
  z55:=Tryz.sizeOf78
  v55:=Tryz.zeroValue78
  t66:=Tryz.underlying362
  a66:=Tryz.isAgg362
  z66:=Tryz.sizeOf362
  v66:=Tryz.zeroValue362
  t70:=Tryz.underlying366
  a70:=Tryz.isAgg366
  z70:=Tryz.sizeOf366
  v70:=Tryz.zeroValue366
  t76:=Tryz.underlying381
  a76:=Tryz.isAgg381
  z76:=Tryz.sizeOf381
  v76:=Tryz.zeroValue381
  t77:=Tryz.underlying382
  a77:=Tryz.isAgg382
  z77:=Tryz.sizeOf382
  v77:=Tryz.zeroValue382
open Go.Sort Go.Lib in
section
def cmp3 (a b:Int):Int:=if a<b then -1 else if b<a then 1 else 0
theorem qv4 (a b:Int):qax a b=cmp3 a b:=by
  unfold qax qaw cmp3
  by_cases h:a<b
  · simp[h]
  · by_cases h2:b<a<;>simp[h,h2]
theorem qxJ (a b c:Int):qm7 [a,b,c]=some (if a=0 then if b=0 then c else b else a):=by
  unfold qm7
  by_cases ha:a=0
  · subst ha
    rw[qm (y:=((1,()),())) (by simp[qbi,at?,qe])]
    by_cases hb:b=0
    · subst hb
      rw[qm (y:=((2,()),())) (by simp[qbi,at?,qe])]
      by_cases hc:c=0
      · subst hc
        rw[qm (y:=((3,()),())) (by simp[qbi,at?,qe])]
        rw[ql (r := .inl ((),())) (by simp[qbi])]
        rfl
      · rw[ql (r := .inr c) (by simp[qbi,at?,bne_t hc])]
        simp
    · rw[ql (r := .inr b) (by simp[qbi,at?,bne_t hb])]
      simp[hb]
  · rw[ql (r := .inr a) (by simp[qbi,at?,bne_t ha])]
    simp[ha]
def mvCf (x y:Mv):Int:=if cmp3 x.1 y.1=0 then if cmp3 x.2.1 y.2.1=0 then cmp3 x.2.2.1 y.2.2.1 else cmp3 x.2.1 y.2.1 else cmp3 x.1 y.1
theorem qta (x y:Mv):qsy x y=some (mvCf x y):=by
  unfold qsy mvCf
  rw[qv4,qv4,qv4,qxJ]
  rfl
theorem quy (a b:Int):cmp3 a b=0↔a=b:=by
  unfold cmp3
  split
  · constructor<;>intro h<;>omega
  · split<;>constructor<;>intro h<;>omega
theorem qvl (a b:Int):cmp3 a b<0↔a<b:=by
  unfold cmp3
  split
  · constructor<;>intro h<;>omega
  · split<;>constructor<;>intro h<;>omega
theorem qsJ:ltOf mvCf=mvLt:=by
  funext x y
  unfold ltOf mvCf mvLt
  by_cases h1:x.1=y.1
  · by_cases h2:x.2.1=y.2.1
    · simp[h1,h2,(quy y.1 y.1).2 rfl,(quy y.2.1 y.2.1).2 rfl,qvl]
    · have:¬cmp3 x.2.1 y.2.1=0:=fun h=>h2 ((quy _ _).1 h)
      simp[h1,h2,(quy y.1 y.1).2 rfl,this,qvl]
  · have:¬cmp3 x.1 y.1=0:=fun h=>h1 ((quy _ _).1 h)
    simp[h1,this,qvl]
theorem qxg (x y:Mv):mvLt x y=true↔x.1<y.1∨x.1=y.1∧(x.2.1<y.2.1∨x.2.1=y.2.1∧x.2.2.1<y.2.2.1):=by simp[mvLt]
theorem mvLt_f (x y:Mv):mvLt x y=false↔¬(x.1<y.1∨x.1=y.1∧(x.2.1<y.2.1∨x.2.1=y.2.1∧x.2.2.1<y.2.2.1)):=by rw[←qxg,Bool.not_eq_true]
theorem mv_swo:SWO mvLt where
  irrefl x:=by rw[mvLt_f];omega
  trans x y z h1 h2:=by rw[qxg] at *;omega
  ntrans x y z h1 h2:=by rw[mvLt_f] at *;omega
theorem mv_tot (x y:Mv) (h1:mvLt x y=false) (h2:mvLt y x=false):x=y:=by
  rw[mvLt_f] at h1 h2
  obtain⟨a,b,c,⟨⟩⟩:=x
  obtain⟨a',b',c',⟨⟩⟩:=y
  simp only at h1 h2
  have e1:a=a':=by omega
  subst e1
  have e2:b=b':=by omega
  subst e2
  have e3:c=c':=by omega
  subst e3
  rfl
def qhW:Srt:=⟨41,Zt51,some 192,qca⟩
theorem quz:SrtOK Tryz.prog 191 qhW:=by
  have h:=qvB (ρ:=qtS) (g:=192) (f:=191) (τ:=Zt51) (i:=41) msort_lay rfl rfl rfl rfl Tryz.isAgg41 Tryz.sizeOf41 qvC mvCf (fun x y=>qta x y) (show SWO (ltOf mvCf) from qsJ▸mv_swo) (fun x y h1 h2=>mv_tot x y (by rw[←qsJ];exact h1) (by rw[←qsJ];exact h2)) (enters_of Tryz.func192 (by kernel_rfl) rfl)
  have e:(fun xs:List Mv=>xs.mergeSort fun x y=>!(ltOf mvCf) y x)=qca:=by rw[qsJ];rfl
  have:qhW=⟨41,Zt51,some 192,fun xs:List Mv=>xs.mergeSort fun x y=>!(ltOf mvCf) y x⟩:=by rw[e];rfl
  rw[this]
  exact h
end
end Go.Proofs.YtijkabgijfdpfaaGreatDoor
namespace Go.Proofs.YtijkabgijfdpfaaGreatDoor
open Go Go.Proofs Go.RowKit Go.Shelf
set_option linter.unusedVariables false
set_option linter.unusedSimpArgs false
attribute [local go_sem] Oper.semAt_some
def jix_ren:Go.Shelf.Ren:=⟨fun | 15=>164 | 20=>213 | n=>n,fun | 9=>9 | 23=>253 | 3=>3 | 4=>4 | 0=>0 | 21=>21 | n=>n,fun | n=>n⟩
open Go.Shelf in
theorem jix_lay:Go.Proofs.LaysGw.n15 Tryz.prog jix_ren where
  mixed:=by kernel_rfl
  f15:=Tryz.func164.trans (congrArg some (by kernel_rfl))
  f20:=Tryz.func213.trans (congrArg some (by kernel_rfl))
  t0:=Tryz.underlying0
  a0:=Tryz.isAgg0
  z0:=Tryz.sizeOf0
  v0:=Tryz.zeroValue0
  i0:=by kernel_rfl
  t3:=Tryz.underlying3
  a3:=Tryz.isAgg3
  z3:=Tryz.sizeOf3
  v3:=Tryz.zeroValue3
  i3:=by kernel_rfl
  t4:=Tryz.underlying4
  a4:=Tryz.isAgg4
  z4:=Tryz.sizeOf4
  v4:=Tryz.zeroValue4
  i4:=by kernel_rfl
  t9:=Tryz.underlying9
  a9:=Tryz.isAgg9
  z9:=Tryz.sizeOf9
  v9:=Tryz.zeroValue9
  i9:=by kernel_rfl
  t21:=Tryz.underlying21
  a21:=Tryz.isAgg21
  z21:=Tryz.sizeOf21
  v21:=Tryz.zeroValue21
  i21:=by kernel_rfl
  t23:=Tryz.underlying253
  a23:=Tryz.isAgg253
  z23:=Tryz.sizeOf253
  v23:=Tryz.zeroValue253
  i23:=by kernel_rfl
theorem jclos (w:World):PredAt Tryz.prog 165 #[] encR qjC w:=fun W r _=>by
  unfold FnGives
  by_cases h1:r<32<;>by_cases h2:126<r
  all_goals
    have z1:(r:Int)<32↔r<32:=by omega
    have z2:(126:Int)<(r:Int)↔126<r:=by omega
    go_enter Tryz.func165,Tryz.ntmps165
    go_wp2
    all_goals first | (exfalso;omega) | (go_ret;exact⟨by simp[qjC,h1,h2],0,rfl⟩)
set_option maxHeartbeats 1000000 in
theorem qvD (s:ByteArray) (w:World):Calls Tryz.prog 110 #[.string s] w fun e w'=>e = .returned (.int .i64 (qaq s))∧Below w.heap.size w w':=by
  have hC:=Any.strings_IndexFunc (P:=Tryz.prog) (ρ:=jix_ren) jix_lay 165 #[] (enters_of Tryz.func165 (by kernel_rfl) rfl) qjC s w (jclos w);change Calls Tryz.prog 164 _ _ _ at hC;obtain⟨I,hI⟩:∃I,Lib.idxFunc qjC true s=I:=⟨_,rfl⟩;unfold qaq;rw[hI] at hC ⊢;by_cases h1:200<s.size
  · have z1:(200:Int)<(s.size:Int):=by omega
    rw[if_pos h1]
    go_enter Tryz.func110,Tryz.ntmps110
    go_wp2
    all_goals first | (exfalso;omega) | (go_ret;exact⟨rfl,Below.refl _ _⟩)
  · have z1:¬(200:Int)<(s.size:Int):=by omega
    rw[if_neg h1];by_cases h2:0≤I
    · rw[if_pos h2]
      go_enter Tryz.func110,Tryz.ntmps110
      go_wp2_with (go_at_call 164;refine hC.mono ?_;rintro e w' ⟨rfl,hb⟩)
      all_goals first | (exfalso;omega) | (go_ret;exact⟨rfl,hb⟩)
    · rw[if_neg h2]
      go_enter Tryz.func110,Tryz.ntmps110
      go_wp2_with (go_at_call 164;refine hC.mono ?_;rintro e w' ⟨rfl,hb⟩)
      all_goals first | (exfalso;omega) | (go_ret;exact⟨rfl,hb⟩)
end Go.Proofs.YtijkabgijfdpfaaGreatDoor
namespace Go.Proofs.YtijkabgijfdpfaaGreatDoor
open Go.Den
set_option linter.unusedVariables false
set_option linter.unusedSimpArgs false
set_option maxRecDepth 100000
theorem qpk {w w':World} (hd:Go.Den.Ctx.drawsUp=false) (h:Go.RowKit.Below w.heap.size w w'):Go.Eng.Chg [] w w' :=
  ⟨h.os,h.tape,h.output,h.size,fun k hk _=>h.block k hk,fun e=>by rw[hd] at e;cases e⟩
theorem qtx {α:Type} {c:Bool} {x r:α} (h:(bif c then some x else none)=some r):c=true∧x=r:=by cases c<;>simp_all
theorem quC {w:World} {S:Nat→Prop}:∀ {l:List ByteArray} {us:List Value},RepL (fun (x:D .str) c=>Rep w S .str x [] c) l us→us=l.map Value.string
  | [],us,h=>h
  | n::ns,us,⟨c,r,h1,h2,h3⟩=>by
    subst h1
    rw[h2.2,quC h3]
    rfl
theorem qww {w:World} {S:Nat→Prop}:∀l:List ByteArray,RepL (fun (x:D .str) c=>Rep w S .str x [] c) l (l.map Value.string)
  | []=>rfl
  | s::l=>⟨[.string s],_,rfl,⟨rfl,rfl⟩,qww l⟩
theorem open_int {S:Nat→Prop} {w:World} {g:Nat} (hT:TabR S w) (hg:(g,false)∈Ctx.opens):∃m,w.cell? ⟨g,0,none⟩=some (.int .i64 m):=by
  obtain⟨_,v,T,fz,hh,hv⟩:=hT.opn g false hg
  rw[if_neg (by decide)] at hv
  obtain⟨m,rfl⟩:=hv
  exact⟨m,by simp[World.cell?,hh]⟩

theorem chg_grown {w:World} {k:Nat} {os:Array Obj}:Go.Eng.Chg [] w (Go.Sort.grow (w.drewN k) os) :=
  ⟨rfl,rfl,rfl,by simp[Go.Sort.grow],fun j hj _=>by
    show(w.heap++os)[j]?=_
    rw[Array.getElem?_append_left hj],fun _=>Nat.le_add_right _ _⟩
theorem tab_pow10 {S:Nat→Prop} {w:World} (hT:TabR S w):Go.Lib.TabIs Tryz.prog w "internal/strconv.uint64pow10" .u64 Go.Lib.pow10Tab:=by
  obtain⟨_,T,fz,h⟩:=hT.tab 0 (Go.Lib.pow10Tab.map (Value.int .u64)) rfl
  have hg:Tryz.prog.globalNamed "internal/strconv.uint64pow10" = some 0:=by kernel_rfl
  unfold Go.Lib.TabIs World.var?
  rw[hg]
  show(match w.heap[0]? with | some (.cells cs _ _)=>some cs | _=>none)=_
  rw[h]
def qwx:Go.Shelf.Ren:=⟨fun | 171=>49 | 243=>113 | 246=>166 | 283=>214 | 284=>215 | 285=>216 | 286=>217 | 129=>248 | 317=>247 | 318=>249 | 319=>250 | 320=>251 | 337=>286 | 338=>287 | n=>n,fun | 3=>3 | 9=>9 | 2=>2 | 4=>4 | 171=>297 | 0=>0 | 53=>78 | 37=>195 | 5=>5 | 173=>300 | 212=>329 | 51=>330 | 20=>20 | 213=>331 | 46=>229 | 232=>378 | 233=>379 | n=>n,fun | 17=>0 | 18=>6 | 19=>7 | n=>n⟩
open Go.Shelf in
theorem itoa_lay:Go.Proofs.LaysM.n171 Tryz.prog qwx where
  mixed:=by kernel_rfl
  f129:=Tryz.func248.trans (congrArg some (by kernel_rfl))
  f171:=Tryz.func49.trans (congrArg some (by kernel_rfl))
  f243:=Tryz.func113.trans (congrArg some (by kernel_rfl))
  f246:=Tryz.func166.trans (congrArg some (by kernel_rfl))
  f283:=Tryz.func214.trans (congrArg some (by kernel_rfl))
  f284:=Tryz.func215.trans (congrArg some (by kernel_rfl))
  f285:=Tryz.func216.trans (congrArg some (by kernel_rfl))
  f286:=Tryz.func217.trans (congrArg some (by kernel_rfl))
  f317:=Tryz.func247.trans (congrArg some (by kernel_rfl))
  f318:=Tryz.func249.trans (congrArg some (by kernel_rfl))
  f319:=Tryz.func250.trans (congrArg some (by kernel_rfl))
  f320:=Tryz.func251.trans (congrArg some (by kernel_rfl))
  f337:=Tryz.func286.trans (congrArg some (by kernel_rfl))
  f338:=Tryz.func287.trans (congrArg some (by kernel_rfl))
  t0:=Tryz.underlying0
  a0:=Tryz.isAgg0
  z0:=Tryz.sizeOf0
  v0:=Tryz.zeroValue0
  t2:=Tryz.underlying2
  a2:=Tryz.isAgg2
  z2:=Tryz.sizeOf2
  v2:=Tryz.zeroValue2
  t3:=Tryz.underlying3
  a3:=Tryz.isAgg3
  z3:=Tryz.sizeOf3
  v3:=Tryz.zeroValue3
  t4:=Tryz.underlying4
  a4:=Tryz.isAgg4
  z4:=Tryz.sizeOf4
  v4:=Tryz.zeroValue4
  t5:=Tryz.underlying5
  a5:=Tryz.isAgg5
  z5:=Tryz.sizeOf5
  v5:=Tryz.zeroValue5
  t9:=Tryz.underlying9
  a9:=Tryz.isAgg9
  z9:=Tryz.sizeOf9
  v9:=Tryz.zeroValue9
  t20:=Tryz.underlying20
  a20:=Tryz.isAgg20
  z20:=Tryz.sizeOf20
  v20:=Tryz.zeroValue20
  t37:=Tryz.underlying195
  a37:=Tryz.isAgg195
  z37:=Tryz.sizeOf195
  v37:=Tryz.zeroValue195
  t46:=Tryz.underlying229
  a46:=Tryz.isAgg229
  z46:=Tryz.sizeOf229
  v46:=Tryz.zeroValue229
  t51:=Tryz.underlying330
  a51:=Tryz.isAgg330
  z51:=Tryz.sizeOf330
  v51:=Tryz.zeroValue330
  t53:=Tryz.underlying78
  a53:=Tryz.isAgg78
  z53:=Tryz.sizeOf78
  v53:=Tryz.zeroValue78
  t171:=Tryz.underlying297
  a171:=Tryz.isAgg297
  z171:=Tryz.sizeOf297
  v171:=Tryz.zeroValue297
  t173:=Tryz.underlying300
  a173:=Tryz.isAgg300
  z173:=Tryz.sizeOf300
  v173:=Tryz.zeroValue300
  t212:=Tryz.underlying329
  a212:=Tryz.isAgg329
  z212:=Tryz.sizeOf329
  v212:=Tryz.zeroValue329
  t213:=Tryz.underlying331
  a213:=Tryz.isAgg331
  z213:=Tryz.sizeOf331
  t232:=Tryz.underlying378
  a232:=Tryz.isAgg378
  z232:=Tryz.sizeOf378
  v232:=Tryz.zeroValue378
  t233:=Tryz.underlying379
  a233:=Tryz.isAgg379
  z233:=Tryz.sizeOf379
  v233:=Tryz.zeroValue379
  g17:=by kernel_rfl
  g18:=by kernel_rfl
  g19:=by kernel_rfl
  i0:=by kernel_rfl
  i2:=by kernel_rfl
  i3:=by kernel_rfl
  i4:=by kernel_rfl
  i5:=by kernel_rfl
  i9:=by kernel_rfl
  i20:=by kernel_rfl
  i37:=by kernel_rfl
  i46:=by kernel_rfl
  i51:=by kernel_rfl
  i53:=by kernel_rfl
  i171:=by kernel_rfl
  i173:=by kernel_rfl
  i212:=by kernel_rfl
  i232:=by kernel_rfl
  i233:=by kernel_rfl
  m17:=by kernel_rfl
  m18:=by kernel_rfl
  m19:=by kernel_rfl
noncomputable def qg9:Con:=⟨[.int .i64],true,[],.str,fun x=>itoaS x.1,none⟩
theorem qnh:ConOK Tryz.prog 49 qg9:=by
  refine⟨rfl,fun h=>(by cases h),fun g h=>(by cases h),fun w S args x r hS hT ha hr=>?_⟩
  obtain⟨n,⟨⟩⟩:=x
  obtain⟨v,q,e1,⟨cs,⟨_,rfl⟩,rfl⟩,h2⟩:=ha
  obtain rfl:q=[]:=h2
  obtain rfl:args = #[.int .i64 n]:=by rw[←Array.toList_inj,e1];rfl
  have hr:itoaS n=some r:=hr
  obtain⟨hb,rfl⟩:=qtx hr
  · simp only[Bool.and_eq_true,decide_eq_true_eq] at hb
    refine(Any.strconv_Itoa (P:=Tryz.prog) (ρ:=qwx) itoa_lay n hb.1 hb.2 w (tab_pow10 hT)).mono ?_
    rintro e w' ⟨rfl,k,os,rfl⟩
    exact⟨_,rfl,chg_grown,[],[.string ⟨(Go.Lib.itoa n).toArray⟩],List.nodup_nil,(by simp),⟨rfl,rfl⟩,rfl⟩

def qpb:Go.Shelf.Ren:=⟨fun | 156=>90 | 165=>156 | 166=>100 | 169=>104 | 240=>159 | 241=>209 | 276=>211 | 277=>242 | n=>n,fun | 31=>174 | 9=>9 | 3=>3 | 4=>4 | 0=>0 | 20=>20 | 72=>197 | 76=>202 | 70=>194 | 37=>195 | 75=>201 | 127=>249 | 164=>293 | 5=>5 | 80=>210 | n=>n,fun | n=>n⟩
open Go.Shelf in
theorem qw5:Go.Proofs.Lays.n156 Tryz.prog qpb where
  mixed:=by kernel_rfl
  f156:=Tryz.func90.trans (congrArg some (by kernel_rfl))
  f165:=Tryz.func156.trans (congrArg some (by kernel_rfl))
  f166:=Tryz.func100.trans (congrArg some (by kernel_rfl))
  f169:=Tryz.func104.trans (congrArg some (by kernel_rfl))
  f240:=Tryz.func159.trans (congrArg some (by kernel_rfl))
  f241:=Tryz.func209.trans (congrArg some (by kernel_rfl))
  f276:=Tryz.func211.trans (congrArg some (by kernel_rfl))
  f277:=Tryz.func242.trans (congrArg some (by kernel_rfl))
  t0:=Tryz.underlying0
  a0:=Tryz.isAgg0
  z0:=Tryz.sizeOf0
  v0:=Tryz.zeroValue0
  t3:=Tryz.underlying3
  a3:=Tryz.isAgg3
  z3:=Tryz.sizeOf3
  v3:=Tryz.zeroValue3
  t4:=Tryz.underlying4
  a4:=Tryz.isAgg4
  z4:=Tryz.sizeOf4
  v4:=Tryz.zeroValue4
  t9:=Tryz.underlying9
  a9:=Tryz.isAgg9
  z9:=Tryz.sizeOf9
  v9:=Tryz.zeroValue9
  t20:=Tryz.underlying20
  a20:=Tryz.isAgg20
  z20:=Tryz.sizeOf20
  v20:=Tryz.zeroValue20
  t31:=Tryz.underlying174
  a31:=Tryz.isAgg174
  z31:=Tryz.sizeOf174
  v31:=Tryz.zeroValue174
  t37:=Tryz.underlying195
  a37:=Tryz.isAgg195
  z37:=Tryz.sizeOf195
  v37:=Tryz.zeroValue195
  t70:=Tryz.underlying194
  a70:=Tryz.isAgg194
  z70:=Tryz.sizeOf194
  v70:=Tryz.zeroValue194
  t72:=Tryz.underlying197
  a72:=Tryz.isAgg197
  z72:=Tryz.sizeOf197
  v72:=Tryz.zeroValue197
  t75:=Tryz.underlying201
  a75:=Tryz.isAgg201
  z75:=Tryz.sizeOf201
  v75:=Tryz.zeroValue201
  t76:=Tryz.underlying202
  a76:=Tryz.isAgg202
  z76:=Tryz.sizeOf202
  v76:=Tryz.zeroValue202
  t127:=Tryz.underlying249
  a127:=Tryz.isAgg249
  z127:=Tryz.sizeOf249
  v127:=Tryz.zeroValue249
  t164:=Tryz.underlying293
  a164:=Tryz.isAgg293
  z164:=Tryz.sizeOf293
  v164:=Tryz.zeroValue293
theorem qrV:Go.Proofs.Builder.Extra Tryz.prog qpb where
  sizeBuilder:=by kernel_rfl
  liesBuilder:=by kernel_rfl
  t5:=Tryz.underlying5
  a5:=Tryz.isAgg5
  z5:=Tryz.sizeOf5
  v5:=Tryz.zeroValue5
  infoByte:=by kernel_rfl
  cellsByte:=by kernel_rfl
  sizeByte:=by kernel_rfl
  neB5:=by decide
noncomputable def qiS:Con:=⟨[.sl .str,.str],true,[],.str,fun x=>joinS x.1 x.2.1,none⟩
theorem qtu:ConOK Tryz.prog 90 qiS:=by
  refine⟨rfl,fun h=>(by cases h),fun g h=>(by cases h),fun w S args x r hS hT ha hr=>?_⟩
  obtain⟨l,sep,⟨⟩⟩:=x
  obtain⟨v,q,e1,⟨cs,⟨_,ao,cap,us,rfl,hcap,hrep,hne⟩,rfl⟩,v2,q2,rfl,⟨cs2,⟨_,rfl⟩,rfl⟩,h2⟩:=ha
  obtain rfl:q2=[]:=h2
  obtain rfl:args = #[.slice ao l.length cap,.string sep]:=by rw[←Array.toList_inj,e1];rfl
  have hr:joinS l sep=some r:=hr
  obtain⟨hb,rfl⟩:=qtx hr
  · simp only[Bool.and_eq_true] at hb
    have h3:=Nat.le_of_ble_eq_true hb.1
    have h4:=Nat.le_of_ble_eq_true hb.2
    have hus:=quC hrep
    subst hus
    have fin:∀w',Go.Eng.Chg [] w w'→∃v,Ending.returned (.string ⟨(Go.Lib.join (l.map (·.data.toList)) sep.data.toList).toArray⟩)=Ending.returned v∧Go.Eng.Chg [] w w'∧ResR w w' S qiS (⟨(Go.Lib.join (l.map (·.data.toList)) sep.data.toList).toArray⟩:ByteArray) v :=
      fun w' hc=>⟨_,rfl,hc,[],[.string ⟨(Go.Lib.join (l.map (·.data.toList)) sep.data.toList).toArray⟩],List.nodup_nil,(by simp),⟨rfl,rfl⟩,rfl⟩
    by_cases h0:l=[]
    · subst h0
      refine(Any.strings_Join_none (P:=Tryz.prog) (ρ:=qpb) qw5 qrV ao cap sep w).mono ?_
      rintro e w' ⟨rfl,rfl⟩
      exact fin _ (Go.Eng.Chg.refl _ _)
    · obtain⟨a,rfl,ha,hcells⟩:=hne h0
      obtain⟨bk,o,spot⟩:=a
      have hsp:spot=none:=by
        cases l with
        | nil=>exact absurd rfl h0
        | cons x l' =>
          have:=hcells 0 (.string x) rfl
          cases spot with
          | none=>rfl
          | some s=>exact absurd this (by simp[Addr.add,World.cell?];split<;>simp)
      subst hsp
      refine(Any.strings_Join (P:=Tryz.prog) (ρ:=qpb) qw5 qrV bk o cap l sep w (fun j x hj=>by
        have:=hcells j (.string x) ((List.getElem?_map (f:=Value.string) (l:=(l:List ByteArray)) (i:=j)).trans (congrArg (Option.map Value.string) hj))
        rwa [Go.Eng.adr_add] at this) (hS bk ha) h3 hcap h4).mono ?_
      rintro e w' ⟨rfl,hb⟩
      exact fin _ (qpk rfl hb)

def ixb_ren:Go.Shelf.Ren:=⟨fun | 137=>223 | 217=>261 | 266=>297 | n=>n,fun | 9=>9 | 5=>5 | 3=>3 | n=>n,fun | n=>n⟩
open Go.Shelf in
theorem ixb_lay:Go.Proofs.Lays.n137 Tryz.prog ixb_ren where
  mixed:=by kernel_rfl
  f137:=Tryz.func223.trans (congrArg some (by kernel_rfl))
  f217:=Tryz.func261.trans (congrArg some (by kernel_rfl))
  f266:=Tryz.func297.trans (congrArg some (by kernel_rfl))
  t3:=Tryz.underlying3
  a3:=Tryz.isAgg3
  z3:=Tryz.sizeOf3
  v3:=Tryz.zeroValue3
  t5:=Tryz.underlying5
  a5:=Tryz.isAgg5
  z5:=Tryz.sizeOf5
  v5:=Tryz.zeroValue5
  t9:=Tryz.underlying9
  a9:=Tryz.isAgg9
  z9:=Tryz.sizeOf9
  v9:=Tryz.zeroValue9
noncomputable def qk3:Con:=⟨[.str,.int .u8],true,[],.int .i64,fun x=>some (qfa x.1 x.2.1),some fun x=>qfa x.1 x.2.1⟩
theorem qtc:ConOK Tryz.prog 223 qk3:=by
  refine⟨rfl,fun h=>(by cases h),fun g h x=>(by cases h;rfl),fun w S args x r hS hT ha hr=>?_⟩
  obtain⟨s,c,⟨⟩⟩:=x
  obtain⟨v,q,e1,⟨cs,⟨_,rfl⟩,rfl⟩,v2,q2,rfl,⟨cs2,⟨_,rfl⟩,rfl⟩,h2⟩:=ha
  obtain rfl:q2=[]:=h2
  obtain rfl:args = #[.string s,.int .u8 c]:=by rw[←Array.toList_inj,e1];rfl
  obtain rfl:qfa s c=r:=Option.some.inj hr
  refine(Any.strings_IndexByte (P:=Tryz.prog) (ρ:=ixb_ren) ixb_lay s c w).mono ?_
  rintro e w' ⟨rfl,rfl⟩
  exact⟨_,rfl,Go.Eng.Chg.refl _ _,[],[.int .i64 _],List.nodup_nil,(by simp),⟨rfl,rfl⟩,rfl⟩

def split_ren:Go.Shelf.Ren:=⟨fun | 146=>88 | 221=>154 | 268=>204 | 138=>205 | 143=>206 | 195=>233 | 197=>234 | 218=>235 | 219=>236 | 260=>273 | 217=>261 | 225=>274 | 224=>275 | 267=>276 | 266=>297 | 314=>303 | n=>n,fun | 9=>9 | 31=>174 | 3=>3 | 4=>4 | 0=>0 | 105=>318 | 21=>21 | 5=>5 | 46=>229 | 119=>368 | 139=>371 | 138=>370 | 146=>372 | 51=>330 | n=>n,fun | 1=>1 | 3=>4 | 4=>5 | n=>n⟩
open Go.Shelf in
theorem split_lay:Go.Proofs.Lays.n146 Tryz.prog split_ren where
  mixed:=by kernel_rfl
  f138:=Tryz.func205.trans (congrArg some (by kernel_rfl))
  f143:=Tryz.func206.trans (congrArg some (by kernel_rfl))
  f146:=Tryz.func88.trans (congrArg some (by kernel_rfl))
  f195:=Tryz.func233.trans (congrArg some (by kernel_rfl))
  f197:=Tryz.func234.trans (congrArg some (by kernel_rfl))
  f217:=Tryz.func261.trans (congrArg some (by kernel_rfl))
  f218:=Tryz.func235.trans (congrArg some (by kernel_rfl))
  f219:=Tryz.func236.trans (congrArg some (by kernel_rfl))
  f221:=Tryz.func154.trans (congrArg some (by kernel_rfl))
  f224:=Tryz.func275.trans (congrArg some (by kernel_rfl))
  f225:=Tryz.func274.trans (congrArg some (by kernel_rfl))
  f260:=Tryz.func273.trans (congrArg some (by kernel_rfl))
  f266:=Tryz.func297.trans (congrArg some (by kernel_rfl))
  f267:=Tryz.func276.trans (congrArg some (by kernel_rfl))
  f268:=Tryz.func204.trans (congrArg some (by kernel_rfl))
  f314:=Tryz.func303.trans (congrArg some (by kernel_rfl))
  t0:=Tryz.underlying0
  a0:=Tryz.isAgg0
  z0:=Tryz.sizeOf0
  v0:=Tryz.zeroValue0
  t3:=Tryz.underlying3
  a3:=Tryz.isAgg3
  z3:=Tryz.sizeOf3
  v3:=Tryz.zeroValue3
  t4:=Tryz.underlying4
  a4:=Tryz.isAgg4
  z4:=Tryz.sizeOf4
  v4:=Tryz.zeroValue4
  t5:=Tryz.underlying5
  a5:=Tryz.isAgg5
  z5:=Tryz.sizeOf5
  v5:=Tryz.zeroValue5
  t9:=Tryz.underlying9
  a9:=Tryz.isAgg9
  z9:=Tryz.sizeOf9
  v9:=Tryz.zeroValue9
  t21:=Tryz.underlying21
  a21:=Tryz.isAgg21
  z21:=Tryz.sizeOf21
  v21:=Tryz.zeroValue21
  t31:=Tryz.underlying174
  a31:=Tryz.isAgg174
  z31:=Tryz.sizeOf174
  v31:=Tryz.zeroValue174
  t46:=Tryz.underlying229
  a46:=Tryz.isAgg229
  z46:=Tryz.sizeOf229
  v46:=Tryz.zeroValue229
  t51:=Tryz.underlying330
  a51:=Tryz.isAgg330
  z51:=Tryz.sizeOf330
  v51:=Tryz.zeroValue330
  t105:=Tryz.underlying318
  a105:=Tryz.isAgg318
  z105:=Tryz.sizeOf318
  v105:=Tryz.zeroValue318
  t119:=Tryz.underlying368
  a119:=Tryz.isAgg368
  z119:=Tryz.sizeOf368
  t138:=Tryz.underlying370
  a138:=Tryz.isAgg370
  z138:=Tryz.sizeOf370
  v138:=Tryz.zeroValue370
  t139:=Tryz.underlying371
  a139:=Tryz.isAgg371
  z139:=Tryz.sizeOf371
  v139:=Tryz.zeroValue371
  t146:=Tryz.underlying372
  a146:=Tryz.isAgg372
  z146:=Tryz.sizeOf372
  v146:=Tryz.zeroValue372
  g1:=by kernel_rfl
  g3:=by kernel_rfl
  g4:=by kernel_rfl
noncomputable def qrO:Con:=⟨[.str,.str],true,[],.sl .str,fun x=>qr5 x.1 x.2.1,none⟩
theorem splitS_ok:ConOK Tryz.prog 88 qrO:=by
  refine⟨rfl,fun h=>(by cases h),fun g h=>(by cases h),fun w S args x r hS hT ha hr=>?_⟩
  obtain⟨s,sep,⟨⟩⟩:=x
  obtain⟨v,q,e1,⟨cs,⟨_,rfl⟩,rfl⟩,v2,q2,rfl,⟨cs2,⟨_,rfl⟩,rfl⟩,h2⟩:=ha
  obtain rfl:q2=[]:=h2
  obtain rfl:args = #[.string s,.string sep]:=by rw[←Array.toList_inj,e1];rfl
  have hr:qr5 s sep=some r:=hr
  obtain⟨hb,rfl⟩:=qtx hr
  simp only[Bool.and_eq_true] at hb
  have h3:=Nat.le_of_ble_eq_true hb.1
  have h4:=Nat.le_of_ble_eq_true hb.2
  obtain⟨m,hm⟩:=open_int (g:=1) hT (by decide)
  have hlen:=Go.Lib.splitB_all sep h4 0 _ s rfl
  refine(Any.strings_Split (P:=Tryz.prog) (ρ:=split_ren) split_lay (by kernel_rfl) s sep m w (Nat.lt_succ_of_le h3) hm h4).mono ?_
  rintro e w' ⟨rfl,rfl⟩
  generalize Go.Lib.splitB sep 0 (Go.Lib.countB s sep) s=l at hlen ⊢
  rw[←hlen]
  have hnew:=Go.Eng.alloc_blk w (l.map Value.string).toArray (split_ren.t 9)
  have hsz:=Go.Eng.alloc_size w (.cells (l.map Value.string).toArray (split_ren.t 9))
  refine⟨_,rfl,Go.Eng.alloc_chg _ _,[],[.slice (some ⟨w.heap.size,0,none⟩) l.length l.length],List.nodup_nil,(by simp),⟨rfl,_,_,l.map Value.string,rfl,Nat.le_refl _,qww l,fun _=>⟨_,rfl,⟨by rw[hsz];exact Nat.lt_succ_self _,.inr (Nat.le_refl _),by simp⟩,?_⟩⟩,rfl⟩
  have:=qfm (w:=w.alloc (.cells (l.map Value.string).toArray (split_ren.t 9))) (b:=w.heap.size) hnew 0
  simpa using this

noncomputable def qfs:Con:=⟨[.str],true,[],.int .i64,fun x=>some (qaq x.1),some fun x=>qaq x.1⟩
theorem qku:ConOK Tryz.prog 110 qfs:=by
  refine⟨rfl,fun h=>(by cases h),fun g h=>(by cases h;intro x;rfl),fun w S args x r hS hT ha hr=>?_⟩
  obtain⟨s,⟨⟩⟩:=x
  obtain⟨v,q,e1,⟨cs,⟨_,rfl⟩,rfl⟩,h2⟩:=ha
  obtain rfl:q=[]:=h2
  obtain rfl:args = #[.string s]:=by rw[←Array.toList_inj,e1];rfl
  have hr:some (qaq s)=some r:=hr
  cases hr
  refine(qvD s w).mono ?_
  rintro e w' ⟨rfl,hb⟩
  exact⟨_,rfl,qpk rfl hb,[],[.int .i64 (qaq s)],List.nodup_nil,(by simp),⟨rfl,rfl⟩,rfl⟩

def ato_ren:Go.Shelf.Ren:=⟨fun | 172=>155 | 244=>207 | 245=>208 | 247=>237 | 279=>238 | 280=>239 | 281=>240 | 282=>241 | 287=>277 | 316=>278 | 171=>49 | 205=>279 | 321=>304 | 322=>305 | 243=>113 | 246=>166 | 283=>214 | 284=>215 | 285=>216 | 286=>217 | 129=>248 | 317=>247 | 318=>249 | 319=>250 | 320=>251 | 337=>286 | 338=>287 | n=>n,fun | 9=>9 | 3=>3 | 75=>201 | 76=>202 | 4=>4 | 5=>5 | 167=>320 | 37=>195 | 0=>0 | 85=>321 | 2=>2 | 168=>323 | 53=>78 | 175=>349 | 46=>229 | 210=>353 | 127=>249 | 145=>377 | 143=>375 | 21=>21 | 171=>297 | 173=>300 | 212=>329 | 51=>330 | 20=>20 | 213=>331 | 232=>378 | 233=>379 | 80=>210 | n=>n,fun | 15=>2 | 16=>3 | 17=>0 | 18=>6 | 19=>7 | n=>n⟩
open Go.Shelf in
theorem ato_lay:Go.Proofs.LaysC.n172 Tryz.prog ato_ren where
  mixed:=by kernel_rfl
  f129:=Tryz.func248.trans (congrArg some (by kernel_rfl))
  f171:=Tryz.func49.trans (congrArg some (by kernel_rfl))
  f172:=Tryz.func155.trans (congrArg some (by kernel_rfl))
  f205:=Tryz.func279.trans (congrArg some (by kernel_rfl))
  f243:=Tryz.func113.trans (congrArg some (by kernel_rfl))
  f244:=Tryz.func207.trans (congrArg some (by kernel_rfl))
  f245:=Tryz.func208.trans (congrArg some (by kernel_rfl))
  f246:=Tryz.func166.trans (congrArg some (by kernel_rfl))
  f247:=Tryz.func237.trans (congrArg some (by kernel_rfl))
  f279:=Tryz.func238.trans (congrArg some (by kernel_rfl))
  f280:=Tryz.func239.trans (congrArg some (by kernel_rfl))
  f281:=Tryz.func240.trans (congrArg some (by kernel_rfl))
  f282:=Tryz.func241.trans (congrArg some (by kernel_rfl))
  f283:=Tryz.func214.trans (congrArg some (by kernel_rfl))
  f284:=Tryz.func215.trans (congrArg some (by kernel_rfl))
  f285:=Tryz.func216.trans (congrArg some (by kernel_rfl))
  f286:=Tryz.func217.trans (congrArg some (by kernel_rfl))
  f287:=Tryz.func277.trans (congrArg some (by kernel_rfl))
  f316:=Tryz.func278.trans (congrArg some (by kernel_rfl))
  f317:=Tryz.func247.trans (congrArg some (by kernel_rfl))
  f318:=Tryz.func249.trans (congrArg some (by kernel_rfl))
  f319:=Tryz.func250.trans (congrArg some (by kernel_rfl))
  f320:=Tryz.func251.trans (congrArg some (by kernel_rfl))
  f321:=Tryz.func304.trans (congrArg some (by kernel_rfl))
  f322:=Tryz.func305.trans (congrArg some (by kernel_rfl))
  f337:=Tryz.func286.trans (congrArg some (by kernel_rfl))
  f338:=Tryz.func287.trans (congrArg some (by kernel_rfl))
  t0:=Tryz.underlying0
  a0:=Tryz.isAgg0
  z0:=Tryz.sizeOf0
  v0:=Tryz.zeroValue0
  t2:=Tryz.underlying2
  a2:=Tryz.isAgg2
  z2:=Tryz.sizeOf2
  v2:=Tryz.zeroValue2
  t3:=Tryz.underlying3
  a3:=Tryz.isAgg3
  z3:=Tryz.sizeOf3
  v3:=Tryz.zeroValue3
  t4:=Tryz.underlying4
  a4:=Tryz.isAgg4
  z4:=Tryz.sizeOf4
  v4:=Tryz.zeroValue4
  t5:=Tryz.underlying5
  a5:=Tryz.isAgg5
  z5:=Tryz.sizeOf5
  v5:=Tryz.zeroValue5
  t9:=Tryz.underlying9
  a9:=Tryz.isAgg9
  z9:=Tryz.sizeOf9
  v9:=Tryz.zeroValue9
  t20:=Tryz.underlying20
  a20:=Tryz.isAgg20
  z20:=Tryz.sizeOf20
  v20:=Tryz.zeroValue20
  t21:=Tryz.underlying21
  a21:=Tryz.isAgg21
  z21:=Tryz.sizeOf21
  v21:=Tryz.zeroValue21
  t37:=Tryz.underlying195
  a37:=Tryz.isAgg195
  z37:=Tryz.sizeOf195
  v37:=Tryz.zeroValue195
  t46:=Tryz.underlying229
  a46:=Tryz.isAgg229
  z46:=Tryz.sizeOf229
  v46:=Tryz.zeroValue229
  t51:=Tryz.underlying330
  a51:=Tryz.isAgg330
  z51:=Tryz.sizeOf330
  v51:=Tryz.zeroValue330
  t53:=Tryz.underlying78
  a53:=Tryz.isAgg78
  z53:=Tryz.sizeOf78
  v53:=Tryz.zeroValue78
  t75:=Tryz.underlying201
  a75:=Tryz.isAgg201
  z75:=Tryz.sizeOf201
  v75:=Tryz.zeroValue201
  t76:=Tryz.underlying202
  a76:=Tryz.isAgg202
  z76:=Tryz.sizeOf202
  v76:=Tryz.zeroValue202
  t85:=Tryz.underlying321
  a85:=Tryz.isAgg321
  z85:=Tryz.sizeOf321
  v85:=Tryz.zeroValue321
  t127:=Tryz.underlying249
  a127:=Tryz.isAgg249
  z127:=Tryz.sizeOf249
  v127:=Tryz.zeroValue249
  t143:=Tryz.underlying375
  a143:=Tryz.isAgg375
  z143:=Tryz.sizeOf375
  v143:=Tryz.zeroValue375
  t145:=Tryz.underlying377
  a145:=Tryz.isAgg377
  z145:=Tryz.sizeOf377
  v145:=Tryz.zeroValue377
  t167:=Tryz.underlying320
  a167:=Tryz.isAgg320
  z167:=Tryz.sizeOf320
  v167:=Tryz.zeroValue320
  t168:=Tryz.underlying323
  a168:=Tryz.isAgg323
  z168:=Tryz.sizeOf323
  v168:=Tryz.zeroValue323
  t171:=Tryz.underlying297
  a171:=Tryz.isAgg297
  z171:=Tryz.sizeOf297
  v171:=Tryz.zeroValue297
  t173:=Tryz.underlying300
  a173:=Tryz.isAgg300
  z173:=Tryz.sizeOf300
  v173:=Tryz.zeroValue300
  t175:=Tryz.underlying349
  a175:=Tryz.isAgg349
  z175:=Tryz.sizeOf349
  v175:=Tryz.zeroValue349
  t210:=Tryz.underlying353
  a210:=Tryz.isAgg353
  z210:=Tryz.sizeOf353
  v210:=Tryz.zeroValue353
  t212:=Tryz.underlying329
  a212:=Tryz.isAgg329
  z212:=Tryz.sizeOf329
  v212:=Tryz.zeroValue329
  t213:=Tryz.underlying331
  a213:=Tryz.isAgg331
  z213:=Tryz.sizeOf331
  t232:=Tryz.underlying378
  a232:=Tryz.isAgg378
  z232:=Tryz.sizeOf378
  v232:=Tryz.zeroValue378
  t233:=Tryz.underlying379
  a233:=Tryz.isAgg379
  z233:=Tryz.sizeOf379
  v233:=Tryz.zeroValue379
  g15:=by kernel_rfl
  g16:=by kernel_rfl
  g17:=by kernel_rfl
  g18:=by kernel_rfl
  g19:=by kernel_rfl
  t80:=Tryz.underlying210
  a80:=Tryz.isAgg210
  z80:=Tryz.sizeOf210
  v80:=Tryz.zeroValue210
  i0:=by kernel_rfl
  i2:=by kernel_rfl
  i3:=by kernel_rfl
  i4:=by kernel_rfl
  i5:=by kernel_rfl
  i9:=by kernel_rfl
  i20:=by kernel_rfl
  i21:=by kernel_rfl
  i37:=by kernel_rfl
  i46:=by kernel_rfl
  i51:=by kernel_rfl
  i53:=by kernel_rfl
  i75:=by kernel_rfl
  i76:=by kernel_rfl
  i80:=by kernel_rfl
  i85:=by kernel_rfl
  i127:=by kernel_rfl
  i143:=by kernel_rfl
  i145:=by kernel_rfl
  i167:=by kernel_rfl
  i168:=by kernel_rfl
  i171:=by kernel_rfl
  i173:=by kernel_rfl
  i175:=by kernel_rfl
  i210:=by kernel_rfl
  i212:=by kernel_rfl
  i232:=by kernel_rfl
  i233:=by kernel_rfl
  m15:=by kernel_rfl
  m16:=by kernel_rfl
  m17:=by kernel_rfl
  m18:=by kernel_rfl
  m19:=by kernel_rfl
  c0:=by kernel_rfl
  c2:=by kernel_rfl
  c3:=by kernel_rfl
  c4:=by kernel_rfl
  c5:=by kernel_rfl
  c9:=by kernel_rfl
  c20:=by kernel_rfl
  c21:=by kernel_rfl
  c37:=by kernel_rfl
  c46:=by kernel_rfl
  c51:=by kernel_rfl
  c53:=by kernel_rfl
  c75:=by kernel_rfl
  c76:=by kernel_rfl
  c80:=by kernel_rfl
  c85:=by kernel_rfl
  c127:=by kernel_rfl
  c143:=by kernel_rfl
  c145:=by kernel_rfl
  c167:=by kernel_rfl
  c168:=by kernel_rfl
  c171:=by kernel_rfl
  c173:=by kernel_rfl
  c175:=by kernel_rfl
  c210:=by kernel_rfl
  c212:=by kernel_rfl
  c213:=by kernel_rfl
  c232:=by kernel_rfl
  c233:=by kernel_rfl
noncomputable def quJ:Con:=⟨[.str],false,[.int .i64,.err],.st Zt63 (.st .err .nil),fun x=>atoiS x.1,none⟩
theorem atoiS_ok:ConOK Tryz.prog 155 quJ:=by
  refine⟨rfl,fun _=>rfl,fun g h=>(by cases h),fun w S args x r hS hT ha hr=>?_⟩
  obtain⟨s,⟨⟩⟩:=x
  obtain⟨v,q,e1,⟨cs,⟨_,rfl⟩,rfl⟩,h2⟩:=ha
  obtain rfl:q=[]:=h2
  obtain rfl:args = #[.string s]:=by rw[←Array.toList_inj,e1];rfl
  have hr:atoiS s=some r:=hr
  obtain⟨hb,hr⟩:Nat.ble s.size 9223372036854775806=true∧(match Go.Lib.atoiAll s.data.toList with | .ok v=>some (v,(false,())) | _=>none)=some r:=by
    unfold atoiS at hr
    cases h:Nat.ble s.size 9223372036854775806
    · rw[h] at hr;cases hr
    · rw[h] at hr;exact⟨rfl,hr⟩
  have hb:=Nat.le_of_ble_eq_true hb
  cases hq:Go.Lib.atoiAll s.data.toList with
  | ok v =>
    rw[hq] at hr
    cases hr
    refine(Any.strconv_Atoi_ok (P:=Tryz.prog) (ρ:=ato_ren) ato_lay s hb v hq w).mono ?_
    rintro e w' ⟨rfl,hw⟩
    have hch:Go.Eng.Chg [] w w':=by
      rcases hw with rfl | ⟨t,rfl⟩
      · exact Go.Eng.Chg.refl _ _
      · exact qpk rfl (Go.Lib.bytesWorld_below w _ t)
    exact⟨_,rfl,hch,[],[.int .i64 v,.nilIface],List.nodup_nil,(by simp),⟨[.int .i64 v],[.nilIface],[],[],rfl,rfl,⟨rfl,rfl⟩,⟨[.nilIface],[],[],[],rfl,rfl,⟨rfl,.nilIface,rfl,.inl ⟨rfl,rfl⟩⟩,⟨rfl,rfl⟩⟩⟩,rfl⟩
  | _=>rw[hq] at hr;cases hr

def bck_ren:Go.Shelf.Ren:=⟨fun | 240=>159 | 276=>211 | n=>n,fun | 0=>0 | 4=>4 | 5=>5 | 9=>9 | 20=>20 | 37=>195 | 70=>194 | 72=>197 | 164=>293 | n=>n,fun | n=>n⟩
open Go.Shelf in
theorem bck_lay:Go.Proofs.Lays.n240 Tryz.prog bck_ren where
  mixed:=by kernel_rfl
  f240:=Tryz.func159.trans (congrArg some (by kernel_rfl))
  f276:=Tryz.func211.trans (congrArg some (by kernel_rfl))
  t0:=Tryz.underlying0
  a0:=Tryz.isAgg0
  z0:=Tryz.sizeOf0
  v0:=Tryz.zeroValue0
  t4:=Tryz.underlying4
  a4:=Tryz.isAgg4
  z4:=Tryz.sizeOf4
  v4:=Tryz.zeroValue4
  t9:=Tryz.underlying9
  a9:=Tryz.isAgg9
  z9:=Tryz.sizeOf9
  v9:=Tryz.zeroValue9
  t20:=Tryz.underlying20
  a20:=Tryz.isAgg20
  z20:=Tryz.sizeOf20
  v20:=Tryz.zeroValue20
  t70:=Tryz.underlying194
  a70:=Tryz.isAgg194
  z70:=Tryz.sizeOf194
  v70:=Tryz.zeroValue194
  t72:=Tryz.underlying197
  a72:=Tryz.isAgg197
  z72:=Tryz.sizeOf197
  v72:=Tryz.zeroValue197
  t164:=Tryz.underlying293
  a164:=Tryz.isAgg293
  z164:=Tryz.sizeOf293
  v164:=Tryz.zeroValue293
theorem qc:CkOK Tryz.prog 159 197:=ck_of (P:=Tryz.prog) (ρ:=bck_ren) bck_lay ⟨by kernel_rfl,by kernel_rfl⟩

def qvP:Go.Shelf.Ren:=⟨fun | 169=>104 | n=>n,fun | 70=>194 | 9=>9 | 0=>0 | 72=>197 | 37=>195 | 127=>249 | 3=>3 | 5=>5 | n=>n,fun | n=>n⟩
open Go.Shelf in
theorem bst_lay:Go.Proofs.Lays.n169 Tryz.prog qvP where
  mixed:=by kernel_rfl
  f169:=Tryz.func104.trans (congrArg some (by kernel_rfl))
  t0:=Tryz.underlying0
  a0:=Tryz.isAgg0
  z0:=Tryz.sizeOf0
  v0:=Tryz.zeroValue0
  t3:=Tryz.underlying3
  a3:=Tryz.isAgg3
  z3:=Tryz.sizeOf3
  v3:=Tryz.zeroValue3
  t9:=Tryz.underlying9
  a9:=Tryz.isAgg9
  z9:=Tryz.sizeOf9
  v9:=Tryz.zeroValue9
  t37:=Tryz.underlying195
  a37:=Tryz.isAgg195
  z37:=Tryz.sizeOf195
  v37:=Tryz.zeroValue195
  t70:=Tryz.underlying194
  a70:=Tryz.isAgg194
  z70:=Tryz.sizeOf194
  v70:=Tryz.zeroValue194
  t72:=Tryz.underlying197
  a72:=Tryz.isAgg197
  z72:=Tryz.sizeOf197
  v72:=Tryz.zeroValue197
  t127:=Tryz.underlying249
  a127:=Tryz.isAgg249
  z127:=Tryz.sizeOf249
  v127:=Tryz.zeroValue249
theorem bst_extra:Go.Proofs.Builder.Extra Tryz.prog qvP where
  sizeBuilder:=by kernel_rfl
  liesBuilder:=by kernel_rfl
  t5:=Tryz.underlying5
  a5:=Tryz.isAgg5
  z5:=Tryz.sizeOf5
  v5:=Tryz.zeroValue5
  infoByte:=by kernel_rfl
  cellsByte:=by kernel_rfl
  sizeByte:=by kernel_rfl
  neB5:=by decide
theorem qoS:BsOK Tryz.prog 104 197 5:=bs_of (P:=Tryz.prog) (ρ:=qvP) bst_lay bst_extra

def ql8:Ann:=(.two .nil (.two (.two .nil (.joinE ⟨[0],[],[]⟩ (.two (.loop ⟨[0,6],[(7,Zt63)],[]⟩ .nil) .nil))) .nil))
noncomputable def rulesName_con:Con:=⟨[.str],true,[],.bool,fun x=>qi2 x.1,none⟩
noncomputable def qmb:Env:=[]
theorem qsI (x:DL rulesName_con.ps):rulesName_con.φ x=denF Tryz.prog qmb ql8 Tryz.f130 rulesName_con.ps rulesName_con.one rulesName_con.res rulesName_con.ρ x:=by kernel_rfl
theorem qod:ConOK Tryz.prog 130 rulesName_con :=
  qa (env:=qmb) ((EnvOK.nil _)) mixed Tryz.func130 rulesName_con ql8 (by kernel_rfl) (fun h=>by first | rfl | cases h) (fun g hg=>by cases hg) qsI
def qjA:Ann := .nil
noncomputable def rulesWithin_con:Con:=⟨[Zt63,Zt63,Zt63],true,[],.bool,fun x=>qhq x.1 x.2.1 x.2.2.1,some fun x=>qd x.1 x.2.1 x.2.2.1⟩
noncomputable def qiF:Env:=[]
theorem qp3 (x:DL rulesWithin_con.ps):rulesWithin_con.φ x=denF Tryz.prog qiF qjA Tryz.f131 rulesWithin_con.ps rulesWithin_con.one rulesWithin_con.res rulesWithin_con.ρ x:=by kernel_rfl
theorem qgH:ConOK Tryz.prog 131 rulesWithin_con :=
  qa (env:=qiF) ((EnvOK.nil _)) mixed Tryz.func131 rulesWithin_con qjA (by kernel_rfl) (fun h=>by first | rfl | cases h) (fun g hg x=>by
    cases hg
    exact qqE _ _ _) qp3
def qi7:Ann:=(.two .nil (.two .nil (.two .nil (.two (.two .nil (.joinE ⟨[],[],[]⟩ (.two (.loop ⟨[1,16,17],[(18,Zt63)],[]⟩ (.two .nil (.two .nil (.two (.joinE ⟨[1,16,17,18],[],[]⟩ (.two (.two .nil (.two (.two (.two .nil (.two .nil (.two (.two (.two .nil (.two (.two (.two .nil (.two (.two .nil (.joinE ⟨[],[],[]⟩ (.two (.loop ⟨[0,1,7],[(8,Zt63)],[]⟩ .nil) .nil))) .nil)) .nil) .nil)) .nil) .nil))) .nil) (.two .nil (.joinE ⟨[1,16,17,18],[],[]⟩ (.two (.loop ⟨[1,16,17,18,59,60],[(61,Zt63)],[]⟩ .nil) .nil))))) .nil)) .nil)))) .nil))) .nil))))
noncomputable def rulesPieces_con:Con:=⟨[Zt17],true,[],Zt63,fun x=>qhI x.1,none⟩
noncomputable def qiU:Env:=(131,.con rulesWithin_con)::(186,.body Tryz.f186)::(227,.body Tryz.f227)::(185,.body Tryz.f185)::(159,.ck 197)::[]
theorem qpn (x:DL rulesPieces_con.ps):rulesPieces_con.φ x=denF Tryz.prog qiU qi7 Tryz.f132 rulesPieces_con.ps rulesPieces_con.one rulesPieces_con.res rulesPieces_con.ρ x:=by kernel_rfl
theorem qqU:ConOK Tryz.prog 132 rulesPieces_con :=
  qa (env:=qiU) ((EnvOK.cons (EnvOK.body (EnvOK.body (EnvOK.body (EnvOK.check (EnvOK.nil _) qc) Tryz.func185) Tryz.func227) Tryz.func186) qgH)) mixed Tryz.func132 rulesPieces_con qi7 (by kernel_rfl) (fun h=>by first | rfl | cases h) (fun g hg=>by cases hg) qpn
def qfH:Ann:=(.two .nil (.two .nil (.two (.two .nil (.joinE ⟨[],[],[]⟩ (.two (.loop ⟨[1,12,13],[(14,Zt63)],[]⟩ (.two .nil (.two .nil (.two (.two (.two .nil (.two .nil (.two (.two .nil (.two (.two .nil (.joinE ⟨[1,12,13,14],[(5,.bool),(6,.bool)],[]⟩ (.two .nil (.two .nil (.joinE ⟨[1,6,12,13,14],[(5,.bool)],[]⟩ .nil))))) .nil)) .nil))) .nil) .nil)))) .nil))) .nil)))
noncomputable def rulesConditions_con:Con:=⟨[Zt17],true,[],Zt63,fun x=>qb8 x.1,none⟩
noncomputable def qfy:Env:=(131,.con rulesWithin_con)::(159,.ck 197)::[]
theorem qlz (x:DL rulesConditions_con.ps):rulesConditions_con.φ x=denF Tryz.prog qfy qfH Tryz.f135 rulesConditions_con.ps rulesConditions_con.one rulesConditions_con.res rulesConditions_con.ρ x:=by kernel_rfl
theorem qmS:ConOK Tryz.prog 135 rulesConditions_con :=
  qa (env:=qfy) ((EnvOK.cons (EnvOK.check (EnvOK.nil _) qc) qgH)) mixed Tryz.func135 rulesConditions_con qfH (by kernel_rfl) (fun h=>by first | rfl | cases h) (fun g hg=>by cases hg) qlz
def qkv:Ann:=(.two .nil (.two .nil (.two .nil (.two .nil (.two .nil (.two (.two (.two (.two .nil (.two (.two (.two .nil (.two (.two .nil (.joinE ⟨[],[],[]⟩ (.two (.loop ⟨[0,1,7],[(8,Zt63)],[]⟩ .nil) .nil))) .nil)) .nil) .nil)) .nil) .nil) .nil))))))
noncomputable def rulesCheck_con:Con:=⟨[Zt17],true,[],Zt63,fun x=>qfg x.1,none⟩
noncomputable def qk6:Env:=(135,.con rulesConditions_con)::(134,.body Tryz.f134)::(187,.body Tryz.f187)::(133,.body Tryz.f133)::(132,.con rulesPieces_con)::(131,.con rulesWithin_con)::(130,.con rulesName_con)::[]
theorem qqZ (x:DL rulesCheck_con.ps):rulesCheck_con.φ x=denF Tryz.prog qk6 qkv Tryz.f67 rulesCheck_con.ps rulesCheck_con.one rulesCheck_con.res rulesCheck_con.ρ x:=by kernel_rfl
theorem qhV:ConOK Tryz.prog 67 rulesCheck_con :=
  qa (env:=qk6) ((EnvOK.cons (EnvOK.body (EnvOK.body (EnvOK.body (EnvOK.cons (EnvOK.cons (EnvOK.cons (EnvOK.nil _) qod) qgH) qqU) Tryz.func133) Tryz.func187) Tryz.func134) qmS)) mixed Tryz.func67 rulesCheck_con qkv (by kernel_rfl) (fun h=>by first | rfl | cases h) (fun g hg=>by cases hg) qqZ
def qeJ:Ann:=(.two .nil (.two .nil (.two (.two .nil (.join ⟨[0],[(3,Zt63)],[]⟩ (.two (.loop ⟨[0,9,10],[(3,Zt63),(11,Zt63)],[]⟩ .nil) .nil))) (.two (.two (.two .nil (.two .nil (.two (.two .nil (.two .nil (.join ⟨[],[(0,Zt60)],[]⟩ (.two (.own (.own .nil)) .nil)))) .nil))) .nil) (.two (.two .nil (.join ⟨[],[(6,Zt60)],[(0,none)]⟩ (.two (.loop ⟨[25,26],[(6,Zt60),(27,Zt63)],[(0,none)]⟩ .nil) .nil))) .nil)))))
noncomputable def slicesConcat_int_con:Con:=⟨[(.sl Zt61)],true,[],Zt60,fun x=>qcH x.1,none⟩
noncomputable def qeP:Env:=(232,.body Tryz.f232)::[]
theorem qkd (x:DL slicesConcat_int_con.ps):slicesConcat_int_con.φ x=denF Tryz.prog qeP qeJ Tryz.f200 slicesConcat_int_con.ps slicesConcat_int_con.one slicesConcat_int_con.res slicesConcat_int_con.ρ x:=by kernel_rfl
theorem qld:ConOK Tryz.prog 200 slicesConcat_int_con :=
  qa (env:=qeP) ((EnvOK.body (EnvOK.nil _) Tryz.func232)) mixed Tryz.func200 slicesConcat_int_con qeJ (by kernel_rfl) (fun h=>by first | rfl | cases h) (fun g hg=>by cases hg) qkd
def qiR:Ann:=(.ord 6 0 (.two .nil (.two (.two (.two .nil (.two (.two .nil (.joinE ⟨[],[],[]⟩ (.two (.loop ⟨[0,1,7],[(8,Zt63)],[]⟩ .nil) .nil))) .nil)) .nil) .nil)) (.ord 7 0 .nil (.ord 8 0 .nil (.ord 9 0 .nil (.ord 10 0 .nil (.ord 11 0 (.two .nil (.two (.two (.two .nil (.two (.two .nil (.joinE ⟨[],[],[]⟩ (.two (.loop ⟨[0,1,7],[(8,Zt63)],[]⟩ .nil) .nil))) .nil)) .nil) .nil)) (.ord 12 0 .nil (.ord 13 0 .nil (.ord 14 0 .nil (.ord 15 0 .nil (.ord 16 0 .nil (.ord 17 0 .nil (.ord 18 0 .nil (.ord 19 0 .nil (.ord 20 0 .nil (.ord 21 0 .nil (.ord 22 0 .nil (.ord 23 0 .nil (.ord 24 0 .nil (.ord 25 0 .nil (.ord 26 0 .nil (.ord 27 0 .nil (.ord 28 0 .nil (.ord 29 0 .nil (.ord 30 0 .nil (.ord 31 0 .nil (.ord 32 0 .nil .nil)))))))))))))))))))))))))))
def qkL:Ann:=(.two .nil (.two .nil (.two .nil (.two .nil (.two .nil (.two (.two (.join ⟨[],[(76,.bool)],[]⟩ (.any 8589931423 0 (.ord 0 0 .nil (.ord 2 0 .nil (.ord 3 0 .nil (.ord 4 0 .nil (.alt (.ord 1 0 .nil (.ord 5 0 .nil qiR)) (.ord 5 0 .nil (.ord 1 0 .nil qiR))))))))) .nil) .nil))))))
noncomputable def placeSound_con:Con:=⟨[Zt17,Zt34],true,[],Zt63,fun x=>qjT x.1 x.2.1,none⟩
noncomputable def qkl:Env:=(199,.body Tryz.f199)::(187,.body Tryz.f187)::(133,.body Tryz.f133)::(198,.body Tryz.f198)::(200,.con slicesConcat_int_con)::[]
theorem qq5 (x:DL placeSound_con.ps):placeSound_con.φ x=denF Tryz.prog qkl qkL Tryz.f141 placeSound_con.ps placeSound_con.one placeSound_con.res placeSound_con.ρ x:=by kernel_rfl
theorem qsW:ConOK Tryz.prog 141 placeSound_con :=
  qa (env:=qkl) ((EnvOK.body (EnvOK.body (EnvOK.body (EnvOK.body (EnvOK.cons (EnvOK.nil _) qld) Tryz.func198) Tryz.func133) Tryz.func187) Tryz.func199)) mixed Tryz.func141 placeSound_con qkL (by kernel_rfl) (fun h=>by first | rfl | cases h) (fun g hg=>by cases hg) qq5
def qky:Ann := .nil
noncomputable def placeCheck_con:Con:=⟨[Zt17,Zt34],true,[],Zt63,fun x=>qg4 x.1 x.2.1,none⟩
noncomputable def qkM:Env:=(141,.con placeSound_con)::(67,.con rulesCheck_con)::[]
theorem qqC (x:DL placeCheck_con.ps):placeCheck_con.φ x=denF Tryz.prog qkM qky Tryz.f74 placeCheck_con.ps placeCheck_con.one placeCheck_con.res placeCheck_con.ρ x:=by kernel_rfl
theorem ql1:ConOK Tryz.prog 74 placeCheck_con :=
  qa (env:=qkM) ((EnvOK.cons (EnvOK.cons (EnvOK.nil _) qhV) qsW)) mixed Tryz.func74 placeCheck_con qky (by kernel_rfl) (fun h=>by first | rfl | cases h) (fun g hg=>by cases hg) qqC
def qoz:Ann:=(.two .nil (.two .nil (.two (.two .nil (.joinE ⟨[],[],[]⟩ (.two (.loop ⟨[3,4,9,19],[(20,Zt63)],[]⟩ (.two .nil (.two .nil (.two (.joinE ⟨[3,4,9,19,20],[],[]⟩ (.two (.two .nil (.two .nil (.joinE ⟨[3,4,9,19,20],[],[]⟩ (.two (.loop ⟨[3,4,9,10,19,20,27],[(28,Zt63)],[]⟩ (.two .nil (.two .nil (.two (.joinE ⟨[3,4,9,10,19,20,27,28],[],[]⟩ (.two (.two .nil (.two .nil (.two (.join ⟨[3,4,9,10,19,20,27,28],[(15,Zt63)],[]⟩ (.two (.loop ⟨[3,4,9,10,12,19,20,27,28],[(13,Zt63),(14,Zt63),(15,Zt63)],[]⟩ (.two (.two (.join ⟨[3,4,9,10,12,13,14,15,19,20,27,28],[(47,.bool)],[]⟩ .nil) .nil) .nil)) .nil)) .nil))) .nil)) .nil)))) .nil)))) .nil)) .nil)))) .nil))) .nil)))
noncomputable def endsLine_con:Con:=⟨[Zt17,Zt34,Zt63,Zt63],true,[],.bool,fun x=>qpe x.1 x.2.1 x.2.2.1 x.2.2.2.1,none⟩
noncomputable def qoG:Env:=(272,.body Tryz.f272)::(159,.ck 197)::[]
theorem quK (x:DL endsLine_con.ps):endsLine_con.φ x=denF Tryz.prog qoG qoz Tryz.f231 endsLine_con.ps endsLine_con.one endsLine_con.res endsLine_con.ρ x:=by kernel_rfl
theorem qvi:ConOK Tryz.prog 231 endsLine_con :=
  qa (env:=qoG) ((EnvOK.body (EnvOK.check (EnvOK.nil _) qc) Tryz.func272)) mixed Tryz.func231 endsLine_con qoz (by kernel_rfl) (fun h=>by first | rfl | cases h) (fun g hg=>by cases hg) quK
def qjm:Ann := .nil
noncomputable def rulesIsLast_con:Con:=⟨[Zt17,Zt63,Zt63],true,[],.bool,fun x=>qfp x.1 x.2.1 x.2.2.1,none⟩
noncomputable def qjv:Env:=[]
theorem qpW (x:DL rulesIsLast_con.ps):rulesIsLast_con.φ x=denF Tryz.prog qjv qjm Tryz.f190 rulesIsLast_con.ps rulesIsLast_con.one rulesIsLast_con.res rulesIsLast_con.ρ x:=by kernel_rfl
theorem qkS:ConOK Tryz.prog 190 rulesIsLast_con :=
  qa (env:=qjv) ((EnvOK.nil _)) mixed Tryz.func190 rulesIsLast_con qjm (by kernel_rfl) (fun h=>by first | rfl | cases h) (fun g hg=>by cases hg) qpW
def qlV:Ann:=(.two .nil (.two (.two .nil (.joinE ⟨[3,5,6],[],[]⟩ (.two (.two .nil (.two .nil (.two .nil (.two (.two (.two .nil (.joinE ⟨[3,5,6],[],[]⟩ (.two (.loop ⟨[3,4,5,6,27,28],[(29,Zt63)],[]⟩ .nil) .nil))) .nil) .nil)))) .nil))) (.two .nil (.two (.two .nil (.join ⟨[6],[(11,Zt63)],[]⟩ (.two (.loop ⟨[3,6,50,51],[(11,Zt63),(52,Zt63)],[]⟩ (.two .nil (.two .nil (.two (.two (.two .nil (.two .nil (.join ⟨[3,6,50,51,52],[(11,Zt63)],[]⟩ .nil))) .nil) .nil)))) .nil))) .nil))))
noncomputable def endsHolds_con:Con:=⟨[Zt17,Zt34,Zt46,Zt63],true,[],.bool,fun x=>qne x.1 x.2.1 x.2.2.1 x.2.2.2.1,none⟩
noncomputable def qlX:Env:=(190,.con rulesIsLast_con)::(231,.con endsLine_con)::[]
theorem qsd (x:DL endsHolds_con.ps):endsHolds_con.φ x=denF Tryz.prog qlX qlV Tryz.f196 endsHolds_con.ps endsHolds_con.one endsHolds_con.res endsHolds_con.ρ x:=by kernel_rfl
theorem qva:ConOK Tryz.prog 196 endsHolds_con :=
  qa (env:=qlX) ((EnvOK.cons (EnvOK.cons (EnvOK.nil _) qvi) qkS)) mixed Tryz.func196 endsHolds_con qlV (by kernel_rfl) (fun h=>by first | rfl | cases h) (fun g hg=>by cases hg) qsd
def qoH:Ann := .nil
noncomputable def endsWins_con:Con:=⟨[Zt63],true,[],Zt63,fun x=>qnT x.1,some fun x=>qdh x.1⟩
noncomputable def qox:Env:=[]
theorem qtJ (x:DL endsWins_con.ps):endsWins_con.φ x=denF Tryz.prog qox qoH Tryz.f197 endsWins_con.ps endsWins_con.one endsWins_con.res endsWins_con.ρ x:=by kernel_rfl
theorem qvJ:ConOK Tryz.prog 197 endsWins_con :=
  qa (env:=qox) ((EnvOK.nil _)) mixed Tryz.func197 endsWins_con qoH (by kernel_rfl) (fun h=>by first | rfl | cases h) (fun g hg x=>by
    cases hg
    exact qvm _) qtJ
def qi1:Ann:=(.two .nil (.two (.two .nil (.joinE ⟨[],[],[]⟩ (.two (.loop ⟨[3,4],[(2,Zt63)],[]⟩ .nil) .nil))) .nil))
noncomputable def movesFilled_con:Con:=⟨[Zt17,Zt34,Zt63],true,[],.bool,fun x=>qhG x.1 x.2.1 x.2.2.1,none⟩
noncomputable def qiB:Env:=[]
theorem qqn (x:DL movesFilled_con.ps):movesFilled_con.φ x=denF Tryz.prog qiB qi1 Tryz.f228 movesFilled_con.ps movesFilled_con.one movesFilled_con.res movesFilled_con.ρ x:=by kernel_rfl
theorem qqT:ConOK Tryz.prog 228 movesFilled_con :=
  qa (env:=qiB) ((EnvOK.nil _)) mixed Tryz.func228 movesFilled_con qi1 (by kernel_rfl) (fun h=>by first | rfl | cases h) (fun g hg=>by cases hg) qqn
def qnp:Ann:=(.two .nil (.two .nil (.two (.two .nil (.join ⟨[],[(5,Zt48)],[]⟩ (.two (.loop ⟨[2,3,11,12],[(5,Zt48),(13,Zt63)],[]⟩ (.two .nil (.two .nil (.two (.join ⟨[2,3,11,12,13],[(5,Zt48)],[(2,none)]⟩ (.two (.two .nil (.two .nil (.two .nil (.join ⟨[2,3,11,12,13],[(5,Zt48)],[(2,none)]⟩ (.two (.loop ⟨[2,3,6,11,12,13,41,42],[(5,Zt48),(43,Zt63)],[(2,none)]⟩ (.two .nil (.two .nil (.two (.two (.two .nil (.two .nil (.join ⟨[2,3,6,11,12,13,41,42,43],[(5,Zt48)],[(3,none)]⟩ .nil))) .nil) .nil)))) .nil))))) .nil)) .nil)))) .nil))) .nil)))
noncomputable def movesPuts_con:Con:=⟨[Zt17,Zt34],true,[],Zt48,fun x=>qmm x.1 x.2.1,none⟩
noncomputable def qni:Env:=(228,.con movesFilled_con)::[]
theorem qsx (x:DL movesPuts_con.ps):movesPuts_con.φ x=denF Tryz.prog qni qnp Tryz.f188 movesPuts_con.ps movesPuts_con.one movesPuts_con.res movesPuts_con.ρ x:=by kernel_rfl
theorem qui:ConOK Tryz.prog 188 movesPuts_con :=
  qa (env:=qni) ((EnvOK.cons (EnvOK.nil _) qqT)) mixed Tryz.func188 movesPuts_con qnp (by kernel_rfl) (fun h=>by first | rfl | cases h) (fun g hg=>by cases hg) qsx
def qor:Ann:=(.two .nil (.two .nil (.two .nil (.two (.two .nil (.join ⟨[2,4,5,7,9],[(10,Zt63)],[]⟩ .nil)) (.two .nil (.two (.two .nil (.join ⟨[],[(9,Zt60)],[]⟩ (.two (.loop ⟨[4,5,7,10,31],[(9,Zt60),(11,Zt63),(12,Zt63),(32,Zt63)],[]⟩ (.two .nil (.two .nil (.two (.two (.two .nil (.two .nil (.two .nil (.two .nil (.two (.two .nil (.join ⟨[4,5,7,10,11,12,13,31,32],[(9,Zt60)],[(3,none)]⟩ .nil)) .nil))))) .nil) .nil)))) .nil))) .nil))))))
noncomputable def movesWay_con:Con:=⟨[Zt17,Zt34,Zt63,Zt44],true,[],Zt60,fun x=>qo5 x.1 x.2.1 x.2.2.1 x.2.2.2.1,none⟩
noncomputable def qoc:Env:=[]
theorem qtU (x:DL movesWay_con.ps):movesWay_con.φ x=denF Tryz.prog qoc qor Tryz.f189 movesWay_con.ps movesWay_con.one movesWay_con.res movesWay_con.ρ x:=by kernel_rfl
theorem qvw:ConOK Tryz.prog 189 movesWay_con :=
  qa (env:=qoc) ((EnvOK.nil _)) mixed Tryz.func189 movesWay_con qor (by kernel_rfl) (fun h=>by first | rfl | cases h) (fun g hg=>by cases hg) qtU
def qmC:Ann:=(.two .nil (.two .nil (.two (.two .nil (.join ⟨[],[(5,Zt48)],[(2,none)]⟩ (.two (.loop ⟨[2,3,19,20],[(5,Zt48),(21,Zt63)],[(2,none)]⟩ (.two .nil (.two .nil (.two (.join ⟨[2,3,19,20,21],[(5,Zt48)],[(3,none)]⟩ (.two (.two .nil (.two .nil (.two .nil (.two .nil (.join ⟨[2,3,19,20,21],[(5,Zt48)],[(3,none)]⟩ (.two (.loop ⟨[2,3,6,8,19,20,21,44,45],[(5,Zt48),(46,Zt63)],[(3,none)]⟩ (.two .nil (.two .nil (.two (.join ⟨[2,3,6,8,19,20,21,44,45,46],[(5,Zt48)],[(4,none)]⟩ (.two (.two .nil (.two .nil (.join ⟨[2,3,6,8,19,20,21,44,45,46],[(5,Zt48)],[(4,none)]⟩ (.two (.loop ⟨[2,3,6,8,19,20,21,44,45,46,54,55],[(5,Zt48),(56,Zt63)],[(4,none)]⟩ (.two .nil (.two .nil (.two (.two (.two .nil (.two .nil (.two (.two .nil (.two .nil (.join ⟨[2,3,5,6,8,13,19,20,21,44,45,46,54,55,56],[],[(8,some (.box Zt51))]⟩ .nil))) .nil))) .nil) .nil)))) .nil)))) .nil)) .nil)))) .nil)))))) .nil)) .nil)))) .nil))) (.two .nil (.two (.join ⟨[],[(4,Zt48)],[(3,none)]⟩ (.two (.two .nil (.two .nil (.two (.two .nil (.joinE ⟨[0],[],[(3,some (.arr 41 Zt51))]⟩ (.two (.loop ⟨[0],[(3,Zt63)],[(3,some (.arr 41 Zt51))]⟩ (.two .nil (.two (.joinE ⟨[0],[(3,Zt63)],[(3,some (.arr 41 Zt51))]⟩ (.two (.two .nil (.two (.two (.own .nil) (.two (.two .nil (.join ⟨[0],[(3,Zt63)],[(3,some (.arr 41 Zt51))]⟩ (.two (.loop ⟨[0,4],[(3,Zt63),(5,Zt63)],[(3,some (.arr 41 Zt51))]⟩ (.two .nil (.two (.two (.two .nil (.join ⟨[0,4,5],[(3,Zt63)],[(3,some (.arr 41 Zt51))]⟩ .nil)) .nil) .nil))) .nil))) (.two (.own .nil) (.two (.own .nil) .nil)))) .nil)) .nil)) .nil))) .nil))) .nil))) .nil)) .nil)))))
noncomputable def movesList_con:Con:=⟨[Zt17,Zt34],true,[],Zt48,fun x=>qar x.1 x.2.1,none⟩
noncomputable def qmo:Env:=(193,.body Tryz.f193)::(191,.srt qhW)::(190,.con rulesIsLast_con)::(189,.con movesWay_con)::(159,.ck 197)::(188,.con movesPuts_con)::[]
theorem qsO (x:DL movesList_con.ps):movesList_con.φ x=denF Tryz.prog qmo qmC Tryz.f137 movesList_con.ps movesList_con.one movesList_con.res movesList_con.ρ x:=by kernel_rfl
theorem qen:ConOK Tryz.prog 137 movesList_con :=
  qa (env:=qmo) ((EnvOK.body (EnvOK.sort (EnvOK.cons (EnvOK.cons (EnvOK.check (EnvOK.cons (EnvOK.nil _) qui) qc) qvw) qkS) quz) Tryz.func193)) mixed Tryz.func137 movesList_con qmC (by kernel_rfl) (fun h=>by first | rfl | cases h) (fun g hg=>by cases hg) qsO
def qkH:Ann:=(.two .nil (.two .nil (.two (.two (.two (.two .nil (.two (.two .nil (.joinE ⟨[],[],[]⟩ (.two (.loop ⟨[0,1,7],[(8,Zt63)],[]⟩ .nil) .nil))) .nil)) .nil) .nil) .nil)))
noncomputable def endsResult_con:Con:=⟨[Zt17,Zt34],true,[],Zt63,fun x=>qfd x.1 x.2.1,none⟩
noncomputable def qkQ:Env:=(197,.con endsWins_con)::(137,.con movesList_con)::(196,.con endsHolds_con)::(195,.body Tryz.f195)::(194,.body Tryz.f194)::(159,.ck 197)::[]
theorem qqF (x:DL endsResult_con.ps):endsResult_con.φ x=denF Tryz.prog qkQ qkH Tryz.f139 endsResult_con.ps endsResult_con.one endsResult_con.res endsResult_con.ρ x:=by kernel_rfl
theorem qmF:ConOK Tryz.prog 139 endsResult_con :=
  qa (env:=qkQ) ((EnvOK.cons (EnvOK.cons (EnvOK.cons (EnvOK.body (EnvOK.body (EnvOK.check (EnvOK.nil _) qc) Tryz.func194) Tryz.func195) qva) qen) qvJ)) mixed Tryz.func139 endsResult_con qkH (by kernel_rfl) (fun h=>by first | rfl | cases h) (fun g hg=>by cases hg) qqF
def qmp:Ann := .nil
noncomputable def endsMoves_con:Con:=⟨[Zt17,Zt34],true,[],Zt48,fun x=>qg3 x.1 x.2.1,none⟩
noncomputable def qmJ:Env:=(137,.con movesList_con)::(139,.con endsResult_con)::[]
theorem qts (x:DL endsMoves_con.ps):endsMoves_con.φ x=denF Tryz.prog qmJ qmp Tryz.f168 endsMoves_con.ps endsMoves_con.one endsMoves_con.res endsMoves_con.ρ x:=by kernel_rfl
theorem qok:ConOK Tryz.prog 168 endsMoves_con :=
  qa (env:=qmJ) ((EnvOK.cons (EnvOK.cons (EnvOK.nil _) qmF) qen)) mixed Tryz.func168 endsMoves_con qmp (by kernel_rfl) (fun h=>by first | rfl | cases h) (fun g hg=>by cases hg) qts
def qeR:Ann:=(.two .nil (.two (.two .nil (.joinE ⟨[],[],[]⟩ (.two (.loop ⟨[0,3,7],[(8,Zt63)],[]⟩ .nil) .nil))) .nil))
noncomputable def slicesIndex_Move_con:Con:=⟨[Zt50,Zt51],true,[],Zt63,fun x=>qeF x.1 x.2.1,none⟩
noncomputable def qeT:Env:=[]
theorem qkg (x:DL slicesIndex_Move_con.ps):slicesIndex_Move_con.φ x=denF Tryz.prog qeT qeR Tryz.f158 slicesIndex_Move_con.ps slicesIndex_Move_con.one slicesIndex_Move_con.res slicesIndex_Move_con.ρ x:=by kernel_rfl
theorem qlx:ConOK Tryz.prog 158 slicesIndex_Move_con :=
  qa (env:=qeT) ((EnvOK.nil _)) mixed Tryz.func158 slicesIndex_Move_con qeR (by kernel_rfl) (fun h=>by first | rfl | cases h) (fun g hg=>by cases hg) qkg
def qc1:Ann := .nil
noncomputable def slicesContains_Move_con:Con:=⟨[Zt50,Zt51],true,[],.bool,fun x=>qv x.1 x.2.1,none⟩
noncomputable def qdw:Env:=(158,.con slicesIndex_Move_con)::[]
theorem qhX (x:DL slicesContains_Move_con.ps):slicesContains_Move_con.φ x=denF Tryz.prog qdw qc1 Tryz.f98 slicesContains_Move_con.ps slicesContains_Move_con.one slicesContains_Move_con.res slicesContains_Move_con.ρ x:=by kernel_rfl
theorem qaL:ConOK Tryz.prog 98 slicesContains_Move_con :=
  qa (env:=qdw) ((EnvOK.cons (EnvOK.nil _) qlx)) mixed Tryz.func98 slicesContains_Move_con qc1 (by kernel_rfl) (fun h=>by first | rfl | cases h) (fun g hg=>by cases hg) qhX
def qfv:Ann := .nil
noncomputable def slicesClone_int_con:Con:=⟨[Zt61],true,[],Zt60,fun x=>qI x.1,none⟩
noncomputable def qfK:Env:=[]
theorem qlq (x:DL slicesClone_int_con.ps):slicesClone_int_con.φ x=denF Tryz.prog qfK qfv Tryz.f68 slicesClone_int_con.ps slicesClone_int_con.one slicesClone_int_con.res slicesClone_int_con.ρ x:=by kernel_rfl
theorem qdz:ConOK Tryz.prog 68 slicesClone_int_con :=
  qa (env:=qfK) ((EnvOK.nil _)) mixed Tryz.func68 slicesClone_int_con qfv (by kernel_rfl) (fun h=>by first | rfl | cases h) (fun g hg=>by cases hg) qlq
def qmy:Ann:=(.two .nil (.two .nil (.two (.join ⟨[1,2],[],[(0,some (.box Zt35)),(2,none)]⟩ (.any 887 0 (.ord 0 0 .nil (.ord 1 0 .nil (.ord 2 115 .nil (.ord 4 0 .nil (.ord 5 0 .nil (.alt (.ord 3 0 .nil (.ord 6 0 .nil (.ord 7 0 .nil (.ord 8 0 .nil (.ord 9 0 .nil (.ord 10 0 .nil .nil)))))) (.ord 6 0 .nil (.ord 3 0 .nil (.ord 7 0 .nil (.ord 8 0 .nil (.ord 9 0 .nil (.ord 10 0 .nil .nil)))))))))))))) .nil)))
noncomputable def placeCopy_con:Con:=⟨[Zt34],true,[],Zt31,fun x=>qfn x.1,none⟩
noncomputable def qnm:Env:=(68,.con slicesClone_int_con)::(159,.ck 197)::[]
theorem qsj (x:DL placeCopy_con.ps):placeCopy_con.φ x=denF Tryz.prog qnm qmy Tryz.f126 placeCopy_con.ps placeCopy_con.one placeCopy_con.res placeCopy_con.ρ x:=by kernel_rfl
theorem qos:ConOK Tryz.prog 126 placeCopy_con :=
  qa (env:=qnm) ((EnvOK.cons (EnvOK.check (EnvOK.nil _) qc) qdz)) mixed Tryz.func126 placeCopy_con qmy (by kernel_rfl) (fun h=>by first | rfl | cases h) (fun g hg=>by cases hg) qsj
def qmH:Ann:=(.two .nil (.two .nil (.two .nil (.two (.two .nil (.join ⟨[3,4,5,6,7,8],[],[(4,some (.arr 3 Zt63)),(5,some (.arr 3 Zt63)),(6,some (.arr 3 Zt63))]⟩ (.two .nil (.join ⟨[3,4,5,6,7,8],[],[(5,some (.arr 3 Zt63)),(6,some (.arr 3 Zt63))]⟩ (.tail 11 .nil))))) (.two .nil (.two (.two .nil (.join ⟨[4,5,6,7,8],[],[(5,some (.arr 3 Zt63)),(6,some (.arr 3 Zt63))]⟩ (.two (.two .nil (.join ⟨[4,5,6,7,8],[],[(5,some (.arr 3 Zt63)),(6,some (.arr 3 Zt63))]⟩ (.tail 17 .nil))) .nil))) (.two .nil (.two (.two .nil (.join ⟨[4,6,7],[],[(4,none),(5,none),(6,none),(7,some (.box Zt35))]⟩ .nil)) .nil))))))))
noncomputable def movesMake_con:Con:=⟨[Zt17,Zt34,Zt51],true,[],Zt31,fun x=>qB x.1 x.2.1 x.2.2.1,none⟩
noncomputable def qlW:Env:=(126,.con placeCopy_con)::(159,.ck 197)::[]
theorem qtk (x:DL movesMake_con.ps):movesMake_con.φ x=denF Tryz.prog qlW qmH Tryz.f63 movesMake_con.ps movesMake_con.one movesMake_con.res movesMake_con.ρ x:=by kernel_rfl
theorem qow:ConOK Tryz.prog 63 movesMake_con :=
  qa (env:=qlW) ((EnvOK.cons (EnvOK.check (EnvOK.nil _) qc) qos)) mixed Tryz.func63 movesMake_con qmH (by kernel_rfl) (fun h=>by first | rfl | cases h) (fun g hg=>by cases hg) qtk
def qS:Ann:=(.ord 13 0 .nil (.ord 16 0 .nil (.ord 18 0 .nil (.ord 19 0 .nil .nil))))
def qds:Ann:=(.alt (.ord 6 0 .nil (.ord 15 0 .nil (.ord 12 0 .nil qS))) (.ord 12 0 .nil (.ord 6 0 .nil (.ord 15 0 .nil qS))))
def qi9:Ann:=(.alt (.ord 6 0 .nil (.ord 9 155135 .nil (.ord 15 0 .nil (.ord 12 0 .nil qS)))) (.alt (.ord 9 0 .nil qds) (.ord 12 0 .nil (.alt (.ord 6 0 .nil (.ord 9 0 .nil (.ord 15 0 .nil qS))) (.ord 9 0 .nil (.ord 6 0 .nil (.ord 15 0 .nil qS)))))))
def qft:Ann:=(.ord 11 182271 .nil (.ord 15 0 .nil (.ord 12 0 .nil qS)))
def qiD:Ann:=(.alt (.ord 5 0 .nil qds) (.ord 12 0 .nil (.ord 5 0 .nil (.ord 6 0 .nil (.ord 15 0 .nil qS)))))
def qkr:Ann:=(.two .nil (.two .nil (.two .nil (.two (.two .nil (.join ⟨[2,5],[],[(2,none),(3,some (.box Zt35))]⟩ (.two (.loop ⟨[2,5,19,20],[(21,Zt63)],[(2,none),(3,some (.box Zt35))]⟩ (.two .nil (.two .nil (.two (.two (.two .nil (.join ⟨[2,5,19,20,21],[],[(3,some (.box Zt35)),(4,none),(5,none),(6,none)]⟩ (.any 446367 4128 (.ord 0 0 .nil (.ord 1 0 .nil (.ord 2 155579 .nil (.ord 3 0 .nil (.ord 4 155535 .nil (.ord 7 0 .nil (.ord 8 0 .nil (.ord 10 0 .nil (.ord 14 0 .nil (.ord 17 0 .nil (.alt (.ord 5 0 .nil (.alt (.ord 6 0 .nil (.ord 9 155135 .nil qft)) (.alt (.ord 9 0 .nil (.alt (.ord 6 0 .nil qft) (.ord 11 0 .nil qds))) (.ord 11 0 .nil qi9)))) (.alt (.ord 9 0 .nil (.alt (.ord 5 0 .nil (.alt (.ord 6 0 .nil qft) (.ord 11 0 .nil qds))) (.ord 11 0 .nil qiD))) (.ord 11 0 .nil (.alt (.ord 5 0 .nil qi9) (.alt (.ord 9 0 .nil qiD) (.ord 12 0 .nil (.alt (.ord 5 0 .nil (.alt (.ord 6 0 .nil (.ord 9 0 .nil (.ord 15 0 .nil qS))) (.ord 9 0 .nil (.ord 6 0 .nil (.ord 15 0 .nil qS))))) (.ord 9 0 .nil (.ord 5 0 .nil (.ord 6 0 .nil (.ord 15 0 .nil qS)))))))))))))))))))))))) .nil) .nil)))) .nil))) .nil))))
noncomputable def placeBegin_con:Con:=⟨[Zt17],false,[Zt31,Zt63],(.st Zt31 Zt59),fun x=>qcq x.1,none⟩
noncomputable def qkA:Env:=(68,.con slicesClone_int_con)::(67,.con rulesCheck_con)::(159,.ck 197)::[]
theorem qqY (x:DL placeBegin_con.ps):placeBegin_con.φ x=denF Tryz.prog qkA qkr Tryz.f17 placeBegin_con.ps placeBegin_con.one placeBegin_con.res placeBegin_con.ρ x:=by kernel_rfl
theorem qdn:ConOK Tryz.prog 17 placeBegin_con :=
  qa (env:=qkA) ((EnvOK.cons (EnvOK.cons (EnvOK.check (EnvOK.nil _) qc) qhV) qdz)) mixed Tryz.func17 placeBegin_con qkr (by kernel_rfl) (fun h=>by first | rfl | cases h) (fun g hg=>by cases hg) qqY
def qfr:Ann:=(.two .nil (.two .nil (.two (.two .nil (.joinE ⟨[],[],[]⟩ (.two (.loop ⟨[0,1,12],[(13,Zt63)],[]⟩ .nil) .nil))) .nil)))
noncomputable def slicesEqual_int_con:Con:=⟨[Zt61,Zt61],true,[],.bool,fun x=>qbd x.1 x.2.1,none⟩
noncomputable def qfi:Env:=[]
theorem qli (x:DL slicesEqual_int_con.ps):slicesEqual_int_con.φ x=denF Tryz.prog qfi qfr Tryz.f92 slicesEqual_int_con.ps slicesEqual_int_con.one slicesEqual_int_con.res slicesEqual_int_con.ρ x:=by kernel_rfl
theorem qmW:ConOK Tryz.prog 92 slicesEqual_int_con :=
  qa (env:=qfi) ((EnvOK.nil _)) mixed Tryz.func92 slicesEqual_int_con qfr (by kernel_rfl) (fun h=>by first | rfl | cases h) (fun g hg=>by cases hg) qli
def qmk:Ann := .nil
noncomputable def placeSame_con:Con:=⟨[Zt34,Zt34],true,[],.bool,fun x=>qiE x.1 x.2.1,none⟩
noncomputable def qmu:Env:=(92,.con slicesEqual_int_con)::[]
theorem qsz (x:DL placeSame_con.ps):placeSame_con.φ x=denF Tryz.prog qmu qmk Tryz.f31 placeSame_con.ps placeSame_con.one placeSame_con.res placeSame_con.ρ x:=by kernel_rfl
theorem qtR:ConOK Tryz.prog 31 placeSame_con :=
  qa (env:=qmu) ((EnvOK.cons (EnvOK.nil _) qmW)) mixed Tryz.func31 placeSame_con qmk (by kernel_rfl) (fun h=>by first | rfl | cases h) (fun g hg=>by cases hg) qsz
def qc7:Ann := .nil
noncomputable def slicesClone_RuleWay_con:Con:=⟨[Zt42],true,[],(.osl 215 Zt44),fun x=>qbl x.1,none⟩
noncomputable def qdc:Env:=[]
theorem qhP (x:DL slicesClone_RuleWay_con.ps):slicesClone_RuleWay_con.φ x=denF Tryz.prog qdc qc7 Tryz.f106 slicesClone_RuleWay_con.ps slicesClone_RuleWay_con.one slicesClone_RuleWay_con.res slicesClone_RuleWay_con.ρ x:=by kernel_rfl
theorem qiu:ConOK Tryz.prog 106 slicesClone_RuleWay_con :=
  qa (env:=qdc) ((EnvOK.nil _)) mixed Tryz.func106 slicesClone_RuleWay_con qc7 (by kernel_rfl) (fun h=>by first | rfl | cases h) (fun g hg=>by cases hg) qhP
def qdd:Ann := .nil
noncomputable def slicesClone_RuleEnd_con:Con:=⟨[Zt45],true,[],Zt43,fun x=>qaJ x.1,none⟩
noncomputable def qde:Env:=[]
theorem qhz (x:DL slicesClone_RuleEnd_con.ps):slicesClone_RuleEnd_con.φ x=denF Tryz.prog qde qdd Tryz.f107 slicesClone_RuleEnd_con.ps slicesClone_RuleEnd_con.one slicesClone_RuleEnd_con.res slicesClone_RuleEnd_con.ρ x:=by kernel_rfl
theorem qiv:ConOK Tryz.prog 107 slicesClone_RuleEnd_con :=
  qa (env:=qde) ((EnvOK.nil _)) mixed Tryz.func107 slicesClone_RuleEnd_con qdd (by kernel_rfl) (fun h=>by first | rfl | cases h) (fun g hg=>by cases hg) qhz
def qlN:Ann:=(.two .nil (.two .nil (.two .nil (.two (.two .nil (.join ⟨[1,2,3],[],[(2,some (.box Zt16))]⟩ (.two (.loop ⟨[1,2,3,9,10],[(11,Zt63)],[(2,some (.box Zt16))]⟩ .nil) .nil))) (.two (.join ⟨[2,3],[],[(2,some (.box Zt15)),(3,none)]⟩ (.any 347 0 (.ord 0 0 .nil (.ord 1 25 .nil (.ord 3 0 .nil (.alt (.ord 2 0 .nil (.ord 4 79 .nil (.ord 6 0 .nil (.ord 5 0 .nil (.ord 7 0 .nil (.ord 8 0 .nil (.ord 9 0 .nil .nil))))))) (.ord 4 0 .nil (.ord 2 0 .nil (.ord 6 0 .nil (.ord 5 0 .nil (.ord 7 0 .nil (.ord 8 0 .nil (.ord 9 0 .nil .nil))))))))))))) .nil)))))
noncomputable def rulesCopy_con:Con:=⟨[Zt17],true,[],Zt17,fun x=>qD x.1,none⟩
noncomputable def qnb:Env:=(107,.con slicesClone_RuleEnd_con)::(68,.con slicesClone_int_con)::(106,.con slicesClone_RuleWay_con)::(159,.ck 197)::[]
theorem qsm (x:DL rulesCopy_con.ps):rulesCopy_con.φ x=denF Tryz.prog qnb qlN Tryz.f45 rulesCopy_con.ps rulesCopy_con.one rulesCopy_con.res rulesCopy_con.ρ x:=by kernel_rfl
theorem qgB:ConOK Tryz.prog 45 rulesCopy_con :=
  qa (env:=qnb) ((EnvOK.cons (EnvOK.cons (EnvOK.cons (EnvOK.check (EnvOK.nil _) qc) qiu) qdz) qiv)) mixed Tryz.func45 rulesCopy_con qlN (by kernel_rfl) (fun h=>by first | rfl | cases h) (fun g hg=>by cases hg) qsm
def qfO:Ann:=(.two .nil (.two .nil (.two (.two .nil (.join ⟨[],[(3,Zt63)],[]⟩ (.two (.loop ⟨[0,9,10],[(3,Zt63),(11,Zt63)],[]⟩ (.two .nil (.two .nil (.two (.two (.two .nil (.two (.join ⟨[0,3,9,10,11],[(18,.bool)],[]⟩ (.any 3 0 (.ord 1 0 .nil (.alt (.ord 0 0 .nil (.ord 2 0 (.two .nil (.two (.tail 12 .nil) .nil)) (.ord 3 0 .nil .nil))) (.ord 2 0 (.two .nil (.two (.tail 12 .nil) .nil)) (.ord 0 0 .nil (.ord 3 0 .nil .nil))))))) (.join ⟨[0,9,10,11],[(3,Zt63)],[]⟩ .nil))) .nil) .nil)))) .nil))) .nil)))
noncomputable def plainGameCount_con:Con:=⟨[Zt9],true,[],Zt63,fun x=>qcw x.1,none⟩
noncomputable def qgr:Env:=(31,.con placeSame_con)::(138,.body Tryz.f138)::(159,.ck 197)::[]
theorem qmq (x:DL plainGameCount_con.ps):plainGameCount_con.φ x=denB Tryz.prog qgr qfO Tryz.f140 true plainGameCount_con.ps plainGameCount_con.one plainGameCount_con.res plainGameCount_con.ρ x:=by kernel_rfl
theorem qgO:qr4 Tryz.prog 140 plainGameCount_con :=
  qms (env:=qgr) ((EnvOK.cons (EnvOK.body (EnvOK.check (EnvOK.nil _) qc) Tryz.func138) qtR)) mixed Tryz.func140 plainGameCount_con qfO (by kernel_rfl) (fun h=>by first | rfl | cases h) (fun g hg=>by cases hg) qmq
def qfG:Ann:=(.two .nil (.two (.join ⟨[0],[(3,Zt63)],[]⟩ (.any 159 0 (.ord 0 0 .nil (.ord 1 0 .nil (.ord 2 0 .nil (.ord 4 0 .nil (.alt (.ord 3 0 .nil (.ord 5 0 (.two .nil (.two (.tail 12 .nil) .nil)) (.ord 6 0 .nil (.ord 7 0 .nil .nil)))) (.ord 5 0 (.two .nil (.two (.tail 12 .nil) .nil)) (.ord 3 0 .nil (.ord 6 0 .nil (.ord 7 0 .nil .nil))))))))))) .nil))
noncomputable def plainGameResult_con:Con:=⟨[Zt9],true,[],Zt63,fun x=>qac x.1,none⟩
noncomputable def qfB:Env:=(140,.rd plainGameCount_con)::(139,.con endsResult_con)::(159,.ck 197)::(138,.body Tryz.f138)::[]
theorem qk8 (x:DL plainGameResult_con.ps):plainGameResult_con.φ x=denB Tryz.prog qfB qfG Tryz.f73 true plainGameResult_con.ps plainGameResult_con.one plainGameResult_con.res plainGameResult_con.ρ x:=by kernel_rfl
theorem qbN:qr4 Tryz.prog 73 plainGameResult_con :=
  qms (env:=qfB) ((EnvOK.readonly (EnvOK.cons (EnvOK.check (EnvOK.body (EnvOK.nil _) Tryz.func138) qc) qmF) qgO)) mixed Tryz.func73 plainGameResult_con qfG (by kernel_rfl) (fun h=>by first | rfl | cases h) (fun g hg=>by cases hg) qk8
def qao:Ann:=(.ord 13 0 .nil (.ord 14 0 .nil (.ord 15 0 .nil (.ord 16 0 .nil (.ord 17 0 .nil .nil)))))
def qaT:Ann:=(.alt (.ord 4 0 .nil (.ord 12 0 .nil qao)) (.ord 12 0 .nil (.ord 4 16367 .nil qao)))
def qbM:Ann:=(.ord 10 0 (.two .nil (.two (.tail 12 .nil) .nil)) (.ord 12 0 .nil qao))
def qP:Ann:=(.ord 8 0 .nil (.ord 9 0 .nil (.ord 10 0 .nil .nil)))
def qgi:Ann:=(.alt (.ord 10 0 (.two .nil (.two (.tail 12 .nil) .nil)) (.ord 11 0 .nil (.ord 12 0 .nil qao))) (.ord 11 0 .nil qbM))
def qgE:Ann:=(.alt (.ord 8 0 .nil qbM) (.ord 10 0 (.two .nil (.two (.tail 12 .nil) .nil)) (.ord 8 0 .nil (.ord 12 0 .nil qao))))
def qgZ:Ann:=(.two .nil (.two (.two (.two .nil (.two .nil (.two (.join ⟨[0,3],[(9,.bool)],[]⟩ (.any 1695 0 (.ord 0 0 .nil (.ord 1 0 .nil (.ord 2 0 .nil (.ord 4 0 .nil (.alt (.ord 3 0 .nil (.alt (.ord 5 0 (.two .nil (.two (.tail 12 .nil) .nil)) (.alt (.ord 6 0 .nil (.ord 7 0 .nil qP)) (.ord 7 0 .nil (.ord 6 0 .nil qP)))) (.ord 7 0 .nil (.ord 5 0 (.two .nil (.two (.tail 12 .nil) .nil)) (.ord 6 0 .nil qP))))) (.alt (.ord 5 0 (.two .nil (.two (.tail 12 .nil) .nil)) (.ord 3 183 .nil (.alt (.ord 6 0 .nil (.ord 7 0 .nil qP)) (.ord 7 0 .nil (.ord 6 0 .nil qP))))) (.ord 7 0 .nil (.alt (.ord 3 0 .nil (.ord 5 0 (.two .nil (.two (.tail 12 .nil) .nil)) (.ord 6 0 .nil qP))) (.ord 5 0 (.two .nil (.two (.tail 12 .nil) .nil)) (.ord 3 0 .nil (.ord 6 0 .nil qP))))))))))))) .nil))) .nil) (.two (.join ⟨[0,3],[],[(0,some (.box Zt10)),(1,none),(2,none)]⟩ (.any 101375 8192 (.ord 0 0 .nil (.ord 1 0 .nil (.ord 2 0 .nil (.ord 3 0 .nil (.ord 5 0 .nil (.ord 6 0 .nil (.ord 7 0 .nil (.ord 9 0 .nil (.alt (.ord 4 0 .nil (.alt (.ord 8 0 .nil qgi) (.alt (.ord 10 0 (.two .nil (.two (.tail 12 .nil) .nil)) (.ord 8 3839 .nil (.ord 11 0 .nil (.ord 12 0 .nil qao)))) (.ord 11 0 .nil qgE)))) (.alt (.ord 8 0 .nil (.alt (.ord 4 0 .nil qgi) (.alt (.ord 10 0 (.two .nil (.two (.tail 12 .nil) .nil)) (.ord 11 2047 .nil qaT)) (.ord 11 0 .nil (.alt (.ord 4 0 .nil qbM) (.ord 10 0 (.two .nil (.two (.tail 12 .nil) .nil)) qaT)))))) (.alt (.ord 10 0 (.two .nil (.two (.tail 12 .nil) .nil)) (.ord 8 3839 .nil (.ord 11 2047 .nil qaT))) (.ord 11 0 .nil (.alt (.ord 4 0 .nil qgE) (.alt (.ord 8 0 .nil (.alt (.ord 4 0 .nil qbM) (.ord 10 0 (.two .nil (.two (.tail 12 .nil) .nil)) qaT))) (.ord 10 0 (.two .nil (.two (.tail 12 .nil) .nil)) (.ord 8 3839 .nil qaT)))))))))))))))))) (.two (.any 831 64 (.ord 0 0 .nil (.ord 1 0 .nil (.ord 2 0 .nil (.ord 3 0 .nil (.ord 4 111 .nil (.ord 5 0 .nil (.ord 6 0 .nil (.ord 7 0 .nil qP))))))))) .nil))))
noncomputable def plainGamePlay_con:Ioc:=⟨Zt7,[Zt51],true,[],Zt63,fun x=>qcn x.1 x.2.1⟩
noncomputable def qg2:Env:=(63,.con movesMake_con)::(98,.con slicesContains_Move_con)::(137,.con movesList_con)::(159,.ck 197)::(138,.body Tryz.f138)::(73,.rd plainGameResult_con)::[]
theorem qnM (x:DL (Zt7::[Zt51])):plainGamePlay_con.φ x=denIO Tryz.prog qg2 qgZ Tryz.f71 Zt7 [Zt51] true [] Zt63 x:=by kernel_rfl
theorem qh7:IocOK Tryz.prog 71 plainGamePlay_con :=
  qaB (env:=qg2) ((EnvOK.cons (EnvOK.cons (EnvOK.cons (EnvOK.check (EnvOK.body (EnvOK.readonly (EnvOK.nil _) qbN) Tryz.func138) qc) qen) qaL) qow)) mixed Tryz.func71 plainGamePlay_con qgZ (by kernel_rfl) (fun h=>by first | rfl | cases h) qnM
def qeg:Ann:=(.two .nil (.two (.two (.two .nil (.two (.tail 12 .nil) .nil)) .nil) .nil))
noncomputable def plainGamePosition_con:Con:=⟨[Zt9],true,[],Zt31,fun x=>qj x.1,none⟩
noncomputable def qei:Env:=(138,.body Tryz.f138)::(126,.con placeCopy_con)::(159,.ck 197)::[]
theorem qi0 (x:DL plainGamePosition_con.ps):plainGamePosition_con.φ x=denB Tryz.prog qei qeg Tryz.f72 true plainGamePosition_con.ps plainGamePosition_con.one plainGamePosition_con.res plainGamePosition_con.ρ x:=by kernel_rfl
theorem qN:qr4 Tryz.prog 72 plainGamePosition_con :=
  qms (env:=qei) ((EnvOK.body (EnvOK.cons (EnvOK.check (EnvOK.nil _) qc) qos) Tryz.func138)) mixed Tryz.func72 plainGamePosition_con qeg (by kernel_rfl) (fun h=>by first | rfl | cases h) (fun g hg=>by cases hg) qi0
def qop:Ann:=(.two .nil (.two (.two (.two .nil (.two .nil (.two .nil (.two (.frz [3,4,5] (.join ⟨[],[(2,Zt6),(3,Zt63)],[]⟩ (.any 213 40 (.ord 0 12 .nil (.alt (.ord 1 0 .nil (.ord 2 0 .nil (.ord 3 0 .nil (.ord 4 0 .nil (.ord 5 0 .nil (.ord 6 0 .nil (.ord 7 0 .nil .nil))))))) (.ord 2 0 .nil (.alt (.ord 1 0 .nil (.ord 3 0 .nil (.ord 4 0 .nil (.ord 5 0 .nil (.ord 6 0 .nil (.ord 7 0 .nil .nil)))))) (.ord 3 0 .nil (.ord 1 0 .nil (.ord 4 0 .nil (.ord 5 0 .nil (.ord 6 0 .nil (.ord 7 0 .nil .nil))))))))))))) .nil)))) .nil) (.sel 7 1000013 (.two .nil (.two (.two .nil (.joinE ⟨[4,7],[],[(1,some (.box Zt35)),(7,some (.box Zt10)),(8,none),(9,none)]⟩ (.two (.loop ⟨[4,7,21,22],[(23,Zt63)],[(1,some (.box Zt35)),(7,some (.box Zt10)),(8,none),(9,none)]⟩ .nil) .nil))) .nil)) (.two .nil (.two (.two .nil (.joinE ⟨[4,7],[],[]⟩ (.two (.loop ⟨[4,7,21,22],[(23,Zt63)],[]⟩ .nil) .nil))) .nil)))))
noncomputable def plainRun_con:Con:=⟨[Zt17,Zt50],false,[Zt31,Zt63,Zt63],(.st Zt31 Zt54),fun x=>qad x.1 x.2.1,none⟩
noncomputable def qoy:Env:=(73,.rd plainGameResult_con)::(72,.rd plainGamePosition_con)::(71,.io plainGamePlay_con)::(45,.con rulesCopy_con)::(17,.con placeBegin_con)::(43,.body Tryz.f43)::(159,.ck 197)::[]
theorem quD (x:DL plainRun_con.ps):plainRun_con.φ x=denF Tryz.prog qoy qop Tryz.f20 plainRun_con.ps plainRun_con.one plainRun_con.res plainRun_con.ρ x:=by kernel_rfl
theorem qpK:ConOK Tryz.prog 20 plainRun_con :=
  qa (env:=qoy) ((EnvOK.readonly (EnvOK.readonly (EnvOK.inout (EnvOK.cons (EnvOK.cons (EnvOK.body (EnvOK.check (EnvOK.nil _) qc) Tryz.func43) qdn) qgB) qh7) qN) qbN)) mixed Tryz.func20 plainRun_con qop (by kernel_rfl) (fun h=>by first | rfl | cases h) (fun g hg=>by cases hg) quD
end Go.Proofs.YtijkabgijfdpfaaGreatDoor
