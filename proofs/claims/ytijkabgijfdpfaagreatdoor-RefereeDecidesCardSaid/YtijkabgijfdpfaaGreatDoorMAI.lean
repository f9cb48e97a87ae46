/- Several texts in one: Base, MSortC, Jtx, StrC. -/
import Derived.Test.YtijkabgijfdpfaaGreatDoorProg
import Derived.Test.YtijkabgijfdpfaaGreatDoorMAD
import Derived.Test.YtijkabgijfdpfaaGreatDoorMAA
import Derived.Test.YtijkabgijfdpfaaGreatDoorMAF
import Derived.Shelf.GgClosure.StringsIndexFuncTop
import Derived.TacticsInMore
import Derived.WalkKit
import Derived.WalkSmall
import Derived.Shelf.Strconv.Itoa3
import Derived.Shelf.Strings.OnBuilder
import Derived.Shelf.Small.Strs
import Derived.Shelf.Strings.Split
import Derived.Shelf.Strconv.AtoiAll
import Derived.Shelf.Strconv.Clone
import Derived.Shelf.Strings.Builder1
namespace Go.Proofs.YtijkabgijfdpfaaGreatDoor
theorem mixed:Tryz.prog.follows .mixedOrders=true:=by kernel_rfl
end Go.Proofs.YtijkabgijfdpfaaGreatDoor
namespace Go.Proofs.YtijkabgijfdpfaaGreatDoor
open Go.Den
set_option linter.unusedVariables false
set_option maxRecDepth 100000
def qih:Ann := .nil
noncomputable def cmpIsNaN_int_con:Con:=⟨[Zt68],true,[],.bool,fun x=>qgM x.1,some fun x=>qaL x.1⟩
noncomputable def qij:Env:=[]
theorem qny (x:DL cmpIsNaN_int_con.ps):cmpIsNaN_int_con.φ x=denF (CT:=ctxUp) Tryz.prog qij qih Tryz.f184 cmpIsNaN_int_con.ps cmpIsNaN_int_con.one cmpIsNaN_int_con.res cmpIsNaN_int_con.ρ x:=by kernel_rfl
theorem qoY:ConOK (CT:=ctxUp) Tryz.prog 184 cmpIsNaN_int_con :=
  qc (CT:=ctxUp) (env:=qij) ((EnvOK.nil (CT:=ctxUp) _)) mixed Tryz.func184 cmpIsNaN_int_con qih (by kernel_rfl) (fun h=>by first | rfl | cases h) (fun g hg x=>by
    cases hg
    exact qqL _) qny
def qgb:Ann := .nil
noncomputable def cmpCompare_int_con:Con:=⟨[Zt68,Zt68],true,[],Zt68,fun x=>qeP x.1 x.2.1,some fun x=>qaN x.1 x.2.1⟩
noncomputable def qgw:Env:=(184,.con cmpIsNaN_int_con)::[]
theorem qlv (x:DL cmpCompare_int_con.ps):cmpCompare_int_con.φ x=denF (CT:=ctxUp) Tryz.prog qgw qgb Tryz.f129 cmpCompare_int_con.ps cmpCompare_int_con.one cmpCompare_int_con.res cmpCompare_int_con.ρ x:=by kernel_rfl
theorem qmV:ConOK (CT:=ctxUp) Tryz.prog 129 cmpCompare_int_con :=
  qc (CT:=ctxUp) (env:=qgw) ((EnvOK.cons (CT:=ctxUp) (EnvOK.nil (CT:=ctxUp) _) qoY)) mixed Tryz.func129 cmpCompare_int_con qgb (by kernel_rfl) (fun h=>by first | rfl | cases h) (fun g hg x=>by
    cases hg
    exact qns _ _) qlv
def qlP:Ann:=(.two .nil (.two .nil (.two (.two .nil (.joinE ⟨[3],[],[]⟩ (.two (.loop ⟨[3,6,7],[(8,Zt68)],[]⟩ .nil) .nil))) .nil)))
noncomputable def cmpOr_int_con:Con:=⟨[Zt67],true,[],Zt68,fun x=>qmK x.1,none⟩
noncomputable def qlH:Env:=[]
theorem qq9 (x:DL cmpOr_int_con.ps):cmpOr_int_con.φ x=denF (CT:=ctxUp) Tryz.prog qlH qlP Tryz.f127 cmpOr_int_con.ps cmpOr_int_con.one cmpOr_int_con.res cmpOr_int_con.ρ x:=by kernel_rfl
theorem qsA:ConOK (CT:=ctxUp) Tryz.prog 127 cmpOr_int_con :=
  qc (CT:=ctxUp) (env:=qlH) ((EnvOK.nil (CT:=ctxUp) _)) mixed Tryz.func127 cmpOr_int_con qlP (by kernel_rfl) (fun h=>by first | rfl | cases h) (fun g hg=>by cases hg) qq9
def qog:Ann:=(.two .nil (.two (.tail 15 .nil) .nil))
noncomputable def movesCmp_con:Con:=⟨[Zt58,Zt58],true,[],Zt68,fun x=>qth x.1 x.2.1,none⟩
noncomputable def qod:Env:=(127,.con cmpOr_int_con)::(129,.con cmpCompare_int_con)::[]
theorem qvd (x:DL movesCmp_con.ps):movesCmp_con.φ x=denF (CT:=ctxUp) Tryz.prog qod qog Tryz.f192 movesCmp_con.ps movesCmp_con.one movesCmp_con.res movesCmp_con.ρ x:=by kernel_rfl
theorem qwk:ConOK (CT:=ctxUp) Tryz.prog 192 movesCmp_con :=
  qc (CT:=ctxUp) (env:=qod) ((EnvOK.cons (CT:=ctxUp) (EnvOK.cons (CT:=ctxUp) (EnvOK.nil (CT:=ctxUp) _) qmV) qsA)) mixed Tryz.func192 movesCmp_con qog (by kernel_rfl) (fun h=>by first | rfl | cases h) (fun g hg=>by cases hg) qvd
def qtW:Go.Shelf.Ren:=⟨fun | 6=>191 | 15=>230 | 14=>229 | 28=>271 | 29=>248 | 20=>263 | 21=>264 | 22=>265 | 23=>266 | 24=>267 | 25=>268 | 26=>269 | 27=>270 | 46=>298 | 47=>299 | 48=>300 | 49=>301 | 50=>302 | 57=>307 | n=>n,fun | 22=>44 | 24=>41 | 25=>277 | 3=>3 | 39=>229 | 0=>0 | 53=>330 | 55=>78 | 4=>4 | 46=>341 | 45=>340 | 50=>153 | 5=>5 | 9=>9 | 66=>362 | 70=>366 | 76=>381 | 77=>382 | n=>n,fun | n=>n⟩
theorem msort_lay:SlLaysF0.n6 Tryz.prog qtW where
  mixed:=by kernel_rfl
  f6:=⟨Tryz.f191.name,by decide,Tryz.func191.trans (congrArg some (by kernel_rfl))⟩
  f14:=⟨Tryz.f229.name,by decide,Tryz.func229.trans (congrArg some (by kernel_rfl))⟩
  f15:=Tryz.func230.trans (congrArg some (by kernel_rfl))
  f20:=⟨Tryz.f263.name,by decide,Tryz.func263.trans (congrArg some (by kernel_rfl))⟩
  f21:=⟨Tryz.f264.name,by decide,Tryz.func264.trans (congrArg some (by kernel_rfl))⟩
  f22:=⟨Tryz.f265.name,by decide,Tryz.func265.trans (congrArg some (by kernel_rfl))⟩
  f23:=⟨Tryz.f266.name,by decide,Tryz.func266.trans (congrArg some (by kernel_rfl))⟩
  f24:=⟨Tryz.f267.name,by decide,Tryz.func267.trans (congrArg some (by kernel_rfl))⟩
  f25:=⟨Tryz.f268.name,by decide,Tryz.func268.trans (congrArg some (by kernel_rfl))⟩
  f26:=⟨Tryz.f269.name,by decide,Tryz.func269.trans (congrArg some (by kernel_rfl))⟩
  f27:=⟨Tryz.f270.name,by decide,Tryz.func270.trans (congrArg some (by kernel_rfl))⟩
  f28:=Tryz.func271.trans (congrArg some (by kernel_rfl))
  f29:=Tryz.func248.trans (congrArg some (by kernel_rfl))
  f46:=⟨Tryz.f298.name,by decide,Tryz.func298.trans (congrArg some (by kernel_rfl))⟩
  f47:=Tryz.func299.trans (congrArg some (by kernel_rfl))
  f48:=Tryz.func300.trans (congrArg some (by kernel_rfl))
  f49:=⟨Tryz.f301.name,by decide,Tryz.func301.trans (congrArg some (by kernel_rfl))⟩
  f50:=⟨Tryz.f302.name,by decide,Tryz.func302.trans (congrArg some (by kernel_rfl))⟩
  f57:=⟨Tryz.f307.name,by decide,Tryz.func307.trans (congrArg some (by kernel_rfl))⟩
  t0:=Tryz.underlying0
  a0:=Tryz.isAgg0
  z0:=Tryz.sizeOf0
  v0:=Tryz.zeroValue0
  t3:=Tryz.underlying3
  a3:=Tryz.isAgg3
  z3:=Tryz.sizeOf3
  v3:=Tryz.zeroValue3
  t4:=Tryz.underlying4
  a4:=Tryz.isAgg4
  z4:=Tryz.sizeOf4
  v4:=Tryz.zeroValue4
  t5:=Tryz.underlying5
  a5:=Tryz.isAgg5
  z5:=Tryz.sizeOf5
  v5:=Tryz.zeroValue5
  t9:=Tryz.underlying9
  a9:=Tryz.isAgg9
  z9:=Tryz.sizeOf9
  v9:=Tryz.zeroValue9
  t22:=Tryz.underlying44
  a22:=Tryz.isAgg44
  z22:=Tryz.sizeOf44
  v22:=Tryz.zeroValue44
  t25:=Tryz.underlying277
  a25:=Tryz.isAgg277
  z25:=Tryz.sizeOf277
  v25:=Tryz.zeroValue277
  t39:=Tryz.underlying229
  a39:=Tryz.isAgg229
  z39:=Tryz.sizeOf229
  v39:=Tryz.zeroValue229
  t45:=Tryz.underlying340
  a45:=Tryz.isAgg340
  z45:=Tryz.sizeOf340
  v45:=Tryz.zeroValue340
  t46:=Tryz.underlying341
  a46:=Tryz.isAgg341
  z46:=Tryz.sizeOf341
  v46:=Tryz.zeroValue341
  t50:=Tryz.underlying153
  a50:=Tryz.isAgg153
  z50:=Tryz.sizeOf153
  v50:=Tryz.zeroValue153
  t53:=Tryz.underlying330
  a53:=Tryz.isAgg330
  z53:=Tryz.sizeOf330
  v53:=Tryz.zeroValue330
  t55:=Tryz.underlying78
  a55:=Tryz.isAgg78
  z55:=Tryz.sizeOf78
  v55:=Tryz.zeroValue78
  t66:=Tryz.underlying362
  a66:=Tryz.isAgg362
  z66:=Tryz.sizeOf362
  v66:=Tryz.zeroValue362
  t70:=Tryz.underlying366
  a70:=Tryz.isAgg366
  z70:=Tryz.sizeOf366
  v70:=Tryz.zeroValue366
  t76:=Tryz.underlying381
  a76:=Tryz.isAgg381
  z76:=Tryz.sizeOf381
  v76:=Tryz.zeroValue381
  t77:=Tryz.underlying382
  a77:=Tryz.isAgg382
  z77:=Tryz.sizeOf382
  v77:=Tryz.zeroValue382
open Go.Sort Go.Lib in
section
def cmp3 (a b:Int):Int:=if a<b then -1 else if b<a then 1 else 0
theorem qvs (a b:Int):qaN a b=cmp3 a b:=by
  unfold qaN qaL cmp3
  by_cases h:a<b
  · simp[h]
  · by_cases h2:b<a<;>simp[h,h2]
theorem qyd (a b c:Int):qmK [a,b,c]=some (if a=0 then if b=0 then c else b else a):=by
  unfold qmK
  by_cases ha:a=0
  · subst ha
    rw[qn (y:=((1,()),())) (by simp[qbp,at?,qg])]
    by_cases hb:b=0
    · subst hb
      rw[qn (y:=((2,()),())) (by simp[qbp,at?,qg])]
      by_cases hc:c=0
      · subst hc
        rw[qn (y:=((3,()),())) (by simp[qbp,at?,qg])]
        rw[qk (r := .inl ((),())) (by simp[qbp])]
        rfl
      · rw[qk (r := .inr c) (by simp[qbp,at?,bne_t hc])]
        simp
    · rw[qk (r := .inr b) (by simp[qbp,at?,bne_t hb])]
      simp[hb]
  · rw[qk (r := .inr a) (by simp[qbp,at?,bne_t ha])]
    simp[ha]
def mvCf (x y:Mv):Int:=if cmp3 x.1 y.1=0 then if cmp3 x.2.1 y.2.1=0 then cmp3 x.2.2.1 y.2.2.1 else cmp3 x.2.1 y.2.1 else cmp3 x.1 y.1
theorem qtk (x y:Mv):qth x y=some (mvCf x y):=by
  unfold qth mvCf
  rw[qvs,qvs,qvs,qyd]
  rfl
theorem quE (a b:Int):cmp3 a b=0↔a=b:=by
  unfold cmp3
  split
  · constructor<;>intro h<;>omega
  · split<;>constructor<;>intro h<;>omega
theorem qwc (a b:Int):cmp3 a b<0↔a<b:=by
  unfold cmp3
  split
  · constructor<;>intro h<;>omega
  · split<;>constructor<;>intro h<;>omega
theorem qtI:ltOf mvCf=mvLt:=by
  funext x y
  unfold ltOf mvCf mvLt
  by_cases h1:x.1=y.1
  · by_cases h2:x.2.1=y.2.1
    · simp[h1,h2,(quE y.1 y.1).2 rfl,(quE y.2.1 y.2.1).2 rfl,qwc]
    · have:¬cmp3 x.2.1 y.2.1=0:=fun h=>h2 ((quE _ _).1 h)
      simp[h1,h2,(quE y.1 y.1).2 rfl,this,qwc]
  · have:¬cmp3 x.1 y.1=0:=fun h=>h1 ((quE _ _).1 h)
    simp[h1,this,qwc]
theorem qxB (x y:Mv):mvLt x y=true↔x.1<y.1∨x.1=y.1∧(x.2.1<y.2.1∨x.2.1=y.2.1∧x.2.2.1<y.2.2.1):=by simp[mvLt]
theorem mvLt_f (x y:Mv):mvLt x y=false↔¬(x.1<y.1∨x.1=y.1∧(x.2.1<y.2.1∨x.2.1=y.2.1∧x.2.2.1<y.2.2.1)):=by rw[←qxB,Bool.not_eq_true]
theorem mv_swo:SWO mvLt where
  irrefl x:=by rw[mvLt_f];omega
  trans x y z h1 h2:=by rw[qxB] at *;omega
  ntrans x y z h1 h2:=by rw[mvLt_f] at *;omega
theorem mv_tot (x y:Mv) (h1:mvLt x y=false) (h2:mvLt y x=false):x=y:=by
  rw[mvLt_f] at h1 h2
  obtain⟨a,b,c,⟨⟩⟩:=x
  obtain⟨a',b',c',⟨⟩⟩:=y
  simp only at h1 h2
  have e1:a=a':=by omega
  subst e1
  have e2:b=b':=by omega
  subst e2
  have e3:c=c':=by omega
  subst e3
  rfl
def qhr:Srt:=⟨41,Zt58,some 192,qcg⟩
theorem qvc:SrtOK Tryz.prog 191 qhr:=by
  have h:=qvE (ρ:=qtW) (g:=192) (f:=191) (τ:=Zt58) (i:=41) msort_lay rfl rfl rfl rfl Tryz.isAgg41 Tryz.sizeOf41 qwk mvCf (fun x y=>qtk x y) (show SWO (ltOf mvCf) from qtI▸mv_swo) (fun x y h1 h2=>mv_tot x y (by rw[←qtI];exact h1) (by rw[←qtI];exact h2)) (enters_of Tryz.func192 (by kernel_rfl) rfl)
  have e:(fun xs:List Mv=>xs.mergeSort fun x y=>!(ltOf mvCf) y x)=qcg:=by rw[qtI];rfl
  have:qhr=⟨41,Zt58,some 192,fun xs:List Mv=>xs.mergeSort fun x y=>!(ltOf mvCf) y x⟩:=by rw[e];rfl
  rw[this]
  exact h
end
end Go.Proofs.YtijkabgijfdpfaaGreatDoor
namespace Go.Proofs.YtijkabgijfdpfaaGreatDoor
open Go Go.Proofs Go.RowKit Go.Shelf
set_option linter.unusedVariables false
set_option linter.unusedSimpArgs false
attribute [local go_sem] Oper.semAt_some
def jix_ren:Go.Shelf.Ren:=⟨fun | 15=>164 | 20=>213 | n=>n,fun | 9=>9 | 23=>253 | 3=>3 | 4=>4 | 0=>0 | 21=>21 | n=>n,fun | n=>n⟩
open Go.Shelf in
theorem jix_lay:Go.Proofs.LaysGw.n15 Tryz.prog jix_ren where
  mixed:=by kernel_rfl
  f15:=Tryz.func164.trans (congrArg some (by kernel_rfl))
  f20:=Tryz.func213.trans (congrArg some (by kernel_rfl))
  t0:=Tryz.underlying0
  a0:=Tryz.isAgg0
  z0:=Tryz.sizeOf0
  v0:=Tryz.zeroValue0
  i0:=by kernel_rfl
  t3:=Tryz.underlying3
  a3:=Tryz.isAgg3
  z3:=Tryz.sizeOf3
  v3:=Tryz.zeroValue3
  i3:=by kernel_rfl
  t4:=Tryz.underlying4
  a4:=Tryz.isAgg4
  z4:=Tryz.sizeOf4
  v4:=Tryz.zeroValue4
  i4:=by kernel_rfl
  t9:=Tryz.underlying9
  a9:=Tryz.isAgg9
  z9:=Tryz.sizeOf9
  v9:=Tryz.zeroValue9
  i9:=by kernel_rfl
  t21:=Tryz.underlying21
  a21:=Tryz.isAgg21
  z21:=Tryz.sizeOf21
  v21:=Tryz.zeroValue21
  i21:=by kernel_rfl
  t23:=Tryz.underlying253
  a23:=Tryz.isAgg253
  z23:=Tryz.sizeOf253
  v23:=Tryz.zeroValue253
  i23:=by kernel_rfl
theorem jclos (w:World):PredAt Tryz.prog 165 #[] encR qjd w:=fun W r _=>by
  unfold FnGives
  by_cases h1:r<32<;>by_cases h2:126<r
  all_goals
    have z1:(r:Int)<32↔r<32:=by omega
    have z2:(126:Int)<(r:Int)↔126<r:=by omega
    go_enter Tryz.func165,Tryz.ntmps165
    go_wp2
    all_goals first | (exfalso;omega) | (go_ret;exact⟨by simp[qjd,h1,h2],0,rfl⟩)
set_option maxHeartbeats 1000000 in
theorem qvG (s:ByteArray) (w:World):Calls Tryz.prog 110 #[.string s] w fun e w'=>e = .returned (.int .i64 (qaA s))∧Below w.heap.size w w':=by
  have hC:=Any.strings_IndexFunc (P:=Tryz.prog) (ρ:=jix_ren) jix_lay 165 #[] (enters_of Tryz.func165 (by kernel_rfl) rfl) qjd s w (jclos w);change Calls Tryz.prog 164 _ _ _ at hC;obtain⟨I,hI⟩:∃I,Lib.idxFunc qjd true s=I:=⟨_,rfl⟩;unfold qaA;rw[hI] at hC ⊢;by_cases h1:200<s.size
  · have z1:(200:Int)<(s.size:Int):=by omega
    rw[if_pos h1]
    go_enter Tryz.func110,Tryz.ntmps110
    go_wp2
    all_goals first | (exfalso;omega) | (go_ret;exact⟨rfl,Below.refl _ _⟩)
  · have z1:¬(200:Int)<(s.size:Int):=by omega
    rw[if_neg h1];by_cases h2:0≤I
    · rw[if_pos h2]
      go_enter Tryz.func110,Tryz.ntmps110
      go_wp2_with (go_at_call 164;refine hC.mono ?_;rintro e w' ⟨rfl,hb⟩)
      all_goals first | (exfalso;omega) | (go_ret;exact⟨rfl,hb⟩)
    · rw[if_neg h2]
      go_enter Tryz.func110,Tryz.ntmps110
      go_wp2_with (go_at_call 164;refine hC.mono ?_;rintro e w' ⟨rfl,hb⟩)
      all_goals first | (exfalso;omega) | (go_ret;exact⟨rfl,hb⟩)
end Go.Proofs.YtijkabgijfdpfaaGreatDoor
namespace Go.Proofs.YtijkabgijfdpfaaGreatDoor
open Go.Den
set_option linter.unusedVariables false
set_option linter.unusedSimpArgs false
set_option maxRecDepth 100000
theorem qpD {w w':World} (hd:Go.Den.Ctx.drawsUp=false) (h:Go.RowKit.Below w.heap.size w w'):Go.Eng.Chg [] w w' :=
  ⟨h.os,h.tape,h.output,h.size,fun k hk _=>h.block k hk,fun e=>by rw[hd] at e;cases e⟩
theorem qsV {α:Type} {c:Bool} {x r:α} (h:(bif c then some x else none)=some r):c=true∧x=r:=by cases c<;>simp_all
theorem quV {w:World} {S:Nat→Prop}:∀ {l:List ByteArray} {us:List Value},RepL (fun (x:D .str) c=>Rep w S .str x [] c) l us→us=l.map Value.string
  | [],us,h=>h
  | n::ns,us,⟨c,r,h1,h2,h3⟩=>by
    subst h1
    rw[h2.2,quV h3]
    rfl
theorem qxx {w:World} {S:Nat→Prop}:∀l:List ByteArray,RepL (fun (x:D .str) c=>Rep w S .str x [] c) l (l.map Value.string)
  | []=>rfl
  | s::l=>⟨[.string s],_,rfl,⟨rfl,rfl⟩,qxx l⟩
theorem open_int {S:Nat→Prop} {w:World} {g:Nat} (hT:TabR S w) (hg:(g,false)∈Ctx.opens):∃m,w.cell? ⟨g,0,none⟩=some (.int .i64 m):=by
  obtain⟨_,v,T,fz,hh,hv⟩:=hT.opn g false hg
  rw[if_neg (by decide)] at hv
  obtain⟨m,rfl⟩:=hv
  exact⟨m,by simp[World.cell?,hh]⟩

theorem chg_grown {w:World} {k:Nat} {os:Array Obj}:Go.Eng.Chg [] w (Go.Sort.grow (w.drewN k) os) :=
  ⟨rfl,rfl,rfl,by simp[Go.Sort.grow],fun j hj _=>by
    show(w.heap++os)[j]?=_
    rw[Array.getElem?_append_left hj],fun _=>Nat.le_add_right _ _⟩
theorem tab_pow10 {S:Nat→Prop} {w:World} (hT:TabR S w):Go.Lib.TabIs Tryz.prog w "internal/strconv.uint64pow10" .u64 Go.Lib.pow10Tab:=by
  obtain⟨_,T,fz,h⟩:=hT.tab 0 (Go.Lib.pow10Tab.map (Value.int .u64)) rfl
  have hg:Tryz.prog.globalNamed "internal/strconv.uint64pow10" = some 0:=by kernel_rfl
  unfold Go.Lib.TabIs World.var?
  rw[hg]
  show(match w.heap[0]? with | some (.cells cs _ _)=>some cs | _=>none)=_
  rw[h]
def qxy:Go.Shelf.Ren:=⟨fun | 171=>49 | 243=>113 | 246=>166 | 283=>214 | 284=>215 | 285=>216 | 286=>217 | 129=>248 | 317=>247 | 318=>249 | 319=>250 | 320=>251 | 337=>286 | 338=>287 | n=>n,fun | 3=>3 | 9=>9 | 2=>2 | 4=>4 | 171=>297 | 0=>0 | 53=>78 | 37=>195 | 5=>5 | 173=>300 | 212=>329 | 51=>330 | 20=>20 | 213=>331 | 46=>229 | 232=>378 | 233=>379 | n=>n,fun | 17=>0 | 18=>6 | 19=>7 | n=>n⟩
open Go.Shelf in
theorem itoa_lay:Go.Proofs.LaysM.n171 Tryz.prog qxy where
  mixed:=by kernel_rfl
  f129:=Tryz.func248.trans (congrArg some (by kernel_rfl))
  f171:=Tryz.func49.trans (congrArg some (by kernel_rfl))
  f243:=Tryz.func113.trans (congrArg some (by kernel_rfl))
  f246:=Tryz.func166.trans (congrArg some (by kernel_rfl))
  f283:=Tryz.func214.trans (congrArg some (by kernel_rfl))
  f284:=Tryz.func215.trans (congrArg some (by kernel_rfl))
  f285:=Tryz.func216.trans (congrArg some (by kernel_rfl))
  f286:=Tryz.func217.trans (congrArg some (by kernel_rfl))
  f317:=Tryz.func247.trans (congrArg some (by kernel_rfl))
  f318:=Tryz.func249.trans (congrArg some (by kernel_rfl))
  f319:=Tryz.func250.trans (congrArg some (by kernel_rfl))
  f320:=Tryz.func251.trans (congrArg some (by kernel_rfl))
  f337:=Tryz.func286.trans (congrArg some (by kernel_rfl))
  f338:=Tryz.func287.trans (congrArg some (by kernel_rfl))
  t0:=Tryz.underlying0
  a0:=Tryz.isAgg0
  z0:=Tryz.sizeOf0
  v0:=Tryz.zeroValue0
  t2:=Tryz.underlying2
  a2:=Tryz.isAgg2
  z2:=Tryz.sizeOf2
  v2:=Tryz.zeroValue2
  t3:=Tryz.underlying3
  a3:=Tryz.isAgg3
  z3:=Tryz.sizeOf3
  v3:=Tryz.zeroValue3
  t4:=Tryz.underlying4
  a4:=Tryz.isAgg4
  z4:=Tryz.sizeOf4
  v4:=Tryz.zeroValue4
  t5:=Tryz.underlying5
  a5:=Tryz.isAgg5
  z5:=Tryz.sizeOf5
  v5:=Tryz.zeroValue5
  t9:=Tryz.underlying9
  a9:=Tryz.isAgg9
  z9:=Tryz.sizeOf9
  v9:=Tryz.zeroValue9
  t20:=Tryz.underlying20
  a20:=Tryz.isAgg20
  z20:=Tryz.sizeOf20
  v20:=Tryz.zeroValue20
  t37:=Tryz.underlying195
  a37:=Tryz.isAgg195
  z37:=Tryz.sizeOf195
  v37:=Tryz.zeroValue195
  t46:=Tryz.underlying229
  a46:=Tryz.isAgg229
  z46:=Tryz.sizeOf229
  v46:=Tryz.zeroValue229
  t51:=Tryz.underlying330
  a51:=Tryz.isAgg330
  z51:=Tryz.sizeOf330
  v51:=Tryz.zeroValue330
  t53:=Tryz.underlying78
  a53:=Tryz.isAgg78
  z53:=Tryz.sizeOf78
  v53:=Tryz.zeroValue78
  t171:=Tryz.underlying297
  a171:=Tryz.isAgg297
  z171:=Tryz.sizeOf297
  v171:=Tryz.zeroValue297
  t173:=Tryz.underlying300
  a173:=Tryz.isAgg300
  z173:=Tryz.sizeOf300
  v173:=Tryz.zeroValue300
  t212:=Tryz.underlying329
  a212:=Tryz.isAgg329
  z212:=Tryz.sizeOf329
  v212:=Tryz.zeroValue329
  t213:=Tryz.underlying331
  a213:=Tryz.isAgg331
  z213:=Tryz.sizeOf331
  t232:=Tryz.underlying378
  a232:=Tryz.isAgg378
  z232:=Tryz.sizeOf378
  v232:=Tryz.zeroValue378
  t233:=Tryz.underlying379
  a233:=Tryz.isAgg379
  z233:=Tryz.sizeOf379
  v233:=Tryz.zeroValue379
  g17:=by kernel_rfl
  g18:=by kernel_rfl
  g19:=by kernel_rfl
  i0:=by kernel_rfl
  i2:=by kernel_rfl
  i3:=by kernel_rfl
  i4:=by kernel_rfl
  i5:=by kernel_rfl
  i9:=by kernel_rfl
  i20:=by kernel_rfl
  i37:=by kernel_rfl
  i46:=by kernel_rfl
  i51:=by kernel_rfl
  i53:=by kernel_rfl
  i171:=by kernel_rfl
  i173:=by kernel_rfl
  i212:=by kernel_rfl
  i232:=by kernel_rfl
  i233:=by kernel_rfl
  m17:=by kernel_rfl
  m18:=by kernel_rfl
  m19:=by kernel_rfl
noncomputable def qg9:Con:=⟨[.int .i64],true,[],.str,fun x=>itoaS x.1,none⟩
theorem qmE:ConOK Tryz.prog 49 qg9:=by
  refine⟨rfl,fun h=>(by cases h),fun g h=>(by cases h),fun w S args x r hS hT ha hr=>?_⟩
  obtain⟨n,⟨⟩⟩:=x
  obtain⟨v,q,e1,⟨cs,⟨_,rfl⟩,rfl⟩,h2⟩:=ha
  obtain rfl:q=[]:=h2
  obtain rfl:args = #[.int .i64 n]:=by rw[←Array.toList_inj,e1];rfl
  have hr:itoaS n=some r:=hr
  obtain⟨hb,rfl⟩:=qsV hr
  · simp only[Bool.and_eq_true,decide_eq_true_eq] at hb
    refine(Any.strconv_Itoa (P:=Tryz.prog) (ρ:=qxy) itoa_lay n hb.1 hb.2 w (tab_pow10 hT)).mono ?_
    rintro e w' ⟨rfl,k,os,rfl⟩
    exact⟨_,rfl,chg_grown,[],[.string ⟨(Go.Lib.itoa n).toArray⟩],List.nodup_nil,(by simp),⟨rfl,rfl⟩,rfl⟩

def qo7:Go.Shelf.Ren:=⟨fun | 156=>90 | 165=>156 | 166=>100 | 169=>104 | 240=>159 | 241=>209 | 276=>211 | 277=>242 | n=>n,fun | 31=>174 | 9=>9 | 3=>3 | 4=>4 | 0=>0 | 20=>20 | 72=>197 | 76=>202 | 70=>194 | 37=>195 | 75=>201 | 127=>249 | 164=>293 | 5=>5 | 80=>210 | n=>n,fun | n=>n⟩
open Go.Shelf in
theorem qxg:Go.Proofs.Lays.n156 Tryz.prog qo7 where
  mixed:=by kernel_rfl
  f156:=Tryz.func90.trans (congrArg some (by kernel_rfl))
  f165:=Tryz.func156.trans (congrArg some (by kernel_rfl))
  f166:=Tryz.func100.trans (congrArg some (by kernel_rfl))
  f169:=Tryz.func104.trans (congrArg some (by kernel_rfl))
  f240:=Tryz.func159.trans (congrArg some (by kernel_rfl))
  f241:=Tryz.func209.trans (congrArg some (by kernel_rfl))
  f276:=Tryz.func211.trans (congrArg some (by kernel_rfl))
  f277:=Tryz.func242.trans (congrArg some (by kernel_rfl))
  t0:=Tryz.underlying0
  a0:=Tryz.isAgg0
  z0:=Tryz.sizeOf0
  v0:=Tryz.zeroValue0
  t3:=Tryz.underlying3
  a3:=Tryz.isAgg3
  z3:=Tryz.sizeOf3
  v3:=Tryz.zeroValue3
  t4:=Tryz.underlying4
  a4:=Tryz.isAgg4
  z4:=Tryz.sizeOf4
  v4:=Tryz.zeroValue4
  t9:=Tryz.underlying9
  a9:=Tryz.isAgg9
  z9:=Tryz.sizeOf9
  v9:=Tryz.zeroValue9
  t20:=Tryz.underlying20
  a20:=Tryz.isAgg20
  z20:=Tryz.sizeOf20
  v20:=Tryz.zeroValue20
  t31:=Tryz.underlying174
  a31:=Tryz.isAgg174
  z31:=Tryz.sizeOf174
  v31:=Tryz.zeroValue174
  t37:=Tryz.underlying195
  a37:=Tryz.isAgg195
  z37:=Tryz.sizeOf195
  v37:=Tryz.zeroValue195
  t70:=Tryz.underlying194
  a70:=Tryz.isAgg194
  z70:=Tryz.sizeOf194
  v70:=Tryz.zeroValue194
  t72:=Tryz.underlying197
  a72:=Tryz.isAgg197
  z72:=Tryz.sizeOf197
  v72:=Tryz.zeroValue197
  t75:=Tryz.underlying201
  a75:=Tryz.isAgg201
  z75:=Tryz.sizeOf201
  v75:=Tryz.zeroValue201
  t76:=Tryz.underlying202
  a76:=Tryz.isAgg202
  z76:=Tryz.sizeOf202
  v76:=Tryz.zeroValue202
  t127:=Tryz.underlying249
  a127:=Tryz.isAgg249
  z127:=Tryz.sizeOf249
  v127:=Tryz.zeroValue249
  t164:=Tryz.underlying293
  a164:=Tryz.isAgg293
  z164:=Tryz.sizeOf293
  v164:=Tryz.zeroValue293
theorem qrL:Go.Proofs.Builder.Extra Tryz.prog qo7 where
  sizeBuilder:=by kernel_rfl
  liesBuilder:=by kernel_rfl
  t5:=Tryz.underlying5
  a5:=Tryz.isAgg5
  z5:=Tryz.sizeOf5
  v5:=Tryz.zeroValue5
  infoByte:=by kernel_rfl
  cellsByte:=by kernel_rfl
  sizeByte:=by kernel_rfl
  neB5:=by decide
noncomputable def qp5:Con:=⟨[.sl .str,.str],true,[],.str,fun x=>joinS x.1 x.2.1,none⟩
theorem joinS_ok:ConOK Tryz.prog 90 qp5:=by
  refine⟨rfl,fun h=>(by cases h),fun g h=>(by cases h),fun w S args x r hS hT ha hr=>?_⟩
  obtain⟨l,sep,⟨⟩⟩:=x
  obtain⟨v,q,e1,⟨cs,⟨_,ao,cap,us,rfl,hcap,hrep,hne⟩,rfl⟩,v2,q2,rfl,⟨cs2,⟨_,rfl⟩,rfl⟩,h2⟩:=ha
  obtain rfl:q2=[]:=h2
  obtain rfl:args = #[.slice ao l.length cap,.string sep]:=by rw[←Array.toList_inj,e1];rfl
  have hr:joinS l sep=some r:=hr
  obtain⟨hb,rfl⟩:=qsV hr
  · simp only[Bool.and_eq_true] at hb
    have h3:=Nat.le_of_ble_eq_true hb.1
    have h4:=Nat.le_of_ble_eq_true hb.2
    have hus:=quV hrep
    subst hus
    have fin:∀w',Go.Eng.Chg [] w w'→∃v,Ending.returned (.string ⟨(Go.Lib.join (l.map (·.data.toList)) sep.data.toList).toArray⟩)=Ending.returned v∧Go.Eng.Chg [] w w'∧ResR w w' S qp5 (⟨(Go.Lib.join (l.map (·.data.toList)) sep.data.toList).toArray⟩:ByteArray) v :=
      fun w' hc=>⟨_,rfl,hc,[],[.string ⟨(Go.Lib.join (l.map (·.data.toList)) sep.data.toList).toArray⟩],List.nodup_nil,(by simp),⟨rfl,rfl⟩,rfl⟩
    by_cases h0:l=[]
    · subst h0
      refine(Any.strings_Join_none (P:=Tryz.prog) (ρ:=qo7) qxg qrL ao cap sep w).mono ?_
      rintro e w' ⟨rfl,rfl⟩
      exact fin _ (Go.Eng.Chg.refl _ _)
    · obtain⟨a,rfl,ha,hcells⟩:=hne h0
      obtain⟨bk,o,spot⟩:=a
      have hsp:spot=none:=by
        cases l with
        | nil=>exact absurd rfl h0
        | cons x l' =>
          have:=hcells 0 (.string x) rfl
          cases spot with
          | none=>rfl
          | some s=>exact absurd this (by simp[Addr.add,World.cell?];split<;>simp)
      subst hsp
      refine(Any.strings_Join (P:=Tryz.prog) (ρ:=qo7) qxg qrL bk o cap l sep w (fun j x hj=>by
        have:=hcells j (.string x) ((List.getElem?_map (f:=Value.string) (l:=(l:List ByteArray)) (i:=j)).trans (congrArg (Option.map Value.string) hj))
        rwa [Go.Eng.adr_add] at this) (hS bk ha) h3 hcap h4).mono ?_
      rintro e w' ⟨rfl,hb⟩
      exact fin _ (qpD rfl hb)

def split_ren:Go.Shelf.Ren:=⟨fun | 146=>88 | 221=>154 | 268=>204 | 138=>205 | 143=>206 | 195=>233 | 197=>234 | 218=>235 | 219=>236 | 260=>273 | 217=>261 | 225=>274 | 224=>275 | 267=>276 | 266=>297 | 314=>303 | n=>n,fun | 9=>9 | 31=>174 | 3=>3 | 4=>4 | 0=>0 | 105=>318 | 21=>21 | 5=>5 | 46=>229 | 119=>368 | 139=>371 | 138=>370 | 146=>372 | 51=>330 | n=>n,fun | 1=>1 | 3=>4 | 4=>5 | n=>n⟩
open Go.Shelf in
theorem split_lay:Go.Proofs.Lays.n146 Tryz.prog split_ren where
  mixed:=by kernel_rfl
  f138:=Tryz.func205.trans (congrArg some (by kernel_rfl))
  f143:=Tryz.func206.trans (congrArg some (by kernel_rfl))
  f146:=Tryz.func88.trans (congrArg some (by kernel_rfl))
  f195:=Tryz.func233.trans (congrArg some (by kernel_rfl))
  f197:=Tryz.func234.trans (congrArg some (by kernel_rfl))
  f217:=Tryz.func261.trans (congrArg some (by kernel_rfl))
  f218:=Tryz.func235.trans (congrArg some (by kernel_rfl))
  f219:=Tryz.func236.trans (congrArg some (by kernel_rfl))
  f221:=Tryz.func154.trans (congrArg some (by kernel_rfl))
  f224:=Tryz.func275.trans (congrArg some (by kernel_rfl))
  f225:=Tryz.func274.trans (congrArg some (by kernel_rfl))
  f260:=Tryz.func273.trans (congrArg some (by kernel_rfl))
  f266:=Tryz.func297.trans (congrArg some (by kernel_rfl))
  f267:=Tryz.func276.trans (congrArg some (by kernel_rfl))
  f268:=Tryz.func204.trans (congrArg some (by kernel_rfl))
  f314:=Tryz.func303.trans (congrArg some (by kernel_rfl))
  t0:=Tryz.underlying0
  a0:=Tryz.isAgg0
  z0:=Tryz.sizeOf0
  v0:=Tryz.zeroValue0
  t3:=Tryz.underlying3
  a3:=Tryz.isAgg3
  z3:=Tryz.sizeOf3
  v3:=Tryz.zeroValue3
  t4:=Tryz.underlying4
  a4:=Tryz.isAgg4
  z4:=Tryz.sizeOf4
  v4:=Tryz.zeroValue4
  t5:=Tryz.underlying5
  a5:=Tryz.isAgg5
  z5:=Tryz.sizeOf5
  v5:=Tryz.zeroValue5
  t9:=Tryz.underlying9
  a9:=Tryz.isAgg9
  z9:=Tryz.sizeOf9
  v9:=Tryz.zeroValue9
  t21:=Tryz.underlying21
  a21:=Tryz.isAgg21
  z21:=Tryz.sizeOf21
  v21:=Tryz.zeroValue21
  t31:=Tryz.underlying174
  a31:=Tryz.isAgg174
  z31:=Tryz.sizeOf174
  v31:=Tryz.zeroValue174
  t46:=Tryz.underlying229
  a46:=Tryz.isAgg229
  z46:=Tryz.sizeOf229
  v46:=Tryz.zeroValue229
  t51:=Tryz.underlying330
  a51:=Tryz.isAgg330
  z51:=Tryz.sizeOf330
  v51:=Tryz.zeroValue330
  t105:=Tryz.underlying318
  a105:=Tryz.isAgg318
  z105:=Tryz.sizeOf318
  v105:=Tryz.zeroValue318
  t119:=Tryz.underlying368
  a119:=Tryz.isAgg368
  z119:=Tryz.sizeOf368
  t138:=Tryz.underlying370
  a138:=Tryz.isAgg370
  z138:=Tryz.sizeOf370
  v138:=Tryz.zeroValue370
  t139:=Tryz.underlying371
  a139:=Tryz.isAgg371
  z139:=Tryz.sizeOf371
  v139:=Tryz.zeroValue371
  t146:=Tryz.underlying372
  a146:=Tryz.isAgg372
  z146:=Tryz.sizeOf372
  v146:=Tryz.zeroValue372
  g1:=by kernel_rfl
  g3:=by kernel_rfl
  g4:=by kernel_rfl
noncomputable def qrD:Con:=⟨[.str,.str],true,[],.sl .str,fun x=>qrY x.1 x.2.1,none⟩
theorem splitS_ok:ConOK Tryz.prog 88 qrD:=by
  refine⟨rfl,fun h=>(by cases h),fun g h=>(by cases h),fun w S args x r hS hT ha hr=>?_⟩
  obtain⟨s,sep,⟨⟩⟩:=x
  obtain⟨v,q,e1,⟨cs,⟨_,rfl⟩,rfl⟩,v2,q2,rfl,⟨cs2,⟨_,rfl⟩,rfl⟩,h2⟩:=ha
  obtain rfl:q2=[]:=h2
  obtain rfl:args = #[.string s,.string sep]:=by rw[←Array.toList_inj,e1];rfl
  have hr:qrY s sep=some r:=hr
  obtain⟨hb,rfl⟩:=qsV hr
  simp only[Bool.and_eq_true] at hb
  have h3:=Nat.le_of_ble_eq_true hb.1
  have h4:=Nat.le_of_ble_eq_true hb.2
  obtain⟨m,hm⟩:=open_int (g:=1) hT (by decide)
  have hlen:=Go.Lib.splitB_all sep h4 0 _ s rfl
  refine(Any.strings_Split (P:=Tryz.prog) (ρ:=split_ren) split_lay (by kernel_rfl) s sep m w (Nat.lt_succ_of_le h3) hm h4).mono ?_
  rintro e w' ⟨rfl,rfl⟩
  generalize Go.Lib.splitB sep 0 (Go.Lib.countB s sep) s=l at hlen ⊢
  rw[←hlen]
  have hnew:=Go.Eng.alloc_blk w (l.map Value.string).toArray (split_ren.t 9)
  have hsz:=Go.Eng.alloc_size w (.cells (l.map Value.string).toArray (split_ren.t 9))
  refine⟨_,rfl,Go.Eng.alloc_chg _ _,[],[.slice (some ⟨w.heap.size,0,none⟩) l.length l.length],List.nodup_nil,(by simp),⟨rfl,_,_,l.map Value.string,rfl,Nat.le_refl _,qxx l,fun _=>⟨_,rfl,⟨by rw[hsz];exact Nat.lt_succ_self _,.inr (Nat.le_refl _),by simp⟩,?_⟩⟩,rfl⟩
  have:=qfM (w:=w.alloc (.cells (l.map Value.string).toArray (split_ren.t 9))) (b:=w.heap.size) hnew 0
  simpa using this

noncomputable def qfG:Con:=⟨[.str],true,[],.int .i64,fun x=>some (qaA x.1),some fun x=>qaA x.1⟩
theorem qkP:ConOK Tryz.prog 110 qfG:=by
  refine⟨rfl,fun h=>(by cases h),fun g h=>(by cases h;intro x;rfl),fun w S args x r hS hT ha hr=>?_⟩
  obtain⟨s,⟨⟩⟩:=x
  obtain⟨v,q,e1,⟨cs,⟨_,rfl⟩,rfl⟩,h2⟩:=ha
  obtain rfl:q=[]:=h2
  obtain rfl:args = #[.string s]:=by rw[←Array.toList_inj,e1];rfl
  have hr:some (qaA s)=some r:=hr
  cases hr
  refine(qvG s w).mono ?_
  rintro e w' ⟨rfl,hb⟩
  exact⟨_,rfl,qpD rfl hb,[],[.int .i64 (qaA s)],List.nodup_nil,(by simp),⟨rfl,rfl⟩,rfl⟩

def ato_ren:Go.Shelf.Ren:=⟨fun | 172=>155 | 244=>207 | 245=>208 | 247=>237 | 279=>238 | 280=>239 | 281=>240 | 282=>241 | 287=>277 | 316=>278 | 171=>49 | 205=>279 | 321=>304 | 322=>305 | 243=>113 | 246=>166 | 283=>214 | 284=>215 | 285=>216 | 286=>217 | 129=>248 | 317=>247 | 318=>249 | 319=>250 | 320=>251 | 337=>286 | 338=>287 | n=>n,fun | 9=>9 | 3=>3 | 75=>201 | 76=>202 | 4=>4 | 5=>5 | 167=>320 | 37=>195 | 0=>0 | 85=>321 | 2=>2 | 168=>323 | 53=>78 | 175=>349 | 46=>229 | 210=>353 | 127=>249 | 145=>377 | 143=>375 | 21=>21 | 171=>297 | 173=>300 | 212=>329 | 51=>330 | 20=>20 | 213=>331 | 232=>378 | 233=>379 | 80=>210 | n=>n,fun | 15=>2 | 16=>3 | 17=>0 | 18=>6 | 19=>7 | n=>n⟩
open Go.Shelf in
theorem ato_lay:Go.Proofs.LaysC.n172 Tryz.prog ato_ren where
  mixed:=by kernel_rfl
  f129:=Tryz.func248.trans (congrArg some (by kernel_rfl))
  f171:=Tryz.func49.trans (congrArg some (by kernel_rfl))
  f172:=Tryz.func155.trans (congrArg some (by kernel_rfl))
  f205:=Tryz.func279.trans (congrArg some (by kernel_rfl))
  f243:=Tryz.func113.trans (congrArg some (by kernel_rfl))
  f244:=Tryz.func207.trans (congrArg some (by kernel_rfl))
  f245:=Tryz.func208.trans (congrArg some (by kernel_rfl))
  f246:=Tryz.func166.trans (congrArg some (by kernel_rfl))
  f247:=Tryz.func237.trans (congrArg some (by kernel_rfl))
  f279:=Tryz.func238.trans (congrArg some (by kernel_rfl))
  f280:=Tryz.func239.trans (congrArg some (by kernel_rfl))
  f281:=Tryz.func240.trans (congrArg some (by kernel_rfl))
  f282:=Tryz.func241.trans (congrArg some (by kernel_rfl))
  f283:=Tryz.func214.trans (congrArg some (by kernel_rfl))
  f284:=Tryz.func215.trans (congrArg some (by kernel_rfl))
  f285:=Tryz.func216.trans (congrArg some (by kernel_rfl))
  f286:=Tryz.func217.trans (congrArg some (by kernel_rfl))
  f287:=Tryz.func277.trans (congrArg some (by kernel_rfl))
  f316:=Tryz.func278.trans (congrArg some (by kernel_rfl))
  f317:=Tryz.func247.trans (congrArg some (by kernel_rfl))
  f318:=Tryz.func249.trans (congrArg some (by kernel_rfl))
  f319:=Tryz.func250.trans (congrArg some (by kernel_rfl))
  f320:=Tryz.func251.trans (congrArg some (by kernel_rfl))
  f321:=Tryz.func304.trans (congrArg some (by kernel_rfl))
  f322:=Tryz.func305.trans (congrArg some (by kernel_rfl))
  f337:=Tryz.func286.trans (congrArg some (by kernel_rfl))
  f338:=Tryz.func287.trans (congrArg some (by kernel_rfl))
  t0:=Tryz.underlying0
  a0:=Tryz.isAgg0
  z0:=Tryz.sizeOf0
  v0:=Tryz.zeroValue0
  t2:=Tryz.underlying2
  a2:=Tryz.isAgg2
  z2:=Tryz.sizeOf2
  v2:=Tryz.zeroValue2
  t3:=Tryz.underlying3
  a3:=Tryz.isAgg3
  z3:=Tryz.sizeOf3
  v3:=Tryz.zeroValue3
  t4:=Tryz.underlying4
  a4:=Tryz.isAgg4
  z4:=Tryz.sizeOf4
  v4:=Tryz.zeroValue4
  t5:=Tryz.underlying5
  a5:=Tryz.isAgg5
  z5:=Tryz.sizeOf5
  v5:=Tryz.zeroValue5
  t9:=Tryz.underlying9
  a9:=Tryz.isAgg9
  z9:=Tryz.sizeOf9
  v9:=Tryz.zeroValue9
  t20:=Tryz.underlying20
  a20:=Tryz.isAgg20
  z20:=Tryz.sizeOf20
  v20:=Tryz.zeroValue20
  t21:=Tryz.underlying21
  a21:=Tryz.isAgg21
  z21:=Tryz.sizeOf21
  v21:=Tryz.zeroValue21
  t37:=Tryz.underlying195
  a37:=Tryz.isAgg195
  z37:=Tryz.sizeOf195
  v37:=Tryz.zeroValue195
  t46:=Tryz.underlying229
  a46:=Tryz.isAgg229
  z46:=Tryz.sizeOf229
  v46:=Tryz.zeroValue229
  t51:=Tryz.underlying330
  a51:=Tryz.isAgg330
  z51:=Tryz.sizeOf330
  v51:=Tryz.zeroValue330
  t53:=Tryz.underlying78
  a53:=Tryz.isAgg78
  z53:=Tryz.sizeOf78
  v53:=Tryz.zeroValue78
  t75:=Tryz.underlying201
  a75:=Tryz.isAgg201
  z75:=Tryz.sizeOf201
  v75:=Tryz.zeroValue201
  t76:=Tryz.underlying202
  a76:=Tryz.isAgg202
  z76:=Tryz.sizeOf202
  v76:=Tryz.zeroValue202
  t85:=Tryz.underlying321
  a85:=Tryz.isAgg321
  z85:=Tryz.sizeOf321
  v85:=Tryz.zeroValue321
  t127:=Tryz.underlying249
  a127:=Tryz.isAgg249
  z127:=Tryz.sizeOf249
  v127:=Tryz.zeroValue249
  t143:=Tryz.underlying375
  a143:=Tryz.isAgg375
  z143:=Tryz.sizeOf375
  v143:=Tryz.zeroValue375
  t145:=Tryz.underlying377
  a145:=Tryz.isAgg377
  z145:=Tryz.sizeOf377
  v145:=Tryz.zeroValue377
  t167:=Tryz.underlying320
  a167:=Tryz.isAgg320
  z167:=Tryz.sizeOf320
  v167:=Tryz.zeroValue320
  t168:=Tryz.underlying323
  a168:=Tryz.isAgg323
  z168:=Tryz.sizeOf323
  v168:=Tryz.zeroValue323
  t171:=Tryz.underlying297
  a171:=Tryz.isAgg297
  z171:=Tryz.sizeOf297
  v171:=Tryz.zeroValue297
  t173:=Tryz.underlying300
  a173:=Tryz.isAgg300
  z173:=Tryz.sizeOf300
  v173:=Tryz.zeroValue300
  t175:=Tryz.underlying349
  a175:=Tryz.isAgg349
  z175:=Tryz.sizeOf349
  v175:=Tryz.zeroValue349
  t210:=Tryz.underlying353
  a210:=Tryz.isAgg353
  z210:=Tryz.sizeOf353
  v210:=Tryz.zeroValue353
  t212:=Tryz.underlying329
  a212:=Tryz.isAgg329
  z212:=Tryz.sizeOf329
  v212:=Tryz.zeroValue329
  t213:=Tryz.underlying331
  a213:=Tryz.isAgg331
  z213:=Tryz.sizeOf331
  t232:=Tryz.underlying378
  a232:=Tryz.isAgg378
  z232:=Tryz.sizeOf378
  v232:=Tryz.zeroValue378
  t233:=Tryz.underlying379
  a233:=Tryz.isAgg379
  z233:=Tryz.sizeOf379
  v233:=Tryz.zeroValue379
  g15:=by kernel_rfl
  g16:=by kernel_rfl
  g17:=by kernel_rfl
  g18:=by kernel_rfl
  g19:=by kernel_rfl
  t80:=Tryz.underlying210
  a80:=Tryz.isAgg210
  z80:=Tryz.sizeOf210
  v80:=Tryz.zeroValue210
  i0:=by kernel_rfl
  i2:=by kernel_rfl
  i3:=by kernel_rfl
  i4:=by kernel_rfl
  i5:=by kernel_rfl
  i9:=by kernel_rfl
  i20:=by kernel_rfl
  i21:=by kernel_rfl
  i37:=by kernel_rfl
  i46:=by kernel_rfl
  i51:=by kernel_rfl
  i53:=by kernel_rfl
  i75:=by kernel_rfl
  i76:=by kernel_rfl
  i80:=by kernel_rfl
  i85:=by kernel_rfl
  i127:=by kernel_rfl
  i143:=by kernel_rfl
  i145:=by kernel_rfl
  i167:=by kernel_rfl
  i168:=by kernel_rfl
  i171:=by kernel_rfl
  i173:=by kernel_rfl
  i175:=by kernel_rfl
  i210:=by kernel_rfl
  i212:=by kernel_rfl
  i232:=by kernel_rfl
  i233:=by kernel_rfl
  m15:=by kernel_rfl
  m16:=by kernel_rfl
  m17:=by kernel_rfl
  m18:=by kernel_rfl
  m19:=by kernel_rfl
  c0:=by kernel_rfl
  c2:=by kernel_rfl
  c3:=by kernel_rfl
  c4:=by kernel_rfl
  c5:=by kernel_rfl
  c9:=by kernel_rfl
  c20:=by kernel_rfl
  c21:=by kernel_rfl
  c37:=by kernel_rfl
  c46:=by kernel_rfl
  c51:=by kernel_rfl
  c53:=by kernel_rfl
  c75:=by kernel_rfl
  c76:=by kernel_rfl
  c80:=by kernel_rfl
  c85:=by kernel_rfl
  c127:=by kernel_rfl
  c143:=by kernel_rfl
  c145:=by kernel_rfl
  c167:=by kernel_rfl
  c168:=by kernel_rfl
  c171:=by kernel_rfl
  c173:=by kernel_rfl
  c175:=by kernel_rfl
  c210:=by kernel_rfl
  c212:=by kernel_rfl
  c213:=by kernel_rfl
  c232:=by kernel_rfl
  c233:=by kernel_rfl
noncomputable def qtR:Con:=⟨[.str],false,[.int .i64,.err],.st Zt68 (.st .err .nil),fun x=>atoiS x.1,none⟩
theorem atoiS_ok:ConOK Tryz.prog 155 qtR:=by
  refine⟨rfl,fun _=>rfl,fun g h=>(by cases h),fun w S args x r hS hT ha hr=>?_⟩
  obtain⟨s,⟨⟩⟩:=x
  obtain⟨v,q,e1,⟨cs,⟨_,rfl⟩,rfl⟩,h2⟩:=ha
  obtain rfl:q=[]:=h2
  obtain rfl:args = #[.string s]:=by rw[←Array.toList_inj,e1];rfl
  have hr:atoiS s=some r:=hr
  obtain⟨hb,hr⟩:Nat.ble s.size 9223372036854775806=true∧(match Go.Lib.atoiAll s.data.toList with | .ok v=>some (v,(false,())) | _=>none)=some r:=by
    unfold atoiS at hr
    cases h:Nat.ble s.size 9223372036854775806
    · rw[h] at hr;cases hr
    · rw[h] at hr;exact⟨rfl,hr⟩
  have hb:=Nat.le_of_ble_eq_true hb
  cases hq:Go.Lib.atoiAll s.data.toList with
  | ok v =>
    rw[hq] at hr
    cases hr
    refine(Any.strconv_Atoi_ok (P:=Tryz.prog) (ρ:=ato_ren) ato_lay s hb v hq w).mono ?_
    rintro e w' ⟨rfl,hw⟩
    have hch:Go.Eng.Chg [] w w':=by
      rcases hw with rfl | ⟨t,rfl⟩
      · exact Go.Eng.Chg.refl _ _
      · exact qpD rfl (Go.Lib.bytesWorld_below w _ t)
    exact⟨_,rfl,hch,[],[.int .i64 v,.nilIface],List.nodup_nil,(by simp),⟨[.int .i64 v],[.nilIface],[],[],rfl,rfl,⟨rfl,rfl⟩,⟨[.nilIface],[],[],[],rfl,rfl,⟨rfl,.nilIface,rfl,.inl ⟨rfl,rfl⟩⟩,⟨rfl,rfl⟩⟩⟩,rfl⟩
  | _=>rw[hq] at hr;cases hr

def bck_ren:Go.Shelf.Ren:=⟨fun | 240=>159 | 276=>211 | n=>n,fun | 0=>0 | 4=>4 | 5=>5 | 9=>9 | 20=>20 | 37=>195 | 70=>194 | 72=>197 | 164=>293 | n=>n,fun | n=>n⟩
open Go.Shelf in
theorem bck_lay:Go.Proofs.Lays.n240 Tryz.prog bck_ren where
  mixed:=by kernel_rfl
  f240:=Tryz.func159.trans (congrArg some (by kernel_rfl))
  f276:=Tryz.func211.trans (congrArg some (by kernel_rfl))
  t0:=Tryz.underlying0
  a0:=Tryz.isAgg0
  z0:=Tryz.sizeOf0
  v0:=Tryz.zeroValue0
  t4:=Tryz.underlying4
  a4:=Tryz.isAgg4
  z4:=Tryz.sizeOf4
  v4:=Tryz.zeroValue4
  t9:=Tryz.underlying9
  a9:=Tryz.isAgg9
  z9:=Tryz.sizeOf9
  v9:=Tryz.zeroValue9
  t20:=Tryz.underlying20
  a20:=Tryz.isAgg20
  z20:=Tryz.sizeOf20
  v20:=Tryz.zeroValue20
  t70:=Tryz.underlying194
  a70:=Tryz.isAgg194
  z70:=Tryz.sizeOf194
  v70:=Tryz.zeroValue194
  t72:=Tryz.underlying197
  a72:=Tryz.isAgg197
  z72:=Tryz.sizeOf197
  v72:=Tryz.zeroValue197
  t164:=Tryz.underlying293
  a164:=Tryz.isAgg293
  z164:=Tryz.sizeOf293
  v164:=Tryz.zeroValue293
theorem qd:CkOK Tryz.prog 159 197:=ck_of (P:=Tryz.prog) (ρ:=bck_ren) bck_lay ⟨by kernel_rfl,by kernel_rfl⟩

end Go.Proofs.YtijkabgijfdpfaaGreatDoor
