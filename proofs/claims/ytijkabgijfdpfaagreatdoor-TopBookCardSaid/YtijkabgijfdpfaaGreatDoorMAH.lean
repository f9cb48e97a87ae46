/- Several texts in one: Base, MSortC, Jtx, StrC, InsC. -/
import Derived.Test.YtijkabgijfdpfaaGreatDoorProg
import Derived.Test.YtijkabgijfdpfaaGreatDoorMAD
import Derived.Test.YtijkabgijfdpfaaGreatDoorMAA
import Derived.Test.YtijkabgijfdpfaaGreatDoorMAE
import Derived.Shelf.GgClosure.StringsIndexFuncTop
import Derived.TacticsInMore
import Derived.WalkKit
import Derived.WalkSmall
import Derived.Shelf.Strconv.Itoa3
import Derived.Shelf.Strings.OnBuilder
import Derived.Shelf.Small.Strs
import Derived.Shelf.Strings.Split
import Derived.Shelf.Strconv.AtoiAll
import Derived.Shelf.Strconv.Clone
import Derived.Shelf.Strings.Builder1
import Derived.Shelf.Spec.SlicesInsertGrow
namespace Go.Proofs.YtijkabgijfdpfaaGreatDoor
theorem mixed:Tryz.prog.follows .mixedOrders=true:=by kernel_rfl
end Go.Proofs.YtijkabgijfdpfaaGreatDoor
namespace Go.Proofs.YtijkabgijfdpfaaGreatDoor
open Go.Den
set_option linter.unusedVariables false
set_option maxRecDepth 100000
def qco:Ann := .nil
noncomputable def cmpIsNaN_int_con:Con:=⟨[Zt62],true,[],.bool,fun x=>qgy x.1,some fun x=>qai x.1⟩
noncomputable def qck:Env:=[]
theorem qnE (x:DL cmpIsNaN_int_con.ps):cmpIsNaN_int_con.φ x=denF (CT:=ctxUp) Tryz.prog qck qco Tryz.f184 cmpIsNaN_int_con.ps cmpIsNaN_int_con.one cmpIsNaN_int_con.res cmpIsNaN_int_con.ρ x:=by kernel_rfl
theorem qo1:ConOK (CT:=ctxUp) Tryz.prog 184 cmpIsNaN_int_con :=
  qa (CT:=ctxUp) (env:=qck) ((EnvOK.nil (CT:=ctxUp) _)) mixed Tryz.func184 cmpIsNaN_int_con qco (by kernel_rfl) (fun h=>by first | rfl | cases h) (fun g hg x=>by
    cases hg
    exact qiH _) qnE
def qbx:Ann := .nil
noncomputable def cmpCompare_int_con:Con:=⟨[Zt62,Zt62],true,[],Zt62,fun x=>qep x.1 x.2.1,some fun x=>qF x.1 x.2.1⟩
noncomputable def qbz:Env:=(184,.con cmpIsNaN_int_con)::[]
theorem qk6 (x:DL cmpCompare_int_con.ps):cmpCompare_int_con.φ x=denF (CT:=ctxUp) Tryz.prog qbz qbx Tryz.f129 cmpCompare_int_con.ps cmpCompare_int_con.one cmpCompare_int_con.res cmpCompare_int_con.ρ x:=by kernel_rfl
theorem qnw:ConOK (CT:=ctxUp) Tryz.prog 129 cmpCompare_int_con :=
  qa (CT:=ctxUp) (env:=qbz) ((EnvOK.cons (CT:=ctxUp) (EnvOK.nil (CT:=ctxUp) _) qo1)) mixed Tryz.func129 cmpCompare_int_con qbx (by kernel_rfl) (fun h=>by first | rfl | cases h) (fun g hg x=>by
    cases hg
    exact qgS _ _) qk6
def qeT:Ann:=(.two .nil (.two .nil (.two (.two .nil (.joinE ⟨[3],[],[]⟩ (.two (.loop ⟨[3,6,7],[(8,Zt62)],[]⟩ .nil) .nil))) .nil)))
noncomputable def cmpOr_int_con:Con:=⟨[Zt60],true,[],Zt62,fun x=>qfp x.1,none⟩
noncomputable def qeL:Env:=[]
theorem qrb (x:DL cmpOr_int_con.ps):cmpOr_int_con.φ x=denF (CT:=ctxUp) Tryz.prog qeL qeT Tryz.f127 cmpOr_int_con.ps cmpOr_int_con.one cmpOr_int_con.res cmpOr_int_con.ρ x:=by kernel_rfl
theorem qsQ:ConOK (CT:=ctxUp) Tryz.prog 127 cmpOr_int_con :=
  qa (CT:=ctxUp) (env:=qeL) ((EnvOK.nil (CT:=ctxUp) _)) mixed Tryz.func127 cmpOr_int_con qeT (by kernel_rfl) (fun h=>by first | rfl | cases h) (fun g hg=>by cases hg) qrb
def qoC:Ann:=(.two .nil (.two (.tail 15 .nil) .nil))
noncomputable def movesCmp_con:Con:=⟨[Zt51,Zt51],true,[],Zt62,fun x=>qtH x.1 x.2.1,none⟩
noncomputable def qoj:Env:=(127,.con cmpOr_int_con)::(129,.con cmpCompare_int_con)::[]
theorem quK (x:DL movesCmp_con.ps):movesCmp_con.φ x=denF (CT:=ctxUp) Tryz.prog qoj qoC Tryz.f192 movesCmp_con.ps movesCmp_con.one movesCmp_con.res movesCmp_con.ρ x:=by kernel_rfl
theorem qwu:ConOK (CT:=ctxUp) Tryz.prog 192 movesCmp_con :=
  qa (CT:=ctxUp) (env:=qoj) ((EnvOK.cons (CT:=ctxUp) (EnvOK.cons (CT:=ctxUp) (EnvOK.nil (CT:=ctxUp) _) qnw) qsQ)) mixed Tryz.func192 movesCmp_con qoC (by kernel_rfl) (fun h=>by first | rfl | cases h) (fun g hg=>by cases hg) quK
theorem qo5 (x:DL cmpIsNaN_int_con.ps):cmpIsNaN_int_con.φ x=denF Tryz.prog qck qco Tryz.f184 cmpIsNaN_int_con.ps cmpIsNaN_int_con.one cmpIsNaN_int_con.res cmpIsNaN_int_con.ρ x:=by kernel_rfl
theorem qqA:ConOK Tryz.prog 184 cmpIsNaN_int_con :=
  qa (env:=qck) ((EnvOK.nil _)) mixed Tryz.func184 cmpIsNaN_int_con qco (by kernel_rfl) (fun h=>by first | rfl | cases h) (fun g hg x=>by
    cases hg
    exact qiH _) qo5
theorem qmb (x:DL cmpCompare_int_con.ps):cmpCompare_int_con.φ x=denF Tryz.prog qbz qbx Tryz.f129 cmpCompare_int_con.ps cmpCompare_int_con.one cmpCompare_int_con.res cmpCompare_int_con.ρ x:=by kernel_rfl
theorem qnB:ConOK Tryz.prog 129 cmpCompare_int_con :=
  qa (env:=qbz) ((EnvOK.cons (EnvOK.nil _) qqA)) mixed Tryz.func129 cmpCompare_int_con qbx (by kernel_rfl) (fun h=>by first | rfl | cases h) (fun g hg x=>by
    cases hg
    exact qgS _ _) qmb
theorem qs1 (x:DL cmpOr_int_con.ps):cmpOr_int_con.φ x=denF Tryz.prog qeL qeT Tryz.f127 cmpOr_int_con.ps cmpOr_int_con.one cmpOr_int_con.res cmpOr_int_con.ρ x:=by kernel_rfl
theorem quk:ConOK Tryz.prog 127 cmpOr_int_con :=
  qa (env:=qeL) ((EnvOK.nil _)) mixed Tryz.func127 cmpOr_int_con qeT (by kernel_rfl) (fun h=>by first | rfl | cases h) (fun g hg=>by cases hg) qs1
def qvq:Go.Shelf.Ren:=⟨fun | 6=>191 | 15=>230 | 14=>229 | 28=>271 | 29=>248 | 20=>263 | 21=>264 | 22=>265 | 23=>266 | 24=>267 | 25=>268 | 26=>269 | 27=>270 | 46=>298 | 47=>299 | 48=>300 | 49=>301 | 50=>302 | 57=>307 | n=>n,fun | 22=>44 | 24=>41 | 25=>277 | 3=>3 | 39=>229 | 0=>0 | 53=>330 | 55=>78 | 4=>4 | 46=>341 | 45=>340 | 50=>153 | 5=>5 | 9=>9 | 66=>362 | 70=>366 | 76=>381 | 77=>382 | n=>n,fun | n=>n⟩
theorem msort_lay:SlLaysF0.n6 Tryz.prog qvq where
  mixed:=by kernel_rfl
  f6:=⟨Tryz.f191.name,by decide,Tryz.func191.trans (congrArg some (by kernel_rfl))⟩
  f14:=⟨Tryz.f229.name,by decide,Tryz.func229.trans (congrArg some (by kernel_rfl))⟩
  f15:=Tryz.func230.trans (congrArg some (by kernel_rfl))
  f20:=⟨Tryz.f263.name,by decide,Tryz.func263.trans (congrArg some (by kernel_rfl))⟩
  f21:=⟨Tryz.f264.name,by decide,Tryz.func264.trans (congrArg some (by kernel_rfl))⟩
  f22:=⟨Tryz.f265.name,by decide,Tryz.func265.trans (congrArg some (by kernel_rfl))⟩
  f23:=⟨Tryz.f266.name,by decide,Tryz.func266.trans (congrArg some (by kernel_rfl))⟩
  f24:=⟨Tryz.f267.name,by decide,Tryz.func267.trans (congrArg some (by kernel_rfl))⟩
  f25:=⟨Tryz.f268.name,by decide,Tryz.func268.trans (congrArg some (by kernel_rfl))⟩
  f26:=⟨Tryz.f269.name,by decide,Tryz.func269.trans (congrArg some (by kernel_rfl))⟩
  f27:=⟨Tryz.f270.name,by decide,Tryz.func270.trans (congrArg some (by kernel_rfl))⟩
  f28:=Tryz.func271.trans (congrArg some (by kernel_rfl))
  f29:=Tryz.func248.trans (congrArg some (by kernel_rfl))
  f46:=⟨Tryz.f298.name,by decide,Tryz.func298.trans (congrArg some (by kernel_rfl))⟩
  f47:=Tryz.func299.trans (congrArg some (by kernel_rfl))
  f48:=Tryz.func300.trans (congrArg some (by kernel_rfl))
  f49:=⟨Tryz.f301.name,by decide,Tryz.func301.trans (congrArg some (by kernel_rfl))⟩
  f50:=⟨Tryz.f302.name,by decide,Tryz.func302.trans (congrArg some (by kernel_rfl))⟩
  f57:=⟨Tryz.f307.name,by decide,Tryz.func307.trans (congrArg some (by kernel_rfl))⟩
  t0:=Tryz.underlying0
  a0:=Tryz.isAgg0
  z0:=Tryz.sizeOf0
  v0:=Tryz.zeroValue0
  t3:=Tryz.underlying3
  a3:=Tryz.isAgg3
  z3:=Tryz.sizeOf3
  v3:=Tryz.zeroValue3
  t4:=Tryz.underlying4
  a4:=Tryz.isAgg4
  z4:=Tryz.sizeOf4
  v4:=Tryz.zeroValue4
  t5:=Tryz.underlying5
  a5:=Tryz.isAgg5
  z5:=Tryz.sizeOf5
  v5:=Tryz.zeroValue5
  t9:=Tryz.underlying9
  a9:=Tryz.isAgg9
  z9:=Tryz.sizeOf9
  v9:=Tryz.zeroValue9
  t22:=Tryz.underlying44
  a22:=Tryz.isAgg44
  z22:=Tryz.sizeOf44
  v22:=Tryz.zeroValue44
  t25:=Tryz.underlying277
  a25:=Tryz.isAgg277
  z25:=Tryz.sizeOf277
  v25:=Tryz.zeroValue277
  t39:=Tryz.underlying229
  a39:=Tryz.isAgg229
  z39:=Tryz.sizeOf229
  v39:=Tryz.zeroValue229
  t45:=Tryz.underlying340
  a45:=Tryz.isAgg340
  z45:=Tryz.sizeOf340
  v45:=Tryz.zeroValue340
  t46:=Tryz.underlying341
  a46:=Tryz.isAgg341
  z46:=Tryz.sizeOf341
  v46:=Tryz.zeroValue341
  t50:=Tryz.underlying153
  a50:=Tryz.isAgg153
  z50:=Tryz.sizeOf153
  v50:=Tryz.zeroValue153
  t53:=Tryz.underlying330
  a53:=Tryz.isAgg330
  z53:=Tryz.sizeOf330
  v53:=Tryz.zeroValue330
  t55:=Tryz.underlying78
  a55:=Tryz.isAgg78
  z55:=Tryz.sizeOf78
  v55:=Tryz.zeroValue78
  t66:=Tryz.underlying362
  a66:=Tryz.isAgg362
  z66:=Tryz.sizeOf362
  v66:=Tryz.zeroValue362
  t70:=Tryz.underlying366
  a70:=Tryz.isAgg366
  z70:=Tryz.sizeOf366
  v70:=Tryz.zeroValue366
  t76:=Tryz.underlying381
  a76:=Tryz.isAgg381
  z76:=Tryz.sizeOf381
  v76:=Tryz.zeroValue381
  t77:=Tryz.underlying382
  a77:=Tryz.isAgg382
  z77:=Tryz.sizeOf382
  v77:=Tryz.zeroValue382
open Go.Sort Go.Lib in
section
def cmp3 (a b:Int):Int:=if a<b then -1 else if b<a then 1 else 0
theorem qvP (a b:Int):qF a b=cmp3 a b:=by
  unfold qF qai cmp3
  by_cases h:a<b
  · simp[h]
  · by_cases h2:b<a<;>simp[h,h2]
theorem qyl (a b c:Int):qfp [a,b,c]=some (if a=0 then if b=0 then c else b else a):=by
  unfold qfp
  by_cases ha:a=0
  · subst ha
    rw[ql (y:=((1,()),())) (by simp[qD,at?,qe])]
    by_cases hb:b=0
    · subst hb
      rw[ql (y:=((2,()),())) (by simp[qD,at?,qe])]
      by_cases hc:c=0
      · subst hc
        rw[ql (y:=((3,()),())) (by simp[qD,at?,qe])]
        rw[qh (r := .inl ((),())) (by simp[qD])]
        rfl
      · rw[qh (r := .inr c) (by simp[qD,at?,bne_t hc])]
        simp
    · rw[qh (r := .inr b) (by simp[qD,at?,bne_t hb])]
      simp[hb]
  · rw[qh (r := .inr a) (by simp[qD,at?,bne_t ha])]
    simp[ha]
def mvCf (x y:Mv):Int:=if cmp3 x.1 y.1=0 then if cmp3 x.2.1 y.2.1=0 then cmp3 x.2.2.1 y.2.2.1 else cmp3 x.2.1 y.2.1 else cmp3 x.1 y.1
theorem qsL (x y:Mv):qtH x y=some (mvCf x y):=by
  unfold qtH mvCf
  rw[qvP,qvP,qvP,qyl]
  rfl
theorem qvE (a b:Int):cmp3 a b=0↔a=b:=by
  unfold cmp3
  split
  · constructor<;>intro h<;>omega
  · split<;>constructor<;>intro h<;>omega
theorem qwo (a b:Int):cmp3 a b<0↔a<b:=by
  unfold cmp3
  split
  · constructor<;>intro h<;>omega
  · split<;>constructor<;>intro h<;>omega
theorem qsx:ltOf mvCf=mvLt:=by
  funext x y
  unfold ltOf mvCf mvLt
  by_cases h1:x.1=y.1
  · by_cases h2:x.2.1=y.2.1
    · simp[h1,h2,(qvE y.1 y.1).2 rfl,(qvE y.2.1 y.2.1).2 rfl,qwo]
    · have:¬cmp3 x.2.1 y.2.1=0:=fun h=>h2 ((qvE _ _).1 h)
      simp[h1,h2,(qvE y.1 y.1).2 rfl,this,qwo]
  · have:¬cmp3 x.1 y.1=0:=fun h=>h1 ((qvE _ _).1 h)
    simp[h1,this,qwo]
theorem qxr (x y:Mv):mvLt x y=true↔x.1<y.1∨x.1=y.1∧(x.2.1<y.2.1∨x.2.1=y.2.1∧x.2.2.1<y.2.2.1):=by simp[mvLt]
theorem mvLt_f (x y:Mv):mvLt x y=false↔¬(x.1<y.1∨x.1=y.1∧(x.2.1<y.2.1∨x.2.1=y.2.1∧x.2.2.1<y.2.2.1)):=by rw[←qxr,Bool.not_eq_true]
theorem mv_swo:SWO mvLt where
  irrefl x:=by rw[mvLt_f];omega
  trans x y z h1 h2:=by rw[qxr] at *;omega
  ntrans x y z h1 h2:=by rw[mvLt_f] at *;omega
theorem mv_tot (x y:Mv) (h1:mvLt x y=false) (h2:mvLt y x=false):x=y:=by
  rw[mvLt_f] at h1 h2
  obtain⟨a,b,c,⟨⟩⟩:=x
  obtain⟨a',b',c',⟨⟩⟩:=y
  simp only at h1 h2
  have e1:a=a':=by omega
  subst e1
  have e2:b=b':=by omega
  subst e2
  have e3:c=c':=by omega
  subst e3
  rfl
def qhH:Srt:=⟨41,Zt51,some 192,qbU⟩
theorem quJ:SrtOK Tryz.prog 191 qhH:=by
  have h:=qwG (ρ:=qvq) (g:=192) (f:=191) (τ:=Zt51) (i:=41) msort_lay rfl rfl rfl rfl Tryz.isAgg41 Tryz.sizeOf41 qwu mvCf (fun x y=>qsL x y) (show SWO (ltOf mvCf) from qsx▸mv_swo) (fun x y h1 h2=>mv_tot x y (by rw[←qsx];exact h1) (by rw[←qsx];exact h2)) (enters_of Tryz.func192 (by kernel_rfl) rfl)
  have e:(fun xs:List Mv=>xs.mergeSort fun x y=>!(ltOf mvCf) y x)=qbU:=by rw[qsx];rfl
  have:qhH=⟨41,Zt51,some 192,fun xs:List Mv=>xs.mergeSort fun x y=>!(ltOf mvCf) y x⟩:=by rw[e];rfl
  rw[this]
  exact h
end
end Go.Proofs.YtijkabgijfdpfaaGreatDoor
namespace Go.Proofs.YtijkabgijfdpfaaGreatDoor
open Go Go.Proofs Go.RowKit Go.Shelf
set_option linter.unusedVariables false
set_option linter.unusedSimpArgs false
attribute [local go_sem] Oper.semAt_some
def jix_ren:Go.Shelf.Ren:=⟨fun | 15=>164 | 20=>213 | n=>n,fun | 9=>9 | 23=>253 | 3=>3 | 4=>4 | 0=>0 | 21=>21 | n=>n,fun | n=>n⟩
open Go.Shelf in
theorem jix_lay:Go.Proofs.LaysGw.n15 Tryz.prog jix_ren where
  mixed:=by kernel_rfl
  f15:=Tryz.func164.trans (congrArg some (by kernel_rfl))
  f20:=Tryz.func213.trans (congrArg some (by kernel_rfl))
  t0:=Tryz.underlying0
  a0:=Tryz.isAgg0
  z0:=Tryz.sizeOf0
  v0:=Tryz.zeroValue0
  i0:=by kernel_rfl
  t3:=Tryz.underlying3
  a3:=Tryz.isAgg3
  z3:=Tryz.sizeOf3
  v3:=Tryz.zeroValue3
  i3:=by kernel_rfl
  t4:=Tryz.underlying4
  a4:=Tryz.isAgg4
  z4:=Tryz.sizeOf4
  v4:=Tryz.zeroValue4
  i4:=by kernel_rfl
  t9:=Tryz.underlying9
  a9:=Tryz.isAgg9
  z9:=Tryz.sizeOf9
  v9:=Tryz.zeroValue9
  i9:=by kernel_rfl
  t21:=Tryz.underlying21
  a21:=Tryz.isAgg21
  z21:=Tryz.sizeOf21
  v21:=Tryz.zeroValue21
  i21:=by kernel_rfl
  t23:=Tryz.underlying253
  a23:=Tryz.isAgg253
  z23:=Tryz.sizeOf253
  v23:=Tryz.zeroValue253
  i23:=by kernel_rfl
theorem jclos (w:World):PredAt Tryz.prog 165 #[] encR qiX w:=fun W r _=>by
  unfold FnGives
  by_cases h1:r<32<;>by_cases h2:126<r
  all_goals
    have z1:(r:Int)<32↔r<32:=by omega
    have z2:(126:Int)<(r:Int)↔126<r:=by omega
    go_enter Tryz.func165,Tryz.ntmps165
    go_wp2
    all_goals first | (exfalso;omega) | (go_ret;exact⟨by simp[qiX,h1,h2],0,rfl⟩)
set_option maxHeartbeats 1000000 in
theorem qwM (s:ByteArray) (w:World):Calls Tryz.prog 110 #[.string s] w fun e w'=>e = .returned (.int .i64 (qao s))∧Below w.heap.size w w':=by
  have hC:=Any.strings_IndexFunc (P:=Tryz.prog) (ρ:=jix_ren) jix_lay 165 #[] (enters_of Tryz.func165 (by kernel_rfl) rfl) qiX s w (jclos w);change Calls Tryz.prog 164 _ _ _ at hC;obtain⟨I,hI⟩:∃I,Lib.idxFunc qiX true s=I:=⟨_,rfl⟩;unfold qao;rw[hI] at hC ⊢;by_cases h1:200<s.size
  · have z1:(200:Int)<(s.size:Int):=by omega
    rw[if_pos h1]
    go_enter Tryz.func110,Tryz.ntmps110
    go_wp2
    all_goals first | (exfalso;omega) | (go_ret;exact⟨rfl,Below.refl _ _⟩)
  · have z1:¬(200:Int)<(s.size:Int):=by omega
    rw[if_neg h1];by_cases h2:0≤I
    · rw[if_pos h2]
      go_enter Tryz.func110,Tryz.ntmps110
      go_wp2_with (go_at_call 164;refine hC.mono ?_;rintro e w' ⟨rfl,hb⟩)
      all_goals first | (exfalso;omega) | (go_ret;exact⟨rfl,hb⟩)
    · rw[if_neg h2]
      go_enter Tryz.func110,Tryz.ntmps110
      go_wp2_with (go_at_call 164;refine hC.mono ?_;rintro e w' ⟨rfl,hb⟩)
      all_goals first | (exfalso;omega) | (go_ret;exact⟨rfl,hb⟩)
end Go.Proofs.YtijkabgijfdpfaaGreatDoor
namespace Go.Proofs.YtijkabgijfdpfaaGreatDoor
open Go.Den
set_option linter.unusedVariables false
set_option linter.unusedSimpArgs false
set_option maxRecDepth 100000
theorem qvG {w w':World} (hd:Go.Den.Ctx.drawsUp=false) (h:Go.RowKit.Below w.heap.size w w'):Go.Eng.Chg [] w w' :=
  ⟨h.os,h.tape,h.output,h.size,fun k hk _=>h.block k hk,fun e=>by rw[hd] at e;cases e⟩
theorem qxp {α:Type} {c:Bool} {x r:α} (h:(bif c then some x else none)=some r):c=true∧x=r:=by cases c<;>simp_all
theorem qt7 {w:World} {S:Nat→Prop}:∀ {l:List ByteArray} {us:List Value},RepL (fun (x:D .str) c=>Rep w S .str x [] c) l us→us=l.map Value.string
  | [],us,h=>h
  | n::ns,us,⟨c,r,h1,h2,h3⟩=>by
    subst h1
    rw[h2.2,qt7 h3]
    rfl
theorem chg_grown {w:World} {k:Nat} {os:Array Obj}:Go.Eng.Chg [] w (Go.Sort.grow (w.drewN k) os) :=
  ⟨rfl,rfl,rfl,by simp[Go.Sort.grow],fun j hj _=>by
    show(w.heap++os)[j]?=_
    rw[Array.getElem?_append_left hj],fun _=>Nat.le_add_right _ _⟩
theorem tab_pow10 {S:Nat→Prop} {w:World} (hT:TabR S w):Go.Lib.TabIs Tryz.prog w "internal/strconv.uint64pow10" .u64 Go.Lib.pow10Tab:=by
  obtain⟨_,T,fz,h⟩:=hT.tab 0 (Go.Lib.pow10Tab.map (Value.int .u64)) rfl
  have hg:Tryz.prog.globalNamed "internal/strconv.uint64pow10" = some 0:=by kernel_rfl
  unfold Go.Lib.TabIs World.var?
  rw[hg]
  show(match w.heap[0]? with | some (.cells cs _ _)=>some cs | _=>none)=_
  rw[h]
def qw2:Go.Shelf.Ren:=⟨fun | 171=>49 | 243=>113 | 246=>166 | 283=>214 | 284=>215 | 285=>216 | 286=>217 | 129=>248 | 317=>247 | 318=>249 | 319=>250 | 320=>251 | 337=>286 | 338=>287 | n=>n,fun | 3=>3 | 9=>9 | 2=>2 | 4=>4 | 171=>297 | 0=>0 | 53=>78 | 37=>195 | 5=>5 | 173=>300 | 212=>329 | 51=>330 | 20=>20 | 213=>331 | 46=>229 | 232=>378 | 233=>379 | n=>n,fun | 17=>0 | 18=>6 | 19=>7 | n=>n⟩
open Go.Shelf in
theorem itoa_lay:Go.Proofs.LaysM.n171 Tryz.prog qw2 where
  mixed:=by kernel_rfl
  f129:=Tryz.func248.trans (congrArg some (by kernel_rfl))
  f171:=Tryz.func49.trans (congrArg some (by kernel_rfl))
  f243:=Tryz.func113.trans (congrArg some (by kernel_rfl))
  f246:=Tryz.func166.trans (congrArg some (by kernel_rfl))
  f283:=Tryz.func214.trans (congrArg some (by kernel_rfl))
  f284:=Tryz.func215.trans (congrArg some (by kernel_rfl))
  f285:=Tryz.func216.trans (congrArg some (by kernel_rfl))
  f286:=Tryz.func217.trans (congrArg some (by kernel_rfl))
  f317:=Tryz.func247.trans (congrArg some (by kernel_rfl))
  f318:=Tryz.func249.trans (congrArg some (by kernel_rfl))
  f319:=Tryz.func250.trans (congrArg some (by kernel_rfl))
  f320:=Tryz.func251.trans (congrArg some (by kernel_rfl))
  f337:=Tryz.func286.trans (congrArg some (by kernel_rfl))
  f338:=Tryz.func287.trans (congrArg some (by kernel_rfl))
  t0:=Tryz.underlying0
  a0:=Tryz.isAgg0
  z0:=Tryz.sizeOf0
  v0:=Tryz.zeroValue0
  t2:=Tryz.underlying2
  a2:=Tryz.isAgg2
  z2:=Tryz.sizeOf2
  v2:=Tryz.zeroValue2
  t3:=Tryz.underlying3
  a3:=Tryz.isAgg3
  z3:=Tryz.sizeOf3
  v3:=Tryz.zeroValue3
  t4:=Tryz.underlying4
  a4:=Tryz.isAgg4
  z4:=Tryz.sizeOf4
  v4:=Tryz.zeroValue4
  t5:=Tryz.underlying5
  a5:=Tryz.isAgg5
  z5:=Tryz.sizeOf5
  v5:=Tryz.zeroValue5
  t9:=Tryz.underlying9
  a9:=Tryz.isAgg9
  z9:=Tryz.sizeOf9
  v9:=Tryz.zeroValue9
  t20:=Tryz.underlying20
  a20:=Tryz.isAgg20
  z20:=Tryz.sizeOf20
  v20:=Tryz.zeroValue20
  t37:=Tryz.underlying195
  a37:=Tryz.isAgg195
  z37:=Tryz.sizeOf195
  v37:=Tryz.zeroValue195
  t46:=Tryz.underlying229
  a46:=Tryz.isAgg229
  z46:=Tryz.sizeOf229
  v46:=Tryz.zeroValue229
  t51:=Tryz.underlying330
  a51:=Tryz.isAgg330
  z51:=Tryz.sizeOf330
  v51:=Tryz.zeroValue330
  t53:=Tryz.underlying78
  a53:=Tryz.isAgg78
  z53:=Tryz.sizeOf78
  v53:=Tryz.zeroValue78
  t171:=Tryz.underlying297
  a171:=Tryz.isAgg297
  z171:=Tryz.sizeOf297
  v171:=Tryz.zeroValue297
  t173:=Tryz.underlying300
  a173:=Tryz.isAgg300
  z173:=Tryz.sizeOf300
  v173:=Tryz.zeroValue300
  t212:=Tryz.underlying329
  a212:=Tryz.isAgg329
  z212:=Tryz.sizeOf329
  v212:=Tryz.zeroValue329
  t213:=Tryz.underlying331
  a213:=Tryz.isAgg331
  z213:=Tryz.sizeOf331
  t232:=Tryz.underlying378
  a232:=Tryz.isAgg378
  z232:=Tryz.sizeOf378
  v232:=Tryz.zeroValue378
  t233:=Tryz.underlying379
  a233:=Tryz.isAgg379
  z233:=Tryz.sizeOf379
  v233:=Tryz.zeroValue379
  g17:=by kernel_rfl
  g18:=by kernel_rfl
  g19:=by kernel_rfl
  i0:=by kernel_rfl
  i2:=by kernel_rfl
  i3:=by kernel_rfl
  i4:=by kernel_rfl
  i5:=by kernel_rfl
  i9:=by kernel_rfl
  i20:=by kernel_rfl
  i37:=by kernel_rfl
  i46:=by kernel_rfl
  i51:=by kernel_rfl
  i53:=by kernel_rfl
  i171:=by kernel_rfl
  i173:=by kernel_rfl
  i212:=by kernel_rfl
  i232:=by kernel_rfl
  i233:=by kernel_rfl
  m17:=by kernel_rfl
  m18:=by kernel_rfl
  m19:=by kernel_rfl
noncomputable def qqN:Con:=⟨[.int .i64],true,[],.str,fun x=>itoaS x.1,none⟩
theorem qxj:ConOK Tryz.prog 49 qqN:=by
  refine⟨rfl,fun h=>(by cases h),fun g h=>(by cases h),fun w S args x r hS hT ha hr=>?_⟩
  obtain⟨n,⟨⟩⟩:=x
  obtain⟨v,q,e1,⟨cs,⟨_,rfl⟩,rfl⟩,h2⟩:=ha
  obtain rfl:q=[]:=h2
  obtain rfl:args = #[.int .i64 n]:=by rw[←Array.toList_inj,e1];rfl
  have hr:itoaS n=some r:=hr
  obtain⟨hb,rfl⟩:=qxp hr
  · simp only[Bool.and_eq_true,decide_eq_true_eq] at hb
    refine(Any.strconv_Itoa (P:=Tryz.prog) (ρ:=qw2) itoa_lay n hb.1 hb.2 w (tab_pow10 hT)).mono ?_
    rintro e w' ⟨rfl,k,os,rfl⟩
    exact⟨_,rfl,chg_grown,[],[.string ⟨(Go.Lib.itoa n).toArray⟩],List.nodup_nil,(by simp),⟨rfl,rfl⟩,rfl⟩

def qpj:Go.Shelf.Ren:=⟨fun | 156=>90 | 165=>156 | 166=>100 | 169=>104 | 240=>159 | 241=>209 | 276=>211 | 277=>242 | n=>n,fun | 31=>174 | 9=>9 | 3=>3 | 4=>4 | 0=>0 | 20=>20 | 72=>197 | 76=>202 | 70=>194 | 37=>195 | 75=>201 | 127=>249 | 164=>293 | 5=>5 | 80=>210 | n=>n,fun | n=>n⟩
open Go.Shelf in
theorem qxk:Go.Proofs.Lays.n156 Tryz.prog qpj where
  mixed:=by kernel_rfl
  f156:=Tryz.func90.trans (congrArg some (by kernel_rfl))
  f165:=Tryz.func156.trans (congrArg some (by kernel_rfl))
  f166:=Tryz.func100.trans (congrArg some (by kernel_rfl))
  f169:=Tryz.func104.trans (congrArg some (by kernel_rfl))
  f240:=Tryz.func159.trans (congrArg some (by kernel_rfl))
  f241:=Tryz.func209.trans (congrArg some (by kernel_rfl))
  f276:=Tryz.func211.trans (congrArg some (by kernel_rfl))
  f277:=Tryz.func242.trans (congrArg some (by kernel_rfl))
  t0:=Tryz.underlying0
  a0:=Tryz.isAgg0
  z0:=Tryz.sizeOf0
  v0:=Tryz.zeroValue0
  t3:=Tryz.underlying3
  a3:=Tryz.isAgg3
  z3:=Tryz.sizeOf3
  v3:=Tryz.zeroValue3
  t4:=Tryz.underlying4
  a4:=Tryz.isAgg4
  z4:=Tryz.sizeOf4
  v4:=Tryz.zeroValue4
  t9:=Tryz.underlying9
  a9:=Tryz.isAgg9
  z9:=Tryz.sizeOf9
  v9:=Tryz.zeroValue9
  t20:=Tryz.underlying20
  a20:=Tryz.isAgg20
  z20:=Tryz.sizeOf20
  v20:=Tryz.zeroValue20
  t31:=Tryz.underlying174
  a31:=Tryz.isAgg174
  z31:=Tryz.sizeOf174
  v31:=Tryz.zeroValue174
  t37:=Tryz.underlying195
  a37:=Tryz.isAgg195
  z37:=Tryz.sizeOf195
  v37:=Tryz.zeroValue195
  t70:=Tryz.underlying194
  a70:=Tryz.isAgg194
  z70:=Tryz.sizeOf194
  v70:=Tryz.zeroValue194
  t72:=Tryz.underlying197
  a72:=Tryz.isAgg197
  z72:=Tryz.sizeOf197
  v72:=Tryz.zeroValue197
  t75:=Tryz.underlying201
  a75:=Tryz.isAgg201
  z75:=Tryz.sizeOf201
  v75:=Tryz.zeroValue201
  t76:=Tryz.underlying202
  a76:=Tryz.isAgg202
  z76:=Tryz.sizeOf202
  v76:=Tryz.zeroValue202
  t127:=Tryz.underlying249
  a127:=Tryz.isAgg249
  z127:=Tryz.sizeOf249
  v127:=Tryz.zeroValue249
  t164:=Tryz.underlying293
  a164:=Tryz.isAgg293
  z164:=Tryz.sizeOf293
  v164:=Tryz.zeroValue293
theorem qrF:Go.Proofs.Builder.Extra Tryz.prog qpj where
  sizeBuilder:=by kernel_rfl
  liesBuilder:=by kernel_rfl
  t5:=Tryz.underlying5
  a5:=Tryz.isAgg5
  z5:=Tryz.sizeOf5
  v5:=Tryz.zeroValue5
  infoByte:=by kernel_rfl
  cellsByte:=by kernel_rfl
  sizeByte:=by kernel_rfl
  neB5:=by decide
noncomputable def qjg:Con:=⟨[.sl .str,.str],true,[],.str,fun x=>joinS x.1 x.2.1,none⟩
theorem qty:ConOK Tryz.prog 90 qjg:=by
  refine⟨rfl,fun h=>(by cases h),fun g h=>(by cases h),fun w S args x r hS hT ha hr=>?_⟩
  obtain⟨l,sep,⟨⟩⟩:=x
  obtain⟨v,q,e1,⟨cs,⟨_,ao,cap,us,rfl,hcap,hrep,hne⟩,rfl⟩,v2,q2,rfl,⟨cs2,⟨_,rfl⟩,rfl⟩,h2⟩:=ha
  obtain rfl:q2=[]:=h2
  obtain rfl:args = #[.slice ao l.length cap,.string sep]:=by rw[←Array.toList_inj,e1];rfl
  have hr:joinS l sep=some r:=hr
  obtain⟨hb,rfl⟩:=qxp hr
  · simp only[Bool.and_eq_true] at hb
    have h3:=Nat.le_of_ble_eq_true hb.1
    have h4:=Nat.le_of_ble_eq_true hb.2
    have hus:=qt7 hrep
    subst hus
    have fin:∀w',Go.Eng.Chg [] w w'→∃v,Ending.returned (.string ⟨(Go.Lib.join (l.map (·.data.toList)) sep.data.toList).toArray⟩)=Ending.returned v∧Go.Eng.Chg [] w w'∧ResR w w' S qjg (⟨(Go.Lib.join (l.map (·.data.toList)) sep.data.toList).toArray⟩:ByteArray) v :=
      fun w' hc=>⟨_,rfl,hc,[],[.string ⟨(Go.Lib.join (l.map (·.data.toList)) sep.data.toList).toArray⟩],List.nodup_nil,(by simp),⟨rfl,rfl⟩,rfl⟩
    by_cases h0:l=[]
    · subst h0
      refine(Any.strings_Join_none (P:=Tryz.prog) (ρ:=qpj) qxk qrF ao cap sep w).mono ?_
      rintro e w' ⟨rfl,rfl⟩
      exact fin _ (Go.Eng.Chg.refl _ _)
    · obtain⟨a,rfl,ha,hcells⟩:=hne h0
      obtain⟨bk,o,spot⟩:=a
      have hsp:spot=none:=by
        cases l with
        | nil=>exact absurd rfl h0
        | cons x l' =>
          have:=hcells 0 (.string x) rfl
          cases spot with
          | none=>rfl
          | some s=>exact absurd this (by simp[Addr.add,World.cell?];split<;>simp)
      subst hsp
      refine(Any.strings_Join (P:=Tryz.prog) (ρ:=qpj) qxk qrF bk o cap l sep w (fun j x hj=>by
        have:=hcells j (.string x) ((List.getElem?_map (f:=Value.string) (l:=(l:List ByteArray)) (i:=j)).trans (congrArg (Option.map Value.string) hj))
        rwa [Go.Eng.adr_add] at this) (hS bk ha) h3 hcap h4).mono ?_
      rintro e w' ⟨rfl,hb⟩
      exact fin _ (qvG rfl hb)

def ixb_ren:Go.Shelf.Ren:=⟨fun | 137=>223 | 217=>261 | 266=>297 | n=>n,fun | 9=>9 | 5=>5 | 3=>3 | n=>n,fun | n=>n⟩
open Go.Shelf in
theorem ixb_lay:Go.Proofs.Lays.n137 Tryz.prog ixb_ren where
  mixed:=by kernel_rfl
  f137:=Tryz.func223.trans (congrArg some (by kernel_rfl))
  f217:=Tryz.func261.trans (congrArg some (by kernel_rfl))
  f266:=Tryz.func297.trans (congrArg some (by kernel_rfl))
  t3:=Tryz.underlying3
  a3:=Tryz.isAgg3
  z3:=Tryz.sizeOf3
  v3:=Tryz.zeroValue3
  t5:=Tryz.underlying5
  a5:=Tryz.isAgg5
  z5:=Tryz.sizeOf5
  v5:=Tryz.zeroValue5
  t9:=Tryz.underlying9
  a9:=Tryz.isAgg9
  z9:=Tryz.sizeOf9
  v9:=Tryz.zeroValue9
noncomputable def qkK:Con:=⟨[.str,.int .u8],true,[],.int .i64,fun x=>some (qe1 x.1 x.2.1),some fun x=>qe1 x.1 x.2.1⟩
theorem qtD:ConOK Tryz.prog 223 qkK:=by
  refine⟨rfl,fun h=>(by cases h),fun g h x=>(by cases h;rfl),fun w S args x r hS hT ha hr=>?_⟩
  obtain⟨s,c,⟨⟩⟩:=x
  obtain⟨v,q,e1,⟨cs,⟨_,rfl⟩,rfl⟩,v2,q2,rfl,⟨cs2,⟨_,rfl⟩,rfl⟩,h2⟩:=ha
  obtain rfl:q2=[]:=h2
  obtain rfl:args = #[.string s,.int .u8 c]:=by rw[←Array.toList_inj,e1];rfl
  obtain rfl:qe1 s c=r:=Option.some.inj hr
  refine(Any.strings_IndexByte (P:=Tryz.prog) (ρ:=ixb_ren) ixb_lay s c w).mono ?_
  rintro e w' ⟨rfl,rfl⟩
  exact⟨_,rfl,Go.Eng.Chg.refl _ _,[],[.int .i64 _],List.nodup_nil,(by simp),⟨rfl,rfl⟩,rfl⟩

noncomputable def qfa:Con:=⟨[.str],true,[],.int .i64,fun x=>some (qao x.1),some fun x=>qao x.1⟩
theorem qkx:ConOK Tryz.prog 110 qfa:=by
  refine⟨rfl,fun h=>(by cases h),fun g h=>(by cases h;intro x;rfl),fun w S args x r hS hT ha hr=>?_⟩
  obtain⟨s,⟨⟩⟩:=x
  obtain⟨v,q,e1,⟨cs,⟨_,rfl⟩,rfl⟩,h2⟩:=ha
  obtain rfl:q=[]:=h2
  obtain rfl:args = #[.string s]:=by rw[←Array.toList_inj,e1];rfl
  have hr:some (qao s)=some r:=hr
  cases hr
  refine(qwM s w).mono ?_
  rintro e w' ⟨rfl,hb⟩
  exact⟨_,rfl,qvG rfl hb,[],[.int .i64 (qao s)],List.nodup_nil,(by simp),⟨rfl,rfl⟩,rfl⟩

def bck_ren:Go.Shelf.Ren:=⟨fun | 240=>159 | 276=>211 | n=>n,fun | 0=>0 | 4=>4 | 5=>5 | 9=>9 | 20=>20 | 37=>195 | 70=>194 | 72=>197 | 164=>293 | n=>n,fun | n=>n⟩
open Go.Shelf in
theorem bck_lay:Go.Proofs.Lays.n240 Tryz.prog bck_ren where
  mixed:=by kernel_rfl
  f240:=Tryz.func159.trans (congrArg some (by kernel_rfl))
  f276:=Tryz.func211.trans (congrArg some (by kernel_rfl))
  t0:=Tryz.underlying0
  a0:=Tryz.isAgg0
  z0:=Tryz.sizeOf0
  v0:=Tryz.zeroValue0
  t4:=Tryz.underlying4
  a4:=Tryz.isAgg4
  z4:=Tryz.sizeOf4
  v4:=Tryz.zeroValue4
  t9:=Tryz.underlying9
  a9:=Tryz.isAgg9
  z9:=Tryz.sizeOf9
  v9:=Tryz.zeroValue9
  t20:=Tryz.underlying20
  a20:=Tryz.isAgg20
  z20:=Tryz.sizeOf20
  v20:=Tryz.zeroValue20
  t70:=Tryz.underlying194
  a70:=Tryz.isAgg194
  z70:=Tryz.sizeOf194
  v70:=Tryz.zeroValue194
  t72:=Tryz.underlying197
  a72:=Tryz.isAgg197
  z72:=Tryz.sizeOf197
  v72:=Tryz.zeroValue197
  t164:=Tryz.underlying293
  a164:=Tryz.isAgg293
  z164:=Tryz.sizeOf293
  v164:=Tryz.zeroValue293
theorem qb:CkOK Tryz.prog 159 197:=ck_of (P:=Tryz.prog) (ρ:=bck_ren) bck_lay ⟨by kernel_rfl,by kernel_rfl⟩

def qv6:Go.Shelf.Ren:=⟨fun | 169=>104 | n=>n,fun | 70=>194 | 9=>9 | 0=>0 | 72=>197 | 37=>195 | 127=>249 | 3=>3 | 5=>5 | n=>n,fun | n=>n⟩
open Go.Shelf in
theorem bst_lay:Go.Proofs.Lays.n169 Tryz.prog qv6 where
  mixed:=by kernel_rfl
  f169:=Tryz.func104.trans (congrArg some (by kernel_rfl))
  t0:=Tryz.underlying0
  a0:=Tryz.isAgg0
  z0:=Tryz.sizeOf0
  v0:=Tryz.zeroValue0
  t3:=Tryz.underlying3
  a3:=Tryz.isAgg3
  z3:=Tryz.sizeOf3
  v3:=Tryz.zeroValue3
  t9:=Tryz.underlying9
  a9:=Tryz.isAgg9
  z9:=Tryz.sizeOf9
  v9:=Tryz.zeroValue9
  t37:=Tryz.underlying195
  a37:=Tryz.isAgg195
  z37:=Tryz.sizeOf195
  v37:=Tryz.zeroValue195
  t70:=Tryz.underlying194
  a70:=Tryz.isAgg194
  z70:=Tryz.sizeOf194
  v70:=Tryz.zeroValue194
  t72:=Tryz.underlying197
  a72:=Tryz.isAgg197
  z72:=Tryz.sizeOf197
  v72:=Tryz.zeroValue197
  t127:=Tryz.underlying249
  a127:=Tryz.isAgg249
  z127:=Tryz.sizeOf249
  v127:=Tryz.zeroValue249
theorem bst_extra:Go.Proofs.Builder.Extra Tryz.prog qv6 where
  sizeBuilder:=by kernel_rfl
  liesBuilder:=by kernel_rfl
  t5:=Tryz.underlying5
  a5:=Tryz.isAgg5
  z5:=Tryz.sizeOf5
  v5:=Tryz.zeroValue5
  infoByte:=by kernel_rfl
  cellsByte:=by kernel_rfl
  sizeByte:=by kernel_rfl
  neB5:=by decide
theorem qoW:BsOK Tryz.prog 104 197 5:=bs_of (P:=Tryz.prog) (ρ:=qv6) bst_lay bst_extra

end Go.Proofs.YtijkabgijfdpfaaGreatDoor
namespace Go.Proofs.YtijkabgijfdpfaaGreatDoor
open Go Go.Proofs Go.RowKit Go.Shelf Go.Lib Go.Den Go.Eng
set_option linter.unusedVariables false
set_option linter.unusedSimpArgs false
theorem qts:(Tryz.prog.info? 148).map (·.size)=some 5:=by kernel_rfl
theorem insZero:∃i z,Tryz.prog.info? 148=some i∧i.zero=some z∧i.size=5∧i.bytes=40∧z.cells.size=5:=by
  have h:(Tryz.prog.info? 148).bind (fun i=>i.zero.map (fun z=>(i.size,i.bytes,z.cells.size)))=some (5,40,5):=by kernel_rfl
  obtain⟨i,h1,h2⟩:=Option.bind_eq_some_iff.1 h;obtain⟨z,h3,h4⟩:=Option.map_eq_some_iff.1 h2;simp only[Prod.mk.injEq] at h4;exact⟨i,z,h1,h3,h4.1,h4.2.1,h4.2.2⟩
theorem ins_list {A:Type} (C cs vs:List A) (a q N:Nat) (ha:a≤N) (hN:cs.length=N) (hq:vs.length=q) (hC:C.take N=cs) :
    (((C.take (a+q)++cs.drop a++C.drop (a+q+(cs.drop a).length)).take a++vs++(C.take (a+q)++cs.drop a++C.drop (a+q+(cs.drop a).length)).drop (a+vs.length)).take (N+q))=cs.take a++(vs++cs.drop a)∨C.length<a+q:=by
  by_cases hl:C.length<a+q
  · exact .inr hl
  · left
    have e1:(C.take (a+q)).length=a+q:=by rw[List.length_take];omega
    have e2:(C.take (a+q)++cs.drop a++C.drop (a+q+(cs.drop a).length)).take a=cs.take a:=by
      rw[List.append_assoc,List.take_append_of_le_length (by omega),List.take_take,←hC,List.take_take];congr 1;omega
    have e3:(C.take (a+q)++cs.drop a++C.drop (a+q+(cs.drop a).length)).drop (a+vs.length)=cs.drop a++C.drop (a+q+(cs.drop a).length):=by
      rw[hq,List.append_assoc,List.drop_append,List.drop_of_length_le (by omega),e1];simp
    rw[e2,e3,List.append_assoc,←List.append_assoc vs,←List.append_assoc]
    have e4:(cs.take a++(vs++cs.drop a)).length=N+q:=by simp only[List.length_append,List.length_take,List.length_drop,hN,hq];omega
    rw[←e4,List.take_left]
theorem qnk {w:World} {b k:Nat} {cur:Array Value} {T:TypeId} (h:w.heap[b]?=some (.cells cur T (0,0))):w.cell? ⟨b,k,none⟩=cur.toList[k]?:=by
  simp[World.cell?,h]
set_option maxHeartbeats 4000000 in
set_option maxRecDepth 100000 in
/-- there is room, ahead of the end -/
theorem ins_shift (b n c i vb m vc:Nat) (cs vs:List Value) (cur vcur:Array Value) (w:World) (hi:i<n) (hm:0<m) (hroom:n+m≤c) (hc63:c≤9223372036854775807) (hvb:vb≠b)
    (hb:w.heap[b]?=some (.cells cur 148 (0,0))) (hcur:cur.size=c*5) (hcs:cs.length=n*5) (hpre:cur.toList.take (n*5)=cs)
    (hv:w.heap[vb]?=some (.cells vcur 148 (0,0))) (hvl:vs.length=m*5) (hvs:vcur.toList.take (m*5)=vs) (h1c:∀v∈cs,v.oneCell'=true) (h1v:∀v∈vs,v.oneCell'=true) :
    Calls Tryz.prog 124 #[.slice (some ⟨b,0,none⟩) n c,.int .i64 i,.slice (some ⟨vb,0,none⟩) m vc] w fun e w' =>
      e = .returned (.slice (some ⟨b,0,none⟩) (n+m) c)∧∃cur',w'=w.drew.setRow b cur'∧cur'.size=c*5∧cur'.toList.take ((n+m)*5)=cs.take (i*5)++(vs++cs.drop (i*5)):=by
  have hz1:¬((m:Int)=0):=by omega
  have hz2:¬((i:Int)=(n:Int)):=by omega
  have hcl:cur.toList.length=c*5:=by rw[Array.length_toList,hcur]
  have hvcl:m*5≤vcur.toList.length:=by rw[←hvl,←hvs,List.length_take];omega
  have hov:∀lb cb,(callFunc 181 #[.slice (some ⟨vb,0,none⟩) m vc,.slice (some ⟨b,(i+m)*5,none⟩) lb cb]).run Tryz.prog w = .ok (.value (.bool false)) w:=fun lb cb=>by
    rw[run_callFunc_extern Tryz.func181 (by kernel_rfl) (by kernel_rfl) (by kernel_rfl) (e:=Extern.SlicesOverlaps.overlaps #[64,64] #[4]) (by kernel_rfl),
      Lib.run_overlaps_apart w 64 4 148 Tryz.underlying64 5 Tryz.sizeOf148 ⟨vb,0,none⟩ ⟨b,(i+m)*5,none⟩ m vc lb cb hvb 148 148 vcur.size cur.size (by simp[World.shape?,hv]) (by simp[World.shape?,hb]) (by rw[hcur];omega) (by simp[World.frozen?,hv]) (by simp[World.frozen?,hv])]
    rfl
  have hdl:(cs.drop (i*5)).length=(n-i)*5:=by rw[List.length_drop,hcs];omega
  have hcp1:∀ty dc sc,(Builtin.copy_ #[64,64] ty #[.slice (some ⟨b,(i+m)*5,none⟩) (n+m-(i+m)) dc,.slice (some ⟨b,i*5,none⟩) (n+m-i) sc]).run Tryz.prog w.drew =
      .ok (goInt (Nat.min (n+m-i) (n+m-(i+m)))) (w.drew.setRow b (cur.toList.take ((i+m)*5)++cs.drop (i*5)++cur.toList.drop ((i+m)*5+(cs.drop (i*5)).length)).toArray):=fun ty dc sc =>
    qeP Tryz.prog w.drew 64 64 ty 148 b ((i+m)*5) (n+m-(i+m)) dc ⟨b,i*5,none⟩ (n+m-i) sc 5 cur 148 (cs.drop (i*5)) Tryz.underlying64 qts hb
      (by rw[hdl];simp only[Nat.min_def];split<;>omega)
      (fun j v hj=>by
        have hb':w.drew.heap[b]?=some (.cells cur 148 (0,0)):=hb;rw[List.getElem?_drop,←hpre,List.getElem?_take] at hj;split at hj
        · rw[Addr.add_lit,qnk hb'];exact hj
        · cases hj)
      (by rw[hdl,hcur];omega) (fun v hv=>h1c v (List.mem_of_mem_drop hv))
  obtain⟨cur1,hcur1⟩:∃cur1,cur1=(cur.toList.take ((i+m)*5)++cs.drop (i*5)++cur.toList.drop ((i+m)*5+(cs.drop (i*5)).length)).toArray:=⟨_,rfl⟩;have hs1:cur1.size=c*5:=by
    rw[hcur1];simp only[List.size_toArray,List.length_append,List.length_take,List.length_drop,hcl,hcs];omega
  rw[←hcur1] at hcp1;have hb1:(w.drew.setRow b cur1).heap[b]?=some (.cells cur1 148 (0,0)):=setRow_heap w.drew b cur cur1 148 (0,0) hb
  have hv1:(w.drew.setRow b cur1).heap[vb]?=some (.cells vcur 148 (0,0)):=by rw[setRow_other w.drew b vb cur1 hvb];exact hv
  have hcp2:∀ty dc,(Builtin.copy_ #[64,64] ty #[.slice (some ⟨b,i*5,none⟩) (n+m-i) dc,.slice (some ⟨vb,0,none⟩) m vc]).run Tryz.prog (w.drew.setRow b cur1) =
      .ok (goInt (Nat.min m (n+m-i))) (w.drew.setRow b (cur1.toList.take (i*5)++vs++cur1.toList.drop (i*5+vs.length)).toArray):=fun ty dc=>by
    have:=qeP Tryz.prog (w.drew.setRow b cur1) 64 64 ty 148 b (i*5) (n+m-i) dc ⟨vb,0,none⟩ m vc 5 cur1 148 vs Tryz.underlying64 qts hb1
      (by rw[hvl];simp only[Nat.min_def];split<;>omega)
      (fun j v hj=>by
        rw[←hvs,List.getElem?_take] at hj;split at hj
        · rw[Addr.add_lit,qnk hv1,Nat.zero_add];exact hj
        · cases hj)
      (by rw[hvl,hs1];omega) h1v
    rw[this,setRow_setRow]
  have hfin:∃cur',w.drew.setRow b (cur1.toList.take (i*5)++vs++cur1.toList.drop (i*5+vs.length)).toArray=w.drew.setRow b cur'∧cur'.size=c*5∧cur'.toList.take ((n+m)*5)=cs.take (i*5)++(vs++cs.drop (i*5)):=by
    refine⟨_,rfl,?_,?_⟩
    · simp only[List.size_toArray,List.length_append,List.length_take,List.length_drop,Array.length_toList,hs1,hvl];omega
    · rcases ins_list cur.toList cs vs (i*5) (m*5) (n*5) (by omega) hcs hvl hpre with h | h
      · rw[Nat.add_mul,←h,hcur1,Nat.add_mul]
      · rw[hcl] at h;omega
  have mixed:=mixed
  have hw1:IntKind.i64.wrap ((i:Int)+(m:Int))=(i:Int)+(m:Int):=by rw[IntKind.wrap_i64];omega
  have hq1:(0:Int)≤(i:Int)+(m:Int):=by omega
  have hin:i≤n:=by omega
  have htn:((i:Int)+(m:Int)).toNat=i+m:=by omega
  have hq2:¬(c=i+m):=by omega
  have hq3:(i:Int)≤(n:Int)+(m:Int):=by omega
  have hq4:¬(c=i):=by omega
  clear hcur1 hcl hvcl hs1 hb1 hv1 hdl hcs hpre hvl hvs h1c h1v hcur hb hv
  go_enter Tryz.func124,Tryz.ntmps124
  go_wp2_with (simp only[hov])
  go_region_law_o (refine step_copy_runI rfl _ _ 64 64 rfl _ _ (by simp[Act.eval,Act.put]) (by simp[Act.eval,Act.put]) (hcp1 _ _ _) ?_)
  go_wp2_with (at_builtin;refine wpList_copy_runI _ rfl _ _ 64 64 rfl _ _ rfl rfl (hcp2 _ _) ?_)
  go_ret
  rw[List.append_assoc] at hfin;exact⟨rfl,hfin⟩
set_option maxHeartbeats 4000000 in
set_option maxRecDepth 100000 in
/-- at the end -/
theorem ins_end (base:Option Addr) (n c vb m vc:Nat) (w w':World) (r:Value) (hm:0<m) (hnc:n≤c) (hc63:c≤9223372036854775807) (hnil:base=none→n=0)
    (hrun:∀ty,(Builtin.append_ #[64,64] ty #[.slice base n c,.slice (some ⟨vb,0,none⟩) m vc]).run Tryz.prog w = .ok r w') :
    Calls Tryz.prog 124 #[.slice base n c,.int .i64 n,.slice (some ⟨vb,0,none⟩) m vc] w fun e w2=>e = .returned r∧w2=w':=by
  have hz1:¬((m:Int)=0):=by omega
  have mixed:=mixed
  go_enter Tryz.func124,Tryz.ntmps124
  cases base with
  | none =>
    have h0:=hnil rfl;subst h0
    go_wp2_with (at_builtin;refine Lib.wpList_append_run _ rfl _ _ _ _ rfl _ _ rfl rfl _ _ (hrun _) ?_)
    go_ret
    exact⟨rfl,rfl⟩
  | some a =>
    obtain⟨ab,ao,asp⟩:=a
    go_wp2_with (at_builtin;refine Lib.wpList_append_run _ rfl _ _ _ _ rfl _ _ rfl rfl _ _ (hrun _) ?_)
    all_goals (go_ret;exact⟨rfl,rfl⟩)
set_option maxHeartbeats 4000000 in
set_option maxRecDepth 100000 in
/-- no room, ahead of the end -/
theorem ins_grow (b n c i vb m vc:Nat) (cs vs:List Value) (cur vcur:Array Value) (w:World) (hi:i<n) (hm:0<m) (hnc:n≤c) (hroom:c<n+m) (hc63:c≤9223372036854775807) (hbig:(n+m)*40≤140737488355328)
    (hb:w.heap[b]?=some (.cells cur 148 (0,0))) (hcur:cur.size=c*5) (hcs:cs.length=n*5) (hpre:cur.toList.take (n*5)=cs)
    (hv:w.heap[vb]?=some (.cells vcur 148 (0,0))) (hvl:vs.length=m*5) (hvs:vcur.toList.take (m*5)=vs) (h1c:∀v∈cs,v.oneCell'=true) (h1v:∀v∈vs,v.oneCell'=true) :
    Calls Tryz.prog 124 #[.slice (some ⟨b,0,none⟩) n c,.int .i64 i,.slice (some ⟨vb,0,none⟩) m vc] w fun e w' =>
      ∃G cur',e = .returned (.slice (some ⟨w.heap.size,0,none⟩) (n+m) G)∧n+m≤G∧G≤maxLen∧Go.Eng.Chg [] w w'∧w'.heap[w.heap.size]?=some (.cells cur' 148 (0,0))∧cur'.size=G*5∧cur'.toList.take ((n+m)*5)=cs.take (i*5)++(vs++cs.drop (i*5)):=by
  obtain⟨i0,z0,hi0,hz0,hzs,hzb,hzc⟩:=insZero
  have hz1:¬((m:Int)=0):=by omega
  have hz2:¬((i:Int)=(n:Int)):=by omega
  have hz3:(c:Int)<(n:Int)+(m:Int):=by omega
  have hbw:b<w.heap.size:=(Array.getElem?_eq_some_iff.1 hb).1;have hvw:vb<w.heap.size:=(Array.getElem?_eq_some_iff.1 hv).1
  have hkk:(n:Int)+(m:Int)-(i:Int)=((n+m-i:Nat):Int):=by omega
  have hik:i+(n+m-i)=n+m:=by omega
  have htl:(cs.take (i*5)).length=i*5:=by rw[List.length_take,hcs];omega
  have hdl:(cs.drop (i*5)).length=(n-i)*5:=by rw[List.length_drop,hcs];omega
  have hold:(Builtin.firstCells i0.size i (.slice (some ⟨b,0,none⟩) i c)).run Tryz.prog w.drew = .ok (cs.take (i*5)).toArray w.drew:=by
    rw[hzs];refine run_firstCells_some w.drew 5 i ⟨b,0,none⟩ i c (cs.take (i*5)) htl (fun j v hj=>?_);have hb':w.drew.heap[b]?=some (.cells cur 148 (0,0)):=hb;rw[Addr.add_lit,qnk hb',Nat.zero_add];rw[List.getElem?_take] at hj;split at hj
    · rw[←hpre,List.getElem?_take] at hj;split at hj
      · exact hj
      · cases hj
    · cases hj
  have hrz:∀ty,(Builtin.append_ #[64,3] ty #[.slice (some ⟨b,0,none⟩) i c,.int .i64 ((n:Int)+(m:Int)-(i:Int))]).run Tryz.prog w =
      .ok (.slice (some ⟨w.heap.size,0,none⟩) (n+m) (grownCap w (n+m) c 148)) (w.drew.alloc (.cells ((cs.take (i*5)).toArray++Builtin.zeroCells z0.cells (n+m-i)++Builtin.zeroCells z0.cells (grownCap w (n+m) c 148-(n+m))) 148)):=fun ty=>by
    have h:=Lib.run_append_grow_zeros (P:=Tryz.prog) w 64 3 ty 148 i0 z0 .i64 .i64 Tryz.underlying64 Tryz.underlying3 hi0 hz0 (some ⟨b,0,none⟩) i c (cs.take (i*5)) hold (n+m-i) (by omega) (by omega) (by omega) (by omega) (by rw[hzb];omega) (by rw[hzb,hik];exact growslice_fits hroom hbig);rw[hik] at h;rw[hkk];exact h
  have hGn:n+m≤grownCap w (n+m) c 148:=grownCap_ge w _ _ _;have hGm:grownCap w (n+m) c 148≤maxLen:=grownCap_le_maxLen w (n+m) c 148 (by unfold maxLen;omega);obtain⟨G,hG⟩:∃G,G=grownCap w (n+m) c 148:=⟨_,rfl⟩;rw[←hG] at hrz hGn hGm
  have hG63:G≤9223372036854775807:=by unfold maxLen at hGm;omega
  obtain⟨ROW,hROW⟩:∃ROW:Array Value,ROW=(cs.take (i*5)).toArray++Builtin.zeroCells z0.cells (n+m-i)++Builtin.zeroCells z0.cells (G-(n+m)):=⟨_,rfl⟩;rw[←hROW] at hrz;have hRs:ROW.size=G*5:=by
    rw[hROW];simp only[Array.size_append,List.size_toArray,size_zeroCells,hzc,htl,←Nat.add_mul];congr 1;omega
  have hRl:ROW.toList.length=G*5:=by rw[Array.length_toList,hRs]
  have hRt:ROW.toList.take (i*5)=cs.take (i*5):=by
    rw[hROW,Array.toList_append,Array.toList_append,List.append_assoc];simp only[List.toList_toArray];rw[List.take_append_of_le_length (by omega),List.take_of_length_le (by omega)]
  obtain⟨R1,hR1⟩:∃R1,R1=(ROW.toList.take (i*5)++vs++ROW.toList.drop (i*5+vs.length)).toArray:=⟨_,rfl⟩;have hs1:R1.size=G*5:=by
    rw[hR1];simp only[List.size_toArray,List.length_append,List.length_take,List.length_drop,hRl,hvl];omega
  obtain⟨R2,hR2⟩:∃R2,R2=(R1.toList.take ((i+m)*5)++cs.drop (i*5)++R1.toList.drop ((i+m)*5+(cs.drop (i*5)).length)).toArray:=⟨_,rfl⟩;have hs2:R2.size=G*5:=by
    rw[hR2];simp only[List.size_toArray,List.length_append,List.length_take,List.length_drop,Array.length_toList,hs1,hcs];omega
  have hfin:R2.toList.take ((n+m)*5)=cs.take (i*5)++(vs++cs.drop (i*5)):=by
    have e1:R1.toList.take ((i+m)*5)=cs.take (i*5)++vs:=by
      rw[hR1];simp only[List.toList_toArray]
      have:(ROW.toList.take (i*5)++vs).length=(i+m)*5:=by rw[hRt,List.length_append,htl,hvl,Nat.add_mul]
      rw[←this,List.take_left,hRt]
    rw[hR2];simp only[List.toList_toArray];rw[e1,List.append_assoc]
    have:(cs.take (i*5)++vs++cs.drop (i*5)).length=(n+m)*5:=by rw[List.length_append,List.length_append,htl,hvl,hdl];omega
    rw[←List.append_assoc,←this,List.take_left,List.append_assoc]
  have hcpA:∀(W:World),W.heap[w.heap.size]?=some (.cells ROW 148 (0,0))→W.heap[vb]?=some (.cells vcur 148 (0,0))→∀ty dc,(Builtin.copy_ #[64,64] ty #[.slice (some ⟨w.heap.size,i*5,none⟩) (n+m-i) dc,.slice (some ⟨vb,0,none⟩) m vc]).run Tryz.prog W =
      .ok (goInt (Nat.min m (n+m-i))) (W.setRow w.heap.size R1):=fun W h1 h2 ty dc=>by
    rw[hR1];exact qeP Tryz.prog W 64 64 ty 148 w.heap.size (i*5) (n+m-i) dc ⟨vb,0,none⟩ m vc 5 ROW 148 vs Tryz.underlying64 qts h1
      (by rw[hvl];simp only[Nat.min_def];split<;>omega)
      (fun j v hj=>by
        rw[←hvs,List.getElem?_take] at hj;split at hj
        · rw[Addr.add_lit,qnk h2,Nat.zero_add];exact hj
        · cases hj)
      (by rw[hvl,hRs];omega) h1v
  have hcpB:∀(W:World),W.heap[w.heap.size]?=some (.cells R1 148 (0,0))→W.heap[b]?=some (.cells cur 148 (0,0))→∀ty dc sc,(Builtin.copy_ #[64,64] ty #[.slice (some ⟨w.heap.size,(i+m)*5,none⟩) (n+m-(i+m)) dc,.slice (some ⟨b,i*5,none⟩) (n-i) sc]).run Tryz.prog W =
      .ok (goInt (Nat.min (n-i) (n+m-(i+m)))) (W.setRow w.heap.size R2):=fun W h1 h2 ty dc sc=>by
    rw[hR2];exact qeP Tryz.prog W 64 64 ty 148 w.heap.size ((i+m)*5) (n+m-(i+m)) dc ⟨b,i*5,none⟩ (n-i) sc 5 R1 148 (cs.drop (i*5)) Tryz.underlying64 qts h1
      (by rw[hdl];simp only[Nat.min_def];split<;>omega)
      (fun j v hj=>by
        rw[List.getElem?_drop,←hpre,List.getElem?_take] at hj;split at hj
        · rw[Addr.add_lit,qnk h2];exact hj
        · cases hj)
      (by rw[hdl,hs1];omega) (fun v hv=>h1c v (List.mem_of_mem_drop hv))
  have hA1:(w.drew.alloc (.cells ROW 148)).heap[w.heap.size]?=some (.cells ROW 148 (0,0)):=heap_alloc_new w.drew _;have hA2:∀k x,w.heap[k]?=some x→(w.drew.alloc (.cells ROW 148)).heap[k]?=some x:=fun k x h=>by
    have:=qc6 w.drew (.cells ROW 148);rw[this.block k (Array.getElem?_eq_some_iff.1 h).1 (by simp)];exact h
  have hA3:=hA2 vb _ hv;have hA4:=hA2 b _ hb;obtain⟨W1,hW1⟩:∃W1,W1=((w.alloc (.cells ROW 148)).drew):=⟨_,rfl⟩;have hE:w.drew.alloc (.cells ROW 148)=(w.alloc (.cells ROW 148)).drew:=rfl;have hB1:((w.alloc (.cells ROW 148)).drew).heap[w.heap.size]?=some (.cells ROW 148 (0,0)):=hA1;have hB3:((w.alloc (.cells ROW 148)).drew).heap[vb]?=some (.cells vcur 148 (0,0)):=hA3;have hC1:((((w.alloc (.cells ROW 148)).drew).setRow w.heap.size R1).drew).heap[w.heap.size]?=some (.cells R1 148 (0,0)):=setRow_heap ((w.alloc (.cells ROW 148)).drew) w.heap.size ROW R1 148 (0,0) hB1;have hC2:((((w.alloc (.cells ROW 148)).drew).setRow w.heap.size R1).drew).heap[b]?=some (.cells cur 148 (0,0)):=(setRow_other ((w.alloc (.cells ROW 148)).drew) w.heap.size b R1 (by omega)).trans hA4
  have hD:∃G' cur',Value.slice (some ⟨w.heap.size,0,none⟩) (n+m) G = .slice (some ⟨w.heap.size,0,none⟩) (n+m) G'∧n+m≤G'∧G'≤maxLen∧Go.Eng.Chg [] w (((((w.alloc (.cells ROW 148)).drew).setRow w.heap.size R1).drew).setRow w.heap.size R2) ∧
      (((((w.alloc (.cells ROW 148)).drew).setRow w.heap.size R1).drew).setRow w.heap.size R2).heap[w.heap.size]?=some (.cells cur' 148 (0,0))∧cur'.size=G'*5∧cur'.toList.take ((n+m)*5)=cs.take (i*5)++(vs++cs.drop (i*5)):=by
    refine⟨G,R2,rfl,hGn,hGm,?_,setRow_heap _ w.heap.size R1 R2 148 (0,0) hC1,hs2,hfin⟩;have hch:=qc6 w.drew (.cells ROW 148);refine⟨rfl,rfl,rfl,?_,fun k hk _=>?_,fun _=>?_⟩
    · simp[World.setRow]
    · rw[setRow_other _ w.heap.size k R2 (by omega)];exact(setRow_other ((w.alloc (.cells ROW 148)).drew) w.heap.size k R1 (by omega)).trans (hch.block k hk (by simp))
    · show w.drawn≤w.drawn+1+1;omega
  have mixed:=mixed
  have hGi:¬(G=i):=by omega
  have hGim:¬(G=i+m):=by omega
  have hci:¬(c=i):=by omega
  have hw1:IntKind.i64.wrap ((i:Int)+(m:Int))=(i:Int)+(m:Int):=by rw[IntKind.wrap_i64];omega
  have hq1:(0:Int)≤(i:Int)+(m:Int):=by omega
  have hin:i≤n:=by omega
  have htn:((i:Int)+(m:Int)).toNat=i+m:=by omega
  have hq3:(i:Int)≤(n:Int):=by omega
  clear hkk hik hold hROW hG hRl hR1 hR2 hRs hRt hdl htl hcs hpre hvl hvs h1c h1v hcur hb hv hA2 hz0 hi0 hzs hzb hzc hs1;have hcpA1:=hcpA _ hB1 hB3;have hcpB1:=hcpB _ hC1 hC2;clear hcpA hcpB hA1 hA3 hA4 hB1 hB3 hC1 hC2 hE hW1
  go_enter Tryz.func124,Tryz.ntmps124
  go_wp2_with (at_builtin;refine Lib.wpList_append_run _ rfl _ _ _ _ rfl _ _ rfl rfl _ _ (hrz _) ?_)
  go_region_law_o (refine step_copy_runI rfl _ _ 64 64 rfl (.slice (some ⟨w.heap.size,(i+m)*5,none⟩) (n+m-(i+m)) (G-(i+m))) (.slice (some ⟨b,i*5,none⟩) (n-i) (c-i)) (by simp[Act.eval,Act.put]) (by simp[Act.eval,Act.put]) (hcpB1 3 (G-(i+m)) (c-i)) ?_)
  go_wp2
  go_ret
  obtain⟨G',cur',e1,hr⟩:=hD;exact⟨G',cur',congrArg Ending.returned e1,hr⟩
def insBook_ins:Ins:=⟨148,(.st (.int .u64) (.st (.st (.int .i64) (.st (.int .i64) (.st (.int .i64) .nil))) (.st (.int .i64) .nil))),40⟩
theorem qx9:InsOK Tryz.prog 124 insBook_ins:=by
  refine⟨fun w S v vv M Mv xs ys us vs j hown hrep hown2 hrep2 hdis hM hys hj hroom=>?_⟩;have hul:us.length=xs.length*5:=hrep.length (Rep.slen insBook_ins.e);have hvl:vs.length=ys.length*5:=hrep2.length (Rep.slen insBook_ins.e);have h1u:∀u∈us,u.oneCell'=true:=RepL.all (fun x c hx=>Rep.one insBook_ins.e hx) hrep;have h1v:∀u∈vs,u.oneCell'=true:=RepL.all (fun x c hx=>Rep.one insBook_ins.e hx) hrep2;have hsz:insBook_ins.e.size=5:=rfl;have hroom':(xs.length+ys.length)*40≤140737488355328:=hroom;rcases hown2 with ⟨_,_,h0,_⟩ | ⟨vb,vc,vcur,rfl,rfl,hvr,hv1,hv2,hv3,hv4⟩
  · omega
  have hvh:=hvr.plain (show memN 148 Ctx.bytes=false from rfl);have hcellv:CellsAt w ⟨vb,0,none⟩ vs:=by
    have:=CellsAt.take (hvr.blk 0) (ys.length*5);rw[List.drop_zero] at this;rw[hsz] at hv4;rw[hv4] at this;exact this
  have hne:ys≠[]→∃ad,(some (⟨vb,0,none⟩:Addr))=some ad∧CellsAt w ad vs:=fun _=>⟨_,rfl,hcellv⟩;obtain⟨i0,z0,hi0,hz0,hzs,hzb,hzc⟩:=insZero;have happ:∃v' w' M',(∀ty,(Builtin.append_ #[64,64] ty #[v,.slice (some ⟨vb,0,none⟩) ys.length vc]).run Tryz.prog w = .ok v' w')∧OwnR w' 148 5 v' M' (xs.length+ys.length) (us++vs)∧Chg M w w'∧(M'=M∨M'=[w.heap.size]∧w.heap.size<w'.heap.size):=by
    have key:=fun ty=>qoa (P:=Tryz.prog) (S:=S) (t:=64) (ty:=ty) (τ:=insBook_ins.e) (ys:=ys) Tryz.underlying64 hi0 hz0 hzs hzc hown hul hrep2 (cap:=vc) hne (by rw[hzb];exact hroom') (by omega);obtain⟨v',w',M',h1,h2⟩:=key 0;refine⟨v',w',M',fun ty=>?_,h2⟩;obtain⟨v2,w2,M2,h3,_⟩:=key ty;have:(Builtin.append_ #[64,64] ty #[v,.slice (some ⟨vb,0,none⟩) ys.length vc])=(Builtin.append_ #[64,64] 0 #[v,.slice (some ⟨vb,0,none⟩) ys.length vc]):=rfl;rw[this];exact h1
  by_cases hjn:j=xs.length
  · subst hjn;obtain⟨v',w',M',hrun,hown',hch,hM'⟩:=happ;have hlist:us.take (xs.length*insBook_ins.e.size)++(vs++us.drop (xs.length*insBook_ins.e.size))=us++vs:=by
      rw[hsz,List.take_of_length_le (by omega),List.drop_of_length_le (by omega),List.append_nil]
    rcases hown with ⟨hM0,⟨ao,rfl⟩,hn0,hu0⟩ | ⟨b,cap,cur,hM0,rfl,hh,h4,h5,h6,h7⟩
    · obtain rfl:xs=[]:=List.length_eq_zero_iff.1 hn0;refine(ins_end ao 0 0 vb ys.length vc w w' v' hys (by omega) (by omega) (fun _=>rfl) hrun).mono ?_
      rintro e w2 ⟨rfl,rfl⟩
      exact⟨v',M',rfl,hch,hM',by rw[hlist];exact hown'⟩
    · refine(ins_end (some ⟨b,0,none⟩) xs.length cap vb ys.length vc w w' v' hys h4 (by unfold maxLen at h5;omega) (fun h=>by cases h) hrun).mono ?_
      rintro e w2 ⟨rfl,rfl⟩
      exact⟨v',M',rfl,hch,hM',by rw[hlist];exact hown'⟩
  · have hjl:j<xs.length:=by omega
    rcases hown with ⟨_,_,hn0,_⟩ | ⟨b,cap,cur,hM0,rfl,hh,h4,h5,h6,h7⟩
    · omega
    have hbh:=hh.plain (show memN 148 Ctx.bytes=false from rfl);have hvb:vb≠b:=fun e=>hdis b (by simp[hM0]) (by simp[e])
    have hc63:cap≤9223372036854775807:=by unfold maxLen at h5;omega
    by_cases hfit:xs.length+ys.length≤cap
    · refine(ins_shift b xs.length cap j vb ys.length vc us vs cur vcur w hjl hys hfit hc63 hvb hbh h6 hul h7 hvh hvl hv4 h1u h1v).mono ?_
      rintro e w2 ⟨rfl,cur',rfl,hs,ht⟩
      refine⟨_,M,rfl,?_,.inl rfl,.inr ⟨b,cap,cur',hM0,rfl,?_,hfit,h5,hs,ht⟩⟩
      · rw[hM0];have h1:Go.Eng.Chg [b] w w.drew:=(Chg.drewN w 1).mono (by simp);have h2:Go.Eng.Chg [b] w.drew (w.drew.setRow b cur'):=qg7;exact⟨h2.os.trans h1.os,h2.tape.trans h1.tape,h2.output.trans h1.output,Nat.le_trans h1.size h2.size,fun k hk hn=>(h2.block k (Nat.lt_of_lt_of_le hk h1.size) hn).trans (h1.block k hk hn),fun e=>Nat.le_trans (h1.drawn e) (h2.drawn e)⟩
      · exact Row.of (setRow_heap w.drew b cur cur' 148 (0,0) hbh)
    · refine(ins_grow b xs.length cap j vb ys.length vc us vs cur vcur w hjl hys h4 (by omega) hc63 hroom' hbh h6 hul h7 hvh hvl hv4 h1u h1v).mono ?_
      rintro e w2 ⟨G,cur',rfl,hG1,hG2,hch,hheap,hs,ht⟩
      exact⟨_,[w.heap.size],rfl,hch.mono (by simp),.inr ⟨rfl,(Array.getElem?_eq_some_iff.1 hheap).1⟩,.inr ⟨w.heap.size,G,cur',rfl,rfl,Row.of hheap,hG1,hG2,hs,ht⟩⟩
end Go.Proofs.YtijkabgijfdpfaaGreatDoor
