/- Several texts in one: Base, MSortC, Jtx, FmtW. -/
import Derived.Test.YtlfpfiplndkofaaGreatDoorProg
import Derived.Test.YtlfpfiplndkofaaGreatDoorMAD
import Derived.Test.YtlfpfiplndkofaaGreatDoorMAA
import Derived.Test.YtlfpfiplndkofaaGreatDoorMAE
import Derived.Shelf.GgClosure.StringsIndexFuncTop
import Derived.TacticsInMore
import Derived.WalkKit
import Derived.WalkSmall
import Derived.Shelf.LaysM
import Derived.Lib.Walk
import Derived.Lib.ItoaWalk
import Derived.Lib.ItoaMem
import Derived.Lib.OwnBridge
import Derived.RegionTactic
import Derived.BigCall
import Derived.BigGuard
import Derived.CellFam
import Derived.Shelf.Spec.TrailingZeros
namespace Go.Proofs.YtlfpfiplndkofaaGreatDoor
theorem mixed:Tryz.prog.follows .mixedOrders=true:=by kernel_rfl
end Go.Proofs.YtlfpfiplndkofaaGreatDoor
namespace Go.Proofs.YtlfpfiplndkofaaGreatDoor
open Go.Den
set_option linter.unusedVariables false
set_option maxRecDepth 100000
def qip:Ann := .nil
noncomputable def cmpIsNaN_int_con:Con:=⟨[Zt59],true,[],.bool,fun x=>qha x.1,some fun x=>qax x.1⟩
noncomputable def qiN:Env:=[]
theorem qor (x:DL cmpIsNaN_int_con.ps):cmpIsNaN_int_con.φ x=denF (CT:=ctxUp) Tryz.prog qiN qip Tryz.f243 cmpIsNaN_int_con.ps cmpIsNaN_int_con.one cmpIsNaN_int_con.res cmpIsNaN_int_con.ρ x:=by kernel_rfl
theorem qpo:ConOK (CT:=ctxUp) Tryz.prog 243 cmpIsNaN_int_con :=
  qa (CT:=ctxUp) (env:=qiN) ((EnvOK.nil (CT:=ctxUp) _)) mixed Tryz.func243 cmpIsNaN_int_con qip (by kernel_rfl) (fun h=>by first | rfl | cases h) (fun g hg x=>by
    cases hg
    exact qpS _) qor
def qgk:Ann := .nil
noncomputable def cmpCompare_int_con:Con:=⟨[Zt59,Zt59],true,[],Zt59,fun x=>qeX x.1 x.2.1,some fun x=>qaz x.1 x.2.1⟩
noncomputable def qgL:Env:=(243,.con cmpIsNaN_int_con)::[]
theorem qmb (x:DL cmpCompare_int_con.ps):cmpCompare_int_con.φ x=denF (CT:=ctxUp) Tryz.prog qgL qgk Tryz.f211 cmpCompare_int_con.ps cmpCompare_int_con.one cmpCompare_int_con.res cmpCompare_int_con.ρ x:=by kernel_rfl
theorem qm7:ConOK (CT:=ctxUp) Tryz.prog 211 cmpCompare_int_con :=
  qa (CT:=ctxUp) (env:=qgL) ((EnvOK.cons (CT:=ctxUp) (EnvOK.nil (CT:=ctxUp) _) qpo)) mixed Tryz.func211 cmpCompare_int_con qgk (by kernel_rfl) (fun h=>by first | rfl | cases h) (fun g hg x=>by
    cases hg
    exact qoe _ _) qmb
def qmn:Ann:=(.two .nil (.two .nil (.two (.two .nil (.joinE ⟨[3],[],[]⟩ (.two (.loop ⟨[3,6,7],[(8,Zt59)],[]⟩ .nil) .nil))) .nil)))
noncomputable def cmpOr_int_con:Con:=⟨[Zt57],true,[],Zt59,fun x=>qnk x.1,none⟩
noncomputable def qmt:Env:=[]
theorem qru (x:DL cmpOr_int_con.ps):cmpOr_int_con.φ x=denF (CT:=ctxUp) Tryz.prog qmt qmn Tryz.f210 cmpOr_int_con.ps cmpOr_int_con.one cmpOr_int_con.res cmpOr_int_con.ρ x:=by kernel_rfl
theorem qs4:ConOK (CT:=ctxUp) Tryz.prog 210 cmpOr_int_con :=
  qa (CT:=ctxUp) (env:=qmt) ((EnvOK.nil (CT:=ctxUp) _)) mixed Tryz.func210 cmpOr_int_con qmn (by kernel_rfl) (fun h=>by first | rfl | cases h) (fun g hg=>by cases hg) qru
def qoX:Ann:=(.two .nil (.two (.tail 15 .nil) .nil))
noncomputable def movesCmp_con:Con:=⟨[Zt47,Zt47],true,[],Zt59,fun x=>qtj x.1 x.2.1,none⟩
noncomputable def qoT:Env:=(210,.con cmpOr_int_con)::(211,.con cmpCompare_int_con)::[]
theorem qu2 (x:DL movesCmp_con.ps):movesCmp_con.φ x=denF (CT:=ctxUp) Tryz.prog qoT qoX Tryz.f209 movesCmp_con.ps movesCmp_con.one movesCmp_con.res movesCmp_con.ρ x:=by kernel_rfl
theorem qv1:ConOK (CT:=ctxUp) Tryz.prog 209 movesCmp_con :=
  qa (CT:=ctxUp) (env:=qoT) ((EnvOK.cons (CT:=ctxUp) (EnvOK.cons (CT:=ctxUp) (EnvOK.nil (CT:=ctxUp) _) qm7) qs4)) mixed Tryz.func209 movesCmp_con qoX (by kernel_rfl) (fun h=>by first | rfl | cases h) (fun g hg=>by cases hg) qu2
def qvd:Go.Shelf.Ren:=⟨fun | 6=>208 | 15=>242 | 14=>241 | 28=>264 | 29=>156 | 20=>256 | 21=>257 | 22=>258 | 23=>259 | 24=>260 | 25=>261 | 26=>262 | 27=>263 | 46=>269 | 47=>270 | 48=>271 | 49=>272 | 50=>273 | 57=>275 | n=>n,fun | 22=>55 | 24=>48 | 25=>280 | 3=>3 | 39=>150 | 0=>0 | 53=>191 | 55=>44 | 4=>4 | 46=>320 | 45=>319 | 50=>106 | 5=>5 | 9=>9 | 66=>328 | 70=>332 | 76=>336 | 77=>337 | n=>n,fun | n=>n⟩
theorem msort_lay:SlLaysF0.n6 Tryz.prog qvd where
  mixed:=by kernel_rfl
  f6:=⟨Tryz.f208.name,by decide,Tryz.func208.trans (congrArg some (by kernel_rfl))⟩
  f14:=⟨Tryz.f241.name,by decide,Tryz.func241.trans (congrArg some (by kernel_rfl))⟩
  f15:=Tryz.func242.trans (congrArg some (by kernel_rfl))
  f20:=⟨Tryz.f256.name,by decide,Tryz.func256.trans (congrArg some (by kernel_rfl))⟩
  f21:=⟨Tryz.f257.name,by decide,Tryz.func257.trans (congrArg some (by kernel_rfl))⟩
  f22:=⟨Tryz.f258.name,by decide,Tryz.func258.trans (congrArg some (by kernel_rfl))⟩
  f23:=⟨Tryz.f259.name,by decide,Tryz.func259.trans (congrArg some (by kernel_rfl))⟩
  f24:=⟨Tryz.f260.name,by decide,Tryz.func260.trans (congrArg some (by kernel_rfl))⟩
  f25:=⟨Tryz.f261.name,by decide,Tryz.func261.trans (congrArg some (by kernel_rfl))⟩
  f26:=⟨Tryz.f262.name,by decide,Tryz.func262.trans (congrArg some (by kernel_rfl))⟩
  f27:=⟨Tryz.f263.name,by decide,Tryz.func263.trans (congrArg some (by kernel_rfl))⟩
  f28:=Tryz.func264.trans (congrArg some (by kernel_rfl))
  f29:=Tryz.func156.trans (congrArg some (by kernel_rfl))
  f46:=⟨Tryz.f269.name,by decide,Tryz.func269.trans (congrArg some (by kernel_rfl))⟩
  f47:=Tryz.func270.trans (congrArg some (by kernel_rfl))
  f48:=Tryz.func271.trans (congrArg some (by kernel_rfl))
  f49:=⟨Tryz.f272.name,by decide,Tryz.func272.trans (congrArg some (by kernel_rfl))⟩
  f50:=⟨Tryz.f273.name,by decide,Tryz.func273.trans (congrArg some (by kernel_rfl))⟩
  f57:=⟨Tryz.f275.name,by decide,Tryz.func275.trans (congrArg some (by kernel_rfl))⟩
  t0:=Tryz.underlying0
  a0:=Tryz.isAgg0
  z0:=Tryz.sizeOf0
  v0:=Tryz.zeroValue0
  t3:=Tryz.underlying3
  a3:=Tryz.isAgg3
  z3:=Tryz.sizeOf3
  v3:=Tryz.zeroValue3
  t4:=Tryz.underlying4
  a4:=Tryz.isAgg4
  z4:=Tryz.sizeOf4
  v4:=Tryz.zeroValue4
  t5:=Tryz.underlying5
  a5:=Tryz.isAgg5
  z5:=Tryz.sizeOf5
  v5:=Tryz.zeroValue5
  t9:=Tryz.underlying9
  a9:=Tryz.isAgg9
  z9:=Tryz.sizeOf9
  v9:=Tryz.zeroValue9
  t22:=Tryz.underlying55
  a22:=Tryz.isAgg55
  z22:=Tryz.sizeOf55
  v22:=Tryz.zeroValue55
  t25:=Tryz.underlying280
  a25:=Tryz.isAgg280
  z25:=Tryz.sizeOf280
  v25:=Tryz.zeroValue280
  t39:=Tryz.underlying150
  a39:=Tryz.isAgg150
  z39:=Tryz.sizeOf150
  v39:=Tryz.zeroValue150
  t45:=Tryz.underlying319
  a45:=Tryz.isAgg319
  z45:=Tryz.sizeOf319
  v45:=Tryz.zeroValue319
  t46:=Tryz.underlying320
  a46:=Tryz.isAgg320
  z46:=Tryz.sizeOf320
  v46:=Tryz.zeroValue320
  t50:=Tryz.underlying106
  a50:=Tryz.isAgg106
  z50:=Tryz.sizeOf106
  v50:=Tryz.zeroValue106
  t53:=Tryz.underlying191
  a53:=Tryz.isAgg191
  z53:=Tryz.sizeOf191
  v53:=Tryz.zeroValue191
  t55:=Tryz.underlying44
  a55:=Tryz.isAgg44
  z55:=Tryz.sizeOf44
  v55:=Tryz.zeroValue44
  t66:=Tryz.underlying328
  a66:=Tryz.isAgg328
  z66:=Tryz.sizeOf328
  v66:=Tryz.zeroValue328
  t70:=Tryz.underlying332
  a70:=Tryz.isAgg332
  z70:=Tryz.sizeOf332
  v70:=Tryz.zeroValue332
  t76:=Tryz.underlying336
  a76:=Tryz.isAgg336
  z76:=Tryz.sizeOf336
  v76:=Tryz.zeroValue336
  t77:=Tryz.underlying337
  a77:=Tryz.isAgg337
  z77:=Tryz.sizeOf337
  v77:=Tryz.zeroValue337
open Go.Sort Go.Lib in
section
def cmp3 (a b:Int):Int:=if a<b then -1 else if b<a then 1 else 0
theorem qwO (a b:Int):qaz a b=cmp3 a b:=by
  unfold qaz qax cmp3
  by_cases h:a<b
  · simp[h]
  · by_cases h2:b<a<;>simp[h,h2]
theorem qyC (a b c:Int):qnk [a,b,c]=some (if a=0 then if b=0 then c else b else a):=by
  unfold qnk
  by_cases ha:a=0
  · subst ha
    rw[qo (y:=((1,()),())) (by simp[qbk,at?,qf])]
    by_cases hb:b=0
    · subst hb
      rw[qo (y:=((2,()),())) (by simp[qbk,at?,qf])]
      by_cases hc:c=0
      · subst hc
        rw[qo (y:=((3,()),())) (by simp[qbk,at?,qf])]
        rw[qm (r := .inl ((),())) (by simp[qbk])]
        rfl
      · rw[qm (r := .inr c) (by simp[qbk,at?,bne_t hc])]
        simp
    · rw[qm (r := .inr b) (by simp[qbk,at?,bne_t hb])]
      simp[hb]
  · rw[qm (r := .inr a) (by simp[qbk,at?,bne_t ha])]
    simp[ha]
def mvCf (x y:Mv):Int:=if cmp3 x.1 y.1=0 then if cmp3 x.2.1 y.2.1=0 then cmp3 x.2.2.1 y.2.2.1 else cmp3 x.2.1 y.2.1 else cmp3 x.1 y.1
theorem qty (x y:Mv):qtj x y=some (mvCf x y):=by
  unfold qtj mvCf
  rw[qwO,qwO,qwO,qyC]
  rfl
theorem qu0 (a b:Int):cmp3 a b=0↔a=b:=by
  unfold cmp3
  split
  · constructor<;>intro h<;>omega
  · split<;>constructor<;>intro h<;>omega
theorem qwm (a b:Int):cmp3 a b<0↔a<b:=by
  unfold cmp3
  split
  · constructor<;>intro h<;>omega
  · split<;>constructor<;>intro h<;>omega
theorem qtn:ltOf mvCf=mvLt:=by
  funext x y
  unfold ltOf mvCf mvLt
  by_cases h1:x.1=y.1
  · by_cases h2:x.2.1=y.2.1
    · simp[h1,h2,(qu0 y.1 y.1).2 rfl,(qu0 y.2.1 y.2.1).2 rfl,qwm]
    · have:¬cmp3 x.2.1 y.2.1=0:=fun h=>h2 ((qu0 _ _).1 h)
      simp[h1,h2,(qu0 y.1 y.1).2 rfl,this,qwm]
  · have:¬cmp3 x.1 y.1=0:=fun h=>h1 ((qu0 _ _).1 h)
    simp[h1,this,qwm]
theorem qxu (x y:Mv):mvLt x y=true↔x.1<y.1∨x.1=y.1∧(x.2.1<y.2.1∨x.2.1=y.2.1∧x.2.2.1<y.2.2.1):=by simp[mvLt]
theorem mvLt_f (x y:Mv):mvLt x y=false↔¬(x.1<y.1∨x.1=y.1∧(x.2.1<y.2.1∨x.2.1=y.2.1∧x.2.2.1<y.2.2.1)):=by rw[←qxu,Bool.not_eq_true]
theorem mv_swo:SWO mvLt where
  irrefl x:=by rw[mvLt_f];omega
  trans x y z h1 h2:=by rw[qxu] at *;omega
  ntrans x y z h1 h2:=by rw[mvLt_f] at *;omega
theorem mv_tot (x y:Mv) (h1:mvLt x y=false) (h2:mvLt y x=false):x=y:=by
  rw[mvLt_f] at h1 h2
  obtain⟨a,b,c,⟨⟩⟩:=x
  obtain⟨a',b',c',⟨⟩⟩:=y
  simp only at h1 h2
  have e1:a=a':=by omega
  subst e1
  have e2:b=b':=by omega
  subst e2
  have e3:c=c':=by omega
  subst e3
  rfl
def qif:Srt:=⟨48,Zt47,some 209,qcg⟩
theorem qvp:SrtOK Tryz.prog 208 qif:=by
  have h:=qwa (ρ:=qvd) (g:=209) (f:=208) (τ:=Zt47) (i:=48) msort_lay rfl rfl rfl rfl Tryz.isAgg48 Tryz.sizeOf48 qv1 mvCf (fun x y=>qty x y) (show SWO (ltOf mvCf) from qtn▸mv_swo) (fun x y h1 h2=>mv_tot x y (by rw[←qtn];exact h1) (by rw[←qtn];exact h2)) (enters_of Tryz.func209 (by kernel_rfl) rfl)
  have e:(fun xs:List Mv=>xs.mergeSort fun x y=>!(ltOf mvCf) y x)=qcg:=by rw[qtn];rfl
  have:qif=⟨48,Zt47,some 209,fun xs:List Mv=>xs.mergeSort fun x y=>!(ltOf mvCf) y x⟩:=by rw[e];rfl
  rw[this]
  exact h
end
end Go.Proofs.YtlfpfiplndkofaaGreatDoor
namespace Go.Proofs.YtlfpfiplndkofaaGreatDoor
open Go Go.Proofs Go.RowKit Go.Shelf
set_option linter.unusedVariables false
set_option linter.unusedSimpArgs false
attribute [local go_sem] Oper.semAt_some
def jix_ren:Go.Shelf.Ren:=⟨fun | 15=>116 | 20=>175 | n=>n,fun | 9=>9 | 23=>206 | 3=>3 | 4=>4 | 0=>0 | 21=>21 | n=>n,fun | n=>n⟩
open Go.Shelf in
theorem jix_lay:Go.Proofs.LaysGw.n15 Tryz.prog jix_ren where
  mixed:=by kernel_rfl
  f15:=Tryz.func116.trans (congrArg some (by kernel_rfl))
  f20:=Tryz.func175.trans (congrArg some (by kernel_rfl))
  t0:=Tryz.underlying0
  a0:=Tryz.isAgg0
  z0:=Tryz.sizeOf0
  v0:=Tryz.zeroValue0
  i0:=by kernel_rfl
  t3:=Tryz.underlying3
  a3:=Tryz.isAgg3
  z3:=Tryz.sizeOf3
  v3:=Tryz.zeroValue3
  i3:=by kernel_rfl
  t4:=Tryz.underlying4
  a4:=Tryz.isAgg4
  z4:=Tryz.sizeOf4
  v4:=Tryz.zeroValue4
  i4:=by kernel_rfl
  t9:=Tryz.underlying9
  a9:=Tryz.isAgg9
  z9:=Tryz.sizeOf9
  v9:=Tryz.zeroValue9
  i9:=by kernel_rfl
  t21:=Tryz.underlying21
  a21:=Tryz.isAgg21
  z21:=Tryz.sizeOf21
  v21:=Tryz.zeroValue21
  i21:=by kernel_rfl
  t23:=Tryz.underlying206
  a23:=Tryz.isAgg206
  z23:=Tryz.sizeOf206
  v23:=Tryz.zeroValue206
  i23:=by kernel_rfl
theorem jclos (w:World):PredAt Tryz.prog 117 #[] encR qjm w:=fun W r _=>by
  unfold FnGives
  by_cases h1:r<32<;>by_cases h2:126<r
  all_goals
    have z1:(r:Int)<32↔r<32:=by omega
    have z2:(126:Int)<(r:Int)↔126<r:=by omega
    go_enter Tryz.func117,Tryz.ntmps117
    go_wp2
    all_goals first | (exfalso;omega) | (go_ret;exact⟨by simp[qjm,h1,h2],0,rfl⟩)
set_option maxHeartbeats 1000000 in
theorem qwr (s:ByteArray) (w:World):Calls Tryz.prog 65 #[.string s] w fun e w'=>e = .returned (.int .i64 (qat s))∧Below w.heap.size w w':=by
  have hC:=Any.strings_IndexFunc (P:=Tryz.prog) (ρ:=jix_ren) jix_lay 117 #[] (enters_of Tryz.func117 (by kernel_rfl) rfl) qjm s w (jclos w);change Calls Tryz.prog 116 _ _ _ at hC;obtain⟨I,hI⟩:∃I,Lib.idxFunc qjm true s=I:=⟨_,rfl⟩;unfold qat;rw[hI] at hC ⊢;by_cases h1:200<s.size
  · have z1:(200:Int)<(s.size:Int):=by omega
    rw[if_pos h1]
    go_enter Tryz.func65,Tryz.ntmps65
    go_wp2
    all_goals first | (exfalso;omega) | (go_ret;exact⟨rfl,Below.refl _ _⟩)
  · have z1:¬(200:Int)<(s.size:Int):=by omega
    rw[if_neg h1];by_cases h2:0≤I
    · rw[if_pos h2]
      go_enter Tryz.func65,Tryz.ntmps65
      go_wp2_with (go_at_call 116;refine hC.mono ?_;rintro e w' ⟨rfl,hb⟩)
      all_goals first | (exfalso;omega) | (go_ret;exact⟨rfl,hb⟩)
    · rw[if_neg h2]
      go_enter Tryz.func65,Tryz.ntmps65
      go_wp2_with (go_at_call 116;refine hC.mono ?_;rintro e w' ⟨rfl,hb⟩)
      all_goals first | (exfalso;omega) | (go_ret;exact⟨rfl,hb⟩)
end Go.Proofs.YtlfpfiplndkofaaGreatDoor
namespace Go.Proofs.YtlfpfiplndkofaaGreatDoor
open Go Go.Proofs Go.RowKit Go.Shelf Go.Sort Go.Lib
set_option linter.unusedVariables false
set_option linter.unusedSimpArgs false
attribute [local go_sem] Oper.semAt_some
def tz_ren:Go.Shelf.Ren:=⟨fun | 29=>214 | n=>n,fun | 22=>44 | 3=>3 | 4=>4 | 25=>150 | 54=>302 | 0=>0 | 5=>5 | n=>n,fun | 1=>5 | n=>n⟩
open Go.Shelf in
theorem tz_lay:Go.Proofs.Lays7.n29 Tryz.prog tz_ren where
  mixed:=by kernel_rfl
  f29:=Tryz.func214.trans (congrArg some (by kernel_rfl))
  t0:=Tryz.underlying0
  a0:=Tryz.isAgg0
  z0:=Tryz.sizeOf0
  v0:=Tryz.zeroValue0
  i0:=by kernel_rfl
  t3:=Tryz.underlying3
  a3:=Tryz.isAgg3
  z3:=Tryz.sizeOf3
  v3:=Tryz.zeroValue3
  i3:=by kernel_rfl
  t4:=Tryz.underlying4
  a4:=Tryz.isAgg4
  z4:=Tryz.sizeOf4
  v4:=Tryz.zeroValue4
  i4:=by kernel_rfl
  t5:=Tryz.underlying5
  a5:=Tryz.isAgg5
  z5:=Tryz.sizeOf5
  v5:=Tryz.zeroValue5
  i5:=by kernel_rfl
  t22:=Tryz.underlying44
  a22:=Tryz.isAgg44
  z22:=Tryz.sizeOf44
  v22:=Tryz.zeroValue44
  i22:=by kernel_rfl
  t25:=Tryz.underlying150
  a25:=Tryz.isAgg150
  z25:=Tryz.sizeOf150
  v25:=Tryz.zeroValue150
  i25:=by kernel_rfl
  t54:=Tryz.underlying302
  a54:=Tryz.isAgg302
  z54:=Tryz.sizeOf302
  g1:=by kernel_rfl
theorem isP2 (w:World):Calls Tryz.prog 158 #[.int .i64 16] w fun e w'=>e = .returned (.bool true)∧w'=w:=by
  go_enter Tryz.func158,Tryz.ntmps158
  go_wp2
  go_ret
  exact⟨rfl,rfl⟩
theorem tz16 (w:World) (hT:TabAt 5 Lib.deBruijn64tab w):Calls Tryz.prog 159 #[.int .u64 16] w fun e w'=>e = .returned (.int .i64 4)∧w'=w:=by
  have hC:∀w,TabAt 5 Lib.deBruijn64tab w→Calls Tryz.prog 214 #[.int .u64 ((16:Nat):Int)] w fun e w'=>e = .returned (.int .i64 (Lib.ctz 64 16))∧w'=w:=fun w hT=>Any7.bits_TrailingZeros64 (P:=Tryz.prog) (ρ:=tz_ren) tz_lay 16 (by decide) w (fun _=>hT)
  go_enter Tryz.func159,Tryz.ntmps159
  go_wp2_with (go_at_call 214;refine(hC _ hT).mono ?_;rintro e w' ⟨rfl,rfl⟩)
  go_ret
  exact⟨rfl,rfl⟩
def digs:ByteArray:=ByteArray.mk #[48,49,50,51,52,53,54,55,56,57,97,98,99,100,101,102,103,104,105,106,107,108,109,110,111,112,113,114,115,116,117,118,119,120,121,122]
theorem digs_at:∀i,i<16→digs.data.toList[i]?=some (qdo i):=by decide
theorem quy:digs.size=36:=rfl
theorem qxz (i:Nat) (h:i<digs.size) (h':i<16):digs[i]=qdo i:=by
  have:=digs_at i h';have e:digs.data.toList[i]?=some digs[i]:=by
    rw[List.getElem?_eq_getElem (by simpa using h)];rfl
  rw[e] at this;exact Option.some.inj this
structure HexInv (u k v:Nat) (dk:Array UInt8):Prop where
  size:dk.size=65
  rest:v=u / 16 ^ k
  le:k≤15
  dig:∀t,t<k→dk[64-t]! = qdo (u / 16 ^ t % 16)
  big:∀t,t<k→16≤u / 16 ^ t
abbrev encB (b:UInt8):Value:=Value.int .u8 (b.toNat:Int)
theorem HexInv.step {u k v:Nat} {dk:Array UInt8} (hu:u<18446744073709551616) (h:HexInv u k v dk) (hv:16≤v):HexInv u (k+1) (v / 16) (dk.setIfInBounds (64-k) (qdo (v % 16))):=by
  have hr:=h.rest;have hk:k+1≤15:=by
    rcases Nat.lt_or_ge k 15 with c | c
    · omega
    · exfalso
      have:k=15:=by have:=h.le;omega
      subst this;have:u / 16 ^ 15<16:=by
        rw[Nat.div_lt_iff_lt_mul (by decide)];omega
      omega
  refine⟨by rw[Array.size_setIfInBounds];exact h.size,by rw[hr,Nat.div_div_eq_div_mul,Nat.pow_succ],hk,fun t ht=>?_,fun t ht=>?_⟩
  · by_cases e:t=k
    · subst e;rw[getElem!_set_same _ _ _ (by rw[h.size];omega),hr]
    · rw[getElem!_set_other _ _ _ _ (by omega)];exact h.dig t (by omega)
  · by_cases e:t=k
    · subst e;omega
    · exact h.big t (by omega)
theorem qw3:∀(k f u:Nat),k<f→(∀t,t<k→16≤u / 16 ^ t)→u / 16 ^ k<16→(hexR f u).length=k+1∧∀t,t≤k→(hexR f u)[t]?=some (qdo (u / 16 ^ t % 16))
  | 0,f+1,u,_,_,hv=>by
    rw[Nat.pow_zero,Nat.div_one] at hv;refine⟨by simp[hexR,hv],fun t ht=>?_⟩
    obtain rfl:t=0:=by omega
    simp[hexR,hv]
  | k+1,0,_,h,_,_=>absurd h (by omega)
  | k+1,f+1,u,h,hb,hv=>by
    have h0:16≤u:=by have:=hb 0 (by omega);rwa [Nat.pow_zero,Nat.div_one] at this
    obtain⟨e,hi⟩:=qw3 k f (u / 16) (by omega) (fun t ht=>by
      rw[Nat.div_div_eq_div_mul,Nat.mul_comm,←Nat.pow_succ]
      exact hb (t+1) (by omega)) (by rwa [Nat.div_div_eq_div_mul,Nat.mul_comm,←Nat.pow_succ])
    refine⟨by simp[hexR,Nat.not_lt.2 h0,e],fun t ht=>?_⟩
    cases t with
    | zero=>simp[hexR]
    | succ t =>
      have:=hi t (by omega);rw[Nat.div_div_eq_div_mul,Nat.mul_comm,←Nat.pow_succ] at this;simpa[hexR,Nat.not_lt.2 h0] using this
theorem HexInv.last {u k v:Nat} {dk:Array UInt8} (hu:u<18446744073709551616) (h:HexInv u k v dk) (hv:v<16):(dk.setIfInBounds (64-k) (qdo v)).size=65∧(∀j,j<k+1→(hexR 16 u).reverse[j]?=some (dk.setIfInBounds (64-k) (qdo v))[64-k+j]!)∧(hexR 16 u).length=k+1:=by
  have hle:=h.le;obtain⟨hn,hi⟩:=qw3 k 16 u (by omega) h.big (by rw[←h.rest];exact hv);refine⟨by rw[Array.size_setIfInBounds];exact h.size,fun j hj=>?_,hn⟩;rw[List.getElem?_reverse (by omega),hn,hi _ (by omega)];congr 1;by_cases e:j=0
  · subst e;rw[show 64-k+0=64-k by omega,getElem!_set_same _ _ _ (by rw[h.size];omega),show k+1-1-0=k by omega,←h.rest,Nat.mod_eq_of_lt hv]
  · rw[getElem!_set_other _ _ _ _ (by omega),show 64-k+j=64-(k-j) by omega,h.dig _ (by omega),show k+1-1-j=k-j by omega]
theorem tab_new {w:World} {o:Obj} (hG:5<w.heap.size) (hT:TabAt 5 Lib.deBruijn64tab w):TabAt 5 Lib.deBruijn64tab (w.alloc o):=fun j hj=>(((Below.refl _ w).alloc (Nat.le_refl _) o).cell (p:=⟨5,j,none⟩) hG).trans (hT j hj)
set_option maxHeartbeats 6400000 in
set_option maxRecDepth 100000 in
theorem bits16 (u:Nat) (hu:u<18446744073709551616) (w:World) (hG:5<w.heap.size) (hT:TabAt 5 Lib.deBruijn64tab w) :
    Calls Tryz.prog 99 #[.slice none 0 0,.int .u64 u,.int .i64 16,.bool false,.bool false] w fun e w'=>e = .returned (.tuple #[.slice none 0 0,.string ⟨(hexR 16 u).reverse.toArray⟩])∧Below w.heap.size w w':=by
  go_enter Tryz.func99,Tryz.ntmps99
  go_name_bytes MSG hMSG
  clear hMSG
  go_name_bytes DG hDG
  have eDG:DG=digs:=by rw[←hDG];decide +kernel
  subst eDG;clear hDG
  go_wp2_with (first | (go_at_call 158;refine(isP2 _).mono ?_;rintro e w' ⟨rfl,rfl⟩) | (go_at_call 159;refine(tz16 _ (tab_new hG hT)).mono ?_;rintro e w' ⟨rfl,rfl⟩))
  have hz:Tryz.zeroCells239=Array.replicate 65 (Value.int .u8 0):=by kernel_rfl
  have hH0:Holds encB (w.alloc (.cells Tryz.zeroCells239 239)) w.heap.size 0 (Array.replicate 65 (0:UInt8)):=fun j hj=>by
    have hj':j<65:=by simpa using hj
    refine⟨?_,World.frozen?_alloc_new _ _ _ _⟩;rw[World.cell?_alloc_new,hz,getElem!_pos _ j hj];simp[hj']
  go_loopw [1,13] (fun vu vn wr=>∃(k v:Nat) (dk:Array UInt8),vu = .int .u64 v∧vn = .int .i64 ((65-k:Nat):Int)∧wr=putRow encB (w.alloc (.cells Tryz.zeroCells239 239)) w.heap.size 0 dk∧Hid (HexInv u k v dk)) (fun vu _ _=>(RowKit.intOf vu).toNat)
  case atStart=>exact⟨0,u,_,rfl,rfl,(putRow_self _ _ _ _ _ hH0).symm,Lib.hid ⟨by simp,by simp,by omega,fun t ht=>by omega,fun t ht=>by omega⟩⟩
  case round =>
    obtain⟨k,v,dk,rfl,rfl,hw0,HI⟩:=hrel
    rename World=>W0
    have hk15:=HI.out.le;have hs0:=HI.out.size
    have hv64:v<18446744073709551616:=by have:=HI.out.rest;have:=Nat.div_le_self u (16 ^ k);omega
    have hH1:Holds encB W0 w.heap.size 0 dk:=by rw[hw0];exact holds_putRow _ _ _ 0 _ dk hH0 (by rw[hs0];simp)
    have hcell:W0.cell? ⟨w.heap.size,65-k-1,none⟩=some (.int .u8 (dk[64-k]!.toNat:Int)):=by
      have:=(hH1 (64-k) (by omega)).1
      rwa [show 0+(64-k)=65-k-1 by omega] at this
    have hfro:W0.frozen? ⟨w.heap.size,65-k-1,none⟩=false:=by
      have:=(hH1 (64-k) (by omega)).2
      rwa [show 0+(64-k)=65-k-1 by omega] at this
    have AW0:=Lib.hid hw0;clear hw0 hH1;by_cases h16:16≤v
    · have hand:bits BinOp.and IntKind.u64 (v:Int) 15=((v % 16:Nat):Int):=by
        have:=bits_and_u64_nat v 15 hv64 (by decide)
        rwa [show(15:Nat)=2 ^ 4-1 from rfl,Nat.and_two_pow_sub_one_eq_mod] at this
      have hds:=quy
      go_wp2
      all_goals first | (exfalso;omega) | skip
      refine⟨⟨k+1,v / 16,dk.setIfInBounds (64-k) (qdo (v % 16)),by congr 1,by congr 1;omega,?_,Lib.hid (HI.out.step hu h16)⟩,by simp[RowKit.intOf];omega⟩;rw[qxz _ _ (by omega),AW0.out,←putRow_set encB _ _ 0 dk (64-k) _ (by omega),show 65-k-1=0+(64-k) by omega]
    · have hds:=quy
      have hk:k≤64:=by omega
      have hvl:v<digs.size:=by omega
      have hw1:∀x,x=65-k-1→W0.setCell ⟨w.heap.size,x,none⟩ (.int .u8 ((digs[v]'hvl).toNat:Int))=putRow encB (w.alloc (.cells Tryz.zeroCells239 239)) w.heap.size 0 (dk.setIfInBounds (64-k) (qdo v)):=fun x hx=>by
        rw[hx,qxz _ _ (by omega),AW0.out,←putRow_set encB _ _ 0 dk (64-k) _ (by omega),show 65-k-1=0+(64-k) by omega]
      have hdk:=HI.out.last hu (by omega);generalize dk.setIfInBounds (64-k) (qdo v)=dz at hw1 hdk;obtain⟨hdz,hdl,hdn⟩:=hdk;obtain⟨W1,hW1⟩:∃W1,W1=putRow encB (w.alloc (.cells Tryz.zeroCells239 239)) w.heap.size 0 dz:=⟨_,rfl⟩
      have hHz:Holds encB W1 w.heap.size 0 dz:=by rw[hW1];exact holds_putRow _ _ _ 0 _ dz hH0 (by rw[hdz];simp)
      have hbel:RowKit.Below w.heap.size w W1:=by rw[hW1];exact Lib.below_putRow (q:=0) (((Below.refl _ w).alloc (Nat.le_refl _) _)) (Nat.le_refl _)
      rw[←hW1] at hw1;have hcv:(convert 84 9 (.slice (some ⟨w.heap.size,64-k,none⟩) (k+1) (k+1))).run Tryz.prog W1 = .ok (.string ⟨(hexR 16 u).reverse.toArray⟩) W1:=by
        have:=run_convert_bytes_back (P:=Tryz.prog) W1 84 9 5 ⟨w.heap.size,64-k,none⟩ (k+1) (hexR 16 u).reverse rfl rfl rfl (fun j hj=>by
          rw[List.length_reverse,hdn] at hj;have hb:=hdl j hj;rw[List.getElem?_eq_getElem (by rw[List.length_reverse,hdn];exact hj)] at hb;rw[Lib.add_plain,Option.some.inj hb];have:=(hHz (64-k+j) (by omega)).1
          rwa [Nat.zero_add] at this)
        rwa [List.length_reverse,hdn] at this
      have hsl:(Instr.sliceAt 239 (.pointer (some ⟨w.heap.size,0,none⟩)) (some (.int .i64 (((65-k:Nat):Int)-1))) none none).run Tryz.prog W1 = .ok (.slice (some ⟨w.heap.size,64-k,none⟩) (k+1) (k+1)) W1:=by
        have hal:Tryz.prog.arrayLen 239=65:=rfl
        have hn:(((65-k:Nat):Int)-1).toNat=64-k:=by omega
        rw[run_sliceAt_array_l W1 _ _ rfl .i64 _ (by omega) (by rw[hal];omega),hal,hn]
        have hso:(sizeOf (Tryz.prog.elem 239)).run Tryz.prog W1 = .ok 1 W1:=by go_simp
        rw[hso]
        have hne:¬65=64-k:=by omega
        have e1:65-(64-k)=k+1:=by omega
        simp only[Result.andThen,slicedAt,if_neg hne,e1,Lib.add_plain,Nat.mul_one,Nat.zero_add]
      clear hW1 hHz hdl AW0
      go_wp2
      all_goals first | (exfalso;omega) | skip
      go_ret2
      exact⟨rfl,hbel⟩
theorem tab_size {w:World} (hT:TabAt 5 Lib.deBruijn64tab w):5<w.heap.size:=by
  have:=hT 0 (by decide);unfold World.cell? at this;rcases Nat.lt_or_ge 5 w.heap.size with c | c
  · exact c
  · rw[Array.getElem?_eq_none c] at this;simp at this
theorem fmtI (u:Nat) (hu:u<18446744073709551616) (w:World) (hT:TabAt 5 Lib.deBruijn64tab w) :
    Calls Tryz.prog 56 #[.int .u64 u,.int .i64 16] w fun e w'=>e = .returned (.string ⟨(hexR 16 u).reverse.toArray⟩)∧Below w.heap.size w w':=by
  go_enter Tryz.func56,Tryz.ntmps56
  go_wp2_with (go_at_call 99;refine(bits16 u hu _ (tab_size hT) hT).mono ?_;rintro e w' ⟨rfl,hb⟩)
  go_ret
  exact⟨rfl,hb⟩
theorem fmt_calls (u:Nat) (hu:u<18446744073709551616) (w:World) (hT:TabAt 5 Lib.deBruijn64tab w) :
    Calls Tryz.prog 21 #[.int .u64 u,.int .i64 16] w fun e w'=>e = .returned (.string ⟨(hexR 16 u).reverse.toArray⟩)∧Below w.heap.size w w':=by
  go_enter Tryz.func21,Tryz.ntmps21
  go_wp2_with (go_at_call 56;refine(fmtI u hu _ hT).mono ?_;rintro e w' ⟨rfl,hb⟩)
  go_ret
  exact⟨rfl,hb⟩
end Go.Proofs.YtlfpfiplndkofaaGreatDoor
