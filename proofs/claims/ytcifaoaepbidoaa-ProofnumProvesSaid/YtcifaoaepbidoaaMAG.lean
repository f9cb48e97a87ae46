/- Several texts in one: Base, MSortC. -/
import Derived.Test.YtcifaoaepbidoaaProg
import Derived.Test.YtcifaoaepbidoaaMAD
import Derived.Test.YtcifaoaepbidoaaMAA
import Derived.Test.YtcifaoaepbidoaaMAE
namespace Go.Proofs.Ytcifaoaepbidoaa
theorem mixed:Try.prog.follows .mixedOrders=true:=by kernel_rfl
instance dqAll:Go.Den.DqAll Try.prog:=⟨fun g h=>by cases h⟩
instance dqUp:Go.Den.DqAll (CT:=Go.Den.ctxUp) Try.prog:=@Go.Den.DqAll.mk Go.Den.ctxUp Try.prog (fun g h=>by cases h)
end Go.Proofs.Ytcifaoaepbidoaa
namespace Go.Proofs.Ytcifaoaepbidoaa
open Go.Den
set_option linter.unusedVariables false
set_option maxRecDepth 100000
def qey:Ann := .nil
noncomputable def cmpIsNaN_int_con:Con:=⟨[Zt22],true,[],.bool,fun x=>qdI x.1,some fun x=>qaj x.1⟩
noncomputable def qev:Env:=[]
theorem qhk (x:DL cmpIsNaN_int_con.ps):cmpIsNaN_int_con.φ x=denF (CT:=ctxUp) Try.prog qev qey Try.f85 cmpIsNaN_int_con.ps cmpIsNaN_int_con.one cmpIsNaN_int_con.res cmpIsNaN_int_con.ρ x:=by kernel_rfl
theorem qil:ConOK (CT:=ctxUp) Try.prog 85 cmpIsNaN_int_con :=
  qi (CT:=ctxUp) (env:=qev) ((EnvOK.nil (CT:=ctxUp) _)) mixed Try.func85 cmpIsNaN_int_con qey (by kernel_rfl) (fun h=>by first | rfl | cases h) (fun g hg x=>by
    cases hg
    exact qi5 _) qhk
def qde:Ann := .nil
noncomputable def cmpCompare_int_con:Con:=⟨[Zt22,Zt22],true,[],Zt22,fun x=>qcv x.1 x.2.1,some fun x=>qal x.1 x.2.1⟩
noncomputable def qdk:Env:=(85,.con cmpIsNaN_int_con)::[]
theorem qfY (x:DL cmpCompare_int_con.ps):cmpCompare_int_con.φ x=denF (CT:=ctxUp) Try.prog qdk qde Try.f57 cmpCompare_int_con.ps cmpCompare_int_con.one cmpCompare_int_con.res cmpCompare_int_con.ρ x:=by kernel_rfl
theorem qg5:ConOK (CT:=ctxUp) Try.prog 57 cmpCompare_int_con :=
  qi (CT:=ctxUp) (env:=qdk) ((EnvOK.cons (CT:=ctxUp) (EnvOK.nil (CT:=ctxUp) _) qil)) mixed Try.func57 cmpCompare_int_con qde (by kernel_rfl) (fun h=>by first | rfl | cases h) (fun g hg x=>by
    cases hg
    exact qhN _ _) qfY
def qgl:Ann:=(.two .nil (.two .nil (.two (.two .nil (.joinE ⟨[3],[],[]⟩ (.two (.loop ⟨[3,6,7],[(8,Zt22)],[]⟩ .nil) .nil))) .nil)))
noncomputable def cmpOr_int_con:Con:=⟨[Zt20],true,[],Zt22,fun x=>qgt x.1,none⟩
noncomputable def qgB:Env:=[]
theorem qjV (x:DL cmpOr_int_con.ps):cmpOr_int_con.φ x=denF (CT:=ctxUp) Try.prog qgB qgl Try.f83 cmpOr_int_con.ps cmpOr_int_con.one cmpOr_int_con.res cmpOr_int_con.ρ x:=by kernel_rfl
theorem qls:ConOK (CT:=ctxUp) Try.prog 83 cmpOr_int_con :=
  qi (CT:=ctxUp) (env:=qgB) ((EnvOK.nil (CT:=ctxUp) _)) mixed Try.func83 cmpOr_int_con qgl (by kernel_rfl) (fun h=>by first | rfl | cases h) (fun g hg=>by cases hg) qjV
def qhW:Ann:=(.two .nil (.two (.tail 15 .nil) .nil))
noncomputable def movesCmp_con:Con:=⟨[Zt16,Zt16],true,[],Zt22,fun x=>qk4 x.1 x.2.1,none⟩
noncomputable def qh8:Env:=(83,.con cmpOr_int_con)::(57,.con cmpCompare_int_con)::[]
theorem qmN (x:DL movesCmp_con.ps):movesCmp_con.φ x=denF (CT:=ctxUp) Try.prog qh8 qhW Try.f102 movesCmp_con.ps movesCmp_con.one movesCmp_con.res movesCmp_con.ρ x:=by kernel_rfl
theorem qnU:ConOK (CT:=ctxUp) Try.prog 102 movesCmp_con :=
  qi (CT:=ctxUp) (env:=qh8) ((EnvOK.cons (CT:=ctxUp) (EnvOK.cons (CT:=ctxUp) (EnvOK.nil (CT:=ctxUp) _) qg5) qls)) mixed Try.func102 movesCmp_con qhW (by kernel_rfl) (fun h=>by first | rfl | cases h) (fun g hg=>by cases hg) qmN
def qmw:Go.Shelf.Ren:=⟨fun | 6=>101 | 15=>131 | 14=>130 | 28=>149 | 29=>150 | 20=>141 | 21=>142 | 22=>143 | 23=>144 | 24=>145 | 25=>146 | 26=>147 | 27=>148 | 46=>153 | 47=>154 | 48=>155 | 49=>156 | 50=>157 | 57=>158 | n=>n,fun | 22=>93 | 24=>83 | 25=>203 | 3=>3 | 39=>176 | 0=>0 | 53=>216 | 55=>219 | 4=>4 | 46=>240 | 45=>239 | 50=>224 | 5=>5 | 9=>9 | 66=>248 | 70=>252 | 76=>254 | 77=>106 | n=>n,fun | n=>n⟩
theorem msort_lay:SlLaysF0.n6 Try.prog qmw where
  mixed:=by kernel_rfl
  f6:=⟨Try.f101.name,by decide,Try.func101.trans (congrArg some (by kernel_rfl))⟩
  f14:=⟨Try.f130.name,by decide,Try.func130.trans (congrArg some (by kernel_rfl))⟩
  f15:=Try.func131.trans (congrArg some (by kernel_rfl))
  f20:=⟨Try.f141.name,by decide,Try.func141.trans (congrArg some (by kernel_rfl))⟩
  f21:=⟨Try.f142.name,by decide,Try.func142.trans (congrArg some (by kernel_rfl))⟩
  f22:=⟨Try.f143.name,by decide,Try.func143.trans (congrArg some (by kernel_rfl))⟩
  f23:=⟨Try.f144.name,by decide,Try.func144.trans (congrArg some (by kernel_rfl))⟩
  f24:=⟨Try.f145.name,by decide,Try.func145.trans (congrArg some (by kernel_rfl))⟩
  f25:=⟨Try.f146.name,by decide,Try.func146.trans (congrArg some (by kernel_rfl))⟩
  f26:=⟨Try.f147.name,by decide,Try.func147.trans (congrArg some (by kernel_rfl))⟩
  f27:=⟨Try.f148.name,by decide,Try.func148.trans (congrArg some (by kernel_rfl))⟩
  f28:=Try.func149.trans (congrArg some (by kernel_rfl))
  f29:=Try.func150.trans (congrArg some (by kernel_rfl))
  f46:=⟨Try.f153.name,by decide,Try.func153.trans (congrArg some (by kernel_rfl))⟩
  f47:=Try.func154.trans (congrArg some (by kernel_rfl))
  f48:=Try.func155.trans (congrArg some (by kernel_rfl))
  f49:=⟨Try.f156.name,by decide,Try.func156.trans (congrArg some (by kernel_rfl))⟩
  f50:=⟨Try.f157.name,by decide,Try.func157.trans (congrArg some (by kernel_rfl))⟩
  f57:=⟨Try.f158.name,by decide,Try.func158.trans (congrArg some (by kernel_rfl))⟩
  t0:=Try.underlying0
  a0:=Try.isAgg0
  z0:=Try.sizeOf0
  v0:=Try.zeroValue0
  t3:=Try.underlying3
  a3:=Try.isAgg3
  z3:=Try.sizeOf3
  v3:=Try.zeroValue3
  t4:=Try.underlying4
  a4:=Try.isAgg4
  z4:=Try.sizeOf4
  v4:=Try.zeroValue4
  t5:=Try.underlying5
  a5:=Try.isAgg5
  z5:=Try.sizeOf5
  v5:=Try.zeroValue5
  t9:=Try.underlying9
  a9:=Try.isAgg9
  z9:=Try.sizeOf9
  v9:=Try.zeroValue9
  t22:=Try.underlying93
  a22:=Try.isAgg93
  z22:=Try.sizeOf93
  v22:=Try.zeroValue93
  t25:=Try.underlying203
  a25:=Try.isAgg203
  z25:=Try.sizeOf203
  v25:=Try.zeroValue203
  t39:=Try.underlying176
  a39:=Try.isAgg176
  z39:=Try.sizeOf176
  v39:=Try.zeroValue176
  t45:=Try.underlying239
  a45:=Try.isAgg239
  z45:=Try.sizeOf239
  v45:=Try.zeroValue239
  t46:=Try.underlying240
  a46:=Try.isAgg240
  z46:=Try.sizeOf240
  v46:=Try.zeroValue240
  t50:=Try.underlying224
  a50:=Try.isAgg224
  z50:=Try.sizeOf224
  v50:=Try.zeroValue224
  t53:=Try.underlying216
  a53:=Try.isAgg216
  z53:=Try.sizeOf216
  v53:=Try.zeroValue216
  t55:=Try.underlying219
  a55:=Try.isAgg219
  z55:=Try.sizeOf219
  v55:=Try.zeroValue219
  t66:=Try.underlying248
  a66:=Try.isAgg248
  z66:=Try.sizeOf248
  v66:=Try.zeroValue248
  t70:=Try.underlying252
  a70:=Try.isAgg252
  z70:=Try.sizeOf252
  v70:=Try.zeroValue252
  t76:=Try.underlying254
  a76:=Try.isAgg254
  z76:=Try.sizeOf254
  v76:=Try.zeroValue254
  t77:=Try.underlying106
  a77:=Try.isAgg106
  z77:=Try.sizeOf106
  v77:=Try.zeroValue106
open Go.Sort Go.Lib in
section
def cmp3 (a b:Int):Int:=if a<b then -1 else if b<a then 1 else 0
theorem qnG (a b:Int):qal a b=cmp3 a b:=by
  unfold qal qaj cmp3
  by_cases h:a<b
  · simp[h]
  · by_cases h2:b<a<;>simp[h,h2]
theorem qpp (a b c:Int):qgt [a,b,c]=some (if a=0 then if b=0 then c else b else a):=by
  unfold qgt
  by_cases ha:a=0
  · subst ha
    rw[qs (y:=((1,()),())) (by simp[qaQ,at?,qd])]
    by_cases hb:b=0
    · subst hb
      rw[qs (y:=((2,()),())) (by simp[qaQ,at?,qd])]
      by_cases hc:c=0
      · subst hc
        rw[qs (y:=((3,()),())) (by simp[qaQ,at?,qd])]
        rw[qk (r := .inl ((),())) (by simp[qaQ])]
        rfl
      · rw[qk (r := .inr c) (by simp[qaQ,at?,bne_t hc])]
        simp
    · rw[qk (r := .inr b) (by simp[qaQ,at?,bne_t hb])]
      simp[hb]
  · rw[qk (r := .inr a) (by simp[qaQ,at?,bne_t ha])]
    simp[ha]
def mvCf (x y:Mv):Int:=if cmp3 x.1 y.1=0 then if cmp3 x.2.1 y.2.1=0 then cmp3 x.2.2.1 y.2.2.1 else cmp3 x.2.1 y.2.1 else cmp3 x.1 y.1
theorem qkY (x y:Mv):qk4 x y=some (mvCf x y):=by
  unfold qk4 mvCf
  rw[qnG,qnG,qnG,qpp]
  rfl
theorem qmB (a b:Int):cmp3 a b=0↔a=b:=by
  unfold cmp3
  split
  · constructor<;>intro h<;>omega
  · split<;>constructor<;>intro h<;>omega
theorem qnJ (a b:Int):cmp3 a b<0↔a<b:=by
  unfold cmp3
  split
  · constructor<;>intro h<;>omega
  · split<;>constructor<;>intro h<;>omega
theorem qkU:ltOf mvCf=mvLt:=by
  funext x y
  unfold ltOf mvCf mvLt
  by_cases h1:x.1=y.1
  · by_cases h2:x.2.1=y.2.1
    · simp[h1,h2,(qmB y.1 y.1).2 rfl,(qmB y.2.1 y.2.1).2 rfl,qnJ]
    · have:¬cmp3 x.2.1 y.2.1=0:=fun h=>h2 ((qmB _ _).1 h)
      simp[h1,h2,(qmB y.1 y.1).2 rfl,this,qnJ]
  · have:¬cmp3 x.1 y.1=0:=fun h=>h1 ((qmB _ _).1 h)
    simp[h1,this,qnJ]
theorem qn7 (x y:Mv):mvLt x y=true↔x.1<y.1∨x.1=y.1∧(x.2.1<y.2.1∨x.2.1=y.2.1∧x.2.2.1<y.2.2.1):=by simp[mvLt]
theorem mvLt_f (x y:Mv):mvLt x y=false↔¬(x.1<y.1∨x.1=y.1∧(x.2.1<y.2.1∨x.2.1=y.2.1∧x.2.2.1<y.2.2.1)):=by rw[←qn7,Bool.not_eq_true]
theorem mv_swo:SWO mvLt where
  irrefl x:=by rw[mvLt_f];omega
  trans x y z h1 h2:=by rw[qn7] at *;omega
  ntrans x y z h1 h2:=by rw[mvLt_f] at *;omega
theorem mv_tot (x y:Mv) (h1:mvLt x y=false) (h2:mvLt y x=false):x=y:=by
  rw[mvLt_f] at h1 h2
  obtain⟨a,b,c,⟨⟩⟩:=x
  obtain⟨a',b',c',⟨⟩⟩:=y
  simp only at h1 h2
  have e1:a=a':=by omega
  subst e1
  have e2:b=b':=by omega
  subst e2
  have e3:c=c':=by omega
  subst e3
  rfl
def qec:Srt:=⟨83,Zt16,some 102,qba⟩
theorem qmg:SrtOK Try.prog 101 qec:=by
  have h:=qnf (ρ:=qmw) (g:=102) (f:=101) (τ:=Zt16) (i:=83) msort_lay rfl rfl rfl rfl Try.isAgg83 Try.sizeOf83 qnU mvCf (fun x y=>qkY x y) (show SWO (ltOf mvCf) from qkU▸mv_swo) (fun x y h1 h2=>mv_tot x y (by rw[←qkU];exact h1) (by rw[←qkU];exact h2)) (enters_of Try.func102 (by kernel_rfl) rfl)
  have e:(fun xs:List Mv=>xs.mergeSort fun x y=>!(ltOf mvCf) y x)=qba:=by rw[qkU];rfl
  have:qec=⟨83,Zt16,some 102,fun xs:List Mv=>xs.mergeSort fun x y=>!(ltOf mvCf) y x⟩:=by rw[e];rfl
  rw[this]
  exact h
end
end Go.Proofs.Ytcifaoaepbidoaa
