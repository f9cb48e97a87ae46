/- Several texts in one: Base, MSortC. -/
import Derived.Test.YtcifaoaepbidoaaProg
import Derived.Test.YtcifaoaepbidoaaMAD
import Derived.Test.YtcifaoaepbidoaaMAA
import Derived.Test.YtcifaoaepbidoaaMAE
namespace Go.Proofs.Ytcifaoaepbidoaa
theorem mixed:Try.prog.follows .mixedOrders=true:=by kernel_rfl
instance dqAll:Go.Den.DqAll Try.prog:=⟨fun g h=>by cases h⟩
instance dqUp:Go.Den.DqAll (CT:=Go.Den.ctxUp) Try.prog:=@Go.Den.DqAll.mk Go.Den.ctxUp Try.prog (fun g h=>by cases h)
end Go.Proofs.Ytcifaoaepbidoaa
namespace Go.Proofs.Ytcifaoaepbidoaa
open Go.Den
set_option linter.unusedVariables false
set_option maxRecDepth 100000
def qeY:Ann := .nil
noncomputable def cmpIsNaN_int_con:Con:=⟨[Zt28],true,[],.bool,fun x=>qd8 x.1,some fun x=>qan x.1⟩
noncomputable def qeX:Env:=[]
theorem qh4 (x:DL cmpIsNaN_int_con.ps):cmpIsNaN_int_con.φ x=denF (CT:=ctxUp) Try.prog qeX qeY Try.f85 cmpIsNaN_int_con.ps cmpIsNaN_int_con.one cmpIsNaN_int_con.res cmpIsNaN_int_con.ρ x:=by kernel_rfl
theorem qi4:ConOK (CT:=ctxUp) Try.prog 85 cmpIsNaN_int_con :=
  qh (CT:=ctxUp) (env:=qeX) ((EnvOK.nil (CT:=ctxUp) _)) mixed Try.func85 cmpIsNaN_int_con qeY (by kernel_rfl) (fun h=>by first | rfl | cases h) (fun g hg x=>by
    cases hg
    exact qjU _) qh4
def qdP:Ann := .nil
noncomputable def cmpCompare_int_con:Con:=⟨[Zt28,Zt28],true,[],Zt28,fun x=>qcG x.1 x.2.1,some fun x=>qak x.1 x.2.1⟩
noncomputable def qds:Env:=(85,.con cmpIsNaN_int_con)::[]
theorem qgw (x:DL cmpCompare_int_con.ps):cmpCompare_int_con.φ x=denF (CT:=ctxUp) Try.prog qds qdP Try.f57 cmpCompare_int_con.ps cmpCompare_int_con.one cmpCompare_int_con.res cmpCompare_int_con.ρ x:=by kernel_rfl
theorem qhu:ConOK (CT:=ctxUp) Try.prog 57 cmpCompare_int_con :=
  qh (CT:=ctxUp) (env:=qds) ((EnvOK.cons (CT:=ctxUp) (EnvOK.nil (CT:=ctxUp) _) qi4)) mixed Try.func57 cmpCompare_int_con qdP (by kernel_rfl) (fun h=>by first | rfl | cases h) (fun g hg x=>by
    cases hg
    exact qim _ _) qgw
def qhM:Ann:=(.two .nil (.two .nil (.two (.two .nil (.joinE ⟨[3],[],[]⟩ (.two (.loop ⟨[3,6,7],[(8,Zt28)],[]⟩ .nil) .nil))) .nil)))
noncomputable def cmpOr_int_con:Con:=⟨[Zt27],true,[],Zt28,fun x=>qhR x.1,none⟩
noncomputable def qhy:Env:=[]
theorem qkL (x:DL cmpOr_int_con.ps):cmpOr_int_con.φ x=denF (CT:=ctxUp) Try.prog qhy qhM Try.f83 cmpOr_int_con.ps cmpOr_int_con.one cmpOr_int_con.res cmpOr_int_con.ρ x:=by kernel_rfl
theorem qlT:ConOK (CT:=ctxUp) Try.prog 83 cmpOr_int_con :=
  qh (CT:=ctxUp) (env:=qhy) ((EnvOK.nil (CT:=ctxUp) _)) mixed Try.func83 cmpOr_int_con qhM (by kernel_rfl) (fun h=>by first | rfl | cases h) (fun g hg=>by cases hg) qkL
def qiR:Ann:=(.two .nil (.two (.tail 15 .nil) .nil))
noncomputable def movesCmp_con:Con:=⟨[Zt21,Zt21],true,[],Zt28,fun x=>qmg x.1 x.2.1,none⟩
noncomputable def qiy:Env:=(83,.con cmpOr_int_con)::(57,.con cmpCompare_int_con)::[]
theorem qmL (x:DL movesCmp_con.ps):movesCmp_con.φ x=denF (CT:=ctxUp) Try.prog qiy qiR Try.f102 movesCmp_con.ps movesCmp_con.one movesCmp_con.res movesCmp_con.ρ x:=by kernel_rfl
theorem qoq:ConOK (CT:=ctxUp) Try.prog 102 movesCmp_con :=
  qh (CT:=ctxUp) (env:=qiy) ((EnvOK.cons (CT:=ctxUp) (EnvOK.cons (CT:=ctxUp) (EnvOK.nil (CT:=ctxUp) _) qhu) qlT)) mixed Try.func102 movesCmp_con qiR (by kernel_rfl) (fun h=>by first | rfl | cases h) (fun g hg=>by cases hg) qmL
def qnn:Go.Shelf.Ren:=⟨fun | 6=>101 | 15=>131 | 14=>130 | 28=>149 | 29=>150 | 20=>141 | 21=>142 | 22=>143 | 23=>144 | 24=>145 | 25=>146 | 26=>147 | 27=>148 | 46=>153 | 47=>154 | 48=>155 | 49=>156 | 50=>157 | 57=>158 | n=>n,fun | 22=>93 | 24=>83 | 25=>203 | 3=>3 | 39=>176 | 0=>0 | 53=>216 | 55=>219 | 4=>4 | 46=>240 | 45=>239 | 50=>224 | 5=>5 | 9=>9 | 66=>248 | 70=>252 | 76=>254 | 77=>106 | n=>n,fun | n=>n⟩
theorem msort_lay:SlLaysF0.n6 Try.prog qnn where
  mixed:=by kernel_rfl
  f6:=⟨Try.f101.name,by decide,Try.func101.trans (congrArg some (by kernel_rfl))⟩
  f14:=⟨Try.f130.name,by decide,Try.func130.trans (congrArg some (by kernel_rfl))⟩
  f15:=Try.func131.trans (congrArg some (by kernel_rfl))
  f20:=⟨Try.f141.name,by decide,Try.func141.trans (congrArg some (by kernel_rfl))⟩
  f21:=⟨Try.f142.name,by decide,Try.func142.trans (congrArg some (by kernel_rfl))⟩
  f22:=⟨Try.f143.name,by decide,Try.func143.trans (congrArg some (by kernel_rfl))⟩
  f23:=⟨Try.f144.name,by decide,Try.func144.trans (congrArg some (by kernel_rfl))⟩
  f24:=⟨Try.f145.name,by decide,Try.func145.trans (congrArg some (by kernel_rfl))⟩
  f25:=⟨Try.f146.name,by decide,Try.func146.trans (congrArg some (by kernel_rfl))⟩
  f26:=⟨Try.f147.name,by decide,Try.func147.trans (congrArg some (by kernel_rfl))⟩
  f27:=⟨Try.f148.name,by decide,Try.func148.trans (congrArg some (by kernel_rfl))⟩
  f28:=Try.func149.trans (congrArg some (by kernel_rfl))
  f29:=Try.func150.trans (congrArg some (by kernel_rfl))
  f46:=⟨Try.f153.name,by decide,Try.func153.trans (congrArg some (by kernel_rfl))⟩
  f47:=Try.func154.trans (congrArg some (by kernel_rfl))
  f48:=Try.func155.trans (congrArg some (by kernel_rfl))
  f49:=⟨Try.f156.name,by decide,Try.func156.trans (congrArg some (by kernel_rfl))⟩
  f50:=⟨Try.f157.name,by decide,Try.func157.trans (congrArg some (by kernel_rfl))⟩
  f57:=⟨Try.f158.name,by decide,Try.func158.trans (congrArg some (by kernel_rfl))⟩
  t0:=Try.underlying0
  a0:=Try.isAgg0
  z0:=Try.sizeOf0
  v0:=Try.zeroValue0
  t3:=Try.underlying3
  a3:=Try.isAgg3
  z3:=Try.sizeOf3
  v3:=Try.zeroValue3
  t4:=Try.underlying4
  a4:=Try.isAgg4
  z4:=Try.sizeOf4
  v4:=Try.zeroValue4
  t5:=Try.underlying5
  a5:=Try.isAgg5
  z5:=Try.sizeOf5
  v5:=Try.zeroValue5
  t9:=Try.underlying9
  a9:=Try.isAgg9
  z9:=Try.sizeOf9
  v9:=Try.zeroValue9
  t22:=Try.underlying93
  a22:=Try.isAgg93
  z22:=Try.sizeOf93
  v22:=Try.zeroValue93
  t25:=Try.underlying203
  a25:=Try.isAgg203
  z25:=Try.sizeOf203
  v25:=Try.zeroValue203
  t39:=Try.underlying176
  a39:=Try.isAgg176
  z39:=Try.sizeOf176
  v39:=Try.zeroValue176
  t45:=Try.underlying239
  a45:=Try.isAgg239
  z45:=Try.sizeOf239
  v45:=Try.zeroValue239
  t46:=Try.underlying240
  a46:=Try.isAgg240
  z46:=Try.sizeOf240
  v46:=Try.zeroValue240
  t50:=Try.underlying224
  a50:=Try.isAgg224
  z50:=Try.sizeOf224
  v50:=Try.zeroValue224
  t53:=Try.underlying216
  a53:=Try.isAgg216
  z53:=Try.sizeOf216
  v53:=Try.zeroValue216
  t55:=Try.underlying219
  a55:=Try.isAgg219
  z55:=Try.sizeOf219
  v55:=Try.zeroValue219
  t66:=Try.underlying248
  a66:=Try.isAgg248
  z66:=Try.sizeOf248
  v66:=Try.zeroValue248
  t70:=Try.underlying252
  a70:=Try.isAgg252
  z70:=Try.sizeOf252
  v70:=Try.zeroValue252
  t76:=Try.underlying254
  a76:=Try.isAgg254
  z76:=Try.sizeOf254
  v76:=Try.zeroValue254
  t77:=Try.underlying106
  a77:=Try.isAgg106
  z77:=Try.sizeOf106
  v77:=Try.zeroValue106
open Go.Sort Go.Lib in
section
def cmp3 (a b:Int):Int:=if a<b then -1 else if b<a then 1 else 0
theorem qoD (a b:Int):qak a b=cmp3 a b:=by
  unfold qak qan cmp3
  by_cases h:a<b
  · simp[h]
  · by_cases h2:b<a<;>simp[h,h2]
theorem qqI (a b c:Int):qhR [a,b,c]=some (if a=0 then if b=0 then c else b else a):=by
  unfold qhR
  by_cases ha:a=0
  · subst ha
    rw[qm (y:=((1,()),())) (by simp[qaR,at?,qc])]
    by_cases hb:b=0
    · subst hb
      rw[qm (y:=((2,()),())) (by simp[qaR,at?,qc])]
      by_cases hc:c=0
      · subst hc
        rw[qm (y:=((3,()),())) (by simp[qaR,at?,qc])]
        rw[qj (r := .inl ((),())) (by simp[qaR])]
        rfl
      · rw[qj (r := .inr c) (by simp[qaR,at?,bne_t hc])]
        simp
    · rw[qj (r := .inr b) (by simp[qaR,at?,bne_t hb])]
      simp[hb]
  · rw[qj (r := .inr a) (by simp[qaR,at?,bne_t ha])]
    simp[ha]
def mvCf (x y:Mv):Int:=if cmp3 x.1 y.1=0 then if cmp3 x.2.1 y.2.1=0 then cmp3 x.2.2.1 y.2.2.1 else cmp3 x.2.1 y.2.1 else cmp3 x.1 y.1
theorem qlQ (x y:Mv):qmg x y=some (mvCf x y):=by
  unfold qmg mvCf
  rw[qoD,qoD,qoD,qqI]
  rfl
theorem qnX (a b:Int):cmp3 a b=0↔a=b:=by
  unfold cmp3
  split
  · constructor<;>intro h<;>omega
  · split<;>constructor<;>intro h<;>omega
theorem qor (a b:Int):cmp3 a b<0↔a<b:=by
  unfold cmp3
  split
  · constructor<;>intro h<;>omega
  · split<;>constructor<;>intro h<;>omega
theorem qmq:ltOf mvCf=mvLt:=by
  funext x y
  unfold ltOf mvCf mvLt
  by_cases h1:x.1=y.1
  · by_cases h2:x.2.1=y.2.1
    · simp[h1,h2,(qnX y.1 y.1).2 rfl,(qnX y.2.1 y.2.1).2 rfl,qor]
    · have:¬cmp3 x.2.1 y.2.1=0:=fun h=>h2 ((qnX _ _).1 h)
      simp[h1,h2,(qnX y.1 y.1).2 rfl,this,qor]
  · have:¬cmp3 x.1 y.1=0:=fun h=>h1 ((qnX _ _).1 h)
    simp[h1,this,qor]
theorem qp7 (x y:Mv):mvLt x y=true↔x.1<y.1∨x.1=y.1∧(x.2.1<y.2.1∨x.2.1=y.2.1∧x.2.2.1<y.2.2.1):=by simp[mvLt]
theorem mvLt_f (x y:Mv):mvLt x y=false↔¬(x.1<y.1∨x.1=y.1∧(x.2.1<y.2.1∨x.2.1=y.2.1∧x.2.2.1<y.2.2.1)):=by rw[←qp7,Bool.not_eq_true]
theorem mv_swo:SWO mvLt where
  irrefl x:=by rw[mvLt_f];omega
  trans x y z h1 h2:=by rw[qp7] at *;omega
  ntrans x y z h1 h2:=by rw[mvLt_f] at *;omega
theorem mv_tot (x y:Mv) (h1:mvLt x y=false) (h2:mvLt y x=false):x=y:=by
  rw[mvLt_f] at h1 h2
  obtain⟨a,b,c,⟨⟩⟩:=x
  obtain⟨a',b',c',⟨⟩⟩:=y
  simp only at h1 h2
  have e1:a=a':=by omega
  subst e1
  have e2:b=b':=by omega
  subst e2
  have e3:c=c':=by omega
  subst e3
  rfl
def qes:Srt:=⟨83,Zt21,some 102,qbg⟩
theorem qne:SrtOK Try.prog 101 qes:=by
  have h:=qoG (ρ:=qnn) (g:=102) (f:=101) (τ:=Zt21) (i:=83) msort_lay rfl rfl rfl rfl Try.isAgg83 Try.sizeOf83 qoq mvCf (fun x y=>qlQ x y) (show SWO (ltOf mvCf) from qmq▸mv_swo) (fun x y h1 h2=>mv_tot x y (by rw[←qmq];exact h1) (by rw[←qmq];exact h2)) (enters_of Try.func102 (by kernel_rfl) rfl)
  have e:(fun xs:List Mv=>xs.mergeSort fun x y=>!(ltOf mvCf) y x)=qbg:=by rw[qmq];rfl
  have:qes=⟨83,Zt21,some 102,fun xs:List Mv=>xs.mergeSort fun x y=>!(ltOf mvCf) y x⟩:=by rw[e];rfl
  rw[this]
  exact h
end
end Go.Proofs.Ytcifaoaepbidoaa
