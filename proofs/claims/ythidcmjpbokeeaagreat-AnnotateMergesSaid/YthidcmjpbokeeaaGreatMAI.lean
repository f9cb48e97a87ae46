/- Several texts in one: Base, MSortC, StrC, CoreC, GameC, RecordC, AnnotateMergesC. -/
import Derived.Test.YthidcmjpbokeeaaGreatProg
import Derived.Test.YthidcmjpbokeeaaGreatMAE
import Derived.Test.YthidcmjpbokeeaaGreatMAA
import Derived.Test.YthidcmjpbokeeaaGreatMAF
import Derived.Shelf.Small.Strs
namespace Go.Proofs.YthidcmjpbokeeaaGreat
theorem mixed:Tryz.prog.follows .mixedOrders=true:=by kernel_rfl
end Go.Proofs.YthidcmjpbokeeaaGreat
namespace Go.Proofs.YthidcmjpbokeeaaGreat
open Go.Den
set_option linter.unusedVariables false
set_option maxRecDepth 100000
def qfG:Ann := .nil
noncomputable def cmpIsNaN_int_con:Con:=⟨[Zt42],true,[],.bool,fun x=>qev x.1,some fun x=>qan x.1⟩
noncomputable def qfF:Env:=[]
theorem qjq (x:DL cmpIsNaN_int_con.ps):cmpIsNaN_int_con.φ x=denF (CT:=ctxUp) Tryz.prog qfF qfG Tryz.f120 cmpIsNaN_int_con.ps cmpIsNaN_int_con.one cmpIsNaN_int_con.res cmpIsNaN_int_con.ρ x:=by kernel_rfl
theorem qkC:ConOK (CT:=ctxUp) Tryz.prog 120 cmpIsNaN_int_con :=
  qe (CT:=ctxUp) (env:=qfF) ((EnvOK.nil (CT:=ctxUp) _)) mixed Tryz.func120 cmpIsNaN_int_con qfG (by kernel_rfl) (fun h=>by first | rfl | cases h) (fun g hg x=>by
    cases hg
    exact ql0 _) qjq
def qd2:Ann := .nil
noncomputable def cmpCompare_int_con:Con:=⟨[Zt42,Zt42],true,[],Zt42,fun x=>qcX x.1 x.2.1,some fun x=>qap x.1 x.2.1⟩
noncomputable def qd7:Env:=(120,.con cmpIsNaN_int_con)::[]
theorem qhP (x:DL cmpCompare_int_con.ps):cmpCompare_int_con.φ x=denF (CT:=ctxUp) Tryz.prog qd7 qd2 Tryz.f111 cmpCompare_int_con.ps cmpCompare_int_con.one cmpCompare_int_con.res cmpCompare_int_con.ρ x:=by kernel_rfl
theorem qid:ConOK (CT:=ctxUp) Tryz.prog 111 cmpCompare_int_con :=
  qe (CT:=ctxUp) (env:=qd7) ((EnvOK.cons (CT:=ctxUp) (EnvOK.nil (CT:=ctxUp) _) qkC)) mixed Tryz.func111 cmpCompare_int_con qd2 (by kernel_rfl) (fun h=>by first | rfl | cases h) (fun g hg x=>by
    cases hg
    exact qjL _ _) qhP
def qh9:Ann:=(.two .nil (.two .nil (.two (.two .nil (.joinE ⟨[3],[],[]⟩ (.two (.loop ⟨[3,6,7],[(8,Zt42)],[]⟩ .nil) .nil))) .nil)))
noncomputable def cmpOr_int_con:Con:=⟨[Zt41],true,[],Zt42,fun x=>qi5 x.1,none⟩
noncomputable def qiw:Env:=[]
theorem qmF (x:DL cmpOr_int_con.ps):cmpOr_int_con.φ x=denF (CT:=ctxUp) Tryz.prog qiw qh9 Tryz.f110 cmpOr_int_con.ps cmpOr_int_con.one cmpOr_int_con.res cmpOr_int_con.ρ x:=by kernel_rfl
theorem qod:ConOK (CT:=ctxUp) Tryz.prog 110 cmpOr_int_con :=
  qe (CT:=ctxUp) (env:=qiw) ((EnvOK.nil (CT:=ctxUp) _)) mixed Tryz.func110 cmpOr_int_con qh9 (by kernel_rfl) (fun h=>by first | rfl | cases h) (fun g hg=>by cases hg) qmF
def qkf:Ann:=(.two .nil (.two (.tail 15 .nil) .nil))
noncomputable def movesCmp_con:Con:=⟨[Zt36,Zt36],true,[],Zt42,fun x=>qn8 x.1 x.2.1,none⟩
noncomputable def qjU:Env:=(110,.con cmpOr_int_con)::(111,.con cmpCompare_int_con)::[]
theorem qpv (x:DL movesCmp_con.ps):movesCmp_con.φ x=denF (CT:=ctxUp) Tryz.prog qjU qkf Tryz.f109 movesCmp_con.ps movesCmp_con.one movesCmp_con.res movesCmp_con.ρ x:=by kernel_rfl
theorem qqo:ConOK (CT:=ctxUp) Tryz.prog 109 movesCmp_con :=
  qe (CT:=ctxUp) (env:=qjU) ((EnvOK.cons (CT:=ctxUp) (EnvOK.cons (CT:=ctxUp) (EnvOK.nil (CT:=ctxUp) _) qid) qod)) mixed Tryz.func109 movesCmp_con qkf (by kernel_rfl) (fun h=>by first | rfl | cases h) (fun g hg=>by cases hg) qpv
def qoQ:Go.Shelf.Ren:=⟨fun | 6=>108 | 15=>119 | 14=>118 | 28=>131 | 29=>132 | 20=>123 | 21=>124 | 22=>125 | 23=>126 | 24=>127 | 25=>128 | 26=>129 | 27=>130 | 46=>133 | 47=>134 | 48=>135 | 49=>136 | 50=>137 | 57=>138 | n=>n,fun | 22=>41 | 24=>45 | 25=>164 | 3=>3 | 39=>172 | 0=>0 | 53=>187 | 55=>189 | 4=>4 | 46=>180 | 45=>179 | 50=>184 | 5=>5 | 9=>9 | 66=>190 | 70=>194 | 76=>196 | 77=>197 | n=>n,fun | n=>n⟩
theorem msort_lay:SlLaysF0.n6 Tryz.prog qoQ where
  mixed:=by kernel_rfl
  f6:=⟨Tryz.f108.name,by decide,Tryz.func108.trans (congrArg some (by kernel_rfl))⟩
  f14:=⟨Tryz.f118.name,by decide,Tryz.func118.trans (congrArg some (by kernel_rfl))⟩
  f15:=Tryz.func119.trans (congrArg some (by kernel_rfl))
  f20:=⟨Tryz.f123.name,by decide,Tryz.func123.trans (congrArg some (by kernel_rfl))⟩
  f21:=⟨Tryz.f124.name,by decide,Tryz.func124.trans (congrArg some (by kernel_rfl))⟩
  f22:=⟨Tryz.f125.name,by decide,Tryz.func125.trans (congrArg some (by kernel_rfl))⟩
  f23:=⟨Tryz.f126.name,by decide,Tryz.func126.trans (congrArg some (by kernel_rfl))⟩
  f24:=⟨Tryz.f127.name,by decide,Tryz.func127.trans (congrArg some (by kernel_rfl))⟩
  f25:=⟨Tryz.f128.name,by decide,Tryz.func128.trans (congrArg some (by kernel_rfl))⟩
  f26:=⟨Tryz.f129.name,by decide,Tryz.func129.trans (congrArg some (by kernel_rfl))⟩
  f27:=⟨Tryz.f130.name,by decide,Tryz.func130.trans (congrArg some (by kernel_rfl))⟩
  f28:=Tryz.func131.trans (congrArg some (by kernel_rfl))
  f29:=Tryz.func132.trans (congrArg some (by kernel_rfl))
  f46:=⟨Tryz.f133.name,by decide,Tryz.func133.trans (congrArg some (by kernel_rfl))⟩
  f47:=Tryz.func134.trans (congrArg some (by kernel_rfl))
  f48:=Tryz.func135.trans (congrArg some (by kernel_rfl))
  f49:=⟨Tryz.f136.name,by decide,Tryz.func136.trans (congrArg some (by kernel_rfl))⟩
  f50:=⟨Tryz.f137.name,by decide,Tryz.func137.trans (congrArg some (by kernel_rfl))⟩
  f57:=⟨Tryz.f138.name,by decide,Tryz.func138.trans (congrArg some (by kernel_rfl))⟩
  t0:=Tryz.underlying0
  a0:=Tryz.isAgg0
  z0:=Tryz.sizeOf0
  v0:=Tryz.zeroValue0
  t3:=Tryz.underlying3
  a3:=Tryz.isAgg3
  z3:=Tryz.sizeOf3
  v3:=Tryz.zeroValue3
  t4:=Tryz.underlying4
  a4:=Tryz.isAgg4
  z4:=Tryz.sizeOf4
  v4:=Tryz.zeroValue4
  t5:=Tryz.underlying5
  a5:=Tryz.isAgg5
  z5:=Tryz.sizeOf5
  v5:=Tryz.zeroValue5
  t9:=Tryz.underlying9
  a9:=Tryz.isAgg9
  z9:=Tryz.sizeOf9
  v9:=Tryz.zeroValue9
  t22:=Tryz.underlying41
  a22:=Tryz.isAgg41
  z22:=Tryz.sizeOf41
  v22:=Tryz.zeroValue41
  t25:=Tryz.underlying164
  a25:=Tryz.isAgg164
  z25:=Tryz.sizeOf164
  v25:=Tryz.zeroValue164
  t39:=Tryz.underlying172
  a39:=Tryz.isAgg172
  z39:=Tryz.sizeOf172
  v39:=Tryz.zeroValue172
  t45:=Tryz.underlying179
  a45:=Tryz.isAgg179
  z45:=Tryz.sizeOf179
  v45:=Tryz.zeroValue179
  t46:=Tryz.underlying180
  a46:=Tryz.isAgg180
  z46:=Tryz.sizeOf180
  v46:=Tryz.zeroValue180
  t50:=Tryz.underlying184
  a50:=Tryz.isAgg184
  z50:=Tryz.sizeOf184
  v50:=Tryz.zeroValue184
  t53:=Tryz.underlying187
  a53:=Tryz.isAgg187
  z53:=Tryz.sizeOf187
  v53:=Tryz.zeroValue187
  t55:=Tryz.underlying189
  a55:=Tryz.isAgg189
  z55:=Tryz.sizeOf189
  v55:=Tryz.zeroValue189
  t66:=Tryz.underlying190
  a66:=Tryz.isAgg190
  z66:=Tryz.sizeOf190
  v66:=Tryz.zeroValue190
  t70:=Tryz.underlying194
  a70:=Tryz.isAgg194
  z70:=Tryz.sizeOf194
  v70:=Tryz.zeroValue194
  t76:=Tryz.underlying196
  a76:=Tryz.isAgg196
  z76:=Tryz.sizeOf196
  v76:=Tryz.zeroValue196
  t77:=Tryz.underlying197
  a77:=Tryz.isAgg197
  z77:=Tryz.sizeOf197
  v77:=Tryz.zeroValue197
open Go.Sort Go.Lib in
section
def cmp3 (a b:Int):Int:=if a<b then -1 else if b<a then 1 else 0
theorem qqu (a b:Int):qap a b=cmp3 a b:=by
  unfold qap qan cmp3
  by_cases h:a<b
  · simp[h]
  · by_cases h2:b<a<;>simp[h,h2]
theorem qsr (a b c:Int):qi5 [a,b,c]=some (if a=0 then if b=0 then c else b else a):=by
  unfold qi5
  by_cases ha:a=0
  · subst ha
    rw[ql (y:=((1,()),())) (by simp[qaN,at?,qg])]
    by_cases hb:b=0
    · subst hb
      rw[ql (y:=((2,()),())) (by simp[qaN,at?,qg])]
      by_cases hc:c=0
      · subst hc
        rw[ql (y:=((3,()),())) (by simp[qaN,at?,qg])]
        rw[qh (r := .inl ((),())) (by simp[qaN])]
        rfl
      · rw[qh (r := .inr c) (by simp[qaN,at?,bne_t hc])]
        simp
    · rw[qh (r := .inr b) (by simp[qaN,at?,bne_t hb])]
      simp[hb]
  · rw[qh (r := .inr a) (by simp[qaN,at?,bne_t ha])]
    simp[ha]
def mvCf (x y:Mv):Int:=if cmp3 x.1 y.1=0 then if cmp3 x.2.1 y.2.1=0 then cmp3 x.2.2.1 y.2.2.1 else cmp3 x.2.1 y.2.1 else cmp3 x.1 y.1
theorem qnJ (x y:Mv):qn8 x y=some (mvCf x y):=by
  unfold qn8 mvCf
  rw[qqu,qqu,qqu,qsr]
  rfl
theorem qph (a b:Int):cmp3 a b=0↔a=b:=by
  unfold cmp3
  split
  · constructor<;>intro h<;>omega
  · split<;>constructor<;>intro h<;>omega
theorem qqG (a b:Int):cmp3 a b<0↔a<b:=by
  unfold cmp3
  split
  · constructor<;>intro h<;>omega
  · split<;>constructor<;>intro h<;>omega
theorem qnO:ltOf mvCf=mvLt:=by
  funext x y
  unfold ltOf mvCf mvLt
  by_cases h1:x.1=y.1
  · by_cases h2:x.2.1=y.2.1
    · simp[h1,h2,(qph y.1 y.1).2 rfl,(qph y.2.1 y.2.1).2 rfl,qqG]
    · have:¬cmp3 x.2.1 y.2.1=0:=fun h=>h2 ((qph _ _).1 h)
      simp[h1,h2,(qph y.1 y.1).2 rfl,this,qqG]
  · have:¬cmp3 x.1 y.1=0:=fun h=>h1 ((qph _ _).1 h)
    simp[h1,this,qqG]
theorem qrM (x y:Mv):mvLt x y=true↔x.1<y.1∨x.1=y.1∧(x.2.1<y.2.1∨x.2.1=y.2.1∧x.2.2.1<y.2.2.1):=by simp[mvLt]
theorem mvLt_f (x y:Mv):mvLt x y=false↔¬(x.1<y.1∨x.1=y.1∧(x.2.1<y.2.1∨x.2.1=y.2.1∧x.2.2.1<y.2.2.1)):=by rw[←qrM,Bool.not_eq_true]
theorem mv_swo:SWO mvLt where
  irrefl x:=by rw[mvLt_f];omega
  trans x y z h1 h2:=by rw[qrM] at *;omega
  ntrans x y z h1 h2:=by rw[mvLt_f] at *;omega
theorem mv_tot (x y:Mv) (h1:mvLt x y=false) (h2:mvLt y x=false):x=y:=by
  rw[mvLt_f] at h1 h2
  obtain⟨a,b,c,⟨⟩⟩:=x
  obtain⟨a',b',c',⟨⟩⟩:=y
  simp only at h1 h2
  have e1:a=a':=by omega
  subst e1
  have e2:b=b':=by omega
  subst e2
  have e3:c=c':=by omega
  subst e3
  rfl
def qfy:Srt:=⟨45,Zt36,some 109,qbl⟩
theorem qoM:SrtOK Tryz.prog 108 qfy:=by
  have h:=qqB (ρ:=qoQ) (g:=109) (f:=108) (τ:=Zt36) (i:=45) msort_lay rfl rfl rfl rfl Tryz.isAgg45 Tryz.sizeOf45 qqo mvCf (fun x y=>qnJ x y) (show SWO (ltOf mvCf) from qnO▸mv_swo) (fun x y h1 h2=>mv_tot x y (by rw[←qnO];exact h1) (by rw[←qnO];exact h2)) (enters_of Tryz.func109 (by kernel_rfl) rfl)
  have e:(fun xs:List Mv=>xs.mergeSort fun x y=>!(ltOf mvCf) y x)=qbl:=by rw[qnO];rfl
  have:qfy=⟨45,Zt36,some 109,fun xs:List Mv=>xs.mergeSort fun x y=>!(ltOf mvCf) y x⟩:=by rw[e];rfl
  rw[this]
  exact h
end
set_option linter.unusedSimpArgs false
def ixb_ren:Go.Shelf.Ren:=⟨fun | 137=>76 | 217=>90 | 266=>102 | n=>n,fun | 9=>9 | 5=>5 | 3=>3 | n=>n,fun | n=>n⟩
open Go.Shelf in
theorem ixb_lay:Go.Proofs.Lays.n137 Tryz.prog ixb_ren where
  mixed:=by kernel_rfl
  f137:=Tryz.func76.trans (congrArg some (by kernel_rfl))
  f217:=Tryz.func90.trans (congrArg some (by kernel_rfl))
  f266:=Tryz.func102.trans (congrArg some (by kernel_rfl))
  t3:=Tryz.underlying3
  a3:=Tryz.isAgg3
  z3:=Tryz.sizeOf3
  v3:=Tryz.zeroValue3
  t5:=Tryz.underlying5
  a5:=Tryz.isAgg5
  z5:=Tryz.sizeOf5
  v5:=Tryz.zeroValue5
  t9:=Tryz.underlying9
  a9:=Tryz.isAgg9
  z9:=Tryz.sizeOf9
  v9:=Tryz.zeroValue9
noncomputable def qhh:Con:=⟨[.str,.int .u8],true,[],.int .i64,fun x=>some (qdk x.1 x.2.1),some fun x=>qdk x.1 x.2.1⟩
theorem qn9:ConOK Tryz.prog 76 qhh:=by
  refine⟨rfl,fun h=>(by cases h),fun g h x=>(by cases h;rfl),fun w S args x r hS hT ha hr=>?_⟩
  obtain⟨s,c,⟨⟩⟩:=x
  obtain⟨v,q,e1,⟨cs,⟨_,rfl⟩,rfl⟩,v2,q2,rfl,⟨cs2,⟨_,rfl⟩,rfl⟩,h2⟩:=ha
  obtain rfl:q2=[]:=h2
  obtain rfl:args = #[.string s,.int .u8 c]:=by rw[←Array.toList_inj,e1];rfl
  obtain rfl:qdk s c=r:=Option.some.inj hr
  refine(Any.strings_IndexByte (P:=Tryz.prog) (ρ:=ixb_ren) ixb_lay s c w).mono ?_
  rintro e w' ⟨rfl,rfl⟩
  exact⟨_,rfl,Go.Eng.Chg.refl _ _,[],[.int .i64 _],List.nodup_nil,(by simp),⟨rfl,rfl⟩,rfl⟩

def qh8:Ann:=(.two .nil (.two (.two .nil (.joinE ⟨[0],[],[]⟩ (.two (.loop ⟨[0,6],[(7,Zt42)],[]⟩ .nil) .nil))) .nil))
noncomputable def rulesName_con:Con:=⟨[.str],true,[],.bool,fun x=>qf5 x.1,none⟩
noncomputable def qiJ:Env:=[]
theorem qnP (x:DL rulesName_con.ps):rulesName_con.φ x=denF Tryz.prog qiJ qh8 Tryz.f54 rulesName_con.ps rulesName_con.one rulesName_con.res rulesName_con.ρ x:=by kernel_rfl
theorem qkr:ConOK Tryz.prog 54 rulesName_con :=
  qe (env:=qiJ) ((EnvOK.nil _)) mixed Tryz.func54 rulesName_con qh8 (by kernel_rfl) (fun h=>by first | rfl | cases h) (fun g hg=>by cases hg) qnP
def qgf:Ann := .nil
noncomputable def rulesWithin_con:Con:=⟨[Zt42,Zt42,Zt42],true,[],.bool,fun x=>qfs x.1 x.2.1 x.2.2.1,some fun x=>qc x.1 x.2.1 x.2.2.1⟩
noncomputable def qgp:Env:=[]
theorem qlV (x:DL rulesWithin_con.ps):rulesWithin_con.φ x=denF Tryz.prog qgp qgf Tryz.f55 rulesWithin_con.ps rulesWithin_con.one rulesWithin_con.res rulesWithin_con.ρ x:=by kernel_rfl
theorem qer:ConOK Tryz.prog 55 rulesWithin_con :=
  qe (env:=qgp) ((EnvOK.nil _)) mixed Tryz.func55 rulesWithin_con qgf (by kernel_rfl) (fun h=>by first | rfl | cases h) (fun g hg x=>by
    cases hg
    exact qmz _ _ _) qlV
def qgt:Ann:=(.two .nil (.two .nil (.two .nil (.two (.two .nil (.joinE ⟨[],[],[]⟩ (.two (.loop ⟨[1,16,17],[(18,Zt42)],[]⟩ (.two .nil (.two .nil (.two (.joinE ⟨[1,16,17,18],[],[]⟩ (.two (.two .nil (.two (.two (.two .nil (.two .nil (.two (.two (.two .nil (.two (.two (.two .nil (.two (.two .nil (.joinE ⟨[],[],[]⟩ (.two (.loop ⟨[0,1,7],[(8,Zt42)],[]⟩ .nil) .nil))) .nil)) .nil) .nil)) .nil) .nil))) .nil) (.two .nil (.joinE ⟨[1,16,17,18],[],[]⟩ (.two (.loop ⟨[1,16,17,18,59,60],[(61,Zt42)],[]⟩ .nil) .nil))))) .nil)) .nil)))) .nil))) .nil))))
noncomputable def rulesPieces_con:Con:=⟨[Zt6],true,[],Zt42,fun x=>qfw x.1,none⟩
noncomputable def qfZ:Env:=(55,.con rulesWithin_con)::(74,.body Tryz.f74)::(89,.body Tryz.f89)::(73,.body Tryz.f73)::[]
theorem qlj (x:DL rulesPieces_con.ps):rulesPieces_con.φ x=denF Tryz.prog qfZ qgt Tryz.f56 rulesPieces_con.ps rulesPieces_con.one rulesPieces_con.res rulesPieces_con.ρ x:=by kernel_rfl
theorem qmw:ConOK Tryz.prog 56 rulesPieces_con :=
  qe (env:=qfZ) ((EnvOK.cons (EnvOK.body (EnvOK.body (EnvOK.body (EnvOK.nil _) Tryz.func73) Tryz.func89) Tryz.func74) qer)) mixed Tryz.func56 rulesPieces_con qgt (by kernel_rfl) (fun h=>by first | rfl | cases h) (fun g hg=>by cases hg) qlj
def qdM:Ann:=(.two .nil (.two .nil (.two (.two .nil (.joinE ⟨[],[],[]⟩ (.two (.loop ⟨[1,12,13],[(14,Zt42)],[]⟩ (.two .nil (.two .nil (.two (.two (.two .nil (.two .nil (.two (.two .nil (.two (.two .nil (.joinE ⟨[1,12,13,14],[(5,.bool),(6,.bool)],[]⟩ (.two .nil (.two .nil (.joinE ⟨[1,6,12,13,14],[(5,.bool)],[]⟩ .nil))))) .nil)) .nil))) .nil) .nil)))) .nil))) .nil)))
noncomputable def rulesConditions_con:Con:=⟨[Zt6],true,[],Zt42,fun x=>qbf x.1,none⟩
noncomputable def qdG:Env:=(55,.con rulesWithin_con)::[]
theorem qhK (x:DL rulesConditions_con.ps):rulesConditions_con.φ x=denF Tryz.prog qdG qdM Tryz.f59 rulesConditions_con.ps rulesConditions_con.one rulesConditions_con.res rulesConditions_con.ρ x:=by kernel_rfl
theorem qiT:ConOK Tryz.prog 59 rulesConditions_con :=
  qe (env:=qdG) ((EnvOK.cons (EnvOK.nil _) qer)) mixed Tryz.func59 rulesConditions_con qdM (by kernel_rfl) (fun h=>by first | rfl | cases h) (fun g hg=>by cases hg) qhK
def qhu:Ann:=(.two .nil (.two .nil (.two .nil (.two .nil (.two .nil (.two (.two (.two (.two .nil (.two (.two (.two .nil (.two (.two .nil (.joinE ⟨[],[],[]⟩ (.two (.loop ⟨[0,1,7],[(8,Zt42)],[]⟩ .nil) .nil))) .nil)) .nil) .nil)) .nil) .nil) .nil))))))
noncomputable def rulesCheck_con:Con:=⟨[Zt6],true,[],Zt42,fun x=>qdn x.1,none⟩
noncomputable def qht:Env:=(59,.con rulesConditions_con)::(58,.body Tryz.f58)::(75,.body Tryz.f75)::(57,.body Tryz.f57)::(56,.con rulesPieces_con)::(55,.con rulesWithin_con)::(54,.con rulesName_con)::[]
theorem qmA (x:DL rulesCheck_con.ps):rulesCheck_con.φ x=denF Tryz.prog qht qhu Tryz.f37 rulesCheck_con.ps rulesCheck_con.one rulesCheck_con.res rulesCheck_con.ρ x:=by kernel_rfl
theorem qfu:ConOK Tryz.prog 37 rulesCheck_con :=
  qe (env:=qht) ((EnvOK.cons (EnvOK.body (EnvOK.body (EnvOK.body (EnvOK.cons (EnvOK.cons (EnvOK.cons (EnvOK.nil _) qkr) qer) qmw) Tryz.func57) Tryz.func75) Tryz.func58) qiT)) mixed Tryz.func37 rulesCheck_con qhu (by kernel_rfl) (fun h=>by first | rfl | cases h) (fun g hg=>by cases hg) qmA
def qc3:Ann:=(.two .nil (.two .nil (.two (.two .nil (.join ⟨[0],[(3,Zt42)],[]⟩ (.two (.loop ⟨[0,9,10],[(3,Zt42),(11,Zt42)],[]⟩ .nil) .nil))) (.two (.two (.two .nil (.two .nil (.two (.two .nil (.two .nil (.join ⟨[],[(0,Zt40)],[]⟩ (.two (.own (.own .nil)) .nil)))) .nil))) .nil) (.two (.two .nil (.join ⟨[],[(6,Zt40)],[(0,none)]⟩ (.two (.loop ⟨[25,26],[(6,Zt40),(27,Zt42)],[(0,none)]⟩ .nil) .nil))) .nil)))))
noncomputable def slicesConcat_int_con:Con:=⟨[(.sl Zt41)],true,[],Zt40,fun x=>qbI x.1,none⟩
noncomputable def qc1:Env:=(121,.body Tryz.f121)::[]
theorem qg2 (x:DL slicesConcat_int_con.ps):slicesConcat_int_con.φ x=denF Tryz.prog qc1 qc3 Tryz.f115 slicesConcat_int_con.ps slicesConcat_int_con.one slicesConcat_int_con.res slicesConcat_int_con.ρ x:=by kernel_rfl
theorem qhZ:ConOK Tryz.prog 115 slicesConcat_int_con :=
  qe (env:=qc1) ((EnvOK.body (EnvOK.nil _) Tryz.func121)) mixed Tryz.func115 slicesConcat_int_con qc3 (by kernel_rfl) (fun h=>by first | rfl | cases h) (fun g hg=>by cases hg) qg2
def qfY:Ann:=(.ord 6 0 (.two .nil (.two (.two (.two .nil (.two (.two .nil (.joinE ⟨[],[],[]⟩ (.two (.loop ⟨[0,1,7],[(8,Zt42)],[]⟩ .nil) .nil))) .nil)) .nil) .nil)) (.ord 7 0 .nil (.ord 8 0 .nil (.ord 9 0 .nil (.ord 10 0 .nil (.ord 11 0 (.two .nil (.two (.two (.two .nil (.two (.two .nil (.joinE ⟨[],[],[]⟩ (.two (.loop ⟨[0,1,7],[(8,Zt42)],[]⟩ .nil) .nil))) .nil)) .nil) .nil)) (.ord 12 0 .nil (.ord 13 0 .nil (.ord 14 0 .nil (.ord 15 0 .nil (.ord 16 0 .nil (.ord 17 0 .nil (.ord 18 0 .nil (.ord 19 0 .nil (.ord 20 0 .nil (.ord 21 0 .nil (.ord 22 0 .nil (.ord 23 0 .nil (.ord 24 0 .nil (.ord 25 0 .nil (.ord 26 0 .nil (.ord 27 0 .nil (.ord 28 0 .nil (.ord 29 0 .nil (.ord 30 0 .nil (.ord 31 0 .nil (.ord 32 0 .nil .nil)))))))))))))))))))))))))))
def qha:Ann:=(.two .nil (.two .nil (.two .nil (.two .nil (.two .nil (.two (.two (.join ⟨[],[(76,.bool)],[]⟩ (.any 8589931423 0 (.ord 0 0 .nil (.ord 2 0 .nil (.ord 3 0 .nil (.ord 4 0 .nil (.alt (.ord 1 0 .nil (.ord 5 0 .nil qfY)) (.ord 5 0 .nil (.ord 1 0 .nil qfY))))))))) .nil) .nil))))))
noncomputable def placeSound_con:Con:=⟨[Zt6,Zt19],true,[],Zt42,fun x=>qgQ x.1 x.2.1,none⟩
noncomputable def qhn:Env:=(114,.body Tryz.f114)::(75,.body Tryz.f75)::(57,.body Tryz.f57)::(113,.body Tryz.f113)::(115,.con slicesConcat_int_con)::[]
theorem qml (x:DL placeSound_con.ps):placeSound_con.φ x=denF Tryz.prog qhn qha Tryz.f95 placeSound_con.ps placeSound_con.one placeSound_con.res placeSound_con.ρ x:=by kernel_rfl
theorem qnS:ConOK Tryz.prog 95 placeSound_con :=
  qe (env:=qhn) ((EnvOK.body (EnvOK.body (EnvOK.body (EnvOK.body (EnvOK.cons (EnvOK.nil _) qhZ) Tryz.func113) Tryz.func57) Tryz.func75) Tryz.func114)) mixed Tryz.func95 placeSound_con qha (by kernel_rfl) (fun h=>by first | rfl | cases h) (fun g hg=>by cases hg) qml
def qg7:Ann := .nil
noncomputable def placeCheck_con:Con:=⟨[Zt6,Zt19],true,[],Zt42,fun x=>qez x.1 x.2.1,none⟩
noncomputable def qhj:Env:=(95,.con placeSound_con)::(37,.con rulesCheck_con)::[]
theorem qmh (x:DL placeCheck_con.ps):placeCheck_con.φ x=denF Tryz.prog qhj qg7 Tryz.f82 placeCheck_con.ps placeCheck_con.one placeCheck_con.res placeCheck_con.ρ x:=by kernel_rfl
theorem qiW:ConOK Tryz.prog 82 placeCheck_con :=
  qe (env:=qhj) ((EnvOK.cons (EnvOK.cons (EnvOK.nil _) qfu) qnS)) mixed Tryz.func82 placeCheck_con qg7 (by kernel_rfl) (fun h=>by first | rfl | cases h) (fun g hg=>by cases hg) qmh
def qkc:Ann:=(.two .nil (.two .nil (.two (.two .nil (.joinE ⟨[],[],[]⟩ (.two (.loop ⟨[3,4,9,19],[(20,Zt42)],[]⟩ (.two .nil (.two .nil (.two (.joinE ⟨[3,4,9,19,20],[],[]⟩ (.two (.two .nil (.two .nil (.joinE ⟨[3,4,9,19,20],[],[]⟩ (.two (.loop ⟨[3,4,9,10,19,20,27],[(28,Zt42)],[]⟩ (.two .nil (.two .nil (.two (.joinE ⟨[3,4,9,10,19,20,27,28],[],[]⟩ (.two (.two .nil (.two .nil (.two (.join ⟨[3,4,9,10,19,20,27,28],[(15,Zt42)],[]⟩ (.two (.loop ⟨[3,4,9,10,12,19,20,27,28],[(13,Zt42),(14,Zt42),(15,Zt42)],[]⟩ (.two (.two (.join ⟨[3,4,9,10,12,13,14,15,19,20,27,28],[(47,.bool)],[]⟩ .nil) .nil) .nil)) .nil)) .nil))) .nil)) .nil)))) .nil)))) .nil)) .nil)))) .nil))) .nil)))
noncomputable def endsLine_con:Con:=⟨[Zt6,Zt19,Zt42,Zt42],true,[],.bool,fun x=>qkO x.1 x.2.1 x.2.2.1 x.2.2.2.1,none⟩
noncomputable def qj5:Env:=(122,.body Tryz.f122)::[]
theorem qo1 (x:DL endsLine_con.ps):endsLine_con.φ x=denF Tryz.prog qj5 qkc Tryz.f116 endsLine_con.ps endsLine_con.one endsLine_con.res endsLine_con.ρ x:=by kernel_rfl
theorem qqE:ConOK Tryz.prog 116 endsLine_con :=
  qe (env:=qj5) ((EnvOK.body (EnvOK.nil _) Tryz.func122)) mixed Tryz.func116 endsLine_con qkc (by kernel_rfl) (fun h=>by first | rfl | cases h) (fun g hg=>by cases hg) qo1
def qgz:Ann := .nil
noncomputable def rulesIsLast_con:Con:=⟨[Zt6,Zt42,Zt42],true,[],.bool,fun x=>qdS x.1 x.2.1 x.2.2.1,none⟩
noncomputable def qgh:Env:=[]
theorem qlD (x:DL rulesIsLast_con.ps):rulesIsLast_con.φ x=denF Tryz.prog qgh qgz Tryz.f107 rulesIsLast_con.ps rulesIsLast_con.one rulesIsLast_con.res rulesIsLast_con.ρ x:=by kernel_rfl
theorem qhv:ConOK Tryz.prog 107 rulesIsLast_con :=
  qe (env:=qgh) ((EnvOK.nil _)) mixed Tryz.func107 rulesIsLast_con qgz (by kernel_rfl) (fun h=>by first | rfl | cases h) (fun g hg=>by cases hg) qlD
def qjb:Ann:=(.two .nil (.two (.two .nil (.joinE ⟨[3,5,6],[],[]⟩ (.two (.two .nil (.two .nil (.two .nil (.two (.two (.two .nil (.joinE ⟨[3,5,6],[],[]⟩ (.two (.loop ⟨[3,4,5,6,27,28],[(29,Zt42)],[]⟩ .nil) .nil))) .nil) .nil)))) .nil))) (.two .nil (.two (.two .nil (.join ⟨[6],[(11,Zt42)],[]⟩ (.two (.loop ⟨[3,6,50,51],[(11,Zt42),(52,Zt42)],[]⟩ (.two .nil (.two .nil (.two (.two (.two .nil (.two .nil (.join ⟨[3,6,50,51,52],[(11,Zt42)],[]⟩ .nil))) .nil) .nil)))) .nil))) .nil))))
noncomputable def endsHolds_con:Con:=⟨[Zt6,Zt19,Zt33,Zt42],true,[],.bool,fun x=>qiS x.1 x.2.1 x.2.2.1 x.2.2.2.1,none⟩
noncomputable def qjc:Env:=(107,.con rulesIsLast_con)::(116,.con endsLine_con)::[]
theorem qok (x:DL endsHolds_con.ps):endsHolds_con.φ x=denF Tryz.prog qjc qjb Tryz.f98 endsHolds_con.ps endsHolds_con.one endsHolds_con.res endsHolds_con.ρ x:=by kernel_rfl
theorem qps:ConOK Tryz.prog 98 endsHolds_con :=
  qe (env:=qjc) ((EnvOK.cons (EnvOK.cons (EnvOK.nil _) qqE) qhv)) mixed Tryz.func98 endsHolds_con qjb (by kernel_rfl) (fun h=>by first | rfl | cases h) (fun g hg=>by cases hg) qok
def qj3:Ann := .nil
noncomputable def endsWins_con:Con:=⟨[Zt42],true,[],Zt42,fun x=>qjR x.1,some fun x=>qbT x.1⟩
noncomputable def qj8:Env:=[]
theorem qp2 (x:DL endsWins_con.ps):endsWins_con.φ x=denF Tryz.prog qj8 qj3 Tryz.f99 endsWins_con.ps endsWins_con.one endsWins_con.res endsWins_con.ρ x:=by kernel_rfl
theorem qqW:ConOK Tryz.prog 99 endsWins_con :=
  qe (env:=qj8) ((EnvOK.nil _)) mixed Tryz.func99 endsWins_con qj3 (by kernel_rfl) (fun h=>by first | rfl | cases h) (fun g hg x=>by
    cases hg
    exact qqw _) qp2
def qgl:Ann:=(.two .nil (.two (.two .nil (.joinE ⟨[],[],[]⟩ (.two (.loop ⟨[3,4],[(2,Zt42)],[]⟩ .nil) .nil))) .nil))
noncomputable def movesFilled_con:Con:=⟨[Zt6,Zt19,Zt42],true,[],.bool,fun x=>qfx x.1 x.2.1 x.2.2.1,none⟩
noncomputable def qgo:Env:=[]
theorem qlG (x:DL movesFilled_con.ps):movesFilled_con.φ x=denF Tryz.prog qgo qgl Tryz.f117 movesFilled_con.ps movesFilled_con.one movesFilled_con.res movesFilled_con.ρ x:=by kernel_rfl
theorem qmD:ConOK Tryz.prog 117 movesFilled_con :=
  qe (env:=qgo) ((EnvOK.nil _)) mixed Tryz.func117 movesFilled_con qgl (by kernel_rfl) (fun h=>by first | rfl | cases h) (fun g hg=>by cases hg) qlG
def qiE:Ann:=(.two .nil (.two .nil (.two (.two .nil (.join ⟨[],[(5,Zt34)],[]⟩ (.two (.loop ⟨[2,3,11,12],[(5,Zt34),(13,Zt42)],[]⟩ (.two .nil (.two .nil (.two (.join ⟨[2,3,11,12,13],[(5,Zt34)],[(2,none)]⟩ (.two (.two .nil (.two .nil (.two .nil (.join ⟨[2,3,11,12,13],[(5,Zt34)],[(2,none)]⟩ (.two (.loop ⟨[2,3,6,11,12,13,41,42],[(5,Zt34),(43,Zt42)],[(2,none)]⟩ (.two .nil (.two .nil (.two (.two (.two .nil (.two .nil (.join ⟨[2,3,6,11,12,13,41,42,43],[(5,Zt34)],[(3,none)]⟩ .nil))) .nil) .nil)))) .nil))))) .nil)) .nil)))) .nil))) .nil)))
noncomputable def movesPuts_con:Con:=⟨[Zt6,Zt19],true,[],Zt34,fun x=>qix x.1 x.2.1,none⟩
noncomputable def qie:Env:=(117,.con movesFilled_con)::[]
theorem qnC (x:DL movesPuts_con.ps):movesPuts_con.φ x=denF Tryz.prog qie qiE Tryz.f105 movesPuts_con.ps movesPuts_con.one movesPuts_con.res movesPuts_con.ρ x:=by kernel_rfl
theorem qpt:ConOK Tryz.prog 105 movesPuts_con :=
  qe (env:=qie) ((EnvOK.cons (EnvOK.nil _) qmD)) mixed Tryz.func105 movesPuts_con qiE (by kernel_rfl) (fun h=>by first | rfl | cases h) (fun g hg=>by cases hg) qnC
def qkv:Ann:=(.two .nil (.two .nil (.two .nil (.two (.two .nil (.join ⟨[2,4,5,7,9],[(10,Zt42)],[]⟩ .nil)) (.two .nil (.two (.two .nil (.join ⟨[],[(9,Zt40)],[]⟩ (.two (.loop ⟨[4,5,7,10,31],[(9,Zt40),(11,Zt42),(12,Zt42),(32,Zt42)],[]⟩ (.two .nil (.two .nil (.two (.two (.two .nil (.two .nil (.two .nil (.two .nil (.two (.two .nil (.join ⟨[4,5,7,10,11,12,13,31,32],[(9,Zt40)],[(3,none)]⟩ .nil)) .nil))))) .nil) .nil)))) .nil))) .nil))))))
noncomputable def movesWay_con:Con:=⟨[Zt6,Zt19,Zt42,Zt30],true,[],Zt40,fun x=>qkZ x.1 x.2.1 x.2.2.1 x.2.2.2.1,none⟩
noncomputable def qj0:Env:=[]
theorem qpH (x:DL movesWay_con.ps):movesWay_con.φ x=denF Tryz.prog qj0 qkv Tryz.f106 movesWay_con.ps movesWay_con.one movesWay_con.res movesWay_con.ρ x:=by kernel_rfl
theorem qqY:ConOK Tryz.prog 106 movesWay_con :=
  qe (env:=qj0) ((EnvOK.nil _)) mixed Tryz.func106 movesWay_con qkv (by kernel_rfl) (fun h=>by first | rfl | cases h) (fun g hg=>by cases hg) qpH
def qif:Ann:=(.two .nil (.two .nil (.two (.two .nil (.join ⟨[],[(5,Zt34)],[(2,none)]⟩ (.two (.loop ⟨[2,3,19,20],[(5,Zt34),(21,Zt42)],[(2,none)]⟩ (.two .nil (.two .nil (.two (.join ⟨[2,3,19,20,21],[(5,Zt34)],[(3,none)]⟩ (.two (.two .nil (.two .nil (.two .nil (.two .nil (.join ⟨[2,3,19,20,21],[(5,Zt34)],[(3,none)]⟩ (.two (.loop ⟨[2,3,6,8,19,20,21,44,45],[(5,Zt34),(46,Zt42)],[(3,none)]⟩ (.two .nil (.two .nil (.two (.join ⟨[2,3,6,8,19,20,21,44,45,46],[(5,Zt34)],[(4,none)]⟩ (.two (.two .nil (.two .nil (.join ⟨[2,3,6,8,19,20,21,44,45,46],[(5,Zt34)],[(4,none)]⟩ (.two (.loop ⟨[2,3,6,8,19,20,21,44,45,46,54,55],[(5,Zt34),(56,Zt42)],[(4,none)]⟩ (.two .nil (.two .nil (.two (.two (.two .nil (.two .nil (.two (.two .nil (.two .nil (.join ⟨[2,3,5,6,8,13,19,20,21,44,45,46,54,55,56],[],[(8,some (.box Zt36))]⟩ .nil))) .nil))) .nil) .nil)))) .nil)))) .nil)) .nil)))) .nil)))))) .nil)) .nil)))) .nil))) (.two .nil (.two (.join ⟨[],[(4,Zt34)],[(3,none)]⟩ (.two (.two .nil (.two .nil (.two (.two .nil (.joinE ⟨[0],[],[(3,some (.arr 45 Zt36))]⟩ (.two (.loop ⟨[0],[(3,Zt42)],[(3,some (.arr 45 Zt36))]⟩ (.two .nil (.two (.joinE ⟨[0],[(3,Zt42)],[(3,some (.arr 45 Zt36))]⟩ (.two (.two .nil (.two (.two (.own .nil) (.two (.two .nil (.join ⟨[0],[(3,Zt42)],[(3,some (.arr 45 Zt36))]⟩ (.two (.loop ⟨[0,4],[(3,Zt42),(5,Zt42)],[(3,some (.arr 45 Zt36))]⟩ (.two .nil (.two (.two (.two .nil (.join ⟨[0,4,5],[(3,Zt42)],[(3,some (.arr 45 Zt36))]⟩ .nil)) .nil) .nil))) .nil))) (.two (.own .nil) (.two (.own .nil) .nil)))) .nil)) .nil)) .nil))) .nil))) .nil))) .nil)) .nil)))))
noncomputable def movesList_con:Con:=⟨[Zt6,Zt19],true,[],Zt34,fun x=>qaB x.1 x.2.1,none⟩
noncomputable def qiK:Env:=(112,.body Tryz.f112)::(108,.srt qfy)::(107,.con rulesIsLast_con)::(106,.con movesWay_con)::(105,.con movesPuts_con)::[]
theorem qoh (x:DL movesList_con.ps):movesList_con.φ x=denF Tryz.prog qiK qif Tryz.f92 movesList_con.ps movesList_con.one movesList_con.res movesList_con.ρ x:=by kernel_rfl
theorem qgu:ConOK Tryz.prog 92 movesList_con :=
  qe (env:=qiK) ((EnvOK.body (EnvOK.sort (EnvOK.cons (EnvOK.cons (EnvOK.cons (EnvOK.nil _) qpt) qqY) qhv) qoM) Tryz.func112)) mixed Tryz.func92 movesList_con qif (by kernel_rfl) (fun h=>by first | rfl | cases h) (fun g hg=>by cases hg) qoh
def qhw:Ann:=(.two .nil (.two .nil (.two (.two (.two (.two .nil (.two (.two .nil (.joinE ⟨[],[],[]⟩ (.two (.loop ⟨[0,1,7],[(8,Zt42)],[]⟩ .nil) .nil))) .nil)) .nil) .nil) .nil)))
noncomputable def endsResult_con:Con:=⟨[Zt6,Zt19],true,[],Zt42,fun x=>qdm x.1 x.2.1,none⟩
noncomputable def qhe:Env:=(99,.con endsWins_con)::(92,.con movesList_con)::(98,.con endsHolds_con)::(97,.body Tryz.f97)::(96,.body Tryz.f96)::[]
theorem qmC (x:DL endsResult_con.ps):endsResult_con.φ x=denF Tryz.prog qhe qhw Tryz.f83 endsResult_con.ps endsResult_con.one endsResult_con.res endsResult_con.ρ x:=by kernel_rfl
theorem qiU:ConOK Tryz.prog 83 endsResult_con :=
  qe (env:=qhe) ((EnvOK.cons (EnvOK.cons (EnvOK.cons (EnvOK.body (EnvOK.body (EnvOK.nil _) Tryz.func96) Tryz.func97) qps) qgu) qqW)) mixed Tryz.func83 endsResult_con qhw (by kernel_rfl) (fun h=>by first | rfl | cases h) (fun g hg=>by cases hg) qmC
def qmU:Ann := .nil
noncomputable def endsOf_con:Con:=⟨[Zt6,Zt19],false,[Zt42,Zt42],Zt37,fun x=>qr1 x.1 x.2.1,none⟩
noncomputable def qna:Env:=(83,.con endsResult_con)::(82,.con placeCheck_con)::[]
theorem qsS (x:DL endsOf_con.ps):endsOf_con.φ x=denF Tryz.prog qna qmU Tryz.f68 endsOf_con.ps endsOf_con.one endsOf_con.res endsOf_con.ρ x:=by kernel_rfl
theorem endsOf_ok:ConOK Tryz.prog 68 endsOf_con :=
  qe (env:=qna) ((EnvOK.cons (EnvOK.cons (EnvOK.nil _) qiW) qiU)) mixed Tryz.func68 endsOf_con qmU (by kernel_rfl) (fun h=>by first | rfl | cases h) (fun g hg=>by cases hg) qsS
def qkx:Ann := .nil
noncomputable def movesAll_con:Con:=⟨[Zt6,Zt19],false,[Zt34,Zt42],Zt26,fun x=>qkN x.1 x.2.1,none⟩
noncomputable def qkw:Env:=(92,.con movesList_con)::(82,.con placeCheck_con)::[]
theorem qpU (x:DL movesAll_con.ps):movesAll_con.φ x=denF Tryz.prog qkw qkx Tryz.f85 movesAll_con.ps movesAll_con.one movesAll_con.res movesAll_con.ρ x:=by kernel_rfl
theorem qqr:ConOK Tryz.prog 85 movesAll_con :=
  qe (env:=qkw) ((EnvOK.cons (EnvOK.cons (EnvOK.nil _) qiW) qgu)) mixed Tryz.func85 movesAll_con qkx (by kernel_rfl) (fun h=>by first | rfl | cases h) (fun g hg=>by cases hg) qpU
def qcZ:Ann:=(.two .nil (.two (.two .nil (.joinE ⟨[],[],[]⟩ (.two (.loop ⟨[0,3,7],[(8,Zt42)],[]⟩ .nil) .nil))) .nil))
noncomputable def slicesIndex_Move_con:Con:=⟨[Zt35,Zt36],true,[],Zt42,fun x=>qcU x.1 x.2.1,none⟩
noncomputable def qc0:Env:=[]
theorem qg0 (x:DL slicesIndex_Move_con.ps):slicesIndex_Move_con.φ x=denF Tryz.prog qc0 qcZ Tryz.f101 slicesIndex_Move_con.ps slicesIndex_Move_con.one slicesIndex_Move_con.res slicesIndex_Move_con.ρ x:=by kernel_rfl
theorem qh3:ConOK Tryz.prog 101 slicesIndex_Move_con :=
  qe (env:=qc0) ((EnvOK.nil _)) mixed Tryz.func101 slicesIndex_Move_con qcZ (by kernel_rfl) (fun h=>by first | rfl | cases h) (fun g hg=>by cases hg) qg0
def qb5:Ann := .nil
noncomputable def slicesContains_Move_con:Con:=⟨[Zt35,Zt36],true,[],.bool,fun x=>qm x.1 x.2.1,none⟩
noncomputable def qbU:Env:=(101,.con slicesIndex_Move_con)::[]
theorem qfo (x:DL slicesContains_Move_con.ps):slicesContains_Move_con.φ x=denF Tryz.prog qbU qb5 Tryz.f86 slicesContains_Move_con.ps slicesContains_Move_con.one slicesContains_Move_con.res slicesContains_Move_con.ρ x:=by kernel_rfl
theorem qch:ConOK Tryz.prog 86 slicesContains_Move_con :=
  qe (env:=qbU) ((EnvOK.cons (EnvOK.nil _) qh3)) mixed Tryz.func86 slicesContains_Move_con qb5 (by kernel_rfl) (fun h=>by first | rfl | cases h) (fun g hg=>by cases hg) qfo
def qhy:Ann := .nil
noncomputable def movesLegal_con:Con:=⟨[Zt6,Zt19,Zt36],false,[.bool,Zt42],(.st .bool Zt39),fun x=>qgK x.1 x.2.1 x.2.2.1,none⟩
noncomputable def qg9:Env:=(86,.con slicesContains_Move_con)::(85,.con movesAll_con)::[]
theorem qmn (x:DL movesLegal_con.ps):movesLegal_con.φ x=denF Tryz.prog qg9 qhy Tryz.f70 movesLegal_con.ps movesLegal_con.one movesLegal_con.res movesLegal_con.ρ x:=by kernel_rfl
theorem qnK:ConOK Tryz.prog 70 movesLegal_con :=
  qe (env:=qg9) ((EnvOK.cons (EnvOK.cons (EnvOK.nil _) qqr) qch)) mixed Tryz.func70 movesLegal_con qhy (by kernel_rfl) (fun h=>by first | rfl | cases h) (fun g hg=>by cases hg) qmn
def qdq:Ann := .nil
noncomputable def slicesClone_int_con:Con:=⟨[Zt41],true,[],Zt40,fun x=>qE x.1,none⟩
noncomputable def qdB:Env:=[]
theorem qhU (x:DL slicesClone_int_con.ps):slicesClone_int_con.φ x=denF Tryz.prog qdB qdq Tryz.f67 slicesClone_int_con.ps slicesClone_int_con.one slicesClone_int_con.res slicesClone_int_con.ρ x:=by kernel_rfl
theorem qb7:ConOK Tryz.prog 67 slicesClone_int_con :=
  qe (env:=qdB) ((EnvOK.nil _)) mixed Tryz.func67 slicesClone_int_con qdq (by kernel_rfl) (fun h=>by first | rfl | cases h) (fun g hg=>by cases hg) qhU
def qiZ:Ann:=(.two .nil (.two .nil (.two (.join ⟨[1,2],[],[(0,some (.box Zt20)),(2,none)]⟩ (.any 887 0 (.ord 0 0 .nil (.ord 1 0 .nil (.ord 2 115 .nil (.ord 4 0 .nil (.ord 5 0 .nil (.alt (.ord 3 0 .nil (.ord 6 0 .nil (.ord 7 0 .nil (.ord 8 0 .nil (.ord 9 0 .nil (.ord 10 0 .nil .nil)))))) (.ord 6 0 .nil (.ord 3 0 .nil (.ord 7 0 .nil (.ord 8 0 .nil (.ord 9 0 .nil (.ord 10 0 .nil .nil)))))))))))))) .nil)))
noncomputable def placeCopy_con:Con:=⟨[Zt19],true,[],Zt17,fun x=>qdC x.1,none⟩
noncomputable def qil:Env:=(67,.con slicesClone_int_con)::[]
theorem qnR (x:DL placeCopy_con.ps):placeCopy_con.φ x=denF Tryz.prog qil qiZ Tryz.f87 placeCopy_con.ps placeCopy_con.one placeCopy_con.res placeCopy_con.ρ x:=by kernel_rfl
theorem qka:ConOK Tryz.prog 87 placeCopy_con :=
  qe (env:=qil) ((EnvOK.cons (EnvOK.nil _) qb7)) mixed Tryz.func87 placeCopy_con qiZ (by kernel_rfl) (fun h=>by first | rfl | cases h) (fun g hg=>by cases hg) qnR
def qi9:Ann:=(.two .nil (.two .nil (.two .nil (.two (.two .nil (.join ⟨[3,4,5,6,7,8],[],[(4,some (.arr 3 Zt42)),(5,some (.arr 3 Zt42)),(6,some (.arr 3 Zt42))]⟩ (.two .nil (.join ⟨[3,4,5,6,7,8],[],[(5,some (.arr 3 Zt42)),(6,some (.arr 3 Zt42))]⟩ (.tail 11 .nil))))) (.two .nil (.two (.two .nil (.join ⟨[4,5,6,7,8],[],[(5,some (.arr 3 Zt42)),(6,some (.arr 3 Zt42))]⟩ (.two (.two .nil (.join ⟨[4,5,6,7,8],[],[(5,some (.arr 3 Zt42)),(6,some (.arr 3 Zt42))]⟩ (.tail 17 .nil))) .nil))) (.two .nil (.two (.two .nil (.join ⟨[4,6,7],[],[(4,none),(5,none),(6,none),(7,some (.box Zt20))]⟩ .nil)) .nil))))))))
noncomputable def movesMake_con:Con:=⟨[Zt6,Zt19,Zt36],true,[],Zt17,fun x=>qB x.1 x.2.1 x.2.2.1,none⟩
noncomputable def qi8:Env:=(87,.con placeCopy_con)::[]
theorem qn1 (x:DL movesMake_con.ps):movesMake_con.φ x=denF Tryz.prog qi8 qi9 Tryz.f71 movesMake_con.ps movesMake_con.one movesMake_con.res movesMake_con.ρ x:=by kernel_rfl
theorem qj4:ConOK Tryz.prog 71 movesMake_con :=
  qe (env:=qi8) ((EnvOK.cons (EnvOK.nil _) qka)) mixed Tryz.func71 movesMake_con qi9 (by kernel_rfl) (fun h=>by first | rfl | cases h) (fun g hg=>by cases hg) qn1
def qhq:Ann := .nil
noncomputable def movesAfter_con:Con:=⟨[Zt6,Zt19,Zt36],false,[Zt17,Zt42],Zt12,fun x=>qbO x.1 x.2.1 x.2.2.1,none⟩
noncomputable def qhk:Env:=(71,.con movesMake_con)::(70,.con movesLegal_con)::[]
theorem qmm (x:DL movesAfter_con.ps):movesAfter_con.φ x=denF Tryz.prog qhk qhq Tryz.f50 movesAfter_con.ps movesAfter_con.one movesAfter_con.res movesAfter_con.ρ x:=by kernel_rfl
theorem qoo:ConOK Tryz.prog 50 movesAfter_con :=
  qe (env:=qhk) ((EnvOK.cons (EnvOK.cons (EnvOK.nil _) qnK) qj4)) mixed Tryz.func50 movesAfter_con qhq (by kernel_rfl) (fun h=>by first | rfl | cases h) (fun g hg=>by cases hg) qmm
def qI:Ann:=(.ord 13 0 .nil (.ord 16 0 .nil (.ord 18 0 .nil (.ord 19 0 .nil .nil))))
def qbX:Ann:=(.alt (.ord 6 0 .nil (.ord 15 0 .nil (.ord 12 0 .nil qI))) (.ord 12 0 .nil (.ord 6 0 .nil (.ord 15 0 .nil qI))))
def qfW:Ann:=(.alt (.ord 6 0 .nil (.ord 9 155135 .nil (.ord 15 0 .nil (.ord 12 0 .nil qI)))) (.alt (.ord 9 0 .nil qbX) (.ord 12 0 .nil (.alt (.ord 6 0 .nil (.ord 9 0 .nil (.ord 15 0 .nil qI))) (.ord 9 0 .nil (.ord 6 0 .nil (.ord 15 0 .nil qI)))))))
def qdH:Ann:=(.ord 11 182271 .nil (.ord 15 0 .nil (.ord 12 0 .nil qI)))
def qgx:Ann:=(.alt (.ord 5 0 .nil qbX) (.ord 12 0 .nil (.ord 5 0 .nil (.ord 6 0 .nil (.ord 15 0 .nil qI)))))
def qhr:Ann:=(.two .nil (.two .nil (.two .nil (.two (.two .nil (.join ⟨[2,5],[],[(2,none),(3,some (.box Zt20))]⟩ (.two (.loop ⟨[2,5,19,20],[(21,Zt42)],[(2,none),(3,some (.box Zt20))]⟩ (.two .nil (.two .nil (.two (.two (.two .nil (.join ⟨[2,5,19,20,21],[],[(3,some (.box Zt20)),(4,none),(5,none),(6,none)]⟩ (.any 446367 4128 (.ord 0 0 .nil (.ord 1 0 .nil (.ord 2 155579 .nil (.ord 3 0 .nil (.ord 4 155535 .nil (.ord 7 0 .nil (.ord 8 0 .nil (.ord 10 0 .nil (.ord 14 0 .nil (.ord 17 0 .nil (.alt (.ord 5 0 .nil (.alt (.ord 6 0 .nil (.ord 9 155135 .nil qdH)) (.alt (.ord 9 0 .nil (.alt (.ord 6 0 .nil qdH) (.ord 11 0 .nil qbX))) (.ord 11 0 .nil qfW)))) (.alt (.ord 9 0 .nil (.alt (.ord 5 0 .nil (.alt (.ord 6 0 .nil qdH) (.ord 11 0 .nil qbX))) (.ord 11 0 .nil qgx))) (.ord 11 0 .nil (.alt (.ord 5 0 .nil qfW) (.alt (.ord 9 0 .nil qgx) (.ord 12 0 .nil (.alt (.ord 5 0 .nil (.alt (.ord 6 0 .nil (.ord 9 0 .nil (.ord 15 0 .nil qI))) (.ord 9 0 .nil (.ord 6 0 .nil (.ord 15 0 .nil qI))))) (.ord 9 0 .nil (.ord 5 0 .nil (.ord 6 0 .nil (.ord 15 0 .nil qI)))))))))))))))))))))))) .nil) .nil)))) .nil))) .nil))))
noncomputable def placeBegin_con:Con:=⟨[Zt6],false,[Zt17,Zt42],Zt12,fun x=>qeV x.1,none⟩
noncomputable def qhb:Env:=(67,.con slicesClone_int_con)::(37,.con rulesCheck_con)::[]
theorem qmo (x:DL placeBegin_con.ps):placeBegin_con.φ x=denF Tryz.prog qhb qhr Tryz.f48 placeBegin_con.ps placeBegin_con.one placeBegin_con.res placeBegin_con.ρ x:=by kernel_rfl
theorem qic:ConOK Tryz.prog 48 placeBegin_con :=
  qe (env:=qhb) ((EnvOK.cons (EnvOK.cons (EnvOK.nil _) qfu) qb7)) mixed Tryz.func48 placeBegin_con qhr (by kernel_rfl) (fun h=>by first | rfl | cases h) (fun g hg=>by cases hg) qmo
def qdr:Ann:=(.two .nil (.two .nil (.two (.two .nil (.joinE ⟨[],[],[]⟩ (.two (.loop ⟨[0,1,12],[(13,Zt42)],[]⟩ .nil) .nil))) .nil)))
noncomputable def slicesEqual_int_con:Con:=⟨[Zt41,Zt41],true,[],.bool,fun x=>qaI x.1 x.2.1,none⟩
noncomputable def qdE:Env:=[]
theorem qhH (x:DL slicesEqual_int_con.ps):slicesEqual_int_con.φ x=denF Tryz.prog qdE qdr Tryz.f100 slicesEqual_int_con.ps slicesEqual_int_con.one slicesEqual_int_con.res slicesEqual_int_con.ρ x:=by kernel_rfl
theorem qi6:ConOK Tryz.prog 100 slicesEqual_int_con :=
  qe (env:=qdE) ((EnvOK.nil _)) mixed Tryz.func100 slicesEqual_int_con qdr (by kernel_rfl) (fun h=>by first | rfl | cases h) (fun g hg=>by cases hg) qhH
def qjf:Ann := .nil
noncomputable def placeSame_con:Con:=⟨[Zt19,Zt19],true,[],.bool,fun x=>qbV x.1 x.2.1,none⟩
noncomputable def qi1:Env:=(100,.con slicesEqual_int_con)::[]
theorem qny (x:DL placeSame_con.ps):placeSame_con.φ x=denF Tryz.prog qi1 qjf Tryz.f84 placeSame_con.ps placeSame_con.one placeSame_con.res placeSame_con.ρ x:=by kernel_rfl
theorem qjX:ConOK Tryz.prog 84 placeSame_con :=
  qe (env:=qi1) ((EnvOK.cons (EnvOK.nil _) qi6)) mixed Tryz.func84 placeSame_con qjf (by kernel_rfl) (fun h=>by first | rfl | cases h) (fun g hg=>by cases hg) qny
def qbR:Ann := .nil
noncomputable def slicesClone_RuleWay_con:Con:=⟨[Zt28],true,[],(.osl 129 Zt30),fun x=>qaT x.1,none⟩
noncomputable def qb9:Env:=[]
theorem qe4 (x:DL slicesClone_RuleWay_con.ps):slicesClone_RuleWay_con.φ x=denF Tryz.prog qb9 qbR Tryz.f103 slicesClone_RuleWay_con.ps slicesClone_RuleWay_con.one slicesClone_RuleWay_con.res slicesClone_RuleWay_con.ρ x:=by kernel_rfl
theorem qfS:ConOK Tryz.prog 103 slicesClone_RuleWay_con :=
  qe (env:=qb9) ((EnvOK.nil _)) mixed Tryz.func103 slicesClone_RuleWay_con qbR (by kernel_rfl) (fun h=>by first | rfl | cases h) (fun g hg=>by cases hg) qe4
def qb3:Ann := .nil
noncomputable def slicesClone_RuleEnd_con:Con:=⟨[Zt31],true,[],Zt29,fun x=>qaq x.1,none⟩
noncomputable def qcc:Env:=[]
theorem qfj (x:DL slicesClone_RuleEnd_con.ps):slicesClone_RuleEnd_con.φ x=denF Tryz.prog qcc qb3 Tryz.f104 slicesClone_RuleEnd_con.ps slicesClone_RuleEnd_con.one slicesClone_RuleEnd_con.res slicesClone_RuleEnd_con.ρ x:=by kernel_rfl
theorem qfQ:ConOK Tryz.prog 104 slicesClone_RuleEnd_con :=
  qe (env:=qcc) ((EnvOK.nil _)) mixed Tryz.func104 slicesClone_RuleEnd_con qb3 (by kernel_rfl) (fun h=>by first | rfl | cases h) (fun g hg=>by cases hg) qfj
def qjd:Ann:=(.two .nil (.two .nil (.two .nil (.two (.two .nil (.join ⟨[1,2,3],[],[(2,some (.box Zt5))]⟩ (.two (.loop ⟨[1,2,3,9,10],[(11,Zt42)],[(2,some (.box Zt5))]⟩ .nil) .nil))) (.two (.join ⟨[2,3],[],[(2,some (.box Zt4)),(3,none)]⟩ (.any 347 0 (.ord 0 0 .nil (.ord 1 25 .nil (.ord 3 0 .nil (.alt (.ord 2 0 .nil (.ord 4 79 .nil (.ord 6 0 .nil (.ord 5 0 .nil (.ord 7 0 .nil (.ord 8 0 .nil (.ord 9 0 .nil .nil))))))) (.ord 4 0 .nil (.ord 2 0 .nil (.ord 6 0 .nil (.ord 5 0 .nil (.ord 7 0 .nil (.ord 8 0 .nil (.ord 9 0 .nil .nil))))))))))))) .nil)))))
noncomputable def rulesCopy_con:Con:=⟨[Zt6],true,[],Zt6,fun x=>qeQ x.1,none⟩
noncomputable def qiY:Env:=(104,.con slicesClone_RuleEnd_con)::(67,.con slicesClone_int_con)::(103,.con slicesClone_RuleWay_con)::[]
theorem qov (x:DL rulesCopy_con.ps):rulesCopy_con.φ x=denF Tryz.prog qiY qjd Tryz.f91 rulesCopy_con.ps rulesCopy_con.one rulesCopy_con.res rulesCopy_con.ρ x:=by kernel_rfl
theorem qoG:ConOK Tryz.prog 91 rulesCopy_con :=
  qe (env:=qiY) ((EnvOK.cons (EnvOK.cons (EnvOK.cons (EnvOK.nil _) qfS) qb7) qfQ)) mixed Tryz.func91 rulesCopy_con qjd (by kernel_rfl) (fun h=>by first | rfl | cases h) (fun g hg=>by cases hg) qov
def qdX:Ann:=(.two .nil (.two .nil (.two (.two .nil (.join ⟨[],[(3,Zt42)],[]⟩ (.two (.loop ⟨[0,9,10],[(3,Zt42),(11,Zt42)],[]⟩ (.two .nil (.two .nil (.two (.two (.two .nil (.two (.join ⟨[0,3,9,10,11],[(18,.bool)],[]⟩ (.any 3 0 (.ord 1 0 .nil (.alt (.ord 0 0 .nil (.ord 2 0 (.two .nil (.two (.tail 12 .nil) .nil)) (.ord 3 0 .nil .nil))) (.ord 2 0 (.two .nil (.two (.tail 12 .nil) .nil)) (.ord 0 0 .nil (.ord 3 0 .nil .nil))))))) (.join ⟨[0,9,10,11],[(3,Zt42)],[]⟩ .nil))) .nil) .nil)))) .nil))) .nil)))
noncomputable def plainGameCount_con:Con:=⟨[Zt2],true,[],Zt42,fun x=>qcx x.1,none⟩
noncomputable def qd4:Env:=(84,.con placeSame_con)::(93,.body Tryz.f93)::[]
theorem qir (x:DL plainGameCount_con.ps):plainGameCount_con.φ x=denB Tryz.prog qd4 qdX Tryz.f94 true plainGameCount_con.ps plainGameCount_con.one plainGameCount_con.res plainGameCount_con.ρ x:=by kernel_rfl
theorem qjk:qpR Tryz.prog 94 plainGameCount_con :=
  qlE (env:=qd4) ((EnvOK.cons (EnvOK.body (EnvOK.nil _) Tryz.func93) qjX)) mixed Tryz.func94 plainGameCount_con qdX (by kernel_rfl) (fun h=>by first | rfl | cases h) (fun g hg=>by cases hg) qir
def qdL:Ann:=(.two .nil (.two (.join ⟨[0],[(3,Zt42)],[]⟩ (.any 159 0 (.ord 0 0 .nil (.ord 1 0 .nil (.ord 2 0 .nil (.ord 4 0 .nil (.alt (.ord 3 0 .nil (.ord 5 0 (.two .nil (.two (.tail 12 .nil) .nil)) (.ord 6 0 .nil (.ord 7 0 .nil .nil)))) (.ord 5 0 (.two .nil (.two (.tail 12 .nil) .nil)) (.ord 3 0 .nil (.ord 6 0 .nil (.ord 7 0 .nil .nil))))))))))) .nil))
noncomputable def plainGameResult_con:Con:=⟨[Zt2],true,[],Zt42,fun x=>qaL x.1,none⟩
noncomputable def qdD:Env:=(94,.rd plainGameCount_con)::(83,.con endsResult_con)::(93,.body Tryz.f93)::[]
theorem qh5 (x:DL plainGameResult_con.ps):plainGameResult_con.φ x=denB Tryz.prog qdD qdL Tryz.f81 true plainGameResult_con.ps plainGameResult_con.one plainGameResult_con.res plainGameResult_con.ρ x:=by kernel_rfl
theorem qee:qpR Tryz.prog 81 plainGameResult_con :=
  qlE (env:=qdD) ((EnvOK.readonly (EnvOK.cons (EnvOK.body (EnvOK.nil _) Tryz.func93) qiU) qjk)) mixed Tryz.func81 plainGameResult_con qdL (by kernel_rfl) (fun h=>by first | rfl | cases h) (fun g hg=>by cases hg) qh5
def qaj:Ann:=(.ord 13 0 .nil (.ord 14 0 .nil (.ord 15 0 .nil (.ord 16 0 .nil (.ord 17 0 .nil .nil)))))
def qax:Ann:=(.alt (.ord 4 0 .nil (.ord 12 0 .nil qaj)) (.ord 12 0 .nil (.ord 4 16367 .nil qaj)))
def qa2:Ann:=(.ord 10 0 (.two .nil (.two (.tail 12 .nil) .nil)) (.ord 12 0 .nil qaj))
def qH:Ann:=(.ord 8 0 .nil (.ord 9 0 .nil (.ord 10 0 .nil .nil)))
def qei:Ann:=(.alt (.ord 10 0 (.two .nil (.two (.tail 12 .nil) .nil)) (.ord 11 0 .nil (.ord 12 0 .nil qaj))) (.ord 11 0 .nil qa2))
def qd1:Ann:=(.alt (.ord 8 0 .nil qa2) (.ord 10 0 (.two .nil (.two (.tail 12 .nil) .nil)) (.ord 8 0 .nil (.ord 12 0 .nil qaj))))
def qeJ:Ann:=(.two .nil (.two (.two (.two .nil (.two .nil (.two (.join ⟨[0,3],[(9,.bool)],[]⟩ (.any 1695 0 (.ord 0 0 .nil (.ord 1 0 .nil (.ord 2 0 .nil (.ord 4 0 .nil (.alt (.ord 3 0 .nil (.alt (.ord 5 0 (.two .nil (.two (.tail 12 .nil) .nil)) (.alt (.ord 6 0 .nil (.ord 7 0 .nil qH)) (.ord 7 0 .nil (.ord 6 0 .nil qH)))) (.ord 7 0 .nil (.ord 5 0 (.two .nil (.two (.tail 12 .nil) .nil)) (.ord 6 0 .nil qH))))) (.alt (.ord 5 0 (.two .nil (.two (.tail 12 .nil) .nil)) (.ord 3 183 .nil (.alt (.ord 6 0 .nil (.ord 7 0 .nil qH)) (.ord 7 0 .nil (.ord 6 0 .nil qH))))) (.ord 7 0 .nil (.alt (.ord 3 0 .nil (.ord 5 0 (.two .nil (.two (.tail 12 .nil) .nil)) (.ord 6 0 .nil qH))) (.ord 5 0 (.two .nil (.two (.tail 12 .nil) .nil)) (.ord 3 0 .nil (.ord 6 0 .nil qH))))))))))))) .nil))) .nil) (.two (.join ⟨[0,3],[],[(0,some (.box Zt3)),(1,none),(2,none)]⟩ (.any 101375 8192 (.ord 0 0 .nil (.ord 1 0 .nil (.ord 2 0 .nil (.ord 3 0 .nil (.ord 5 0 .nil (.ord 6 0 .nil (.ord 7 0 .nil (.ord 9 0 .nil (.alt (.ord 4 0 .nil (.alt (.ord 8 0 .nil qei) (.alt (.ord 10 0 (.two .nil (.two (.tail 12 .nil) .nil)) (.ord 8 3839 .nil (.ord 11 0 .nil (.ord 12 0 .nil qaj)))) (.ord 11 0 .nil qd1)))) (.alt (.ord 8 0 .nil (.alt (.ord 4 0 .nil qei) (.alt (.ord 10 0 (.two .nil (.two (.tail 12 .nil) .nil)) (.ord 11 2047 .nil qax)) (.ord 11 0 .nil (.alt (.ord 4 0 .nil qa2) (.ord 10 0 (.two .nil (.two (.tail 12 .nil) .nil)) qax)))))) (.alt (.ord 10 0 (.two .nil (.two (.tail 12 .nil) .nil)) (.ord 8 3839 .nil (.ord 11 2047 .nil qax))) (.ord 11 0 .nil (.alt (.ord 4 0 .nil qd1) (.alt (.ord 8 0 .nil (.alt (.ord 4 0 .nil qa2) (.ord 10 0 (.two .nil (.two (.tail 12 .nil) .nil)) qax))) (.ord 10 0 (.two .nil (.two (.tail 12 .nil) .nil)) (.ord 8 3839 .nil qax)))))))))))))))))) (.two (.any 831 64 (.ord 0 0 .nil (.ord 1 0 .nil (.ord 2 0 .nil (.ord 3 0 .nil (.ord 4 111 .nil (.ord 5 0 .nil (.ord 6 0 .nil (.ord 7 0 .nil qH))))))))) .nil))))
noncomputable def plainGamePlay_con:Ioc:=⟨Zt1,[Zt36],true,[],Zt42,fun x=>qb2 x.1 x.2.1⟩
noncomputable def qeF:Env:=(71,.con movesMake_con)::(86,.con slicesContains_Move_con)::(92,.con movesList_con)::(93,.body Tryz.f93)::(81,.rd plainGameResult_con)::[]
theorem qjo (x:DL (Zt1::[Zt36])):plainGamePlay_con.φ x=denIO Tryz.prog qeF qeJ Tryz.f79 Zt1 [Zt36] true [] Zt42 x:=by kernel_rfl
theorem qkL:IocOK Tryz.prog 79 plainGamePlay_con :=
  qsJ (env:=qeF) ((EnvOK.cons (EnvOK.cons (EnvOK.cons (EnvOK.body (EnvOK.readonly (EnvOK.nil _) qee) Tryz.func93) qgu) qch) qj4)) mixed Tryz.func79 plainGamePlay_con qeJ (by kernel_rfl) (fun h=>by first | rfl | cases h) qjo
def qcH:Ann:=(.two .nil (.two (.two (.two .nil (.two (.tail 12 .nil) .nil)) .nil) .nil))
noncomputable def plainGamePosition_con:Con:=⟨[Zt2],true,[],Zt17,fun x=>qaH x.1,none⟩
noncomputable def qcN:Env:=(93,.body Tryz.f93)::(87,.con placeCopy_con)::[]
theorem qgq (x:DL plainGamePosition_con.ps):plainGamePosition_con.φ x=denB Tryz.prog qcN qcH Tryz.f80 true plainGamePosition_con.ps plainGamePosition_con.one plainGamePosition_con.res plainGamePosition_con.ρ x:=by kernel_rfl
theorem qgZ:qpR Tryz.prog 80 plainGamePosition_con :=
  qlE (env:=qcN) ((EnvOK.body (EnvOK.cons (EnvOK.nil _) qka) Tryz.func93)) mixed Tryz.func80 plainGamePosition_con qcH (by kernel_rfl) (fun h=>by first | rfl | cases h) (fun g hg=>by cases hg) qgq
def qj7:Ann:=(.two .nil (.two (.two (.two .nil (.two .nil (.two .nil (.two (.frz [3,4,5] (.join ⟨[],[(2,(.obx Zt1)),(3,Zt42)],[]⟩ (.any 213 40 (.ord 0 12 .nil (.alt (.ord 1 0 .nil (.ord 2 0 .nil (.ord 3 0 .nil (.ord 4 0 .nil (.ord 5 0 .nil (.ord 6 0 .nil (.ord 7 0 .nil .nil))))))) (.ord 2 0 .nil (.alt (.ord 1 0 .nil (.ord 3 0 .nil (.ord 4 0 .nil (.ord 5 0 .nil (.ord 6 0 .nil (.ord 7 0 .nil .nil)))))) (.ord 3 0 .nil (.ord 1 0 .nil (.ord 4 0 .nil (.ord 5 0 .nil (.ord 6 0 .nil (.ord 7 0 .nil .nil))))))))))))) .nil)))) .nil) (.sel 7 1000013 (.two .nil (.two (.two .nil (.joinE ⟨[4,7],[],[(1,some (.box Zt20)),(7,some (.box Zt3)),(8,none),(9,none)]⟩ (.two (.loop ⟨[4,7,21,22],[(23,Zt42)],[(1,some (.box Zt20)),(7,some (.box Zt3)),(8,none),(9,none)]⟩ .nil) .nil))) .nil)) (.two .nil (.two (.two .nil (.joinE ⟨[4,7],[],[]⟩ (.two (.loop ⟨[4,7,21,22],[(23,Zt42)],[]⟩ .nil) .nil))) .nil)))))
noncomputable def plainRun_con:Con:=⟨[Zt6,Zt35],false,[Zt17,Zt42,Zt42],(.st Zt17 Zt37),fun x=>qam x.1 x.2.1,none⟩
noncomputable def qjV:Env:=(81,.rd plainGameResult_con)::(80,.rd plainGamePosition_con)::(79,.io plainGamePlay_con)::(91,.con rulesCopy_con)::(48,.con placeBegin_con)::(78,.body Tryz.f78)::[]
theorem qp3 (x:DL plainRun_con.ps):plainRun_con.φ x=denF Tryz.prog qjV qj7 Tryz.f65 plainRun_con.ps plainRun_con.one plainRun_con.res plainRun_con.ρ x:=by kernel_rfl
theorem qqn:ConOK Tryz.prog 65 plainRun_con :=
  qe (env:=qjV) ((EnvOK.readonly (EnvOK.readonly (EnvOK.inout (EnvOK.cons (EnvOK.cons (EnvOK.body (EnvOK.nil _) Tryz.func78) qic) qoG) qkL) qgZ) qee)) mixed Tryz.func65 plainRun_con qj7 (by kernel_rfl) (fun h=>by first | rfl | cases h) (fun g hg=>by cases hg) qp3
def qiF:Ann:=(.two .nil (.two .nil (.two (.two .nil (.join ⟨[],[(3,Zt42)],[]⟩ (.two (.loop ⟨[0,6,7],[(3,Zt42),(8,Zt42)],[]⟩ (.two .nil (.two .nil (.two (.two (.two .nil (.two .nil (.join ⟨[0,6,7,8],[(3,Zt42)],[]⟩ .nil))) .nil) .nil)))) .nil))) .nil)))
noncomputable def ref3Times_con:Con:=⟨[Zt18],true,[],Zt42,fun x=>qi4 x.1,none⟩
noncomputable def qje:Env:=(84,.con placeSame_con)::[]
theorem qnV (x:DL ref3Times_con.ps):ref3Times_con.φ x=denF Tryz.prog qje qiF Tryz.f69 ref3Times_con.ps ref3Times_con.one ref3Times_con.res ref3Times_con.ρ x:=by kernel_rfl
theorem qoJ:ConOK Tryz.prog 69 ref3Times_con :=
  qe (env:=qje) ((EnvOK.cons (EnvOK.nil _) qjX)) mixed Tryz.func69 ref3Times_con qiF (by kernel_rfl) (fun h=>by first | rfl | cases h) (fun g hg=>by cases hg) qnV
def qhf:Ann := .nil
noncomputable def ref3Result_con:Con:=⟨[Zt6,Zt18],true,[],Zt42,fun x=>qeD x.1 x.2.1,none⟩
noncomputable def qhi:Env:=(69,.con ref3Times_con)::(68,.con endsOf_con)::[]
theorem qmi (x:DL ref3Result_con.ps):ref3Result_con.φ x=denF Tryz.prog qhi qhf Tryz.f49 ref3Result_con.ps ref3Result_con.one ref3Result_con.res ref3Result_con.ρ x:=by kernel_rfl
theorem qnY:ConOK Tryz.prog 49 ref3Result_con :=
  qe (env:=qhi) ((EnvOK.cons (EnvOK.cons (EnvOK.nil _) endsOf_ok) qoJ)) mixed Tryz.func49 ref3Result_con qhf (by kernel_rfl) (fun h=>by first | rfl | cases h) (fun g hg=>by cases hg) qmi
def qg6:Ann:=(.two .nil (.two .nil (.two .nil (.two .nil (.two (.two .nil (.joinE ⟨[],[(8,Zt16)],[(5,none)]⟩ (.two (.loop ⟨[2,23,24],[(8,Zt16),(25,Zt42)],[(5,none)]⟩ (.two .nil (.two .nil (.two (.two (.two .nil (.two .nil (.two (.join ⟨[2,8,23,24,25],[(11,(.obx Zt17)),(12,Zt42)],[]⟩ (.any 20223 4096 (.ord 0 4350 .nil (.ord 1 0 .nil (.ord 2 0 .nil (.ord 3 0 .nil (.ord 4 0 .nil (.ord 5 0 .nil (.ord 6 4287 .nil (.ord 7 4223 .nil (.alt (.ord 8 0 .nil (.ord 9 0 .nil (.ord 10 0 .nil (.ord 11 0 .nil (.ord 12 0 .nil (.ord 13 0 .nil (.ord 14 0 .nil .nil))))))) (.ord 12 0 .nil (.ord 8 0 .nil (.ord 9 0 .nil (.ord 10 0 .nil (.ord 11 0 .nil (.ord 13 0 .nil (.ord 14 0 .nil .nil)))))))))))))))))) .nil))) .nil) .nil)))) .nil))) .nil)))))
noncomputable def ref3Places_con:Con:=⟨[Zt6,Zt35],false,[Zt16,Zt42],(.st Zt16 Zt39),fun x=>qeG x.1 x.2.1,none⟩
noncomputable def qhl:Env:=(50,.con movesAfter_con)::(49,.con ref3Result_con)::(48,.con placeBegin_con)::[]
theorem qmu (x:DL ref3Places_con.ps):ref3Places_con.φ x=denF Tryz.prog qhl qg6 Tryz.f27 ref3Places_con.ps ref3Places_con.one ref3Places_con.res ref3Places_con.ρ x:=by kernel_rfl
theorem qn4:ConOK Tryz.prog 27 ref3Places_con :=
  qe (env:=qhl) ((EnvOK.cons (EnvOK.cons (EnvOK.cons (EnvOK.nil _) qic) qnY) qoo)) mixed Tryz.func27 ref3Places_con qg6 (by kernel_rfl) (fun h=>by first | rfl | cases h) (fun g hg=>by cases hg) qmu
def qfJ:Ann:=(.two .nil (.two .nil (.two (.two .nil (.joinE ⟨[],[],[]⟩ (.two (.loop ⟨[0,1,12],[(13,Zt42)],[]⟩ .nil) .nil))) .nil)))
noncomputable def ref3SameLine_con:Con:=⟨[Zt35,Zt35],true,[],.bool,fun x=>qaO x.1 x.2.1,none⟩
noncomputable def qfN:Env:=[]
theorem qkI (x:DL ref3SameLine_con.ps):ref3SameLine_con.φ x=denF Tryz.prog qfN qfJ Tryz.f12 ref3SameLine_con.ps ref3SameLine_con.one ref3SameLine_con.res ref3SameLine_con.ρ x:=by kernel_rfl
theorem qdT:ConOK Tryz.prog 12 ref3SameLine_con :=
  qe (env:=qfN) ((EnvOK.nil _)) mixed Tryz.func12 ref3SameLine_con qfJ (by kernel_rfl) (fun h=>by first | rfl | cases h) (fun g hg=>by cases hg) qkI
def qlS:Ann := .nil
noncomputable def law3Tic_con:Con:=⟨[],true,[],Zt4,fun x=>qlH,some fun x=>qaa⟩
noncomputable def ql8:Env:=[]
theorem qp5 (x:DL law3Tic_con.ps):law3Tic_con.φ x=denF Tryz.prog ql8 qlS Tryz.f18 law3Tic_con.ps law3Tic_con.one law3Tic_con.res law3Tic_con.ρ x:=by kernel_rfl
theorem qsX:ConOK Tryz.prog 18 law3Tic_con :=
  qe (env:=ql8) ((EnvOK.nil _)) mixed Tryz.func18 law3Tic_con qlS (by kernel_rfl) (fun h=>by first | rfl | cases h) (fun g hg x=>by
    cases hg
    exact qse ) qp5
def qjY:Ann := .nil
noncomputable def law3Drop_con:Con:=⟨[Zt42],true,[],Zt36,fun x=>qjm x.1,some fun x=>qiB x.1⟩
noncomputable def qkd:Env:=[]
theorem qoK (x:DL law3Drop_con.ps):law3Drop_con.φ x=denF Tryz.prog qkd qjY Tryz.f19 law3Drop_con.ps law3Drop_con.one law3Drop_con.res law3Drop_con.ρ x:=by kernel_rfl
theorem qp7:ConOK Tryz.prog 19 law3Drop_con :=
  qe (env:=qkd) ((EnvOK.nil _)) mixed Tryz.func19 law3Drop_con qjY (by kernel_rfl) (fun h=>by first | rfl | cases h) (fun g hg x=>by
    cases hg
    exact qp8 _) qoK
def qi0:Ann := .nil
noncomputable def law3Great_con:Con:=⟨[Zt6],true,[],.bool,fun x=>qhO x.1,some fun x=>qgn x.1⟩
noncomputable def qh7:Env:=[]
theorem qnD (x:DL law3Great_con.ps):law3Great_con.φ x=denF Tryz.prog qh7 qi0 Tryz.f7 law3Great_con.ps law3Great_con.one law3Great_con.res law3Great_con.ρ x:=by kernel_rfl
theorem qo7:ConOK Tryz.prog 7 law3Great_con :=
  qe (env:=qh7) ((EnvOK.nil _)) mixed Tryz.func7 law3Great_con qi0 (by kernel_rfl) (fun h=>by first | rfl | cases h) (fun g hg x=>by
    cases hg
    exact qpL _) qnD
def qdu:Ann:=(.two .nil (.two (.two .nil (.joinE ⟨[],[],[]⟩ (.two (.loop ⟨[0,1,7],[(8,Zt42)],[]⟩ .nil) .nil))) .nil))
noncomputable def recordPrintable_con:Con:=⟨[.str,.str],true,[],.bool,fun x=>qbi x.1 x.2.1,none⟩
noncomputable def qdU:Env:=(76,.con qhh)::[]
theorem qhM (x:DL recordPrintable_con.ps):recordPrintable_con.φ x=denF Tryz.prog qdU qdu Tryz.f60 recordPrintable_con.ps recordPrintable_con.one recordPrintable_con.res recordPrintable_con.ρ x:=by kernel_rfl
theorem qdY:ConOK Tryz.prog 60 recordPrintable_con :=
  qe (env:=qdU) ((EnvOK.cons (EnvOK.nil _) qn9)) mixed Tryz.func60 recordPrintable_con qdu (by kernel_rfl) (fun h=>by first | rfl | cases h) (fun g hg=>by cases hg) qhM
def qg8:Ann:=(.two .nil (.two (.two .nil (.joinE ⟨[],[],[]⟩ (.two (.loop ⟨[1,6,7],[(8,Zt42)],[]⟩ (.two .nil (.two .nil (.two (.two (.two .nil (.two (.two .nil (.two .nil (.two .nil (.two .nil (.two .nil (.two .nil (.two (.two (.two .nil (.two (.two (.two .nil (.two (.two .nil (.joinE ⟨[],[],[]⟩ (.two (.loop ⟨[0,1,7],[(8,Zt42)],[]⟩ .nil) .nil))) .nil)) .nil) .nil)) .nil) .nil))))))) .nil)) .nil) .nil)))) .nil))) .nil))
noncomputable def recordTags_con:Con:=⟨[Zt11],true,[],Zt42,fun x=>qgY x.1,none⟩
noncomputable def qho:Env:=(61,.body Tryz.f61)::(47,.body Tryz.f47)::(24,.body Tryz.f24)::(60,.con recordPrintable_con)::(54,.con rulesName_con)::[]
theorem qms (x:DL recordTags_con.ps):recordTags_con.φ x=denF Tryz.prog qho qg8 Tryz.f38 recordTags_con.ps recordTags_con.one recordTags_con.res recordTags_con.ρ x:=by kernel_rfl
theorem qoc:ConOK Tryz.prog 38 recordTags_con :=
  qe (env:=qho) ((EnvOK.body (EnvOK.body (EnvOK.body (EnvOK.cons (EnvOK.cons (EnvOK.nil _) qkr) qdY) Tryz.func24) Tryz.func47) Tryz.func61)) mixed Tryz.func38 recordTags_con qg8 (by kernel_rfl) (fun h=>by first | rfl | cases h) (fun g hg=>by cases hg) qms
def qeS:Ann := .nil
noncomputable def recordComment_con:Con:=⟨[.str],true,[],Zt42,fun x=>qcb x.1,none⟩
noncomputable def qeT:Env:=(60,.con recordPrintable_con)::[]
theorem qjp (x:DL recordComment_con.ps):recordComment_con.φ x=denF Tryz.prog qeT qeS Tryz.f39 recordComment_con.ps recordComment_con.one recordComment_con.res recordComment_con.ρ x:=by kernel_rfl
theorem qfH:ConOK Tryz.prog 39 recordComment_con :=
  qe (env:=qeT) ((EnvOK.cons (EnvOK.nil _) qdY)) mixed Tryz.func39 recordComment_con qeS (by kernel_rfl) (fun h=>by first | rfl | cases h) (fun g hg=>by cases hg) qjp
def qkh:Ann:=(.two .nil (.two (.two .nil (.joinE ⟨[1],[],[]⟩ (.two (.loop ⟨[1,3],[(7,Zt42)],[]⟩ .nil) .nil))) .nil))
noncomputable def recordOn_con:Con:=⟨[Zt11,Zt42,Zt42],true,[],.bool,fun x=>qgS x.1 x.2.1 x.2.2.1,none⟩
noncomputable def qjZ:Env:=[]
theorem qpZ (x:DL recordOn_con.ps):recordOn_con.φ x=denF Tryz.prog qjZ qkh Tryz.f62 recordOn_con.ps recordOn_con.one recordOn_con.res recordOn_con.ρ x:=by kernel_rfl
theorem qqT:ConOK Tryz.prog 62 recordOn_con :=
  qe (env:=qjZ) ((EnvOK.nil _)) mixed Tryz.func62 recordOn_con qkh (by kernel_rfl) (fun h=>by first | rfl | cases h) (fun g hg=>by cases hg) qpZ
def qiG:Ann:=(.two .nil (.two .nil (.two (.two .nil (.join ⟨[],[(5,Zt34)],[]⟩ (.two (.loop ⟨[2],[(5,Zt34),(6,Zt42)],[]⟩ .nil) .nil))) (.two (.two (.two .nil (.join ⟨[],[],[(1,some (.arr 45 Zt36))]⟩ (.two (.loop ⟨[0],[(2,Zt42),(3,Zt42)],[(1,some (.arr 45 Zt36))]⟩ (.two .nil (.two (.two (.any 24575 0 (.ord 0 0 .nil (.ord 1 0 .nil (.ord 2 0 .nil (.ord 3 0 .nil (.ord 4 0 .nil (.ord 5 0 .nil (.ord 6 0 .nil (.ord 7 3967 .nil (.ord 8 0 .nil (.ord 9 0 .nil (.ord 10 0 .nil (.ord 11 0 .nil (.ord 12 0 .nil (.ord 13 0 .nil (.ord 14 0 .nil (.ord 15 0 .nil .nil))))))))))))))))) .nil) .nil))) .nil))) .nil) .nil))))
noncomputable def recordWay_con:Con:=⟨[Zt11,Zt42],true,[],Zt34,fun x=>qZ x.1 x.2.1,none⟩
noncomputable def qiC:Env:=(53,.body Tryz.f53)::[]
theorem qos (x:DL recordWay_con.ps):recordWay_con.φ x=denF Tryz.prog qiC qiG Tryz.f36 recordWay_con.ps recordWay_con.one recordWay_con.res recordWay_con.ρ x:=by kernel_rfl
theorem qkn:ConOK Tryz.prog 36 recordWay_con :=
  qe (env:=qiC) ((EnvOK.body (EnvOK.nil _) Tryz.func53)) mixed Tryz.func36 recordWay_con qiG (by kernel_rfl) (fun h=>by first | rfl | cases h) (fun g hg=>by cases hg) qos
def qbW:Ann:=(.ord 4 0 .nil (.ord 5 0 .nil (.ord 6 0 .nil (.ord 7 0 .nil (.ord 8 0 .nil (.ord 10 0 .nil (.ord 11 0 .nil (.ord 12 0 .nil .nil))))))))
def qgb:Ann:=(.alt (.ord 4 0 .nil (.ord 5 0 .nil (.ord 6 0 .nil (.ord 7 0 .nil (.ord 8 0 .nil (.ord 9 0 .nil (.ord 10 0 .nil (.ord 11 0 .nil (.ord 12 0 .nil .nil))))))))) (.ord 9 0 .nil qbW))
def qhm:Ann:=(.two .nil (.two .nil (.two .nil (.two .nil (.two (.two .nil (.join ⟨[2,3,4,5,9],[],[(0,some (.arr 3 Zt42))]⟩ .nil)) (.two (.two .nil (.joinE ⟨[2,3,4,5,9],[],[]⟩ (.two (.loop ⟨[2,3,4,5,9,54,55],[(56,Zt42)],[]⟩ (.two .nil (.two .nil (.two (.joinE ⟨[2,3,4,5,9,54,55,56],[],[]⟩ .nil) .nil)))) .nil))) (.two (.two (.two (.two .nil (.two (.two (.two .nil (.two (.two .nil (.joinE ⟨[],[],[]⟩ (.two (.loop ⟨[0,1,7],[(8,Zt42)],[]⟩ .nil) .nil))) .nil)) .nil) .nil)) .nil) (.sel 4 1000005 (.join ⟨[2,3,4,5],[],[(0,some (.arr 3 Zt42))]⟩ .nil) .nil)) (.two (.two (.join ⟨[2,3],[(15,Zt42)],[]⟩ (.any 6631 512 (.ord 1 517 .nil (.ord 2 0 .nil (.alt (.ord 0 0 .nil (.alt (.ord 3 0 .nil qgb) (.ord 9 0 .nil (.ord 3 0 .nil qbW)))) (.alt (.ord 3 0 .nil (.ord 0 526 .nil qgb)) (.ord 9 0 .nil (.alt (.ord 0 0 .nil (.ord 3 0 .nil qbW)) (.ord 3 0 .nil (.ord 0 0 .nil qbW)))))))))) .nil) .nil))))))))
noncomputable def recordNode_con:Roc:=⟨3,3,Zt42,[Zt6,Zt11,Zt42],true,[],Zt42,fun x=>qdo x.1 x.2.1 x.2.2.1 x.2.2.2.1⟩
noncomputable def qhz:Env:=(65,.con plainRun_con)::(36,.con recordWay_con)::(64,.body Tryz.f64)::(77,.body Tryz.f77)::(63,.body Tryz.f63)::(62,.con recordOn_con)::(39,.con recordComment_con)::[]
theorem qmB (x:DL (Zt40::[Zt6,Zt11,Zt42])):recordNode_con.φ x=denRO Tryz.prog qhz qhm Tryz.f40 3 3 Zt42 [Zt6,Zt11,Zt42] true [] Zt42 x:=by kernel_rfl
theorem qoi:RocOK Tryz.prog 40 recordNode_con :=
  qsV (env:=qhz) ((EnvOK.cons (EnvOK.cons (EnvOK.body (EnvOK.body (EnvOK.body (EnvOK.cons (EnvOK.cons (EnvOK.nil _) qfH) qqT) Tryz.func63) Tryz.func77) Tryz.func64) qkn) qqn)) mixed Tryz.func40 recordNode_con qhm (by kernel_rfl) (fun h=>by first | rfl | cases h) qmB
def qgc:Ann:=(.two .nil (.two .nil (.two .nil (.two .nil (.two .nil (.two .nil (.two .nil (.two (.two .nil (.joinE ⟨[],[],[(2,some (.arr 3 Zt42))]⟩ (.two (.loop ⟨[2,3,8,51],[(52,Zt42)],[(2,some (.arr 3 Zt42))]⟩ .nil) .nil))) .nil))))))))
noncomputable def recordCheck_con:Con:=⟨[Zt6,Zt11],true,[],Zt42,fun x=>qal x.1 x.2.1,none⟩
noncomputable def qf1:Env:=(40,.ro recordNode_con)::(39,.con recordComment_con)::(38,.con recordTags_con)::(37,.con rulesCheck_con)::[]
theorem qlO (x:DL recordCheck_con.ps):recordCheck_con.φ x=denF Tryz.prog qf1 qgc Tryz.f20 recordCheck_con.ps recordCheck_con.one recordCheck_con.res recordCheck_con.ρ x:=by kernel_rfl
theorem qeu:ConOK Tryz.prog 20 recordCheck_con :=
  qe (env:=qf1) ((EnvOK.rowio (EnvOK.cons (EnvOK.cons (EnvOK.cons (EnvOK.nil _) qfu) qoc) qfH) qoi)) mixed Tryz.func20 recordCheck_con qgc (by kernel_rfl) (fun h=>by first | rfl | cases h) (fun g hg=>by cases hg) qlO
def qg5:Ann:=(.two .nil (.two .nil (.two (.two .nil (.join ⟨[],[(5,Zt40)],[]⟩ (.two (.loop ⟨[1,9,10],[(5,Zt40),(11,Zt42)],[]⟩ (.two .nil (.two .nil (.two (.two (.two .nil (.two .nil (.join ⟨[1,9,10,11],[(5,Zt40)],[(1,none)]⟩ .nil))) .nil) .nil)))) .nil))) .nil)))
noncomputable def recordKids_con:Con:=⟨[Zt11,Zt42],true,[],Zt40,fun x=>qgR x.1 x.2.1,none⟩
noncomputable def qhp:Env:=[]
theorem qmE (x:DL recordKids_con.ps):recordKids_con.φ x=denF Tryz.prog qhp qg5 Tryz.f41 recordKids_con.ps recordKids_con.one recordKids_con.res recordKids_con.ρ x:=by kernel_rfl
theorem qnM:ConOK Tryz.prog 41 recordKids_con :=
  qe (env:=qhp) ((EnvOK.nil _)) mixed Tryz.func41 recordKids_con qg5 (by kernel_rfl) (fun h=>by first | rfl | cases h) (fun g hg=>by cases hg) qmE
def qkA:Ann:=(.two .nil (.two .nil (.two (.two .nil (.joinE ⟨[],[],[]⟩ (.two (.loop ⟨[23,24],[(25,Zt42)],[]⟩ .nil) .nil))) .nil)))
noncomputable def ref3Name_con:Con:=⟨[.str],true,[],.bool,fun x=>qkS x.1,none⟩
noncomputable def qkj:Env:=[]
theorem qpE (x:DL ref3Name_con.ps):ref3Name_con.φ x=denF Tryz.prog qkj qkA Tryz.f28 ref3Name_con.ps ref3Name_con.one ref3Name_con.res ref3Name_con.ρ x:=by kernel_rfl
theorem qqm:ConOK Tryz.prog 28 ref3Name_con :=
  qe (env:=qkj) ((EnvOK.nil _)) mixed Tryz.func28 ref3Name_con qkA (by kernel_rfl) (fun h=>by first | rfl | cases h) (fun g hg=>by cases hg) qpE
def qkg:Ann:=(.two .nil (.two (.two .nil (.joinE ⟨[],[],[]⟩ (.two (.loop ⟨[1,10,11],[(12,Zt42)],[]⟩ (.two .nil (.two .nil (.two (.joinE ⟨[1,10,11,12],[],[]⟩ (.two (.two .nil (.two (.two .nil (.joinE ⟨[1,6,10,11,12],[],[]⟩ (.two (.loop ⟨[1,6,10,11,12,17,18],[(19,Zt42)],[]⟩ .nil) .nil))) .nil)) .nil)) .nil)))) .nil))) .nil))
noncomputable def ref3Fine_con:Con:=⟨[.str,.str],true,[],.bool,fun x=>qgO x.1 x.2.1,none⟩
noncomputable def qj1:Env:=[]
theorem qoN (x:DL ref3Fine_con.ps):ref3Fine_con.φ x=denF Tryz.prog qj1 qkg Tryz.f29 ref3Fine_con.ps ref3Fine_con.one ref3Fine_con.res ref3Fine_con.ρ x:=by kernel_rfl
theorem qqp:ConOK Tryz.prog 29 ref3Fine_con :=
  qe (env:=qj1) ((EnvOK.nil _)) mixed Tryz.func29 ref3Fine_con qkg (by kernel_rfl) (fun h=>by first | rfl | cases h) (fun g hg=>by cases hg) qoN
def qiv:Ann:=(.two .nil (.two (.join ⟨[1],[(2,Zt42)],[]⟩ (.two (.loop ⟨[0,1],[(2,Zt42)],[]⟩ .nil) .nil)) .nil))
noncomputable def ref3Above_con:Con:=⟨[Zt24,Zt42,Zt42],true,[],.bool,fun x=>qe1 x.1 x.2.1 x.2.2.1,none⟩
noncomputable def qia:Env:=[]
theorem qnZ (x:DL ref3Above_con.ps):ref3Above_con.φ x=denF Tryz.prog qia qiv Tryz.f30 ref3Above_con.ps ref3Above_con.one ref3Above_con.res ref3Above_con.ρ x:=by kernel_rfl
theorem qpN:ConOK Tryz.prog 30 ref3Above_con :=
  qe (env:=qia) ((EnvOK.nil _)) mixed Tryz.func30 ref3Above_con qiv (by kernel_rfl) (fun h=>by first | rfl | cases h) (fun g hg=>by cases hg) qnZ
def qlz:Ann := .nil
noncomputable def ref3Way_con:Con:=⟨[Zt24,Zt42],false,[Zt34,.bool],Zt27,fun x=>qou x.1 x.2.1,none⟩
noncomputable def qlk (φ:DL [Zt24,Zt42]→Option (D Zt27)):Env:=(16,.con ⟨[Zt24,Zt42],false,[Zt34,.bool],Zt27,φ,none⟩)::[]
theorem qqc (φ:DL [Zt24,Zt42]→Option (D Zt27)) (x:DL [Zt24,Zt42]):qcI φ x=denF Tryz.prog (qlk φ) qlz Tryz.f16 ref3Way_con.ps ref3Way_con.one ref3Way_con.res ref3Way_con.ρ x:=by kernel_rfl
theorem qns:ConOK Tryz.prog 16 ref3Way_con :=
  con_fix (ps:=[Zt24,Zt42]) (ρ:=Zt27) (G:=qcI) (by kernel_rfl) (fun h=>by first | rfl | cases h) fun φ hφ =>
  qe (env:=qlk φ) ((EnvOK.cons (EnvOK.nil _) hφ)) mixed Tryz.func16 ⟨[Zt24,Zt42],false,[Zt34,.bool],Zt27,qcI φ,none⟩ qlz (by kernel_rfl) (fun h=>by first | rfl | cases h) (fun g hg=>by cases hg) (qqc φ)
def qg4:Ann:=(.two .nil (.two .nil (.two (.join ⟨[],[(5,Zt42)],[]⟩ (.two (.loop ⟨[0],[(1,Zt42),(5,Zt42)],[]⟩ (.two .nil (.two (.join ⟨[0,1],[(5,Zt42)],[]⟩ (.two (.two .nil (.join ⟨[0,1],[(5,Zt42)],[]⟩ (.two (.loop ⟨[0,1,14],[(5,Zt42),(15,Zt42)],[]⟩ .nil) .nil))) .nil)) .nil))) .nil)) .nil)))
noncomputable def ref3Within_con:Con:=⟨[Zt24,Zt42],true,[],Zt42,fun x=>qdi x.1 x.2.1,none⟩
noncomputable def qhg:Env:=[]
theorem qmr (x:DL ref3Within_con.ps):ref3Within_con.φ x=denF Tryz.prog qhg qg4 Tryz.f31 ref3Within_con.ps ref3Within_con.one ref3Within_con.res ref3Within_con.ρ x:=by kernel_rfl
theorem qnG:ConOK Tryz.prog 31 ref3Within_con :=
  qe (env:=qhg) ((EnvOK.nil _)) mixed Tryz.func31 ref3Within_con qg4 (by kernel_rfl) (fun h=>by first | rfl | cases h) (fun g hg=>by cases hg) qmr
def qdI:Ann:=(.two .nil (.two .nil (.two .nil (.two (.two .nil (.joinE ⟨[2,3],[],[]⟩ (.two (.loop ⟨[2,3,37,38],[(39,Zt42)],[]⟩ (.two .nil (.two .nil (.two (.joinE ⟨[2,3,37,38,39],[],[]⟩ (.two (.two .nil (.two .nil (.two .nil (.joinE ⟨[2,3,37,38,39],[],[]⟩ (.two (.loop ⟨[2,3,8,37,38,39,59],[(60,Zt42)],[]⟩ .nil) .nil))))) .nil)) .nil)))) .nil))) (.two .nil (.two (.two .nil (.joinE ⟨[3],[],[]⟩ (.two (.loop ⟨[2,3,94,95],[(96,Zt42)],[]⟩ (.two .nil (.two .nil (.two (.joinE ⟨[2,3,94,95,96],[],[]⟩ (.two (.two .nil (.two .nil (.two .nil (.two .nil (.two (.two .nil (.joinE ⟨[2,3,10,94,95,96],[],[]⟩ (.two (.loop ⟨[2,3,10,11,94,95,96,146],[(147,Zt42)],[]⟩ .nil) .nil))) .nil))))) .nil)) .nil)))) .nil))) (.two (.two .nil (.joinE ⟨[],[],[]⟩ (.two (.loop ⟨[3,190],[(191,Zt42)],[]⟩ .nil) .nil))) .nil)))))))
noncomputable def ref3RecordFault_con:Con:=⟨[Zt6,Zt11],true,[],Zt42,fun x=>qA x.1 x.2.1,none⟩
noncomputable def qdQ:Env:=(31,.con ref3Within_con)::(16,.con ref3Way_con)::(30,.con ref3Above_con)::(29,.con ref3Fine_con)::(28,.con ref3Name_con)::(27,.con ref3Places_con)::[]
theorem qhG (x:DL ref3RecordFault_con.ps):ref3RecordFault_con.φ x=denF Tryz.prog qdQ qdI Tryz.f9 ref3RecordFault_con.ps ref3RecordFault_con.one ref3RecordFault_con.res ref3RecordFault_con.ρ x:=by kernel_rfl
theorem qiu:ConOK Tryz.prog 9 ref3RecordFault_con :=
  qe (env:=qdQ) ((EnvOK.cons (EnvOK.cons (EnvOK.cons (EnvOK.cons (EnvOK.cons (EnvOK.cons (EnvOK.nil _) qn4) qqm) qqp) qpN) qns) qnG)) mixed Tryz.func9 ref3RecordFault_con qdI (by kernel_rfl) (fun h=>by first | rfl | cases h) (fun g hg=>by cases hg) qhG
def qiN:Ann := .nil
noncomputable def law3Short_con:Con:=⟨[Zt11],true,[],Zt11,fun x=>qcP x.1,none⟩
noncomputable def qjh:Env:=[]
theorem qon (x:DL law3Short_con.ps):law3Short_con.φ x=denF Tryz.prog qjh qiN Tryz.f6 law3Short_con.ps law3Short_con.one law3Short_con.res law3Short_con.ρ x:=by kernel_rfl
theorem qo2:ConOK Tryz.prog 6 law3Short_con :=
  qe (env:=qjh) ((EnvOK.nil _)) mixed Tryz.func6 law3Short_con qiN (by kernel_rfl) (fun h=>by first | rfl | cases h) (fun g hg=>by cases hg) qon
def qdw:Ann := .nil
noncomputable def annotateChecked_con:Con:=⟨[Zt6,Zt11,Zt42],true,[],Zt42,fun x=>qdO x.1 x.2.1 x.2.2.1,none⟩
noncomputable def qdF:Env:=(20,.con recordCheck_con)::[]
theorem qhR (x:DL annotateChecked_con.ps):annotateChecked_con.φ x=denF Tryz.prog qdF qdw Tryz.f32 annotateChecked_con.ps annotateChecked_con.one annotateChecked_con.res annotateChecked_con.ρ x:=by kernel_rfl
theorem qik:ConOK Tryz.prog 32 annotateChecked_con :=
  qe (env:=qdF) ((EnvOK.cons (EnvOK.nil _) qeu)) mixed Tryz.func32 annotateChecked_con qdw (by kernel_rfl) (fun h=>by first | rfl | cases h) (fun g hg=>by cases hg) qhR
def qfE:Ann := .nil
noncomputable def annotatePath_con:Con:=⟨[Zt6,Zt11,Zt42],false,[Zt34,Zt42],Zt26,fun x=>qcR x.1 x.2.1 x.2.2.1,none⟩
noncomputable def qfK:Env:=(36,.con recordWay_con)::(32,.con annotateChecked_con)::[]
theorem qkK (x:DL annotatePath_con.ps):annotatePath_con.φ x=denF Tryz.prog qfK qfE Tryz.f17 annotatePath_con.ps annotatePath_con.one annotatePath_con.res annotatePath_con.ρ x:=by kernel_rfl
theorem qlJ:ConOK Tryz.prog 17 annotatePath_con :=
  qe (env:=qfK) ((EnvOK.cons (EnvOK.cons (EnvOK.nil _) qik) qkn)) mixed Tryz.func17 annotatePath_con qfE (by kernel_rfl) (fun h=>by first | rfl | cases h) (fun g hg=>by cases hg) qkK
def qeU:Ann := .nil
noncomputable def law3Annotates_con:Con:=⟨[],true,[],.bool,fun x=>qc4,none⟩
noncomputable def qeI:Env:=(17,.con annotatePath_con)::(19,.con law3Drop_con)::(18,.con law3Tic_con)::[]
theorem qjB (x:DL law3Annotates_con.ps):law3Annotates_con.φ x=denF Tryz.prog qeI qeU Tryz.f5 law3Annotates_con.ps law3Annotates_con.one law3Annotates_con.res law3Annotates_con.ρ x:=by kernel_rfl
theorem qkE:ConOK Tryz.prog 5 law3Annotates_con :=
  qe (env:=qeI) ((EnvOK.cons (EnvOK.cons (EnvOK.cons (EnvOK.nil _) qsX) qp7) qlJ)) mixed Tryz.func5 law3Annotates_con qeU (by kernel_rfl) (fun h=>by first | rfl | cases h) (fun g hg=>by cases hg) qjB
def qfD:Ann:=(.two .nil (.two .nil (.two (.two .nil (.join ⟨[],[(7,(.osl 79 .ref))],[(0,some (.arr 79 .ref)),(1,some (.ar 78 (.st Zt36 (.st .str (.st (.sl .ref) .nil))) none))]⟩ (.two (.loop ⟨[2,3,13,14],[(7,(.osl 79 .ref)),(15,Zt42)],[(0,some (.arr 79 .ref)),(1,some (.ar 78 (.st Zt36 (.st .str (.st (.sl .ref) .nil))) none))]⟩ (.two .nil (.two .nil (.two (.two (.two .nil (.two (.tail 13 .nil) .nil)) .nil) .nil)))) .nil))) .nil)))
noncomputable def qfO:Goc:=⟨(.osl 79 .ref),.nil,[Zt11,Zt42],[2,2,0],(some (78,(.st Zt36 (.st .str (.st (.sl .ref) .nil))),none)),none,true,[],(.osl 79 .ref),fun x=>qcG x.1 x.2.2.1 x.2.2.2.1 x.2.2.2.2.1⟩
noncomputable def qfP (φ:DL ((.osl 79 .ref) :: .nil::arT (some (78,(.st Zt36 (.st .str (.st (.sl .ref) .nil))),none))::[Zt11,Zt42])→Option (D (.st (.osl 79 .ref) (.st (arT (some (78,(.st Zt36 (.st .str (.st (.sl .ref) .nil))),none))) (.osl 79 .ref))))):Env:=(21,.go ⟨(.osl 79 .ref),.nil,[Zt11,Zt42],[2,2,0],(some (78,(.st Zt36 (.st .str (.st (.sl .ref) .nil))),none)),none,true,[],(.osl 79 .ref),φ⟩)::(41,.con recordKids_con)::[]
theorem qkJ (φ:DL ((.osl 79 .ref) :: .nil::arT (some (78,(.st Zt36 (.st .str (.st (.sl .ref) .nil))),none))::[Zt11,Zt42])→Option (D (.st (.osl 79 .ref) (.st (arT (some (78,(.st Zt36 (.st .str (.st (.sl .ref) .nil))),none))) (.osl 79 .ref))))) (x:DL ((.osl 79 .ref) :: .nil::arT (some (78,(.st Zt36 (.st .str (.st (.sl .ref) .nil))),none))::[Zt11,Zt42])):qQ φ x=denGO Tryz.prog (qfP φ) qfD Tryz.f21 (.osl 79 .ref) .nil [Zt11,Zt42] [2,2,0] (some (78,(.st Zt36 (.st .str (.st (.sl .ref) .nil))),none)) none true [] (.osl 79 .ref) x:=by kernel_rfl
theorem qlR:GocOK Tryz.prog 21 qfO :=
  go_fix (tp:=(.osl 79 .ref)) (mv := .nil) (ps:=[Zt11,Zt42]) (sg:=[2,2,0]) (ar:=(some (78,(.st Zt36 (.st .str (.st (.sl .ref) .nil))),none))) (cl:=none) (ρ:=(.osl 79 .ref)) (G:=qQ) (by kernel_rfl) (by kernel_rfl) (fun h=>by first | rfl | cases h) fun φ hφ =>
  qiQ (env:=qfP φ) ((EnvOK.general (EnvOK.cons (EnvOK.nil _) qnM) hφ)) mixed Tryz.func21 ⟨(.osl 79 .ref),.nil,[Zt11,Zt42],[2,2,0],(some (78,(.st Zt36 (.st .str (.st (.sl .ref) .nil))),none)),none,true,[],(.osl 79 .ref),qQ φ⟩ qfD (by kernel_rfl) (fun h=>by first | rfl | cases h) (qkJ φ)
def qeN:Ann:=(.two .nil (.two (.join ⟨[1],[(5,(.osl 79 .ref))],[]⟩ .nil) (.two (.two .nil (.join ⟨[],[(5,(.osl 79 .ref))],[(0,some (.ar 78 (.st Zt36 (.st .str (.st (.sl .ref) .nil))) none)),(1,none)]⟩ (.two (.loop ⟨[12,13],[(5,(.osl 79 .ref)),(14,Zt42)],[(0,some (.ar 78 (.st Zt36 (.st .str (.st (.sl .ref) .nil))) none)),(1,none)]⟩ (.two .nil (.two .nil (.two (.join ⟨[12,13,14],[(5,(.osl 79 .ref))],[(2,some (.ar 78 (.st Zt36 (.st .str (.st (.sl .ref) .nil))) none)),(3,none)]⟩ (.two (.two .nil (.two (.join ⟨[5,7,12,13,14],[(8,Zt42)],[]⟩ (.two (.two .nil (.two (.two .nil (.joinE ⟨[],[],[]⟩ (.two (.loop ⟨[0,1,7],[(8,Zt42)],[]⟩ .nil) .nil))) .nil)) .nil)) (.two .nil (.two .nil (.two (.two .nil (.join ⟨[5,7,8,9,12,13,14],[],[(2,some (.ar 78 (.st Zt36 (.st .str (.st (.sl .ref) .nil))) none))]⟩ .nil)) (.two (.tail 6 .nil) .nil)))))) .nil)) .nil)))) .nil))) .nil)))
noncomputable def qe0:Goc:=⟨.nil,.nil,[(.sl .ref),(.sl .ref)],[2,2],(some (78,(.st Zt36 (.st .str (.st (.sl .ref) .nil))),none)),none,true,[],(.osl 79 .ref),fun x=>qaR x.2.2.1 x.2.2.2.1 x.2.2.2.2.1⟩
noncomputable def qeO (φ:DL (.nil :: .nil::arT (some (78,(.st Zt36 (.st .str (.st (.sl .ref) .nil))),none))::[(.sl .ref),(.sl .ref)])→Option (D (.st .nil (.st (arT (some (78,(.st Zt36 (.st .str (.st (.sl .ref) .nil))),none))) (.osl 79 .ref))))):Env:=(23,.go ⟨.nil,.nil,[(.sl .ref),(.sl .ref)],[2,2],(some (78,(.st Zt36 (.st .str (.st (.sl .ref) .nil))),none)),none,true,[],(.osl 79 .ref),φ⟩)::(46,.body Tryz.f46)::(45,.body Tryz.f45)::(44,.body Tryz.f44)::[]
theorem qjP (φ:DL (.nil :: .nil::arT (some (78,(.st Zt36 (.st .str (.st (.sl .ref) .nil))),none))::[(.sl .ref),(.sl .ref)])→Option (D (.st .nil (.st (arT (some (78,(.st Zt36 (.st .str (.st (.sl .ref) .nil))),none))) (.osl 79 .ref))))) (x:DL (.nil :: .nil::arT (some (78,(.st Zt36 (.st .str (.st (.sl .ref) .nil))),none))::[(.sl .ref),(.sl .ref)])):qJ φ x=denGO Tryz.prog (qeO φ) qeN Tryz.f23 .nil .nil [(.sl .ref),(.sl .ref)] [2,2] (some (78,(.st Zt36 (.st .str (.st (.sl .ref) .nil))),none)) none true [] (.osl 79 .ref) x:=by kernel_rfl
theorem qkH:GocOK Tryz.prog 23 qe0 :=
  go_fix (tp := .nil) (mv := .nil) (ps:=[(.sl .ref),(.sl .ref)]) (sg:=[2,2]) (ar:=(some (78,(.st Zt36 (.st .str (.st (.sl .ref) .nil))),none))) (cl:=none) (ρ:=(.osl 79 .ref)) (G:=qJ) (by kernel_rfl) (by kernel_rfl) (fun h=>by first | rfl | cases h) fun φ hφ =>
  qiQ (env:=qeO φ) ((EnvOK.general (EnvOK.body (EnvOK.body (EnvOK.body (EnvOK.nil _) Tryz.func44) Tryz.func45) Tryz.func46) hφ)) mixed Tryz.func23 ⟨.nil,.nil,[(.sl .ref),(.sl .ref)],[2,2],(some (78,(.st Zt36 (.st .str (.st (.sl .ref) .nil))),none)),none,true,[],(.osl 79 .ref),qJ φ⟩ qeN (by kernel_rfl) (fun h=>by first | rfl | cases h) (qjP φ)
def qbF:Ann := .nil
noncomputable def slicesClone_RecordTag_con:Con:=⟨[(.sl Zt38)],true,[],(.osl 64 Zt38),fun x=>qb x.1,none⟩
noncomputable def qby:Env:=[]
theorem qes (x:DL slicesClone_RecordTag_con.ps):slicesClone_RecordTag_con.φ x=denF Tryz.prog qby qbF Tryz.f42 slicesClone_RecordTag_con.ps slicesClone_RecordTag_con.one slicesClone_RecordTag_con.res slicesClone_RecordTag_con.ρ x:=by kernel_rfl
theorem qeK:ConOK Tryz.prog 42 slicesClone_RecordTag_con :=
  qe (env:=qby) ((EnvOK.nil _)) mixed Tryz.func42 slicesClone_RecordTag_con qbF (by kernel_rfl) (fun h=>by first | rfl | cases h) (fun g hg=>by cases hg) qes
def qeM:Ann:=(.two .nil (.join ⟨[],[],[(0,some (.box Zt21)),(1,none),(3,some (.ar 78 (.st Zt36 (.st .str (.st (.sl .ref) .nil))) none))]⟩ (.two (.loop ⟨[1,2,3,9,10],[(11,Zt42)],[(0,some (.box Zt21)),(1,none),(3,some (.ar 78 (.st Zt36 (.st .str (.st (.sl .ref) .nil))) none))]⟩ (.two .nil (.two .nil (.two (.two (.two .nil (.two .nil (.two (.any 2047 2048 (.ord 0 4094 .nil (.ord 1 0 .nil (.ord 2 0 .nil (.ord 3 0 .nil (.ord 4 0 .nil (.ord 5 991 .nil (.ord 6 0 .nil (.ord 7 0 .nil (.ord 8 0 .nil (.ord 9 0 .nil (.ord 10 0 .nil (.ord 11 0 .nil (.ord 12 0 .nil (.ord 13 0 .nil .nil))))))))))))))) (.tail 6 .nil)))) .nil) .nil)))) .nil)))
noncomputable def qeX:Goc:=⟨Zt22,.nil,[(.sl .ref),Zt42],[2,2,0,0],(some (78,(.st Zt36 (.st .str (.st (.sl .ref) .nil))),none)),(some 66),false,[],.nil,fun x=>qfq x.1 x.2.2.1 x.2.2.2.1 x.2.2.2.2.1⟩
noncomputable def qeL (φ:DL (Zt22 :: .nil::arT (some (78,(.st Zt36 (.st .str (.st (.sl .ref) .nil))),none))::[(.sl .ref),Zt42])→Option (D (.st Zt22 (.st (arT (some (78,(.st Zt36 (.st .str (.st (.sl .ref) .nil))),none))) .nil)))):Env:=(66,.go ⟨Zt22,.nil,[(.sl .ref),Zt42],[2,2,0,0],(some (78,(.st Zt36 (.st .str (.st (.sl .ref) .nil))),none)),(some 66),false,[],.nil,φ⟩)::[]
theorem qjy (φ:DL (Zt22 :: .nil::arT (some (78,(.st Zt36 (.st .str (.st (.sl .ref) .nil))),none))::[(.sl .ref),Zt42])→Option (D (.st Zt22 (.st (arT (some (78,(.st Zt36 (.st .str (.st (.sl .ref) .nil))),none))) .nil)))) (x:DL (Zt22 :: .nil::arT (some (78,(.st Zt36 (.st .str (.st (.sl .ref) .nil))),none))::[(.sl .ref),Zt42])):qK φ x=denGO Tryz.prog (qeL φ) qeM Tryz.f66 Zt22 .nil [(.sl .ref),Zt42] [2,2,0,0] (some (78,(.st Zt36 (.st .str (.st (.sl .ref) .nil))),none)) (some 66) false [] .nil x:=by kernel_rfl
theorem qkF:GocOK Tryz.prog 66 qeX :=
  go_fix (tp:=Zt22) (mv := .nil) (ps:=[(.sl .ref),Zt42]) (sg:=[2,2,0,0]) (ar:=(some (78,(.st Zt36 (.st .str (.st (.sl .ref) .nil))),none))) (cl:=(some 66)) (ρ := .nil) (G:=qK) (by kernel_rfl) (by kernel_rfl) (fun h=>by first | rfl | cases h) fun φ hφ =>
  qiQ (env:=qeL φ) ((EnvOK.general (EnvOK.nil _) hφ)) mixed Tryz.func66 ⟨Zt22,.nil,[(.sl .ref),Zt42],[2,2,0,0],(some (78,(.st Zt36 (.st .str (.st (.sl .ref) .nil))),none)),(some 66),false,[],.nil,qK φ⟩ qeM (by kernel_rfl) (fun h=>by first | rfl | cases h) (qjy φ)
def qfI:Ann := .nil
noncomputable def annotateFlat_con:Goc:=⟨.nil,.nil,[(.sl .ref)],[2],(some (78,(.st Zt36 (.st .str (.st (.sl .ref) .nil))),none)),none,true,[],Zt23,fun x=>qa x.2.2.1 x.2.2.2.1⟩
noncomputable def qfM:Env:=(66,.go qeX)::[]
theorem qkG (x:DL (.nil :: .nil::arT (some (78,(.st Zt36 (.st .str (.st (.sl .ref) .nil))),none))::[(.sl .ref)])):annotateFlat_con.φ x=denGO Tryz.prog qfM qfI Tryz.f43 .nil .nil [(.sl .ref)] [2] (some (78,(.st Zt36 (.st .str (.st (.sl .ref) .nil))),none)) none true [] Zt23 x:=by kernel_rfl
theorem qlK:GocOK Tryz.prog 43 annotateFlat_con :=
  qiQ (env:=qfM) ((EnvOK.general (EnvOK.nil _) qkF)) mixed Tryz.func43 annotateFlat_con qfI (by kernel_rfl) (fun h=>by first | rfl | cases h) qkG
def qeE:Ann := .nil
noncomputable def annotateSized_con:Con:=⟨[Zt6,Zt11],false,[Zt11,Zt42],Zt8,fun x=>qde x.1 x.2.1,none⟩
noncomputable def qeW:Env:=(20,.con recordCheck_con)::[]
theorem qjj (x:DL annotateSized_con.ps):annotateSized_con.φ x=denF Tryz.prog qeW qeE Tryz.f26 annotateSized_con.ps annotateSized_con.one annotateSized_con.res annotateSized_con.ρ x:=by kernel_rfl
theorem qkD:ConOK Tryz.prog 26 annotateSized_con :=
  qe (env:=qeW) ((EnvOK.cons (EnvOK.nil _) qeu)) mixed Tryz.func26 annotateSized_con qeE (by kernel_rfl) (fun h=>by first | rfl | cases h) (fun g hg=>by cases hg) qjj
def qbv:Ann:=(.any 955 0 (.ord 0 0 .nil (.ord 1 441 .nil (.ord 3 0 .nil (.ord 5 0 .nil (.ord 7 0 .nil (.alt (.ord 2 0 .nil (.alt (.ord 4 0 .nil (.alt (.ord 6 0 .nil (.ord 8 0 .nil (.ord 9 0 .nil (.ord 10 0 .nil .nil)))) (.ord 8 0 .nil (.ord 6 0 .nil (.ord 9 0 .nil (.ord 10 0 .nil .nil)))))) (.alt (.ord 6 0 .nil (.ord 4 495 .nil (.ord 8 0 .nil (.ord 9 0 .nil (.ord 10 0 .nil .nil))))) (.ord 8 0 .nil (.alt (.ord 4 0 .nil (.ord 6 0 .nil (.ord 9 0 .nil (.ord 10 0 .nil .nil)))) (.ord 6 0 .nil (.ord 4 0 .nil (.ord 9 0 .nil (.ord 10 0 .nil .nil))))))))) (.alt (.ord 4 0 .nil (.alt (.ord 2 0 .nil (.alt (.ord 6 0 .nil (.ord 8 0 .nil (.ord 9 0 .nil (.ord 10 0 .nil .nil)))) (.ord 8 0 .nil (.ord 6 0 .nil (.ord 9 0 .nil (.ord 10 0 .nil .nil)))))) (.ord 8 0 .nil (.ord 2 0 .nil (.ord 6 0 .nil (.ord 9 0 .nil (.ord 10 0 .nil .nil))))))) (.ord 8 0 .nil (.alt (.ord 2 0 .nil (.alt (.ord 4 0 .nil (.ord 6 0 .nil (.ord 9 0 .nil (.ord 10 0 .nil .nil)))) (.ord 6 0 .nil (.ord 4 0 .nil (.ord 9 0 .nil (.ord 10 0 .nil .nil)))))) (.ord 4 0 .nil (.ord 2 0 .nil (.ord 6 0 .nil (.ord 9 0 .nil (.ord 10 0 .nil .nil)))))))))))))))
def qcY:Ann:=(.alt (.ord 4 0 (.two .nil (.two (.frz [13] (.join ⟨[4],[],[(14,some (.ar 78 (.st Zt36 (.st .str (.st (.sl .ref) .nil))) none)),(16,some (.box Zt9))]⟩ qbv)) .nil)) (.ord 5 0 .nil (.ord 6 0 .nil .nil))) (.ord 5 0 .nil (.ord 4 0 (.two .nil (.two (.frz [13] (.join ⟨[4],[],[(14,some (.ar 78 (.st Zt36 (.st .str (.st (.sl .ref) .nil))) none)),(17,some (.box Zt9))]⟩ qbv)) .nil)) (.ord 6 0 .nil .nil))))
def qbw:Ann:=(.ord 4 0 (.two .nil (.two (.frz [14] (.join ⟨[4],[],[(15,some (.ar 78 (.st Zt36 (.st .str (.st (.sl .ref) .nil))) none)),(17,some (.box Zt9))]⟩ qbv)) .nil)) (.ord 6 0 .nil .nil))
def qc2:Ann:=(.any 79 16 (.ord 0 30 .nil (.ord 1 0 .nil (.ord 2 0 .nil (.ord 3 0 .nil (.ord 4 0 .nil (.ord 5 0 .nil (.ord 6 0 .nil .nil))))))))
def qds:Ann:=(.two .nil (.two (.two .nil (.joinE ⟨[3,4,5,6],[],[(4,some (.box Zt9))]⟩ (.two (.loop ⟨[3,4,5,6,18],[(19,Zt42)],[(4,some (.box Zt9))]⟩ .nil) .nil))) (.two qc2 (.two qc2 (.two (.frz [8,11] (.join ⟨[3,4,5,6],[(13,(.obx Zt9))],[(12,some (.ar 78 (.st Zt36 (.st .str (.st (.sl .ref) .nil))) none))]⟩ (.any 7 32 (.ord 1 0 .nil (.ord 2 0 .nil (.alt (.ord 0 0 .nil (.alt (.ord 3 0 .nil qcY) (.ord 5 0 .nil (.ord 3 0 .nil qbw)))) (.alt (.ord 3 0 .nil (.ord 0 46 .nil qcY)) (.ord 5 0 .nil (.alt (.ord 0 0 .nil (.ord 3 0 .nil qbw)) (.ord 3 0 .nil (.ord 0 0 .nil qbw))))))))))) (.two (.two .nil (.join ⟨[3,4,5,6,13],[],[(14,some (.box Zt9)),(15,none),(16,none)]⟩ .nil)) (.two (.two .nil (.join ⟨[3,4,5,6,13],[],[(14,some (.box Zt9)),(17,none),(18,none)]⟩ .nil)) (.two (.two .nil (.join ⟨[3,6,13],[],[(14,some (.box Zt9)),(19,none),(20,none)]⟩ (.two (.loop ⟨[3,4,6,13,60,61],[(62,Zt42)],[(14,some (.box Zt9)),(19,none),(20,none)]⟩ (.two .nil (.two .nil (.two (.two (.two .nil (.two (.two (.two .nil (.two (.join ⟨[],[(4,.bool)],[]⟩ (.two (.two .nil (.two (.two .nil (.joinE ⟨[],[],[]⟩ (.two (.loop ⟨[0,1,7],[(8,Zt42)],[]⟩ .nil) .nil))) .nil)) .nil)) .nil)) .nil) (.join ⟨[3,4,6,13,60,61,62],[],[(14,some (.box Zt9)),(21,none),(22,none)]⟩ .nil))) .nil) .nil)))) .nil))) .nil))))))))
noncomputable def annotateMerge_i_con:Con:=⟨[Zt6,Zt11,Zt11],false,[Zt11,Zt42],Zt8,fun x=>qaJ x.1 x.2.1 x.2.2.1,none⟩
noncomputable def qdJ:Env:=(26,.con annotateSized_con)::(25,.body Tryz.f25)::(47,.body Tryz.f47)::(24,.body Tryz.f24)::(43,.go annotateFlat_con)::(42,.con slicesClone_RecordTag_con)::(22,.body Tryz.f22)::(23,.go qe0)::(21,.go qfO)::(20,.con recordCheck_con)::[]
theorem qhE (x:DL annotateMerge_i_con.ps):annotateMerge_i_con.φ x=denA Tryz.prog qdJ qds Tryz.f8 (78,(.st Zt36 (.st .str (.st (.sl .ref) .nil))),none) annotateMerge_i_con.ps annotateMerge_i_con.one annotateMerge_i_con.res annotateMerge_i_con.ρ x:=by kernel_rfl
theorem qit:ConOK Tryz.prog 8 annotateMerge_i_con :=
  qqM (env:=qdJ) ((EnvOK.cons (EnvOK.body (EnvOK.body (EnvOK.body (EnvOK.general (EnvOK.cons (EnvOK.body (EnvOK.general (EnvOK.general (EnvOK.cons (EnvOK.nil _) qeu) qlR) qkH) Tryz.func22) qeK) qlK) Tryz.func24) Tryz.func47) Tryz.func25) qkD)) mixed Tryz.func8 annotateMerge_i_con (78,(.st Zt36 (.st .str (.st (.sl .ref) .nil))),none) qds (by kernel_rfl) (fun h=>by first | rfl | cases h) (fun g hg=>by cases hg) qhE
def qky:Ann:=(.two .nil (.two .nil (.two (.two .nil (.join ⟨[],[(3,Zt32)],[]⟩ (.two (.loop ⟨[0,8],[(3,Zt32),(9,Zt42)],[]⟩ .nil) .nil))) .nil)))
noncomputable def ref3Ways_con:Con:=⟨[Zt24],true,[],Zt32,fun x=>qL x.1,none⟩
noncomputable def qkB:Env:=(16,.con ref3Way_con)::[]
theorem qpJ (x:DL ref3Ways_con.ps):ref3Ways_con.φ x=denF Tryz.prog qkB qky Tryz.f10 ref3Ways_con.ps ref3Ways_con.one ref3Ways_con.res ref3Ways_con.ρ x:=by kernel_rfl
theorem qmc:ConOK Tryz.prog 10 ref3Ways_con :=
  qe (env:=qkB) ((EnvOK.cons (EnvOK.nil _) qns)) mixed Tryz.func10 ref3Ways_con qky (by kernel_rfl) (fun h=>by first | rfl | cases h) (fun g hg=>by cases hg) qpJ
def qgv:Ann:=(.two .nil (.two (.two .nil (.joinE ⟨[],[],[]⟩ (.two (.loop ⟨[1,7,8],[(9,Zt42)],[]⟩ .nil) .nil))) .nil))
noncomputable def ref3HasLine_con:Con:=⟨[(.sl Zt35),Zt35],true,[],.bool,fun x=>qcr x.1 x.2.1,none⟩
noncomputable def qgr:Env:=(12,.con ref3SameLine_con)::[]
theorem qll (x:DL ref3HasLine_con.ps):ref3HasLine_con.φ x=denF Tryz.prog qgr qgv Tryz.f11 ref3HasLine_con.ps ref3HasLine_con.one ref3HasLine_con.res ref3HasLine_con.ρ x:=by kernel_rfl
theorem qmp:ConOK Tryz.prog 11 ref3HasLine_con :=
  qe (env:=qgr) ((EnvOK.cons (EnvOK.nil _) qdT)) mixed Tryz.func11 ref3HasLine_con qgv (by kernel_rfl) (fun h=>by first | rfl | cases h) (fun g hg=>by cases hg) qll
def qkt:Ann:=(.two .nil (.two (.two .nil (.joinE ⟨[],[],[]⟩ (.two (.loop ⟨[2,13,14],[(15,Zt42)],[]⟩ (.two .nil (.two .nil (.two (.joinE ⟨[2,13,14,15],[],[]⟩ (.two (.two .nil (.two .nil (.joinE ⟨[2,13,14,15],[],[]⟩ (.two (.loop ⟨[2,8,13,14,15,21,22],[(23,Zt42)],[]⟩ .nil) .nil)))) .nil)) .nil)))) .nil))) .nil))
noncomputable def law3Said_con:Con:=⟨[Zt11,Zt11,Zt35],true,[],.str,fun x=>qiR x.1 x.2.1 x.2.2.1,none⟩
noncomputable def qke:Env:=(12,.con ref3SameLine_con)::(10,.con ref3Ways_con)::[]
theorem qpI (x:DL law3Said_con.ps):law3Said_con.φ x=denF Tryz.prog qke qkt Tryz.f13 law3Said_con.ps law3Said_con.one law3Said_con.res law3Said_con.ρ x:=by kernel_rfl
theorem qq0:ConOK Tryz.prog 13 law3Said_con :=
  qe (env:=qke) ((EnvOK.cons (EnvOK.cons (EnvOK.nil _) qmc) qdT)) mixed Tryz.func13 law3Said_con qkt (by kernel_rfl) (fun h=>by first | rfl | cases h) (fun g hg=>by cases hg) qpI
def qx:Ann:=(.ord 8 0 .nil (.ord 9 0 .nil (.ord 10 0 .nil (.ord 11 0 .nil .nil))))
def qcf:Ann:=(.two .nil (.two .nil (.two (.join ⟨[3,4,5],[],[(1,some (.box Zt11)),(2,some (.box Zt11))]⟩ (.any 5 0 (.ord 0 4 .nil (.alt (.ord 1 0 .nil (.ord 2 0 .nil (.ord 3 0 .nil (.ord 4 0 .nil (.ord 5 0 .nil .nil))))) (.ord 2 0 .nil (.ord 1 0 .nil (.ord 3 0 .nil (.ord 4 0 .nil (.ord 5 0 .nil .nil))))))))) (.two .nil (.two .nil (.two (.two .nil (.joinE ⟨[3,4,5,7,8],[],[]⟩ (.two (.loop ⟨[3,4,5,7,8,37,38],[(39,Zt42)],[]⟩ .nil) .nil))) (.two .nil (.two .nil (.two (.join ⟨[3,4,5,7],[(12,Zt32),(13,Zt32),(14,Zt32)],[]⟩ (.any 3803 0 (.ord 0 0 .nil (.ord 1 217 .nil (.ord 3 0 .nil (.ord 6 0 .nil (.alt (.ord 2 0 .nil (.ord 4 207 .nil (.alt (.ord 5 0 .nil (.ord 7 0 .nil qx)) (.ord 7 0 .nil (.ord 5 0 .nil qx))))) (.alt (.ord 4 0 .nil (.alt (.ord 2 0 .nil (.alt (.ord 5 0 .nil (.ord 7 0 .nil qx)) (.ord 7 0 .nil (.ord 5 0 .nil qx)))) (.ord 7 0 .nil (.ord 2 0 .nil (.ord 5 0 .nil qx))))) (.ord 7 0 .nil (.alt (.ord 2 0 .nil (.ord 4 0 .nil (.ord 5 0 .nil qx))) (.ord 4 0 .nil (.ord 2 0 .nil (.ord 5 0 .nil qx))))))))))))) (.two (.two .nil (.joinE ⟨[3,4,5,7,12,13,14],[],[]⟩ (.two (.loop ⟨[3,4,5,7,12,13,14,124,125],[(126,Zt42)],[]⟩ .nil) .nil))) (.two .nil (.two (.two .nil (.joinE ⟨[3,7,12],[(17,Zt42)],[]⟩ (.two (.loop ⟨[3,4,5,7,12,13,135,136],[(17,Zt42),(137,Zt42)],[]⟩ (.two .nil (.two .nil (.two (.two (.two .nil (.two (.two .nil (.joinE ⟨[3,4,5,7,12,13,18,19,135,136,137],[(17,Zt42)],[]⟩ .nil)) .nil)) .nil) .nil)))) .nil))) .nil))))))))))))
noncomputable def law3AnnotateMerges_con:Con:=⟨[Zt6,Zt11,Zt11],true,[],.bool,fun x=>qbS x.1 x.2.1 x.2.2.1,none⟩
noncomputable def qcg:Env:=(13,.con law3Said_con)::(12,.con ref3SameLine_con)::(11,.con ref3HasLine_con)::(10,.con ref3Ways_con)::(9,.con ref3RecordFault_con)::(8,.con annotateMerge_i_con)::(7,.con law3Great_con)::(6,.con law3Short_con)::(5,.con law3Annotates_con)::[]
theorem qfR (x:DL law3AnnotateMerges_con.ps):law3AnnotateMerges_con.φ x=denF Tryz.prog qcg qcf Tryz.f3 law3AnnotateMerges_con.ps law3AnnotateMerges_con.one law3AnnotateMerges_con.res law3AnnotateMerges_con.ρ x:=by kernel_rfl
theorem law3AnnotateMerges_ok:ConOK Tryz.prog 3 law3AnnotateMerges_con :=
  qe (env:=qcg) ((EnvOK.cons (EnvOK.cons (EnvOK.cons (EnvOK.cons (EnvOK.cons (EnvOK.cons (EnvOK.cons (EnvOK.cons (EnvOK.cons (EnvOK.nil _) qkE) qo2) qo7) qit) qiu) qmc) qmp) qdT) qq0)) mixed Tryz.func3 law3AnnotateMerges_con qcf (by kernel_rfl) (fun h=>by first | rfl | cases h) (fun g hg=>by cases hg) qfR
end Go.Proofs.YthidcmjpbokeeaaGreat
