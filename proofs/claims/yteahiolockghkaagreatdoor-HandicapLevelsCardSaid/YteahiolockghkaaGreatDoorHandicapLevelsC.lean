/- Contracts: HandicapLevels. No condition of its own. -/
import Derived.Test.YteahiolockghkaaGreatDoorMAA
import Derived.Test.YteahiolockghkaaGreatDoorMAH
import Derived.Test.YteahiolockghkaaGreatDoorMAE
namespace Go.Proofs.YteahiolockghkaaGreatDoor
open Go.Den
set_option linter.unusedVariables false
set_option maxRecDepth 100000
def qme:Ann := .nil
noncomputable def law3Tic_con:Con:=⟨[],true,[],(.st .str (.st Zt39 (.st Zt39 (.st (.osl 84 Zt8) (.st Zt34 (.st .bool (.st .bool (.st (.osl 86 Zt21) Zt24)))))))),fun x=>qml,some fun x=>qbc⟩
noncomputable def qnP:Env:=(184,.ck 226)::[]
theorem qtv (x:DL law3Tic_con.ps):law3Tic_con.φ x=denF Tryz.prog qnP qme Tryz.f13 law3Tic_con.ps law3Tic_con.one law3Tic_con.res law3Tic_con.ρ x:=by kernel_rfl
theorem qvN:ConOK Tryz.prog 13 law3Tic_con :=
 qa (env:=qnP) ((EnvOK.check (EnvOK.nil _) qe)) mixed Tryz.func13 law3Tic_con qme (by kernel_rfl) (fun h=>by first | rfl | cases h) (fun g hg x=>by
  cases hg
  exact qu3 ) qtv
def qfI:Ann := .nil
noncomputable def handicapWins_con:Con:=⟨[Zt4,Zt39],false,[Zt39,Zt39],Zt27,fun x=>qew x.1 x.2.1,none⟩
noncomputable def qfK:Env:=(29,.con minimaxScore_con)::(184,.ck 226)::(28,.con placeBegin_con)::[]
theorem qlA (x:DL handicapWins_con.ps):handicapWins_con.φ x=denF Tryz.prog qfK qfI Tryz.f12 handicapWins_con.ps handicapWins_con.one handicapWins_con.res handicapWins_con.ρ x:=by kernel_rfl
theorem qnt:ConOK Tryz.prog 12 handicapWins_con :=
 qa (env:=qfK) ((EnvOK.cons (EnvOK.check (EnvOK.cons (EnvOK.nil _) qp8) qe) qmB)) mixed Tryz.func12 handicapWins_con qfI (by kernel_rfl) (fun h=>by first | rfl | cases h) (fun g hg=>by cases hg) qlA
def qeB:Ann := .nil
noncomputable def law3Handicaps_con:Con:=⟨[],true,[],.bool,fun x=>qdA,none⟩
noncomputable def qeY:Env:=(12,.con handicapWins_con)::(13,.con law3Tic_con)::[]
theorem qke (x:DL law3Handicaps_con.ps):law3Handicaps_con.φ x=denF Tryz.prog qeY qeB Tryz.f4 law3Handicaps_con.ps law3Handicaps_con.one law3Handicaps_con.res law3Handicaps_con.ρ x:=by kernel_rfl
theorem qlJ:ConOK Tryz.prog 4 law3Handicaps_con :=
 qa (env:=qeY) ((EnvOK.cons (EnvOK.cons (EnvOK.nil _) qvN) qnt)) mixed Tryz.func4 law3Handicaps_con qeB (by kernel_rfl) (fun h=>by first | rfl | cases h) (fun g hg=>by cases hg) qke
def qaB:Ann := .nil
noncomputable def internalstringsliteHasPrefix_con:Con:=⟨[.str,.str],true,[],.bool,fun x=>qad x.1 x.2.1,none⟩
noncomputable def qaD:Env:=[]
theorem qcv (x:DL internalstringsliteHasPrefix_con.ps):internalstringsliteHasPrefix_con.φ x=denF Tryz.prog qaD qaB Tryz.f70 internalstringsliteHasPrefix_con.ps internalstringsliteHasPrefix_con.one internalstringsliteHasPrefix_con.res internalstringsliteHasPrefix_con.ρ x:=by kernel_rfl
theorem qcM:ConOK Tryz.prog 70 internalstringsliteHasPrefix_con :=
 qa (env:=qaD) ((EnvOK.nil _)) mixed Tryz.func70 internalstringsliteHasPrefix_con qaB (by kernel_rfl) (fun h=>by first | rfl | cases h) (fun g hg=>by cases hg) qcv
def qaC:Ann := .nil
noncomputable def internalstringsliteCutPrefix_con:Con:=⟨[.str,.str],false,[.str,.bool],Zt31,fun x=>qag x.1 x.2.1,none⟩
noncomputable def qaF:Env:=(70,.con internalstringsliteHasPrefix_con)::[]
theorem qcw (x:DL internalstringsliteCutPrefix_con.ps):internalstringsliteCutPrefix_con.φ x=denF Tryz.prog qaF qaC Tryz.f40 internalstringsliteCutPrefix_con.ps internalstringsliteCutPrefix_con.one internalstringsliteCutPrefix_con.res internalstringsliteCutPrefix_con.ρ x:=by kernel_rfl
theorem qcH:ConOK Tryz.prog 40 internalstringsliteCutPrefix_con :=
 qa (env:=qaF) ((EnvOK.cons (EnvOK.nil _) qcM)) mixed Tryz.func40 internalstringsliteCutPrefix_con qaC (by kernel_rfl) (fun h=>by first | rfl | cases h) (fun g hg=>by cases hg) qcw
def qdq:Ann := .nil
noncomputable def stringsCutPrefix_con:Con:=⟨[.str,.str],false,[.str,.bool],Zt31,fun x=>qaZ x.1 x.2.1,none⟩
noncomputable def qdr:Env:=(40,.con internalstringsliteCutPrefix_con)::[]
theorem qho (x:DL stringsCutPrefix_con.ps):stringsCutPrefix_con.φ x=denF Tryz.prog qdr qdq Tryz.f19 stringsCutPrefix_con.ps stringsCutPrefix_con.one stringsCutPrefix_con.res stringsCutPrefix_con.ρ x:=by kernel_rfl
theorem qdS:ConOK Tryz.prog 19 stringsCutPrefix_con :=
 qa (env:=qdr) ((EnvOK.cons (EnvOK.nil _) qcH)) mixed Tryz.func19 stringsCutPrefix_con qdq (by kernel_rfl) (fun h=>by first | rfl | cases h) (fun g hg=>by cases hg) qho
def qbL:Ann := .nil
noncomputable def internalstringsliteCut_con:Con:=⟨[.str,.str],false,[.str,.str,.bool],(.st .str Zt31),fun x=>qao x.1 x.2.1,none⟩
noncomputable def qbK:Env:=(71,.con qq7)::[]
theorem qd9 (x:DL internalstringsliteCut_con.ps):internalstringsliteCut_con.φ x=denF Tryz.prog qbK qbL Tryz.f41 internalstringsliteCut_con.ps internalstringsliteCut_con.one internalstringsliteCut_con.res internalstringsliteCut_con.ρ x:=by kernel_rfl
theorem qeA:ConOK Tryz.prog 41 internalstringsliteCut_con :=
 qa (env:=qbK) ((EnvOK.cons (EnvOK.nil _) idx1S_ok)) mixed Tryz.func41 internalstringsliteCut_con qbL (by kernel_rfl) (fun h=>by first | rfl | cases h) (fun g hg=>by cases hg) qd9
def qhS:Ann := .nil
noncomputable def stringsCut_con:Con:=⟨[.str,.str],false,[.str,.str,.bool],(.st .str Zt31),fun x=>qb4 x.1 x.2.1,none⟩
noncomputable def qhN:Env:=(41,.con internalstringsliteCut_con)::[]
theorem qn8 (x:DL stringsCut_con.ps):stringsCut_con.φ x=denF Tryz.prog qhN qhS Tryz.f20 stringsCut_con.ps stringsCut_con.one stringsCut_con.res stringsCut_con.ρ x:=by kernel_rfl
theorem qjh:ConOK Tryz.prog 20 stringsCut_con :=
 qa (env:=qhN) ((EnvOK.cons (EnvOK.nil _) qeA)) mixed Tryz.func20 stringsCut_con qhS (by kernel_rfl) (fun h=>by first | rfl | cases h) (fun g hg=>by cases hg) qn8
def qi1:Ann := .nil
noncomputable def natDigits_con:Con:=⟨[.str],true,[],.bool,fun x=>qeU x.1,none⟩
noncomputable def qiR:Env:=(42,.con qrl)::[]
theorem qpm (x:DL natDigits_con.ps):natDigits_con.φ x=denF Tryz.prog qiR qi1 Tryz.f21 natDigits_con.ps natDigits_con.one natDigits_con.res natDigits_con.ρ x:=by kernel_rfl
theorem qrM:ConOK Tryz.prog 21 natDigits_con :=
 qa (env:=qiR) ((EnvOK.cons (EnvOK.nil _) trimS_ok)) mixed Tryz.func21 natDigits_con qi1 (by kernel_rfl) (fun h=>by first | rfl | cases h) (fun g hg=>by cases hg) qpm
def qnw:Ann:=(.two .nil (.two (.join ⟨[],[(0,Zt37)],[]⟩ (.two (.loop ⟨[],[(0,Zt37)],[]⟩ .nil) .nil)) .nil))
noncomputable def bigNorm_con:Con:=⟨[Zt37],true,[],Zt37,fun x=>qce x.1,none⟩
noncomputable def qnb:Env:=[]
theorem qto (x:DL bigNorm_con.ps):bigNorm_con.φ x=denF Tryz.prog qnb qnw Tryz.f81 bigNorm_con.ps bigNorm_con.one bigNorm_con.res bigNorm_con.ρ x:=by kernel_rfl
theorem qcD:ConOK Tryz.prog 81 bigNorm_con :=
 qa (env:=qnb) ((EnvOK.nil _)) mixed Tryz.func81 bigNorm_con qnw (by kernel_rfl) (fun h=>by first | rfl | cases h) (fun g hg=>by cases hg) qto
def qju:Ann:=(.two .nil (.two .nil (.two .nil (.two (.two .nil (.join ⟨[],[(7,Zt33),(8,Zt40)],[(0,none)]⟩ (.two (.loop ⟨[1,17,18],[(7,Zt33),(8,Zt40),(19,Zt39)],[(0,none)]⟩ .nil) .nil))) .nil))))
noncomputable def bigMulAdd_con:Con:=⟨[Zt37,Zt41,Zt41],true,[],Zt37,fun x=>qi7 x.1 x.2.1 x.2.2.1,none⟩
noncomputable def qiE:Env:=(81,.con bigNorm_con)::[]
theorem qqs (x:DL bigMulAdd_con.ps):bigMulAdd_con.φ x=denF Tryz.prog qiE qju Tryz.f44 bigMulAdd_con.ps bigMulAdd_con.one bigMulAdd_con.res bigMulAdd_con.ρ x:=by kernel_rfl
theorem qse:ConOK Tryz.prog 44 bigMulAdd_con :=
 qa (env:=qiE) ((EnvOK.cons (EnvOK.nil _) qcD)) mixed Tryz.func44 bigMulAdd_con qju (by kernel_rfl) (fun h=>by first | rfl | cases h) (fun g hg=>by cases hg) qqs
def qm5:Ann:=(.two .nil (.two .nil (.two (.join ⟨[],[(3,Zt37)],[]⟩ (.two (.loop ⟨[],[(0,.str),(3,Zt37)],[]⟩ (.two .nil (.join ⟨[],[(0,.str),(3,Zt37)],[]⟩ (.two (.two .nil (.two .nil (.two .nil (.two (.two .nil (.join ⟨[0,3,4,5],[(7,Zt41)],[]⟩ (.two (.loop ⟨[0,3,4,5,21],[(7,Zt41),(22,Zt39)],[]⟩ .nil) .nil))) .nil)))) .nil)))) .nil)) .nil)))
noncomputable def bigRead_con:Con:=⟨[.str],true,[],Zt37,fun x=>qic x.1,none⟩
noncomputable def qng:Env:=(44,.con bigMulAdd_con)::(43,.con qoK)::[]
theorem qts (x:DL bigRead_con.ps):bigRead_con.φ x=denF Tryz.prog qng qm5 Tryz.f22 bigRead_con.ps bigRead_con.one bigRead_con.res bigRead_con.ρ x:=by kernel_rfl
theorem qpa:ConOK Tryz.prog 22 bigRead_con :=
 qa (env:=qng) ((EnvOK.cons (EnvOK.cons (EnvOK.nil _) puintS_ok) qse)) mixed Tryz.func22 bigRead_con qm5 (by kernel_rfl) (fun h=>by first | rfl | cases h) (fun g hg=>by cases hg) qts
def qdX:Ann := .nil
noncomputable def cmpIsNaN_uint32_con:Con:=⟨[Zt41],true,[],.bool,fun x=>qcQ x.1,some fun x=>qv x.1⟩
noncomputable def qd0:Env:=[]
theorem qhY (x:DL cmpIsNaN_uint32_con.ps):cmpIsNaN_uint32_con.φ x=denF Tryz.prog qd0 qdX Tryz.f152 cmpIsNaN_uint32_con.ps cmpIsNaN_uint32_con.one cmpIsNaN_uint32_con.res cmpIsNaN_uint32_con.ρ x:=by kernel_rfl
theorem qiZ:ConOK Tryz.prog 152 cmpIsNaN_uint32_con :=
 qa (env:=qd0) ((EnvOK.nil _)) mixed Tryz.func152 cmpIsNaN_uint32_con qdX (by kernel_rfl) (fun h=>by first | rfl | cases h) (fun g hg x=>by
  cases hg
  exact qiD _) qhY
def qdi:Ann := .nil
noncomputable def cmpCompare_uint32_con:Con:=⟨[Zt41,Zt41],true,[],Zt39,fun x=>qb0 x.1 x.2.1,some fun x=>qal x.1 x.2.1⟩
noncomputable def qdb:Env:=(152,.con cmpIsNaN_uint32_con)::[]
theorem qgB (x:DL cmpCompare_uint32_con.ps):cmpCompare_uint32_con.φ x=denF Tryz.prog qdb qdi Tryz.f126 cmpCompare_uint32_con.ps cmpCompare_uint32_con.one cmpCompare_uint32_con.res cmpCompare_uint32_con.ρ x:=by kernel_rfl
theorem qhq:ConOK Tryz.prog 126 cmpCompare_uint32_con :=
 qa (env:=qdb) ((EnvOK.cons (EnvOK.nil _) qiZ)) mixed Tryz.func126 cmpCompare_uint32_con qdi (by kernel_rfl) (fun h=>by first | rfl | cases h) (fun g hg x=>by
  cases hg
  exact qhn _ _) qgB
def qjp:Ann:=(.two .nil (.two .nil (.two (.two .nil (.joinE ⟨[],[],[]⟩ (.two (.loop ⟨[0,1],[(5,Zt39)],[]⟩ .nil) .nil))) .nil)))
noncomputable def bigNatCmp_con:Con:=⟨[Zt37,Zt37],true,[],Zt39,fun x=>qeO x.1 x.2.1,none⟩
noncomputable def qjb:Env:=(126,.con cmpCompare_uint32_con)::(125,.con cmpCompare_int_con)::[]
theorem qps (x:DL bigNatCmp_con.ps):bigNatCmp_con.φ x=denF Tryz.prog qjb qjp Tryz.f82 bigNatCmp_con.ps bigNatCmp_con.one bigNatCmp_con.res bigNatCmp_con.ρ x:=by kernel_rfl
theorem qli:ConOK Tryz.prog 82 bigNatCmp_con :=
 qa (env:=qjb) ((EnvOK.cons (EnvOK.cons (EnvOK.nil _) qkG) qhq)) mixed Tryz.func82 bigNatCmp_con qjp (by kernel_rfl) (fun h=>by first | rfl | cases h) (fun g hg=>by cases hg) qps
def qcz:Ann := .nil
noncomputable def slicesClone_uint32_con:Con:=⟨[Zt37],true,[],Zt33,fun x=>qbf x.1,none⟩
noncomputable def qcx:Env:=[]
theorem qfV (x:DL slicesClone_uint32_con.ps):slicesClone_uint32_con.φ x=denF Tryz.prog qcx qcz Tryz.f83 slicesClone_uint32_con.ps slicesClone_uint32_con.one slicesClone_uint32_con.res slicesClone_uint32_con.ρ x:=by kernel_rfl
theorem qgJ:ConOK Tryz.prog 83 slicesClone_uint32_con :=
 qa (env:=qcx) ((EnvOK.nil _)) mixed Tryz.func83 slicesClone_uint32_con qcz (by kernel_rfl) (fun h=>by first | rfl | cases h) (fun g hg=>by cases hg) qfV
def qgr:Ann:=(.two .nil (.two .nil (.two .nil (.two (.two .nil (.join ⟨[6],[(7,Zt40)],[(0,some (.arr 105 Zt41))]⟩ (.two (.loop ⟨[0,1,6],[(7,Zt40),(8,Zt39)],[(0,some (.arr 105 Zt41))]⟩ .nil) .nil))) .nil))))
noncomputable def bigDivSmall_con:Con:=⟨[Zt37,Zt41],false,[Zt37,Zt41],(.st Zt37 (.st Zt41 .nil)),fun x=>qdU x.1 x.2.1,none⟩
noncomputable def qgc:Env:=(81,.con bigNorm_con)::[]
theorem qmm (x:DL bigDivSmall_con.ps):bigDivSmall_con.φ x=denF Tryz.prog qgc qgr Tryz.f84 bigDivSmall_con.ps bigDivSmall_con.one bigDivSmall_con.res bigDivSmall_con.ρ x:=by kernel_rfl
theorem qhK:ConOK Tryz.prog 84 bigDivSmall_con :=
 qa (env:=qgc) ((EnvOK.cons (EnvOK.nil _) qcD)) mixed Tryz.func84 bigDivSmall_con qgr (by kernel_rfl) (fun h=>by first | rfl | cases h) (fun g hg=>by cases hg) qmm
def qkT:Ann := .nil
noncomputable def bigSmall_con:Con:=⟨[Zt40],true,[],Zt37,fun x=>qet x.1,none⟩
noncomputable def qlt:Env:=(81,.con bigNorm_con)::[]
theorem qrr (x:DL bigSmall_con.ps):bigSmall_con.φ x=denF Tryz.prog qlt qkT Tryz.f85 bigSmall_con.ps bigSmall_con.one bigSmall_con.res bigSmall_con.ρ x:=by kernel_rfl
theorem qfj:ConOK Tryz.prog 85 bigSmall_con :=
 qa (env:=qlt) ((EnvOK.cons (EnvOK.nil _) qcD)) mixed Tryz.func85 bigSmall_con qkT (by kernel_rfl) (fun h=>by first | rfl | cases h) (fun g hg=>by cases hg) qrr
def qlu:Ann:=(.two .nil (.two .nil (.two .nil (.two (.two .nil (.join ⟨[],[(5,Zt33),(6,Zt40)],[(0,none)]⟩ (.two (.loop ⟨[1,13,14],[(5,Zt33),(6,Zt40),(15,Zt39)],[(0,none)]⟩ .nil) .nil))) .nil))))
noncomputable def bigShift_con:Con:=⟨[Zt37,Zt39],true,[],Zt33,fun x=>qiq x.1 x.2.1,none⟩
noncomputable def qk0:Env:=[]
theorem qrz (x:DL bigShift_con.ps):bigShift_con.φ x=denF Tryz.prog qk0 qlu Tryz.f86 bigShift_con.ps bigShift_con.one bigShift_con.res bigShift_con.ρ x:=by kernel_rfl
theorem qtM:ConOK Tryz.prog 86 bigShift_con :=
 qa (env:=qk0) ((EnvOK.nil _)) mixed Tryz.func86 bigShift_con qlu (by kernel_rfl) (fun h=>by first | rfl | cases h) (fun g hg=>by cases hg) qrz
def qiY:Ann:=(.two .nil (.two .nil (.two .nil (.two .nil (.two (.join ⟨[0,1],[(8,Zt39)],[]⟩ (.two (.loop ⟨[0,1],[(8,Zt39)],[]⟩ .nil) .nil)) (.two .nil (.two .nil (.two .nil (.two (.two .nil (.join ⟨[8,9,11,12],[],[(0,some (.arr 105 Zt41)),(2,some (.arr 105 Zt41))]⟩ (.two (.loop ⟨[8,9,10,11,12],[(13,Zt39)],[(0,some (.arr 105 Zt41)),(2,some (.arr 105 Zt41))]⟩ (.two .nil (.two (.two (.join ⟨[8,9,10,11,12,13],[],[(0,some (.arr 105 Zt41)),(2,some (.arr 105 Zt41))]⟩ (.own (.two (.two .nil (.two .nil (.two .nil (.two .nil (.two (.two .nil (.join ⟨[0,1,5],[(7,Zt40)],[]⟩ (.two (.loop ⟨[0,1,5],[(7,Zt40),(8,Zt40)],[]⟩ .nil) .nil))) (.two .nil (.two (.two .nil (.join ⟨[0,1,5,7],[(10,Zt39)],[(0,some (.arr 105 Zt41))]⟩ (.two (.loop ⟨[0,1,5,7,82],[(9,Zt40),(10,Zt39),(83,Zt39)],[(0,some (.arr 105 Zt41))]⟩ (.two .nil (.two .nil (.two (.two (.two .nil (.two (.two .nil (.join ⟨[0,1,5,7,10,11,82,83],[(9,Zt40)],[]⟩ .nil)) (.two .nil (.two .nil (.two .nil (.two (.two .nil (.join ⟨[0,1,5,7,9,11,82,83],[(10,Zt39),(12,Zt39)],[]⟩ .nil)) .nil)))))) .nil) .nil)))) .nil))) (.two .nil (.two .nil (.two (.two .nil (.join ⟨[7],[],[(0,some (.arr 105 Zt41))]⟩ (.two (.loop ⟨[0,1,5,7,126],[(13,Zt40),(127,Zt39)],[(0,some (.arr 105 Zt41))]⟩ (.two .nil (.two .nil (.two (.two (.two .nil (.two .nil (.two (.two .nil (.join ⟨[0,1,5,7,14,126,127],[(13,Zt40)],[]⟩ .nil)) .nil))) .nil) .nil)))) .nil))) .nil)))))))))) .nil))) .nil) .nil))) .nil))) (.two .nil (.two .nil (.two (.two .nil (.join ⟨[12,15],[],[(3,some (.arr 105 Zt41))]⟩ (.two (.loop ⟨[8,12,14,15,93,94],[(95,Zt39)],[(3,some (.arr 105 Zt41))]⟩ (.two .nil (.two .nil (.two (.two (.two .nil (.two .nil (.two .nil (.join ⟨[8,12,14,15,93,94,95],[],[(3,some (.arr 105 Zt41))]⟩ (.two (.tail 14 .nil) .nil))))) .nil) .nil)))) .nil))) .nil))))))))))))
noncomputable def bigNatDiv_con:Con:=⟨[Zt37,Zt37],false,[Zt37,Zt37],(.st Zt37 Zt30),fun x=>qci x.1 x.2.1,none⟩
noncomputable def qiH:Env:=(87,.body Tryz.f87)::(81,.con bigNorm_con)::(86,.con bigShift_con)::(85,.con bigSmall_con)::(84,.con bigDivSmall_con)::(83,.con slicesClone_uint32_con)::(82,.con bigNatCmp_con)::[]
theorem qpx (x:DL bigNatDiv_con.ps):bigNatDiv_con.φ x=denF Tryz.prog qiH qiY Tryz.f45 bigNatDiv_con.ps bigNatDiv_con.one bigNatDiv_con.res bigNatDiv_con.ρ x:=by kernel_rfl
theorem qeo:ConOK Tryz.prog 45 bigNatDiv_con :=
 qa (env:=qiH) ((EnvOK.body (EnvOK.cons (EnvOK.cons (EnvOK.cons (EnvOK.cons (EnvOK.cons (EnvOK.cons (EnvOK.nil _) qli) qgJ) qhK) qfj) qtM) qcD) Tryz.func87)) mixed Tryz.func45 bigNatDiv_con qiY (by kernel_rfl) (fun h=>by first | rfl | cases h) (fun g hg=>by cases hg) qpx
def qiA:Ann:=(.two .nil (.two (.join ⟨[],[(0,Zt37)],[]⟩ (.two (.loop ⟨[],[(0,Zt37),(1,Zt37)],[]⟩ .nil) .nil)) .nil))
noncomputable def bigNatGcd_con:Con:=⟨[Zt37,Zt37],true,[],Zt37,fun x=>qeV x.1 x.2.1,none⟩
noncomputable def qjv:Env:=(45,.con bigNatDiv_con)::[]
theorem qqb (x:DL bigNatGcd_con.ps):bigNatGcd_con.φ x=denF Tryz.prog qjv qiA Tryz.f23 bigNatGcd_con.ps bigNatGcd_con.one bigNatGcd_con.res bigNatGcd_con.ρ x:=by kernel_rfl
theorem qfW:ConOK Tryz.prog 23 bigNatGcd_con :=
 qa (env:=qjv) ((EnvOK.cons (EnvOK.nil _) qeo)) mixed Tryz.func23 bigNatGcd_con qiA (by kernel_rfl) (fun h=>by first | rfl | cases h) (fun g hg=>by cases hg) qqb
def qiv:Ann := .nil
noncomputable def bigNatOne_con:Con:=⟨[Zt37],true,[],.bool,fun x=>qgD x.1,none⟩
noncomputable def qjx:Env:=[]
theorem qqk (x:DL bigNatOne_con.ps):bigNatOne_con.φ x=denF Tryz.prog qjx qiv Tryz.f24 bigNatOne_con.ps bigNatOne_con.one bigNatOne_con.res bigNatOne_con.ρ x:=by kernel_rfl
theorem qkX:ConOK Tryz.prog 24 bigNatOne_con :=
 qa (env:=qjx) ((EnvOK.nil _)) mixed Tryz.func24 bigNatOne_con qiv (by kernel_rfl) (fun h=>by first | rfl | cases h) (fun g hg=>by cases hg) qqk
def qlj:Ann:=(.two .nil (.two .nil (.two .nil (.two .nil (.two .nil (.two (.two (.join ⟨[],[(62,.bool)],[]⟩ .nil) .nil) .nil))))))
noncomputable def ratCheck_con:Con:=⟨[.str],true,[],Zt39,fun x=>qO x.1,none⟩
noncomputable def qld:Env:=(24,.con bigNatOne_con)::(23,.con bigNatGcd_con)::(22,.con bigRead_con)::(21,.con natDigits_con)::(20,.con stringsCut_con)::(19,.con stringsCutPrefix_con)::[]
theorem qrL (x:DL ratCheck_con.ps):ratCheck_con.φ x=denF Tryz.prog qld qlj Tryz.f9 ratCheck_con.ps ratCheck_con.one ratCheck_con.res ratCheck_con.ρ x:=by kernel_rfl
theorem qfp:ConOK Tryz.prog 9 ratCheck_con :=
 qa (env:=qld) ((EnvOK.cons (EnvOK.cons (EnvOK.cons (EnvOK.cons (EnvOK.cons (EnvOK.cons (EnvOK.nil _) qdS) qjh) qrM) qpa) qfW) qkX)) mixed Tryz.func9 ratCheck_con qlj (by kernel_rfl) (fun h=>by first | rfl | cases h) (fun g hg=>by cases hg) qrL
def qf1:Ann:=(.two .nil (.two (.two .nil (.joinE ⟨[],[],[]⟩ (.two (.loop ⟨[6,7],[(8,Zt39)],[]⟩ .nil) .nil))) .nil))
noncomputable def ratCheckAll_con:Con:=⟨[(.sl .str)],true,[],Zt39,fun x=>qcK x.1,none⟩
noncomputable def qgG:Env:=(9,.con ratCheck_con)::[]
theorem qnu (x:DL ratCheckAll_con.ps):ratCheckAll_con.φ x=denF Tryz.prog qgG qf1 Tryz.f46 ratCheckAll_con.ps ratCheckAll_con.one ratCheckAll_con.res ratCheckAll_con.ρ x:=by kernel_rfl
theorem qex:ConOK Tryz.prog 46 ratCheckAll_con :=
 qa (env:=qgG) ((EnvOK.cons (EnvOK.nil _) qfp)) mixed Tryz.func46 ratCheckAll_con qf1 (by kernel_rfl) (fun h=>by first | rfl | cases h) (fun g hg=>by cases hg) qnu
def qed:Ann := .nil
noncomputable def matrixCheckVec_con:Con:=⟨[(.sl .str)],true,[],Zt39,fun x=>qbP x.1,none⟩
noncomputable def qeq:Env:=(46,.con ratCheckAll_con)::[]
theorem qiz (x:DL matrixCheckVec_con.ps):matrixCheckVec_con.φ x=denF Tryz.prog qeq qed Tryz.f56 matrixCheckVec_con.ps matrixCheckVec_con.one matrixCheckVec_con.res matrixCheckVec_con.ρ x:=by kernel_rfl
theorem qka:ConOK Tryz.prog 56 matrixCheckVec_con :=
 qa (env:=qeq) ((EnvOK.cons (EnvOK.nil _) qex)) mixed Tryz.func56 matrixCheckVec_con qed (by kernel_rfl) (fun h=>by first | rfl | cases h) (fun g hg=>by cases hg) qiz
def qgt:Ann:=(.two .nil (.two .nil (.two (.two .nil (.joinE ⟨[],[],[]⟩ (.two (.loop ⟨[0,9,10],[(11,Zt39)],[]⟩ .nil) .nil))) .nil)))
noncomputable def matrixCheck_con:Con:=⟨[Zt38],true,[],Zt39,fun x=>qfe x.1,none⟩
noncomputable def qgI:Env:=(56,.con matrixCheckVec_con)::[]
theorem qmQ (x:DL matrixCheck_con.ps):matrixCheck_con.φ x=denF Tryz.prog qgI qgt Tryz.f30 matrixCheck_con.ps matrixCheck_con.one matrixCheck_con.res matrixCheck_con.ρ x:=by kernel_rfl
theorem qn6:ConOK Tryz.prog 30 matrixCheck_con :=
 qa (env:=qgI) ((EnvOK.cons (EnvOK.nil _) qka)) mixed Tryz.func30 matrixCheck_con qgt (by kernel_rfl) (fun h=>by first | rfl | cases h) (fun g hg=>by cases hg) qmQ
def qgO:Ann := .nil
noncomputable def matrixWidth_con:Con:=⟨[Zt38],true,[],Zt39,fun x=>qd4 x.1,none⟩
noncomputable def qgp:Env:=[]
theorem qnE (x:DL matrixWidth_con.ps):matrixWidth_con.φ x=denF Tryz.prog qgp qgO Tryz.f31 matrixWidth_con.ps matrixWidth_con.one matrixWidth_con.res matrixWidth_con.ρ x:=by kernel_rfl
theorem qn1:ConOK Tryz.prog 31 matrixWidth_con :=
 qa (env:=qgp) ((EnvOK.nil _)) mixed Tryz.func31 matrixWidth_con qgO (by kernel_rfl) (fun h=>by first | rfl | cases h) (fun g hg=>by cases hg) qnE
def qfJ:Ann := .nil
noncomputable def matgameCheck_con:Con:=⟨[Zt38],true,[],Zt39,fun x=>qaO x.1,none⟩
noncomputable def qfH:Env:=(31,.con matrixWidth_con)::(30,.con matrixCheck_con)::[]
theorem qlB (x:DL matgameCheck_con.ps):matgameCheck_con.φ x=denF Tryz.prog qfH qfJ Tryz.f14 matgameCheck_con.ps matgameCheck_con.one matgameCheck_con.res matgameCheck_con.ρ x:=by kernel_rfl
theorem qgs:ConOK Tryz.prog 14 matgameCheck_con :=
 qa (env:=qfH) ((EnvOK.cons (EnvOK.cons (EnvOK.nil _) qn6) qn1)) mixed Tryz.func14 matgameCheck_con qfJ (by kernel_rfl) (fun h=>by first | rfl | cases h) (fun g hg=>by cases hg) qlB
def qnp:Ann := .nil
noncomputable def bigMade_con:Con:=⟨[.bool,Zt37],true,[],Zt28,fun x=>qnv x.1 x.2.1,some fun x=>qaa x.1 x.2.1⟩
noncomputable def qmr:Env:=(184,.ck 226)::[]
theorem qs0 (x:DL bigMade_con.ps):bigMade_con.φ x=denF Tryz.prog qmr qnp Tryz.f88 bigMade_con.ps bigMade_con.one bigMade_con.res bigMade_con.ρ x:=by kernel_rfl
theorem qdG:ConOK Tryz.prog 88 bigMade_con :=
 qa (env:=qmr) ((EnvOK.check (EnvOK.nil _) qe)) mixed Tryz.func88 bigMade_con qnp (by kernel_rfl) (fun h=>by first | rfl | cases h) (fun g hg x=>by
  cases hg
  exact qvo _ _) qs0
def qlo:Ann:=(.two .nil (.two .nil (.two .nil (.two .nil (.two (.two .nil (.join ⟨[2,8],[],[(1,none),(2,some (.box Zt23))]⟩ .nil)) .nil)))))
noncomputable def bigParse_con:Con:=⟨[.str],true,[],Zt20,fun x=>qau x.1,none⟩
noncomputable def qk5:Env:=(88,.con bigMade_con)::(22,.con bigRead_con)::(20,.con stringsCut_con)::(19,.con stringsCutPrefix_con)::(184,.ck 226)::[]
theorem qrH (x:DL bigParse_con.ps):bigParse_con.φ x=denF Tryz.prog qk5 qlo Tryz.f47 bigParse_con.ps bigParse_con.one bigParse_con.res bigParse_con.ρ x:=by kernel_rfl
theorem qfn:ConOK Tryz.prog 47 bigParse_con :=
 qa (env:=qk5) ((EnvOK.cons (EnvOK.cons (EnvOK.cons (EnvOK.cons (EnvOK.check (EnvOK.nil _) qe) qdS) qjh) qpa) qdG)) mixed Tryz.func47 bigParse_con qlo (by kernel_rfl) (fun h=>by first | rfl | cases h) (fun g hg=>by cases hg) qrH
def qhH:Ann:=(.two .nil (.two .nil (.two .nil (.two (.join ⟨[],[(3,(.osl 9 .str))],[]⟩ (.two (.loop ⟨[],[(0,Zt37),(3,(.osl 9 .str))],[]⟩ (.two .nil (.two (.two .nil (.two .nil (.two .nil (.two (.two .nil (.join ⟨[0,3],[(5,.str)],[]⟩ .nil)) .nil)))) .nil))) .nil)) (.two (.two (.two .nil (.join ⟨[],[],[(0,some (.arr 9 .str))]⟩ (.two (.loop ⟨[0],[(2,Zt39),(3,Zt39)],[(0,some (.arr 9 .str))]⟩ (.two .nil (.two (.two (.any 24575 0 (.ord 0 0 .nil (.ord 1 0 .nil (.ord 2 0 .nil (.ord 3 0 .nil (.ord 4 0 .nil (.ord 5 0 .nil (.ord 6 0 .nil (.ord 7 3967 .nil (.ord 8 0 .nil (.ord 9 0 .nil (.ord 10 0 .nil (.ord 11 0 .nil (.ord 12 0 .nil (.ord 13 0 .nil (.ord 14 0 .nil (.ord 15 0 .nil .nil))))))))))))))))) .nil) .nil))) .nil))) .nil) .nil)))))
noncomputable def bigNatText_con:Con:=⟨[Zt37],true,[],.str,fun x=>qbG x.1,none⟩
noncomputable def qhE:Env:=(143,.con qnk)::(142,.body Tryz.f142)::(141,.con qnW)::(140,.con qr4)::(84,.con bigDivSmall_con)::[]
theorem qom (x:DL bigNatText_con.ps):bigNatText_con.φ x=denF Tryz.prog qhE qhH Tryz.f110 bigNatText_con.ps bigNatText_con.one bigNatText_con.res bigNatText_con.ρ x:=by kernel_rfl
theorem qip:ConOK Tryz.prog 110 bigNatText_con :=
 qa (env:=qhE) ((EnvOK.cons (EnvOK.body (EnvOK.cons (EnvOK.cons (EnvOK.cons (EnvOK.nil _) qhK) itoaS_ok) qvU) Tryz.func142) joinS_ok)) mixed Tryz.func110 bigNatText_con qhH (by kernel_rfl) (fun h=>by first | rfl | cases h) (fun g hg=>by cases hg) qom
def qk9:Ann := .nil
noncomputable def bigQFits_con:Con:=⟨[Zt20,Zt39],true,[],.bool,fun x=>qqe x.1 x.2.1,none⟩
noncomputable def qlb:Env:=(110,.con bigNatText_con)::[]
theorem qq8 (x:DL bigQFits_con.ps):bigQFits_con.φ x=denF Tryz.prog qlb qk9 Tryz.f68 bigQFits_con.ps bigQFits_con.one bigQFits_con.res bigQFits_con.ρ x:=by kernel_rfl
theorem qtN:ConOK Tryz.prog 68 bigQFits_con :=
 qa (env:=qlb) ((EnvOK.cons (EnvOK.nil _) qip)) mixed Tryz.func68 bigQFits_con qk9 (by kernel_rfl) (fun h=>by first | rfl | cases h) (fun g hg=>by cases hg) qq8
def qk3:Ann:=(.two .nil (.two .nil (.two (.two .nil (.join ⟨[1],[(3,.str)],[]⟩ .nil)) (.two (.two .nil (.join ⟨[],[(3,.str)],[]⟩ .nil)) .nil))))
noncomputable def bigQText_con:Con:=⟨[Zt20],true,[],.str,fun x=>qlZ x.1,none⟩
noncomputable def qk6:Env:=(24,.con bigNatOne_con)::(110,.con bigNatText_con)::[]
theorem qsu (x:DL bigQText_con.ps):bigQText_con.φ x=denF Tryz.prog qk6 qk3 Tryz.f69 bigQText_con.ps bigQText_con.one bigQText_con.res bigQText_con.ρ x:=by kernel_rfl
theorem qtl:ConOK Tryz.prog 69 bigQText_con :=
 qa (env:=qk6) ((EnvOK.cons (EnvOK.cons (EnvOK.nil _) qip) qkX)) mixed Tryz.func69 bigQText_con qk3 (by kernel_rfl) (fun h=>by first | rfl | cases h) (fun g hg=>by cases hg) qsu
def qoW:Ann := .nil
noncomputable def ratOut_con:Con:=⟨[Zt20],false,[.str,Zt39],Zt29,fun x=>qjc x.1,none⟩
noncomputable def qoJ:Env:=(69,.con bigQText_con)::(68,.con bigQFits_con)::[]
theorem qu9 (x:DL ratOut_con.ps):ratOut_con.φ x=denF Tryz.prog qoJ qoW Tryz.f39 ratOut_con.ps ratOut_con.one ratOut_con.res ratOut_con.ρ x:=by kernel_rfl
theorem qjJ:ConOK Tryz.prog 39 ratOut_con :=
 qa (env:=qoJ) ((EnvOK.cons (EnvOK.cons (EnvOK.nil _) qtN) qtl)) mixed Tryz.func39 ratOut_con qoW (by kernel_rfl) (fun h=>by first | rfl | cases h) (fun g hg=>by cases hg) qu9
def qjS:Ann:=(.two .nil (.two .nil (.two (.two .nil (.join ⟨[5],[],[(0,some (.arr 105 Zt41))]⟩ (.two (.loop ⟨[1,5,17,18],[(19,Zt39)],[(0,some (.arr 105 Zt41))]⟩ (.two .nil (.two .nil (.two (.join ⟨[1,5,17,18,19],[],[(0,some (.arr 105 Zt41))]⟩ (.two (.two .nil (.two .nil (.two (.two .nil (.join ⟨[1,5,6,17,18,19],[(8,Zt40)],[(0,some (.arr 105 Zt41))]⟩ (.two (.loop ⟨[1,5,6,7,17,18,19,24,25],[(8,Zt40),(26,Zt39)],[(0,some (.arr 105 Zt41))]⟩ .nil) .nil))) .nil))) .nil)) .nil)))) .nil))) .nil)))
noncomputable def bigNatMul_con:Con:=⟨[Zt37,Zt37],true,[],Zt37,fun x=>qdR x.1 x.2.1,none⟩
noncomputable def qjZ:Env:=(81,.con bigNorm_con)::[]
theorem qpq (x:DL bigNatMul_con.ps):bigNatMul_con.φ x=denF Tryz.prog qjZ qjS Tryz.f51 bigNatMul_con.ps bigNatMul_con.one bigNatMul_con.res bigNatMul_con.ρ x:=by kernel_rfl
theorem qeg:ConOK Tryz.prog 51 bigNatMul_con :=
 qa (env:=qjZ) ((EnvOK.cons (EnvOK.nil _) qcD)) mixed Tryz.func51 bigNatMul_con qjS (by kernel_rfl) (fun h=>by first | rfl | cases h) (fun g hg=>by cases hg) qpq
def qjs:Ann:=(.two .nil (.two (.any 511 1536 (.ord 0 0 .nil (.ord 1 1005 .nil (.ord 2 0 .nil (.ord 3 999 .nil (.ord 4 0 .nil (.ord 5 0 .nil (.ord 6 447 .nil (.ord 7 0 .nil (.ord 8 0 .nil (.ord 9 0 .nil (.ord 10 0 .nil (.ord 11 0 .nil .nil))))))))))))) .nil))
noncomputable def bigIntMul_con:Con:=⟨[Zt28,Zt28],true,[],Zt28,fun x=>qo x.1 x.2.1,none⟩
noncomputable def qjq:Env:=(88,.con bigMade_con)::(51,.con bigNatMul_con)::(184,.ck 226)::[]
theorem qqq (x:DL bigIntMul_con.ps):bigIntMul_con.φ x=denF Tryz.prog qjq qjs Tryz.f49 bigIntMul_con.ps bigIntMul_con.one bigIntMul_con.res bigIntMul_con.ρ x:=by kernel_rfl
theorem qca:ConOK Tryz.prog 49 bigIntMul_con :=
 qa (env:=qjq) ((EnvOK.cons (EnvOK.cons (EnvOK.check (EnvOK.nil _) qe) qeg) qdG)) mixed Tryz.func49 bigIntMul_con qjs (by kernel_rfl) (fun h=>by first | rfl | cases h) (fun g hg=>by cases hg) qqq
def qi2:Ann:=(.two .nil (.two (.two .nil (.join ⟨[],[(0,Zt37),(1,Zt37)],[]⟩ .nil)) (.two .nil (.two .nil (.two (.two .nil (.join ⟨[],[(5,Zt33),(6,Zt40)],[(0,none)]⟩ (.two (.loop ⟨[1,20,21],[(5,Zt33),(6,Zt40),(22,Zt39)],[(0,none)]⟩ (.two .nil (.two .nil (.two (.two (.two .nil (.two .nil (.two (.two .nil (.join ⟨[1,5,20,21,22],[(6,Zt40)],[]⟩ .nil)) .nil))) .nil) .nil)))) .nil))) .nil)))))
noncomputable def bigNatAdd_con:Con:=⟨[Zt37,Zt37],true,[],Zt37,fun x=>qiO x.1 x.2.1,none⟩
noncomputable def qjg:Env:=(81,.con bigNorm_con)::[]
theorem qp6 (x:DL bigNatAdd_con.ps):bigNatAdd_con.φ x=denF Tryz.prog qjg qi2 Tryz.f89 bigNatAdd_con.ps bigNatAdd_con.one bigNatAdd_con.res bigNatAdd_con.ρ x:=by kernel_rfl
theorem qr6:ConOK Tryz.prog 89 bigNatAdd_con :=
 qa (env:=qjg) ((EnvOK.cons (EnvOK.nil _) qcD)) mixed Tryz.func89 bigNatAdd_con qi2 (by kernel_rfl) (fun h=>by first | rfl | cases h) (fun g hg=>by cases hg) qp6
def qj5:Ann:=(.two .nil (.two .nil (.two .nil (.two (.two .nil (.join ⟨[],[(5,Zt33)],[(0,none)]⟩ (.two (.loop ⟨[1,13,14],[(5,Zt33),(6,Zt39),(15,Zt39)],[(0,none)]⟩ (.two .nil (.two .nil (.two (.two (.two .nil (.two .nil (.two (.two .nil (.join ⟨[1,5,13,14,15],[(9,Zt39)],[]⟩ .nil)) (.two .nil (.two (.two .nil (.join ⟨[1,5,13,14,15],[(6,Zt39),(9,Zt39)],[]⟩ .nil)) .nil))))) .nil) .nil)))) .nil))) .nil))))
noncomputable def bigNatSub_con:Con:=⟨[Zt37,Zt37],true,[],Zt37,fun x=>qgw x.1 x.2.1,none⟩
noncomputable def qj4:Env:=(81,.con bigNorm_con)::[]
theorem qpS (x:DL bigNatSub_con.ps):bigNatSub_con.φ x=denF Tryz.prog qj4 qj5 Tryz.f90 bigNatSub_con.ps bigNatSub_con.one bigNatSub_con.res bigNatSub_con.ρ x:=by kernel_rfl
theorem qr0:ConOK Tryz.prog 90 bigNatSub_con :=
 qa (env:=qj4) ((EnvOK.cons (EnvOK.nil _) qcD)) mixed Tryz.func90 bigNatSub_con qj5 (by kernel_rfl) (fun h=>by first | rfl | cases h) (fun g hg=>by cases hg) qpS
def qjO:Ann:=(.two .nil (.two (.two .nil (.two (.two (.any 63 192 (.ord 0 0 .nil (.ord 1 125 .nil (.ord 2 0 .nil (.ord 3 55 .nil (.ord 4 0 .nil (.ord 5 0 .nil (.ord 6 0 .nil (.ord 7 0 .nil (.ord 8 0 .nil .nil)))))))))) .nil) .nil)) (.two (.two .nil (.two (.two (.any 63 192 (.ord 0 0 .nil (.ord 1 125 .nil (.ord 2 0 .nil (.ord 3 55 .nil (.ord 4 0 .nil (.ord 5 0 .nil (.ord 6 0 .nil (.ord 7 0 .nil (.ord 8 0 .nil .nil)))))))))) .nil) .nil)) (.two (.any 63 192 (.ord 0 0 .nil (.ord 1 125 .nil (.ord 2 0 .nil (.ord 3 55 .nil (.ord 4 0 .nil (.ord 5 0 .nil (.ord 6 0 .nil (.ord 7 0 .nil (.ord 8 0 .nil .nil)))))))))) .nil))))
noncomputable def bigIntAdd_con:Con:=⟨[Zt28,Zt28],true,[],Zt28,fun x=>qeF x.1 x.2.1,none⟩
noncomputable def qjC:Env:=(90,.con bigNatSub_con)::(82,.con bigNatCmp_con)::(88,.con bigMade_con)::(89,.con bigNatAdd_con)::(184,.ck 226)::[]
theorem qqc (x:DL bigIntAdd_con.ps):bigIntAdd_con.φ x=denF Tryz.prog qjC qjO Tryz.f50 bigIntAdd_con.ps bigIntAdd_con.one bigIntAdd_con.res bigIntAdd_con.ρ x:=by kernel_rfl
theorem qgC:ConOK Tryz.prog 50 bigIntAdd_con :=
 qa (env:=qjC) ((EnvOK.cons (EnvOK.cons (EnvOK.cons (EnvOK.cons (EnvOK.check (EnvOK.nil _) qe) qr6) qdG) qli) qr0)) mixed Tryz.func50 bigIntAdd_con qjO (by kernel_rfl) (fun h=>by first | rfl | cases h) (fun g hg=>by cases hg) qqc
def qm4:Ann := .nil
noncomputable def bigFrac_con:Con:=⟨[Zt28,Zt28],true,[],Zt20,fun x=>qZ x.1 x.2.1,none⟩
noncomputable def qmq:Env:=(88,.con bigMade_con)::(45,.con bigNatDiv_con)::(23,.con bigNatGcd_con)::(184,.ck 226)::[]
theorem qtL (x:DL bigFrac_con.ps):bigFrac_con.φ x=denF Tryz.prog qmq qm4 Tryz.f48 bigFrac_con.ps bigFrac_con.one bigFrac_con.res bigFrac_con.ρ x:=by kernel_rfl
theorem qhj:ConOK Tryz.prog 48 bigFrac_con :=
 qa (env:=qmq) ((EnvOK.cons (EnvOK.cons (EnvOK.cons (EnvOK.check (EnvOK.nil _) qe) qfW) qeo) qdG)) mixed Tryz.func48 bigFrac_con qm4 (by kernel_rfl) (fun h=>by first | rfl | cases h) (fun g hg=>by cases hg) qtL
def qmC:Ann:=(.two .nil (.two (.any 387039 661536 (.ord 0 0 .nil (.ord 1 124893 .nil (.ord 2 0 .nil (.ord 3 124871 .nil (.ord 4 0 .nil (.ord 6 0 .nil (.ord 7 124799 .nil (.ord 8 0 .nil (.ord 9 123391 .nil (.ord 10 0 .nil (.ord 13 0 .nil (.ord 14 114687 .nil (.ord 15 0 .nil (.ord 16 65535 .nil (.ord 5 0 .nil (.ord 11 0 .nil (.ord 12 0 .nil (.ord 17 0 .nil (.ord 18 0 .nil (.ord 19 0 .nil (.ord 20 0 .nil .nil)))))))))))))))))))))) .nil))
noncomputable def bigQAdd_con:Con:=⟨[Zt20,Zt20],true,[],Zt20,fun x=>qie x.1 x.2.1,none⟩
noncomputable def qm8:Env:=(48,.con bigFrac_con)::(51,.con bigNatMul_con)::(50,.con bigIntAdd_con)::(49,.con bigIntMul_con)::(184,.ck 226)::[]
theorem qs4 (x:DL bigQAdd_con.ps):bigQAdd_con.φ x=denF Tryz.prog qm8 qmC Tryz.f26 bigQAdd_con.ps bigQAdd_con.one bigQAdd_con.res bigQAdd_con.ρ x:=by kernel_rfl
theorem qks:ConOK Tryz.prog 26 bigQAdd_con :=
 qa (env:=qm8) ((EnvOK.cons (EnvOK.cons (EnvOK.cons (EnvOK.cons (EnvOK.check (EnvOK.nil _) qe) qca) qgC) qeg) qhj)) mixed Tryz.func26 bigQAdd_con qmC (by kernel_rfl) (fun h=>by first | rfl | cases h) (fun g hg=>by cases hg) qs4
def qo4:Ann:=(.two .nil (.two (.join ⟨[],[(4,.str),(5,Zt39)],[]⟩ .nil) .nil))
noncomputable def ratAdd_con:Con:=⟨[.str,.str],false,[.str,Zt39],Zt29,fun x=>qga x.1 x.2.1,none⟩
noncomputable def qoT:Env:=(39,.con ratOut_con)::(26,.con bigQAdd_con)::(47,.con bigParse_con)::(46,.con ratCheckAll_con)::(25,.body Tryz.f25)::[]
theorem qvZ (x:DL ratAdd_con.ps):ratAdd_con.φ x=denF Tryz.prog qoT qo4 Tryz.f10 ratAdd_con.ps ratAdd_con.one ratAdd_con.res ratAdd_con.ρ x:=by kernel_rfl
theorem qq0:ConOK Tryz.prog 10 ratAdd_con :=
 qa (env:=qoT) ((EnvOK.cons (EnvOK.cons (EnvOK.cons (EnvOK.cons (EnvOK.body (EnvOK.nil _) Tryz.func25) qex) qfn) qks) qjJ)) mixed Tryz.func10 ratAdd_con qo4 (by kernel_rfl) (fun h=>by first | rfl | cases h) (fun g hg=>by cases hg) qvZ
def qfO:Ann:=(.two .nil (.two .nil (.two .nil (.two .nil (.two (.two .nil (.joinE ⟨[],[(8,Zt35)],[]⟩ (.two (.loop ⟨[1,26,27],[(8,Zt35),(28,Zt39)],[]⟩ (.two .nil (.two .nil (.two (.joinE ⟨[1,26,27,28],[(8,Zt35)],[(0,none)]⟩ (.two (.two .nil (.two .nil (.two (.two .nil (.joinE ⟨[1,8,26,27,28],[(11,(.osl 24 .str))],[]⟩ (.two (.loop ⟨[1,8,26,27,28,32,33],[(11,(.osl 24 .str)),(34,Zt39)],[]⟩ .nil) .nil))) .nil))) .nil)) .nil)))) .nil))) .nil)))))
noncomputable def handicapGive_con:Con:=⟨[Zt38,.str],false,[Zt35,Zt39],(.st Zt35 Zt32),fun x=>qda x.1 x.2.1,none⟩
noncomputable def qfG:Env:=(10,.con ratAdd_con)::(9,.con ratCheck_con)::(14,.con matgameCheck_con)::[]
theorem qlz (x:DL handicapGive_con.ps):handicapGive_con.φ x=denF Tryz.prog qfG qfO Tryz.f5 handicapGive_con.ps handicapGive_con.one handicapGive_con.res handicapGive_con.ρ x:=by kernel_rfl
theorem qfX:ConOK Tryz.prog 5 handicapGive_con :=
 qa (env:=qfG) ((EnvOK.cons (EnvOK.cons (EnvOK.cons (EnvOK.nil _) qgs) qfp) qq0)) mixed Tryz.func5 handicapGive_con qfO (by kernel_rfl) (fun h=>by first | rfl | cases h) (fun g hg=>by cases hg) qlz
def qq9:Ann:=(.two .nil (.two .nil (.two (.two .nil (.join ⟨[],[(3,Zt14)],[]⟩ (.two (.loop ⟨[6,7],[(3,Zt14),(8,Zt39)],[]⟩ .nil) .nil))) .nil)))
noncomputable def ratIn_con:Con:=⟨[(.sl .str)],true,[],Zt14,fun x=>ratIn x.1,none⟩
noncomputable def qqR:Env:=(47,.con bigParse_con)::[]
theorem ratIn_den (x:DL ratIn_con.ps):ratIn_con.φ x=denF Tryz.prog qqR qq9 Tryz.f38 ratIn_con.ps ratIn_con.one ratIn_con.res ratIn_con.ρ x:=by kernel_rfl
theorem ratIn_ok:ConOK Tryz.prog 38 ratIn_con :=
 qa (env:=qqR) ((EnvOK.cons (EnvOK.nil _) qfn)) mixed Tryz.func38 ratIn_con qq9 (by kernel_rfl) (fun h=>by first | rfl | cases h) (fun g hg=>by cases hg) ratIn_den
def qlh:Ann:=(.two .nil (.two .nil (.two (.two .nil (.join ⟨[],[(3,Zt12)],[]⟩ (.two (.loop ⟨[6,7],[(3,Zt12),(8,Zt39)],[]⟩ .nil) .nil))) .nil)))
noncomputable def matrixIn_con:Con:=⟨[Zt38],true,[],Zt12,fun x=>qlP x.1,none⟩
noncomputable def qkV:Env:=(38,.con ratIn_con)::[]
theorem qrE (x:DL matrixIn_con.ps):matrixIn_con.φ x=denF Tryz.prog qkV qlh Tryz.f17 matrixIn_con.ps matrixIn_con.one matrixIn_con.res matrixIn_con.ρ x:=by kernel_rfl
theorem qsS:ConOK Tryz.prog 17 matrixIn_con :=
 qa (env:=qkV) ((EnvOK.cons (EnvOK.nil _) ratIn_ok)) mixed Tryz.func17 matrixIn_con qlh (by kernel_rfl) (fun h=>by first | rfl | cases h) (fun g hg=>by cases hg) qrE
def qiu:Ann := .nil
noncomputable def bigIntOpp_con:Con:=⟨[Zt28],true,[],Zt28,fun x=>qia x.1,some fun x=>qbq x.1⟩
noncomputable def qjy:Env:=(88,.con bigMade_con)::(184,.ck 226)::[]
theorem qp5 (x:DL bigIntOpp_con.ps):bigIntOpp_con.φ x=denF Tryz.prog qjy qiu Tryz.f57 bigIntOpp_con.ps bigIntOpp_con.one bigIntOpp_con.res bigIntOpp_con.ρ x:=by kernel_rfl
theorem qgV:ConOK Tryz.prog 57 bigIntOpp_con :=
 qa (env:=qjy) ((EnvOK.cons (EnvOK.check (EnvOK.nil _) qe) qdG)) mixed Tryz.func57 bigIntOpp_con qiu (by kernel_rfl) (fun h=>by first | rfl | cases h) (fun g hg x=>by
  cases hg
  exact qsd _) qp5
def qjl:Ann:=(.two .nil (.two (.any 3 12 (.ord 0 6 .nil (.ord 1 0 .nil (.ord 2 0 .nil (.ord 3 0 .nil (.ord 4 0 .nil .nil)))))) .nil))
noncomputable def bigIntSub_con:Con:=⟨[Zt28,Zt28],true,[],Zt28,fun x=>qge x.1 x.2.1,none⟩
noncomputable def qiP:Env:=(50,.con bigIntAdd_con)::(57,.con bigIntOpp_con)::(184,.ck 226)::[]
theorem qpG (x:DL bigIntSub_con.ps):bigIntSub_con.φ x=denF Tryz.prog qiP qjl Tryz.f101 bigIntSub_con.ps bigIntSub_con.one bigIntSub_con.res bigIntSub_con.ρ x:=by kernel_rfl
theorem qlr:ConOK Tryz.prog 101 bigIntSub_con :=
 qa (env:=qiP) ((EnvOK.cons (EnvOK.cons (EnvOK.check (EnvOK.nil _) qe) qgV) qgC)) mixed Tryz.func101 bigIntSub_con qjl (by kernel_rfl) (fun h=>by first | rfl | cases h) (fun g hg=>by cases hg) qpG
def qhQ:Ann := .nil
noncomputable def bigIntSign_con:Con:=⟨[Zt28],true,[],Zt39,fun x=>qgv x.1,some fun x=>qS x.1⟩
noncomputable def qhx:Env:=[]
theorem qn7 (x:DL bigIntSign_con.ps):bigIntSign_con.φ x=denF Tryz.prog qhx qhQ Tryz.f64 bigIntSign_con.ps bigIntSign_con.one bigIntSign_con.res bigIntSign_con.ρ x:=by kernel_rfl
theorem qfg:ConOK Tryz.prog 64 bigIntSign_con :=
 qa (env:=qhx) ((EnvOK.nil _)) mixed Tryz.func64 bigIntSign_con qhQ (by kernel_rfl) (fun h=>by first | rfl | cases h) (fun g hg x=>by
  cases hg
  exact qpr _) qn7
def qi4:Ann := .nil
noncomputable def bigIntCmp_con:Con:=⟨[Zt28,Zt28],true,[],Zt39,fun x=>qgM x.1 x.2.1,none⟩
noncomputable def qja:Env:=(64,.con bigIntSign_con)::(101,.con bigIntSub_con)::[]
theorem qp7 (x:DL bigIntCmp_con.ps):bigIntCmp_con.φ x=denF Tryz.prog qja qi4 Tryz.f58 bigIntCmp_con.ps bigIntCmp_con.one bigIntCmp_con.res bigIntCmp_con.ρ x:=by kernel_rfl
theorem qkP:ConOK Tryz.prog 58 bigIntCmp_con :=
 qa (env:=qja) ((EnvOK.cons (EnvOK.cons (EnvOK.nil _) qlr) qfg)) mixed Tryz.func58 bigIntCmp_con qi4 (by kernel_rfl) (fun h=>by first | rfl | cases h) (fun g hg=>by cases hg) qp7
def qmk:Ann:=(.two .nil (.two (.any 14303 2080 (.ord 0 0 .nil (.ord 1 2013 .nil (.ord 2 0 .nil (.ord 3 1991 .nil (.ord 4 0 .nil (.ord 6 0 .nil (.ord 7 1919 .nil (.ord 8 0 .nil (.ord 9 511 .nil (.ord 10 0 .nil (.ord 5 0 .nil (.ord 11 0 .nil (.ord 12 0 .nil (.ord 13 0 .nil .nil))))))))))))))) .nil))
noncomputable def bigQCmp_con:Con:=⟨[Zt20,Zt20],true,[],Zt39,fun x=>qnm x.1 x.2.1,none⟩
noncomputable def qmP:Env:=(58,.con bigIntCmp_con)::(49,.con bigIntMul_con)::[]
theorem qtE (x:DL bigQCmp_con.ps):bigQCmp_con.φ x=denF Tryz.prog qmP qmk Tryz.f34 bigQCmp_con.ps bigQCmp_con.one bigQCmp_con.res bigQCmp_con.ρ x:=by kernel_rfl
theorem qvk:ConOK Tryz.prog 34 bigQCmp_con :=
 qa (env:=qmP) ((EnvOK.cons (EnvOK.cons (EnvOK.nil _) qca) qkP)) mixed Tryz.func34 bigQCmp_con qmk (by kernel_rfl) (fun h=>by first | rfl | cases h) (fun g hg=>by cases hg) qtE
def qlq:Ann := .nil
noncomputable def bigWhole_con:Con:=⟨[Zt39],true,[],Zt28,fun x=>qfu x.1,none⟩
noncomputable def qlw:Env:=(85,.con bigSmall_con)::(184,.ck 226)::[]
theorem qsr (x:DL bigWhole_con.ps):bigWhole_con.φ x=denF Tryz.prog qlw qlq Tryz.f59 bigWhole_con.ps bigWhole_con.one bigWhole_con.res bigWhole_con.ρ x:=by kernel_rfl
theorem qna:ConOK Tryz.prog 59 bigWhole_con :=
 qa (env:=qlw) ((EnvOK.cons (EnvOK.check (EnvOK.nil _) qe) qfj)) mixed Tryz.func59 bigWhole_con qlq (by kernel_rfl) (fun h=>by first | rfl | cases h) (fun g hg=>by cases hg) qsr
def qqV:Ann := .nil
noncomputable def bigOf_con:Con:=⟨[Zt39],true,[],(.st Zt28 (.st Zt33 .nil)),fun x=>bigOf x.1,none⟩
noncomputable def qq3:Env:=(59,.con bigWhole_con)::(184,.ck 226)::[]
theorem bigOf_den (x:DL bigOf_con.ps):bigOf_con.φ x=denF Tryz.prog qq3 qqV Tryz.f35 bigOf_con.ps bigOf_con.one bigOf_con.res bigOf_con.ρ x:=by kernel_rfl
theorem quh:ConOK Tryz.prog 35 bigOf_con :=
 qa (env:=qq3) ((EnvOK.cons (EnvOK.check (EnvOK.nil _) qe) qna)) mixed Tryz.func35 bigOf_con qqV (by kernel_rfl) (fun h=>by first | rfl | cases h) (fun g hg=>by cases hg) bigOf_den
def qnN:Ann:=(.two .nil (.two (.any 59 4 (.ord 0 0 .nil (.ord 1 25 .nil (.ord 3 0 .nil (.ord 4 15 .nil (.ord 2 0 .nil (.ord 5 0 .nil (.ord 6 0 .nil .nil)))))))) .nil))
noncomputable def bigQOpp_con:Con:=⟨[Zt20],true,[],Zt20,fun x=>qnO x.1,some fun x=>qaW x.1⟩
noncomputable def qmX:Env:=(57,.con bigIntOpp_con)::(184,.ck 226)::[]
theorem qtU (x:DL bigQOpp_con.ps):bigQOpp_con.φ x=denF Tryz.prog qmX qnN Tryz.f33 bigQOpp_con.ps bigQOpp_con.one bigQOpp_con.res bigQOpp_con.ρ x:=by kernel_rfl
theorem qoU:ConOK Tryz.prog 33 bigQOpp_con :=
 qa (env:=qmX) ((EnvOK.cons (EnvOK.check (EnvOK.nil _) qe) qgV)) mixed Tryz.func33 bigQOpp_con qnN (by kernel_rfl) (fun h=>by first | rfl | cases h) (fun g hg x=>by
  cases hg
  exact qvx _) qtU
def ql4:Ann:=(.two .nil (.two (.any 3 12 (.ord 0 6 .nil (.ord 1 0 .nil (.ord 2 0 .nil (.ord 3 0 .nil (.ord 4 0 .nil .nil)))))) .nil))
noncomputable def bigQSub_con:Con:=⟨[Zt20,Zt20],true,[],Zt20,fun x=>qdJ x.1 x.2.1,none⟩
noncomputable def qmI:Env:=(26,.con bigQAdd_con)::(33,.con bigQOpp_con)::(184,.ck 226)::[]
theorem qtx (x:DL bigQSub_con.ps):bigQSub_con.φ x=denF Tryz.prog qmI ql4 Tryz.f27 bigQSub_con.ps bigQSub_con.one bigQSub_con.res bigQSub_con.ρ x:=by kernel_rfl
theorem qpl:ConOK Tryz.prog 27 bigQSub_con :=
 qa (env:=qmI) ((EnvOK.cons (EnvOK.cons (EnvOK.check (EnvOK.nil _) qe) qoU) qks)) mixed Tryz.func27 bigQSub_con ql4 (by kernel_rfl) (fun h=>by first | rfl | cases h) (fun g hg=>by cases hg) qtx
def qk4:Ann := .nil
noncomputable def bigQSign_con:Con:=⟨[Zt20],true,[],Zt39,fun x=>qkC x.1,some fun x=>qhe x.1⟩
noncomputable def qkW:Env:=(64,.con bigIntSign_con)::[]
theorem qro (x:DL bigQSign_con.ps):bigQSign_con.φ x=denF Tryz.prog qkW qk4 Tryz.f102 bigQSign_con.ps bigQSign_con.one bigQSign_con.res bigQSign_con.ρ x:=by kernel_rfl
theorem qtK:ConOK Tryz.prog 102 bigQSign_con :=
 qa (env:=qkW) ((EnvOK.cons (EnvOK.nil _) qfg)) mixed Tryz.func102 bigQSign_con qk4 (by kernel_rfl) (fun h=>by first | rfl | cases h) (fun g hg x=>by
  cases hg
  exact qtF _) qro
def qdt:Ann := .nil
noncomputable def slicesClone_bigQ_con:Con:=⟨[Zt17],true,[],Zt14,fun x=>qab x.1,none⟩
noncomputable def qdp:Env:=[]
theorem qht (x:DL slicesClone_bigQ_con.ps):slicesClone_bigQ_con.φ x=denF Tryz.prog qdp qdt Tryz.f103 slicesClone_bigQ_con.ps slicesClone_bigQ_con.one slicesClone_bigQ_con.res slicesClone_bigQ_con.ρ x:=by kernel_rfl
theorem qik:ConOK Tryz.prog 103 slicesClone_bigQ_con :=
 qa (env:=qdp) ((EnvOK.nil _)) mixed Tryz.func103 slicesClone_bigQ_con qdt (by kernel_rfl) (fun h=>by first | rfl | cases h) (fun g hg=>by cases hg) qht
def qgk:Ann:=(.two .nil (.two .nil (.two (.two .nil (.join ⟨[0],[(4,Zt37)],[]⟩ (.two (.loop ⟨[0,16,17],[(4,Zt37),(18,Zt39)],[]⟩ .nil) .nil))) (.two .nil (.two (.two .nil (.join ⟨[4],[(10,Zt25)],[]⟩ (.two (.loop ⟨[4,37,38],[(10,Zt25),(39,Zt39)],[]⟩ .nil) .nil))) .nil)))))
noncomputable def matrixWhole_con:Con:=⟨[Zt17],false,[Zt25,Zt37],Zt15,fun x=>qfs x.1,none⟩
noncomputable def qgE:Env:=(49,.con bigIntMul_con)::(51,.con bigNatMul_con)::(45,.con bigNatDiv_con)::(23,.con bigNatGcd_con)::(184,.ck 226)::(85,.con bigSmall_con)::[]
theorem qnR (x:DL matrixWhole_con.ps):matrixWhole_con.φ x=denF Tryz.prog qgE qgk Tryz.f108 matrixWhole_con.ps matrixWhole_con.one matrixWhole_con.res matrixWhole_con.ρ x:=by kernel_rfl
theorem qnY:ConOK Tryz.prog 108 matrixWhole_con :=
 qa (env:=qgE) ((EnvOK.cons (EnvOK.cons (EnvOK.cons (EnvOK.cons (EnvOK.check (EnvOK.cons (EnvOK.nil _) qfj) qe) qfW) qeo) qeg) qca)) mixed Tryz.func108 matrixWhole_con qgk (by kernel_rfl) (fun h=>by first | rfl | cases h) (fun g hg=>by cases hg) qnR
def qeW:Ann := .nil
noncomputable def matrixWhole_i_con:Con:=⟨[Zt17],false,[Zt25,Zt37],Zt15,fun x=>qah x.1,none⟩
noncomputable def qeQ:Env:=(108,.con matrixWhole_con)::[]
theorem qkk (x:DL matrixWhole_i_con.ps):matrixWhole_i_con.φ x=denF Tryz.prog qeQ qeW Tryz.f63 matrixWhole_i_con.ps matrixWhole_i_con.one matrixWhole_i_con.res matrixWhole_i_con.ρ x:=by kernel_rfl
theorem qlK:ConOK Tryz.prog 63 matrixWhole_i_con :=
 qa (env:=qeQ) ((EnvOK.cons (EnvOK.nil _) qnY)) mixed Tryz.func63 matrixWhole_i_con qeW (by kernel_rfl) (fun h=>by first | rfl | cases h) (fun g hg=>by cases hg) qkk
def qdO:Ann:=(.two .nil (.two (.two .nil (.joinE ⟨[],[],[]⟩ (.two (.loop ⟨[0,1,7],[(8,Zt39)],[]⟩ .nil) .nil))) .nil))
noncomputable def slicesIndex_int_con:Con:=⟨[Zt36,Zt39],true,[],Zt39,fun x=>qct x.1 x.2.1,none⟩
noncomputable def qdQ:Env:=[]
theorem qh3 (x:DL slicesIndex_int_con.ps):slicesIndex_int_con.φ x=denF Tryz.prog qdQ qdO Tryz.f104 slicesIndex_int_con.ps slicesIndex_int_con.one slicesIndex_int_con.res slicesIndex_int_con.ρ x:=by kernel_rfl
theorem qjM:ConOK Tryz.prog 104 slicesIndex_int_con :=
 qa (env:=qdQ) ((EnvOK.nil _)) mixed Tryz.func104 slicesIndex_int_con qdO (by kernel_rfl) (fun h=>by first | rfl | cases h) (fun g hg=>by cases hg) qh3
def qgl:Ann := .nil
noncomputable def bigIntExact_con:Con:=⟨[Zt28,Zt28],true,[],Zt28,fun x=>qfF x.1 x.2.1,none⟩
noncomputable def qgo:Env:=(88,.con bigMade_con)::(45,.con bigNatDiv_con)::(184,.ck 226)::[]
theorem qnV (x:DL bigIntExact_con.ps):bigIntExact_con.φ x=denF Tryz.prog qgo qgl Tryz.f139 bigIntExact_con.ps bigIntExact_con.one bigIntExact_con.res bigIntExact_con.ρ x:=by kernel_rfl
theorem qnZ:ConOK Tryz.prog 139 bigIntExact_con :=
 qa (env:=qgo) ((EnvOK.cons (EnvOK.cons (EnvOK.check (EnvOK.nil _) qe) qeo) qdG)) mixed Tryz.func139 bigIntExact_con qgl (by kernel_rfl) (fun h=>by first | rfl | cases h) (fun g hg=>by cases hg) qnV
def qmM:Ann:=(.two .nil (.two (.any 1519 2576 (.ord 0 0 .nil (.ord 1 493 .nil (.ord 2 0 .nil (.ord 3 487 .nil (.ord 5 0 .nil (.ord 6 447 .nil (.ord 7 0 .nil (.ord 8 255 .nil (.ord 4 0 .nil (.ord 9 0 .nil (.ord 10 0 .nil (.ord 11 0 .nil (.ord 12 0 .nil .nil)))))))))))))) .nil))
noncomputable def bigQMul_con:Con:=⟨[Zt20,Zt20],true,[],Zt20,fun x=>qpv x.1 x.2.1,none⟩
noncomputable def qnK:Env:=(48,.con bigFrac_con)::(51,.con bigNatMul_con)::(49,.con bigIntMul_con)::(184,.ck 226)::[]
theorem qth (x:DL bigQMul_con.ps):bigQMul_con.φ x=denF Tryz.prog qnK qmM Tryz.f107 bigQMul_con.ps bigQMul_con.one bigQMul_con.res bigQMul_con.ρ x:=by kernel_rfl
theorem qvT:ConOK Tryz.prog 107 bigQMul_con :=
 qa (env:=qnK) ((EnvOK.cons (EnvOK.cons (EnvOK.cons (EnvOK.check (EnvOK.nil _) qe) qca) qeg) qhj)) mixed Tryz.func107 bigQMul_con qmM (by kernel_rfl) (fun h=>by first | rfl | cases h) (fun g hg=>by cases hg) qth
def qeu:Ann:=(.two .nil (.two .nil (.two (.two .nil (.join ⟨[],[(5,Zt14)],[]⟩ (.two (.loop ⟨[1,8,9],[(5,Zt14),(10,Zt39)],[]⟩ (.two .nil (.two .nil (.two (.two (.two .nil (.any 4479 1664 (.ord 0 0 .nil (.ord 1 509 .nil (.ord 2 0 .nil (.ord 3 0 .nil (.ord 4 0 .nil (.ord 5 159 .nil (.ord 6 0 .nil (.ord 7 0 .nil (.ord 8 0 .nil (.ord 9 0 .nil (.ord 10 0 .nil (.ord 11 0 .nil (.ord 12 0 .nil .nil))))))))))))))) .nil) .nil)))) .nil))) .nil)))
noncomputable def simplexUnscale_con:Con:=⟨[Zt17,(.sl Zt37)],true,[],Zt14,fun x=>qn x.1 x.2.1,none⟩
noncomputable def qeb:Env:=(107,.con bigQMul_con)::(85,.con bigSmall_con)::(184,.ck 226)::[]
theorem qjw (x:DL simplexUnscale_con.ps):simplexUnscale_con.φ x=denF Tryz.prog qeb qeu Tryz.f62 simplexUnscale_con.ps simplexUnscale_con.one simplexUnscale_con.res simplexUnscale_con.ρ x:=by kernel_rfl
theorem qkz:ConOK Tryz.prog 62 simplexUnscale_con :=
 qa (env:=qeb) ((EnvOK.cons (EnvOK.cons (EnvOK.check (EnvOK.nil _) qe) qfj) qvT)) mixed Tryz.func62 simplexUnscale_con qeu (by kernel_rfl) (fun h=>by first | rfl | cases h) (fun g hg=>by cases hg) qjw
def qF:Ann:=(.two .nil (.two .nil (.two (.two .nil (.join ⟨[0,1,5],[],[(19,some (.arr 58 Zt20))]⟩ (.two (.loop ⟨[0,1,5,12],[(13,Zt39)],[(19,some (.arr 58 Zt20))]⟩ .nil) .nil))) (.two (.two .nil (.join ⟨[5],[],[(19,some (.arr 58 Zt20))]⟩ (.two (.loop ⟨[0,1,5,24,25],[(26,Zt39)],[(19,some (.arr 58 Zt20))]⟩ (.two .nil (.two .nil (.two (.two (.two .nil (.two .nil (.join ⟨[0,1,5,24,25,26],[],[(19,some (.arr 58 Zt20))]⟩ (.two (.any 6291455 0 (.ord 0 0 .nil (.ord 1 0 .nil (.ord 2 0 .nil (.ord 3 0 .nil (.ord 4 0 .nil (.ord 5 0 .nil (.ord 6 523455 .nil (.ord 7 0 .nil (.ord 8 0 .nil (.ord 9 523775 .nil (.ord 10 0 .nil (.ord 11 0 .nil (.ord 12 0 .nil (.ord 13 24575 .nil (.ord 14 0 .nil (.ord 15 0 .nil (.ord 16 0 .nil (.ord 17 0 .nil (.ord 18 0 .nil (.ord 19 0 .nil (.ord 20 0 .nil (.ord 21 0 (.two .nil (.two (.tail 5 .nil) .nil)) (.ord 22 0 .nil (.ord 23 0 .nil .nil))))))))))))))))))))))))) .nil)))) .nil) .nil)))) .nil))) .nil))))
def qD:Ann:=(.ord 5 0 .nil (.ord 17 0 .nil (.ord 18 0 .nil (.ord 19 0 .nil (.ord 20 0 .nil .nil)))))
def qgF:Ann:=(.alt (.ord 2 0 qF (.ord 11 260095 .nil qD)) (.ord 11 0 .nil (.ord 2 0 qF qD)))
def qf5:Ann:=(.alt (.ord 2 0 qF (.ord 16 65535 .nil qD)) (.ord 16 0 .nil (.ord 2 0 qF qD)))
def qgd:Ann:=(.alt (.ord 2 0 qF (.ord 15 98303 .nil qD)) (.ord 15 0 .nil (.ord 2 0 qF qD)))
def qgQ:Ann:=(.ord 8 0 .nil (.ord 9 0 .nil (.ord 10 0 .nil (.ord 11 0 .nil (.ord 12 0 .nil (.ord 13 0 .nil (.ord 14 0 .nil .nil)))))))
def qhL:Ann:=(.two .nil (.two .nil (.two (.two (.two .nil (.two .nil (.two .nil (.two (.two .nil (.join ⟨[1,3,5,6],[(7,Zt34)],[]⟩ (.two (.loop ⟨[1,3,5,6,24,25],[(7,Zt34),(26,Zt39)],[]⟩ (.two .nil (.two .nil (.two (.two (.two .nil (.two .nil (.join ⟨[1,3,5,6,24,25,26],[(7,Zt34)],[(4,none)]⟩ .nil))) .nil) .nil)))) .nil))) (.two .nil (.two (.two .nil (.join ⟨[2,7],[(3,(.osl 54 Zt37))],[(0,some (.ar 56 Zt26 none)),(5,some (.box (.st (.osl 127 .ref) Zt16)))]⟩ (.two (.loop ⟨[1,2,5,6,7,46,47],[(3,(.osl 54 Zt37)),(48,Zt39)],[(0,some (.ar 56 Zt26 none)),(5,some (.box (.st (.osl 127 .ref) Zt16)))]⟩ (.two .nil (.two .nil (.two (.join ⟨[1,2,5,6,7,46,47,48],[(3,(.osl 54 Zt37))],[(5,some (.box (.st (.osl 127 .ref) Zt16))),(6,some (.ar 56 Zt26 none)),(7,none),(8,none),(9,none)]⟩ (.two (.two .nil (.two (.join ⟨[1,2,3,5,6,7,10,46,47,48],[(12,Zt25),(13,Zt37)],[]⟩ (.any 31869 642 (.ord 0 0 .nil (.ord 2 0 .nil (.ord 3 23 .nil (.ord 4 0 .nil (.ord 5 0 .nil (.ord 6 63 .nil (.alt (.ord 1 0 .nil (.ord 7 0 .nil qgQ)) (.ord 7 0 .nil (.ord 1 0 .nil qgQ))))))))))) (.two .nil (.two .nil (.two .nil (.two .nil (.two .nil (.two .nil (.two (.two .nil (.two .nil (.join ⟨[1,2,3,5,6,7,14,46,47,48],[],[(13,some (.arr 56 Zt28)),(15,some (.arr 3 Zt39))]⟩ (.two (.two (.two .nil (.join ⟨[1,2,3,5,6,7,10,14,15,46,47,48],[],[(13,some (.arr 56 Zt28))]⟩ (.two (.loop ⟨[1,2,3,5,6,7,10,14,15,46,47,48,116],[(117,Zt39)],[(13,some (.arr 56 Zt28))]⟩ .nil) .nil))) .nil) .nil)))) .nil))))))))) .nil)) .nil)))) .nil))) .nil)))))) .nil) (.two .nil (.two .nil (.two .nil (.two (.two .nil (.join ⟨[2,3,4,5,6,10,11,12],[],[(11,some (.arr 56 Zt28))]⟩ (.two (.loop ⟨[2,3,4,5,6,10,11,12,63,64],[(65,Zt39)],[(11,some (.arr 56 Zt28))]⟩ (.two .nil (.two .nil (.two (.two (.two .nil (.any 759 264 (.ord 0 0 .nil (.ord 1 0 .nil (.ord 2 243 .nil (.ord 4 0 .nil (.ord 5 0 .nil (.ord 6 0 .nil (.ord 7 127 .nil (.ord 3 0 .nil (.ord 8 0 .nil (.ord 9 0 .nil (.ord 10 0 .nil .nil))))))))))))) .nil) .nil)))) .nil))) (.two (.two .nil (.join ⟨[2,3,4,5,6,11,12],[],[(11,some (.arr 56 Zt28))]⟩ (.two (.loop ⟨[2,3,4,5,6,10,11,12,84,85],[(86,Zt39)],[(11,some (.arr 56 Zt28))]⟩ (.two .nil (.two .nil (.two (.join ⟨[2,3,4,5,6,10,11,12,84,85,86],[],[(11,some (.arr 56 Zt28))]⟩ (.two (.two .nil (.two .nil (.join ⟨[2,3,4,5,6,10,11,12,84,85,86],[],[(11,some (.arr 56 Zt28))]⟩ (.two (.two .nil (.join ⟨[2,3,4,5,6,10,11,12,84,85,86],[],[(11,some (.arr 56 Zt28))]⟩ (.two (.loop ⟨[2,3,4,5,6,10,11,12,15,16,84,85,86,103],[(104,Zt39)],[(11,some (.arr 56 Zt28))]⟩ (.two .nil (.two .nil (.two (.two (.two .nil (.any 5242879 3145728 (.ord 0 0 .nil (.ord 1 0 .nil (.ord 2 0 .nil (.ord 3 0 .nil (.ord 4 0 .nil (.ord 5 2097119 .nil (.ord 6 0 .nil (.ord 7 0 .nil (.ord 8 0 .nil (.ord 9 1048063 .nil (.ord 10 0 .nil (.ord 11 0 .nil (.ord 12 0 .nil (.ord 13 155647 .nil (.ord 14 0 .nil (.ord 15 0 .nil (.ord 16 196607 .nil (.ord 17 0 .nil (.ord 18 0 .nil (.ord 19 0 .nil (.ord 20 0 .nil (.ord 21 0 .nil (.ord 22 0 .nil (.ord 23 0 .nil .nil)))))))))))))))))))))))))) .nil) .nil)))) .nil))) .nil)))) .nil)) .nil)))) .nil))) (.two .nil (.two (.join ⟨[2,3,4,5,6,11],[(18,Zt39)],[(5,some (.box (.st (.osl 127 .ref) Zt16))),(6,some (.ar 56 Zt26 none)),(8,none),(13,none)]⟩ (.two (.two .nil (.two (.loop ⟨[0],[],[(5,some (.box (.st (.osl 127 .ref) Zt16))),(6,some (.ar 56 Zt26 none)),(8,none),(13,none)]⟩ (.joinE ⟨[0],[],[(5,some (.box (.st (.osl 127 .ref) Zt16))),(14,none),(15,none),(16,some (.ar 56 Zt26 none))]⟩ (.two (.two .nil (.two .nil (.two (.join ⟨[0],[(4,Zt39)],[]⟩ (.two (.loop ⟨[0,3],[(4,Zt39)],[]⟩ .nil) .nil)) (.two .nil (.two (.two (.two .nil (.two .nil (.two (.two .nil (.join ⟨[],[(5,Zt39)],[]⟩ (.two (.loop ⟨[0,1,6,22],[(5,Zt39),(23,Zt39)],[]⟩ (.two .nil (.two .nil (.two (.join ⟨[0,1,6,22,23],[(5,Zt39)],[]⟩ (.two (.two .nil (.two .nil (.two .nil (.two .nil (.two (.any 30063722495 4296015872 (.ord 0 0 .nil (.ord 1 0 .nil (.ord 2 0 .nil (.ord 3 4293917847 .nil (.ord 4 0 .nil (.ord 5 0 .nil (.ord 6 4293917887 .nil (.ord 7 0 .nil (.ord 8 0 .nil (.ord 9 4293918207 .nil (.ord 10 0 .nil (.ord 11 0 .nil (.ord 12 0 .nil (.ord 13 4293025791 .nil (.ord 14 0 .nil (.ord 15 0 .nil (.ord 16 4293066751 .nil (.ord 17 0 .nil (.ord 18 0 .nil (.ord 19 4293394431 .nil (.ord 21 0 .nil (.ord 22 0 .nil (.ord 23 0 .nil (.ord 24 2466250751 .nil (.ord 25 0 .nil (.ord 26 0 .nil (.ord 27 2550136831 .nil (.ord 28 0 .nil (.ord 29 0 .nil (.ord 30 3221225471 .nil (.ord 31 2147483647 .nil (.ord 20 0 .nil (.ord 32 0 .nil (.ord 33 0 .nil (.ord 34 0 .nil .nil)))))))))))))))))))))))))))))))))))) (.two .nil (.join ⟨[0,1,6,22,23],[(5,Zt39)],[]⟩ .nil))))))) .nil)) .nil)))) .nil))) .nil))) .nil) (.two .nil (.two (.two .nil (.two (.two .nil (.join ⟨[0,1,2,6],[],[(16,some (.ar 56 Zt26 none))]⟩ (.two (.loop ⟨[0,1,2,6,27,28],[(29,Zt39)],[(16,some (.ar 56 Zt26 none))]⟩ (.two .nil (.two .nil (.two (.join ⟨[0,1,2,6,27,28,29],[],[(18,some (.ar 56 Zt26 none))]⟩ (.two (.two .nil (.two .nil (.two .nil (.two .nil (.join ⟨[0,1,2,6,27,28,29],[],[(18,some (.ar 56 Zt26 none))]⟩ (.two (.loop ⟨[0,1,2,6,8,9,27,28,29,42],[(43,Zt39)],[(18,some (.ar 56 Zt26 none))]⟩ (.two .nil (.two .nil (.two (.two (.two .nil (.any 99090303 35127424 (.ord 0 0 .nil (.ord 1 0 .nil (.ord 2 0 .nil (.ord 3 0 .nil (.ord 4 0 .nil (.ord 5 31981407 .nil (.ord 6 31981375 .nil (.ord 8 31981311 .nil (.ord 9 0 .nil (.ord 10 0 .nil (.ord 11 0 .nil (.ord 12 31535103 .nil (.ord 13 0 .nil (.ord 14 0 .nil (.ord 15 31555583 .nil (.ord 16 0 .nil (.ord 17 0 .nil (.ord 18 31719423 .nil (.ord 21 0 .nil (.ord 22 0 .nil (.ord 23 0 .nil (.ord 24 16777215 .nil (.ord 7 0 .nil (.ord 19 0 .nil (.ord 20 0 .nil (.ord 25 0 .nil (.ord 26 0 .nil (.ord 27 0 .nil .nil)))))))))))))))))))))))))))))) .nil) .nil)))) .nil)))))) .nil)) .nil)))) .nil))) (.two (.two .nil (.join ⟨[0,1,2,6],[],[(17,some (.box Zt28)),(18,some (.ar 56 Zt26 none))]⟩ (.two (.two .nil (.two .nil (.join ⟨[0,1,2,6],[],[(18,some (.ar 56 Zt26 none))]⟩ (.two (.loop ⟨[0,1,2,6,83,84],[(85,Zt39)],[(18,some (.ar 56 Zt26 none))]⟩ (.two .nil (.two .nil (.two (.join ⟨[0,1,2,6,83,84,85],[],[(19,some (.ar 56 Zt26 none))]⟩ (.two (.two .nil (.two .nil (.join ⟨[0,1,2,6,83,84,85],[],[(19,some (.ar 56 Zt26 none))]⟩ (.two (.loop ⟨[0,1,2,6,12,83,84,85,90],[(91,Zt39)],[(19,some (.ar 56 Zt26 none))]⟩ .nil) .nil)))) .nil)) .nil)))) .nil)))) .nil))) .nil))) .nil))))))) .nil))) .nil)) .nil)) (.two (.any 196543 64 (.ord 0 0 .nil (.ord 1 0 .nil (.ord 2 0 .nil (.ord 3 0 .nil (.ord 4 16303 .nil (.ord 5 0 .nil (.ord 7 0 .nil (.ord 8 0 .nil (.ord 9 0 .nil (.ord 10 3071 .nil (.ord 11 0 .nil (.ord 12 0 .nil (.ord 13 8191 .nil (.ord 6 0 .nil (.ord 14 0 .nil (.ord 15 0 .nil (.ord 16 0 .nil (.ord 17 0 .nil .nil))))))))))))))))))) (.two (.two .nil (.two (.two (.two (.two .nil (.two .nil (.two (.two .nil (.join ⟨[0,1,5],[],[(17,some (.arr 58 Zt20))]⟩ (.two (.loop ⟨[0,1,5,12],[(13,Zt39)],[(17,some (.arr 58 Zt20))]⟩ .nil) .nil))) (.two (.two .nil (.join ⟨[5],[],[(17,some (.arr 58 Zt20))]⟩ (.two (.loop ⟨[0,1,5,24,25],[(26,Zt39)],[(17,some (.arr 58 Zt20))]⟩ (.two .nil (.two .nil (.two (.two (.two .nil (.two .nil (.join ⟨[0,1,5,24,25,26],[],[(17,some (.arr 58 Zt20))]⟩ (.two (.any 6291455 0 (.ord 0 0 .nil (.ord 1 0 .nil (.ord 2 0 .nil (.ord 3 0 .nil (.ord 4 0 .nil (.ord 5 0 .nil (.ord 6 523455 .nil (.ord 7 0 .nil (.ord 8 0 .nil (.ord 9 523775 .nil (.ord 10 0 .nil (.ord 11 0 .nil (.ord 12 0 .nil (.ord 13 24575 .nil (.ord 14 0 .nil (.ord 15 0 .nil (.ord 16 0 .nil (.ord 17 0 .nil (.ord 18 0 .nil (.ord 19 0 .nil (.ord 20 0 .nil (.ord 21 0 (.two .nil (.two (.tail 5 .nil) .nil)) (.ord 22 0 .nil (.ord 23 0 .nil .nil))))))))))))))))))))))))) .nil)))) .nil) .nil)))) .nil))) .nil)))) .nil) .nil) .nil)) (.two .nil (.two .nil (.two (.two .nil (.join ⟨[2,3,5,6,12,19],[(20,Zt14)],[]⟩ (.two (.loop ⟨[2,3,5,6,12,19,172],[(20,Zt14),(173,Zt39)],[]⟩ (.two .nil (.two .nil (.two (.two (.two .nil (.any 69631 28672 (.ord 0 0 .nil (.ord 1 0 .nil (.ord 2 0 .nil (.ord 3 0 .nil (.ord 4 0 .nil (.ord 5 0 .nil (.ord 6 8127 .nil (.ord 7 0 .nil (.ord 8 0 .nil (.ord 9 0 .nil (.ord 10 3071 .nil (.ord 11 0 .nil (.ord 12 0 .nil (.ord 13 0 .nil (.ord 14 0 .nil (.ord 15 0 .nil (.ord 16 0 .nil .nil))))))))))))))))))) .nil) .nil)))) .nil))) (.two (.frz [9,18] (.join ⟨[2],[],[(2,some (.box (.st Zt39 (.st Zt14 (.st Zt14 (.st Zt14 Zt23))))))]⟩ (.any 655323 393248 (.ord 0 0 .nil (.ord 1 0 .nil (.ord 3 0 .nil (.ord 4 0 .nil (.ord 6 0 .nil (.ord 7 0 .nil (.ord 8 0 .nil (.ord 9 0 .nil (.ord 10 0 .nil (.ord 12 0 .nil (.ord 13 0 .nil (.ord 14 0 .nil (.alt (.ord 2 0 qF (.ord 11 260095 .nil (.ord 15 98303 .nil (.ord 16 65535 .nil qD)))) (.alt (.ord 11 0 .nil (.alt (.ord 2 0 qF (.ord 15 98303 .nil (.ord 16 65535 .nil qD))) (.alt (.ord 15 0 .nil qf5) (.ord 16 0 .nil qgd)))) (.alt (.ord 15 0 .nil (.alt (.ord 2 0 qF (.ord 11 260095 .nil (.ord 16 65535 .nil qD))) (.alt (.ord 11 0 .nil qf5) (.ord 16 0 .nil qgF)))) (.ord 16 0 .nil (.alt (.ord 2 0 qF (.ord 11 260095 .nil (.ord 15 98303 .nil qD))) (.alt (.ord 11 0 .nil qgd) (.ord 15 0 .nil qgF)))))))))))))))))))))) .nil))))))))))))))))
noncomputable def simplexRun_con:Con:=⟨[(.st Zt13 (.st Zt17 (.st Zt17 .nil)))],true,[],(.st Zt39 (.st Zt14 (.st Zt14 (.st Zt14 (.st Zt20 .nil))))),fun x=>qhg x.1,none⟩
noncomputable def qhR:Env:=(62,.con simplexUnscale_con)::(48,.con bigFrac_con)::(105,.body Tryz.f105)::(35,.con bigOf_con)::(66,.body Tryz.f66)::(139,.con bigIntExact_con)::(101,.con bigIntSub_con)::(106,.body Tryz.f106)::(58,.con bigIntCmp_con)::(109,.body Tryz.f109)::(65,.body Tryz.f65)::(50,.con bigIntAdd_con)::(64,.con bigIntSign_con)::(49,.con bigIntMul_con)::(57,.con bigIntOpp_con)::(104,.con slicesIndex_int_con)::(63,.con matrixWhole_i_con)::(103,.con slicesClone_bigQ_con)::(59,.con bigWhole_con)::(102,.con bigQSign_con)::(60,.body Tryz.f60)::(184,.ck 226)::[]
theorem qn0 (x:DL simplexRun_con.ps):simplexRun_con.φ x=denA Tryz.prog qhR qhL Tryz.f36 (56,Zt26,none) simplexRun_con.ps simplexRun_con.one simplexRun_con.res simplexRun_con.ρ x:=by kernel_rfl
theorem qpn:ConOK Tryz.prog 36 simplexRun_con :=
 qtj (env:=qhR) ((EnvOK.cons (EnvOK.cons (EnvOK.body (EnvOK.cons (EnvOK.body (EnvOK.cons (EnvOK.cons (EnvOK.body (EnvOK.cons (EnvOK.body (EnvOK.body (EnvOK.cons (EnvOK.cons (EnvOK.cons (EnvOK.cons (EnvOK.cons (EnvOK.cons (EnvOK.cons (EnvOK.cons (EnvOK.cons (EnvOK.body (EnvOK.check (EnvOK.nil _) qe) Tryz.func60) qtK) qna) qik) qlK) qjM) qgV) qca) qfg) qgC) Tryz.func65) Tryz.func109) qkP) Tryz.func106) qlr) qnZ) Tryz.func66) quh) Tryz.func105) qhj) qkz)) mixed Tryz.func36 simplexRun_con (56,Zt26,none) qhL (by kernel_rfl) (fun h=>by first | rfl | cases h) (fun g hg=>by cases hg) qn0
def qmx:Ann:=(.two .nil (.two (.any 2015 6176 (.ord 0 0 .nil (.ord 1 2013 .nil (.ord 2 0 .nil (.ord 3 1991 .nil (.ord 4 0 .nil (.ord 6 0 .nil (.ord 7 1919 .nil (.ord 8 0 .nil (.ord 9 511 .nil (.ord 10 0 .nil (.ord 5 0 .nil (.ord 11 0 .nil (.ord 12 0 .nil (.ord 13 0 .nil .nil))))))))))))))) .nil))
noncomputable def bigQDiv_con:Con:=⟨[Zt20,Zt20],true,[],Zt20,fun x=>qh6 x.1 x.2.1,none⟩
noncomputable def qnh:Env:=(48,.con bigFrac_con)::(49,.con bigIntMul_con)::(184,.ck 226)::[]
theorem qsL (x:DL bigQDiv_con.ps):bigQDiv_con.φ x=denF Tryz.prog qnh qmx Tryz.f37 bigQDiv_con.ps bigQDiv_con.one bigQDiv_con.res bigQDiv_con.ρ x:=by kernel_rfl
theorem qvj:ConOK Tryz.prog 37 bigQDiv_con :=
 qa (env:=qnh) ((EnvOK.cons (EnvOK.cons (EnvOK.check (EnvOK.nil _) qe) qca) qhj)) mixed Tryz.func37 bigQDiv_con qmx (by kernel_rfl) (fun h=>by first | rfl | cases h) (fun g hg=>by cases hg) qsL
def qdm:Ann:=(.ord 10 0 .nil (.ord 7 0 .nil (.ord 8 0 .nil (.ord 9 0 .nil (.ord 11 0 .nil (.ord 12 0 .nil (.ord 13 0 .nil .nil)))))))
def qf2:Ann:=(.two .nil (.two .nil (.two (.two .nil (.join ⟨[0,2,3,4,5],[],[(1,some (.box Zt23))]⟩ (.two (.loop ⟨[0,2,3,4,5,27,28],[(29,Zt39)],[(1,some (.box Zt23))]⟩ (.two .nil (.two .nil (.two (.join ⟨[0,2,3,4,5,27,28,29],[],[(1,some (.box Zt23))]⟩ (.two (.two .nil (.two .nil (.join ⟨[0,2,3,4,5,27,28,29],[],[(1,some (.box Zt23))]⟩ (.two (.loop ⟨[0,2,3,4,5,27,28,29,33,34],[(35,Zt39)],[(1,some (.box Zt23))]⟩ (.two .nil (.two .nil (.two (.two (.two .nil (.two .nil (.join ⟨[0,2,3,4,5,27,28,29,33,34,35],[],[(1,some (.box Zt23))]⟩ .nil))) .nil) .nil)))) .nil)))) .nil)) .nil)))) .nil))) (.two (.join ⟨[0,2,3,4],[(10,(.obx Zt20))],[]⟩ (.any 2 13 (.ord 1 9 .nil (.alt (.ord 0 0 .nil (.alt (.ord 2 0 .nil (.ord 3 0 .nil (.ord 4 0 .nil .nil))) (.ord 3 0 .nil (.ord 2 0 .nil (.ord 4 0 .nil .nil))))) (.ord 3 0 .nil (.ord 0 0 .nil (.ord 2 0 .nil (.ord 4 0 .nil .nil)))))))) (.two .nil (.two (.two .nil (.join ⟨[0,2,3,4,10,11],[],[(3,some (.box Zt5))]⟩ (.two (.loop ⟨[0,2,3,4,10,11,49,50],[(51,Zt39)],[(3,some (.box Zt5))]⟩ (.two .nil (.two .nil (.two (.join ⟨[0,2,3,4,10,11,49,50,51],[],[(3,some (.box Zt5)),(4,none),(5,none),(6,none)]⟩ (.two (.two .nil (.two .nil (.two (.two .nil (.join ⟨[0,2,3,4,10,11,49,50,51],[(14,Zt14)],[]⟩ (.two (.loop ⟨[0,2,3,4,10,11,49,50,51,55,56],[(14,Zt14),(57,Zt39)],[]⟩ .nil) .nil))) (.frz [7] (.join ⟨[0,2,3,4,10,11,49,50,51],[],[(3,some (.box Zt5)),(4,none),(5,none),(6,none)]⟩ (.any 5223 392 (.ord 0 0 .nil (.ord 1 109 .nil (.ord 2 0 .nil (.ord 5 0 .nil (.alt (.ord 3 0 .nil (.alt (.ord 4 0 .nil (.ord 6 447 .nil qdm)) (.ord 6 0 .nil (.ord 4 0 .nil qdm)))) (.ord 6 0 .nil (.ord 3 0 .nil (.ord 4 0 .nil qdm)))))))))))))) .nil)) .nil)))) .nil))) (.two (.two .nil (.join ⟨[2,3,4,10,11],[],[(3,some (.box Zt5)),(4,none),(5,none),(6,none)]⟩ (.two (.loop ⟨[2,3,4,10,11,84],[(85,Zt39)],[(3,some (.box Zt5)),(4,none),(5,none),(6,none)]⟩ (.two .nil (.two .nil (.two (.two (.any 35 12 (.ord 0 0 .nil (.ord 1 13 .nil (.ord 2 0 .nil (.ord 3 0 .nil (.ord 4 0 .nil (.ord 5 0 .nil (.ord 6 0 .nil .nil)))))))) .nil) .nil)))) .nil))) (.two .nil (.two (.two .nil (.join ⟨[2,3,10,17],[(4,Zt14)],[]⟩ (.two (.loop ⟨[2,3,10,17,97,98],[(4,Zt14),(99,Zt39)],[]⟩ .nil) .nil))) (.two (.two .nil (.join ⟨[2,4,10,17],[(3,Zt14)],[]⟩ (.two (.loop ⟨[2,4,10,17,112,113],[(3,Zt14),(114,Zt39)],[]⟩ .nil) .nil))) (.two (.any 1750 41 (.ord 1 0 .nil (.ord 2 211 .nil (.ord 4 207 .nil (.ord 6 0 .nil (.ord 7 0 .nil (.ord 0 0 .nil (.ord 3 0 .nil (.ord 5 0 .nil (.ord 8 0 .nil (.ord 9 0 .nil (.ord 10 0 .nil .nil)))))))))))) .nil)))))))))))
noncomputable def matgameGame_con:Con:=⟨[Zt13],false,[Zt20,Zt14,Zt14],(.st Zt20 Zt6),fun x=>qfd x.1,none⟩
noncomputable def qg3:Env:=(37,.con bigQDiv_con)::(36,.con simplexRun_con)::(26,.con bigQAdd_con)::(27,.con bigQSub_con)::(35,.con bigOf_con)::(34,.con bigQCmp_con)::(184,.ck 226)::[]
theorem qmf (x:DL matgameGame_con.ps):matgameGame_con.φ x=denF Tryz.prog qg3 qf2 Tryz.f16 matgameGame_con.ps matgameGame_con.one matgameGame_con.res matgameGame_con.ρ x:=by kernel_rfl
theorem qn4:ConOK Tryz.prog 16 matgameGame_con :=
 qa (env:=qg3) ((EnvOK.cons (EnvOK.cons (EnvOK.cons (EnvOK.cons (EnvOK.cons (EnvOK.cons (EnvOK.check (EnvOK.nil _) qe) qvk) quh) qpl) qks) qpn) qvj)) mixed Tryz.func16 matgameGame_con qf2 (by kernel_rfl) (fun h=>by first | rfl | cases h) (fun g hg=>by cases hg) qmf
def qjd:Ann:=(.two .nil (.two .nil (.two (.two .nil (.joinE ⟨[],[(4,(.osl 24 .str))],[]⟩ (.two (.loop ⟨[9,10],[(4,(.osl 24 .str)),(11,Zt39)],[]⟩ .nil) .nil))) .nil)))
noncomputable def ratOutAll_con:Con:=⟨[Zt17],false,[(.osl 24 .str),Zt39],(.st (.osl 24 .str) Zt32),fun x=>qjW x.1,none⟩
noncomputable def qiF:Env:=(39,.con ratOut_con)::(184,.ck 226)::[]
theorem qp3 (x:DL ratOutAll_con.ps):ratOutAll_con.φ x=denF Tryz.prog qiF qjd Tryz.f18 ratOutAll_con.ps ratOutAll_con.one ratOutAll_con.res ratOutAll_con.ρ x:=by kernel_rfl
theorem qr9:ConOK Tryz.prog 18 ratOutAll_con :=
 qa (env:=qiF) ((EnvOK.cons (EnvOK.check (EnvOK.nil _) qe) qjJ)) mixed Tryz.func18 ratOutAll_con qjd (by kernel_rfl) (fun h=>by first | rfl | cases h) (fun g hg=>by cases hg) qp3
def qfT:Ann:=(.two .nil (.two .nil (.two .nil (.two .nil (.two .nil (.two .nil (.two (.any 44799 4352 (.ord 0 0 .nil (.ord 1 0 .nil (.ord 2 8187 .nil (.ord 3 0 .nil (.ord 4 0 .nil (.ord 5 0 .nil (.ord 6 0 .nil (.ord 7 0 .nil (.ord 9 0 .nil (.ord 10 0 .nil (.ord 11 0 .nil (.alt (.ord 8 0 .nil (.ord 12 0 .nil (.ord 13 0 .nil (.ord 14 0 .nil (.ord 15 0 .nil .nil))))) (.ord 12 0 .nil (.ord 8 0 .nil (.ord 13 0 .nil (.ord 14 0 .nil (.ord 15 0 .nil .nil)))))))))))))))))) .nil)))))))
noncomputable def matgameSolve_con:Con:=⟨[Zt38],false,[(.st .str (.st (.sl .str) (.st (.sl .str) .nil))),Zt39],(.st (.st .str (.st (.sl .str) (.st (.sl .str) .nil))) Zt32),fun x=>qb3 x.1,none⟩
noncomputable def qfS:Env:=(18,.con ratOutAll_con)::(16,.con matgameGame_con)::(17,.con matrixIn_con)::(14,.con matgameCheck_con)::(184,.ck 226)::[]
theorem qlI (x:DL matgameSolve_con.ps):matgameSolve_con.φ x=denF Tryz.prog qfS qfT Tryz.f8 matgameSolve_con.ps matgameSolve_con.one matgameSolve_con.res matgameSolve_con.ρ x:=by kernel_rfl
theorem qf3:ConOK Tryz.prog 8 matgameSolve_con :=
 qa (env:=qfS) ((EnvOK.cons (EnvOK.cons (EnvOK.cons (EnvOK.cons (EnvOK.check (EnvOK.nil _) qe) qgs) qsS) qn4) qr9)) mixed Tryz.func8 matgameSolve_con qfT (by kernel_rfl) (fun h=>by first | rfl | cases h) (fun g hg=>by cases hg) qlI
def qeI:Ann := .nil
noncomputable def handicapStake_con:Con:=⟨[Zt38],false,[.str,Zt39],Zt29,fun x=>qbH x.1,none⟩
noncomputable def qeS:Env:=(184,.ck 226)::(8,.con matgameSolve_con)::[]
theorem qky (x:DL handicapStake_con.ps):handicapStake_con.φ x=denF Tryz.prog qeS qeI Tryz.f6 handicapStake_con.ps handicapStake_con.one handicapStake_con.res handicapStake_con.ρ x:=by kernel_rfl
theorem qfR:ConOK Tryz.prog 6 handicapStake_con :=
 qa (env:=qeS) ((EnvOK.check (EnvOK.cons (EnvOK.nil _) qf3) qe)) mixed Tryz.func6 handicapStake_con qeI (by kernel_rfl) (fun h=>by first | rfl | cases h) (fun g hg=>by cases hg) qky
def qoP:Ann:=(.two .nil (.two (.join ⟨[],[(2,.str),(3,Zt39)],[]⟩ .nil) .nil))
noncomputable def ratNeg_con:Con:=⟨[.str],false,[.str,Zt39],Zt29,fun x=>qoA x.1,none⟩
noncomputable def qoZ:Env:=(39,.con ratOut_con)::(33,.con bigQOpp_con)::(47,.con bigParse_con)::(9,.con ratCheck_con)::(32,.body Tryz.f32)::[]
theorem qvw (x:DL ratNeg_con.ps):ratNeg_con.φ x=denF Tryz.prog qoZ qoP Tryz.f15 ratNeg_con.ps ratNeg_con.one ratNeg_con.res ratNeg_con.ρ x:=by kernel_rfl
theorem ratNeg_ok:ConOK Tryz.prog 15 ratNeg_con :=
 qa (env:=qoZ) ((EnvOK.cons (EnvOK.cons (EnvOK.cons (EnvOK.cons (EnvOK.body (EnvOK.nil _) Tryz.func32) qfp) qfn) qoU) qjJ)) mixed Tryz.func15 ratNeg_con qoP (by kernel_rfl) (fun h=>by first | rfl | cases h) (fun g hg=>by cases hg) qvw
def qeZ:Ann := .nil
noncomputable def handicapLevel_con:Con:=⟨[Zt38],false,[Zt35,Zt39],(.st Zt35 Zt32),fun x=>qbD x.1,none⟩
noncomputable def qe2:Env:=(5,.con handicapGive_con)::(15,.con ratNeg_con)::(6,.con handicapStake_con)::[]
theorem qkq (x:DL handicapLevel_con.ps):handicapLevel_con.φ x=denF Tryz.prog qe2 qeZ Tryz.f7 handicapLevel_con.ps handicapLevel_con.one handicapLevel_con.res handicapLevel_con.ρ x:=by kernel_rfl
theorem qlG:ConOK Tryz.prog 7 handicapLevel_con :=
 qa (env:=qe2) ((EnvOK.cons (EnvOK.cons (EnvOK.cons (EnvOK.nil _) qfR) ratNeg_ok) qfX)) mixed Tryz.func7 handicapLevel_con qeZ (by kernel_rfl) (fun h=>by first | rfl | cases h) (fun g hg=>by cases hg) qkq
def qox:Ann:=(.two .nil (.two (.join ⟨[],[(4,.str),(5,Zt39)],[]⟩ .nil) .nil))
noncomputable def ratSub_con:Con:=⟨[.str,.str],false,[.str,Zt39],Zt29,fun x=>qpc x.1 x.2.1,none⟩
noncomputable def qpj:Env:=(39,.con ratOut_con)::(27,.con bigQSub_con)::(47,.con bigParse_con)::(46,.con ratCheckAll_con)::(25,.body Tryz.f25)::[]
theorem qvq (x:DL ratSub_con.ps):ratSub_con.φ x=denF Tryz.prog qpj qox Tryz.f11 ratSub_con.ps ratSub_con.one ratSub_con.res ratSub_con.ρ x:=by kernel_rfl
theorem ratSub_ok:ConOK Tryz.prog 11 ratSub_con :=
 qa (env:=qpj) ((EnvOK.cons (EnvOK.cons (EnvOK.cons (EnvOK.cons (EnvOK.body (EnvOK.nil _) Tryz.func25) qex) qfn) qpl) qjJ)) mixed Tryz.func11 ratSub_con qox (by kernel_rfl) (fun h=>by first | rfl | cases h) (fun g hg=>by cases hg) qvq
def qcy:Ann:=(.two .nil (.two .nil (.two .nil (.two .nil (.two .nil (.two .nil (.two .nil (.two .nil (.two .nil (.two (.two .nil (.joinE ⟨[],[],[]⟩ (.two (.loop ⟨[0,1,7,91,92],[(93,Zt39)],[]⟩ (.two .nil (.two .nil (.two (.joinE ⟨[0,1,7,91,92,93],[],[]⟩ (.two (.two .nil (.two .nil (.two .nil (.joinE ⟨[0,1,7,91,92,93],[],[]⟩ (.two (.loop ⟨[0,1,7,15,91,92,93,100,101],[(102,Zt39)],[]⟩ (.two .nil (.two .nil (.two (.joinE ⟨[0,1,7,15,91,92,93,100,101,102],[],[]⟩ (.two (.two .nil (.two .nil (.joinE ⟨[0,1,7,15,91,92,93,100,101,102],[],[]⟩ (.two (.loop ⟨[0,1,7,15,16,17,91,92,93,100,101,102,107,108],[(109,Zt39)],[]⟩ (.two .nil (.two .nil (.two (.two (.two .nil (.two .nil (.two .nil (.two .nil (.two (.two .nil (.join ⟨[0,1,7,15,16,17,18,91,92,93,100,101,102,107,108,109],[(20,.str),(21,Zt39)],[]⟩ .nil)) .nil))))) .nil) .nil)))) .nil)))) .nil)) .nil)))) .nil))))) .nil)) .nil)))) .nil))) .nil))))))))))
noncomputable def law3HandicapLevels_con:Con:=⟨[Zt38,.str],true,[],.bool,fun x=>qcq x.1 x.2.1,none⟩
noncomputable def qcA:Env:=(11,.con ratSub_con)::(10,.con ratAdd_con)::(9,.con ratCheck_con)::(184,.ck 226)::(8,.con matgameSolve_con)::(7,.con handicapLevel_con)::(6,.con handicapStake_con)::(5,.con handicapGive_con)::(4,.con law3Handicaps_con)::[]
theorem qfU (x:DL law3HandicapLevels_con.ps):law3HandicapLevels_con.φ x=denF Tryz.prog qcA qcy Tryz.f3 law3HandicapLevels_con.ps law3HandicapLevels_con.one law3HandicapLevels_con.res law3HandicapLevels_con.ρ x:=by kernel_rfl
theorem law3HandicapLevels_ok:ConOK Tryz.prog 3 law3HandicapLevels_con :=
 qa (env:=qcA) ((EnvOK.cons (EnvOK.cons (EnvOK.cons (EnvOK.check (EnvOK.cons (EnvOK.cons (EnvOK.cons (EnvOK.cons (EnvOK.cons (EnvOK.nil _) qlJ) qfX) qfR) qlG) qf3) qe) qfp) qq0) ratSub_ok)) mixed Tryz.func3 law3HandicapLevels_con qcy (by kernel_rfl) (fun h=>by first | rfl | cases h) (fun g hg=>by cases hg) qfU
end Go.Proofs.YteahiolockghkaaGreatDoor

