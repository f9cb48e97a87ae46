/- Contracts: Core. No condition of its own. -/
import Derived.Test.YthidcmjpbokeeaaGreatDoorMAA
import Derived.Test.YthidcmjpbokeeaaGreatDoorMAI
import Derived.Test.YthidcmjpbokeeaaGreatDoorMAE
namespace Go.Proofs.YthidcmjpbokeeaaGreatDoor
open Go.Den
set_option linter.unusedVariables false
set_option maxRecDepth 100000
def qjR:Ann:=(.two .nil (.two (.two .nil (.joinE ⟨[0],[],[]⟩ (.two (.loop ⟨[0,6],[(7,Zt44)],[]⟩ .nil) .nil))) .nil))
noncomputable def rulesName_con:Con:=⟨[.str],true,[],.bool,fun x=>qhb x.1,none⟩
noncomputable def qjW:Env:=[]
theorem qpQ (x:DL rulesName_con.ps):rulesName_con.φ x=denF Tryz.prog qjW qjR Tryz.f67 rulesName_con.ps rulesName_con.one rulesName_con.res rulesName_con.ρ x:=by kernel_rfl
theorem qlU:ConOK Tryz.prog 67 rulesName_con :=
  qc (env:=qjW) ((EnvOK.nil _)) mixed Tryz.func67 rulesName_con qjR (by kernel_rfl) (fun h=>by first | rfl | cases h) (fun g hg=>by cases hg) qpQ
def qhj:Ann := .nil
noncomputable def rulesWithin_con:Con:=⟨[Zt44,Zt44,Zt44],true,[],.bool,fun x=>qgn x.1 x.2.1 x.2.2.1,some fun x=>qb x.1 x.2.1 x.2.2.1⟩
noncomputable def qhz:Env:=[]
theorem qnU (x:DL rulesWithin_con.ps):rulesWithin_con.φ x=denF Tryz.prog qhz qhj Tryz.f68 rulesWithin_con.ps rulesWithin_con.one rulesWithin_con.res rulesWithin_con.ρ x:=by kernel_rfl
theorem qfD:ConOK Tryz.prog 68 rulesWithin_con :=
  qc (env:=qhz) ((EnvOK.nil _)) mixed Tryz.func68 rulesWithin_con qhj (by kernel_rfl) (fun h=>by first | rfl | cases h) (fun g hg x=>by
    cases hg
    exact qoe _ _ _) qnU
def qhq:Ann:=(.two .nil (.two .nil (.two .nil (.two (.two .nil (.joinE ⟨[],[],[]⟩ (.two (.loop ⟨[1,16,17],[(18,Zt44)],[]⟩ (.two .nil (.two .nil (.two (.joinE ⟨[1,16,17,18],[],[]⟩ (.two (.two .nil (.two (.two (.two .nil (.two .nil (.two (.two (.two .nil (.two (.two (.two .nil (.two (.two .nil (.joinE ⟨[],[],[]⟩ (.two (.loop ⟨[0,1,7],[(8,Zt44)],[]⟩ .nil) .nil))) .nil)) .nil) .nil)) .nil) .nil))) .nil) (.two .nil (.joinE ⟨[1,16,17,18],[],[]⟩ (.two (.loop ⟨[1,16,17,18,59,60],[(61,Zt44)],[]⟩ .nil) .nil))))) .nil)) .nil)))) .nil))) .nil))))
noncomputable def rulesPieces_con:Con:=⟨[Zt12],true,[],Zt44,fun x=>qgA x.1,none⟩
noncomputable def qhI:Env:=(68,.con rulesWithin_con)::(128,.body Tryz.f128)::(179,.body Tryz.f179)::(127,.body Tryz.f127)::(58,.ck 64)::[]
theorem qnL (x:DL rulesPieces_con.ps):rulesPieces_con.φ x=denF Tryz.prog qhI qhq Tryz.f69 rulesPieces_con.ps rulesPieces_con.one rulesPieces_con.res rulesPieces_con.ρ x:=by kernel_rfl
theorem qow:ConOK Tryz.prog 69 rulesPieces_con :=
  qc (env:=qhI) ((EnvOK.cons (EnvOK.body (EnvOK.body (EnvOK.body (EnvOK.check (EnvOK.nil _) qd) Tryz.func127) Tryz.func179) Tryz.func128) qfD)) mixed Tryz.func69 rulesPieces_con qhq (by kernel_rfl) (fun h=>by first | rfl | cases h) (fun g hg=>by cases hg) qnL
def qeH:Ann:=(.two .nil (.two .nil (.two (.two .nil (.joinE ⟨[],[],[]⟩ (.two (.loop ⟨[1,12,13],[(14,Zt44)],[]⟩ (.two .nil (.two .nil (.two (.two (.two .nil (.two .nil (.two (.two .nil (.two (.two .nil (.joinE ⟨[1,12,13,14],[(5,.bool),(6,.bool)],[]⟩ (.two .nil (.two .nil (.joinE ⟨[1,6,12,13,14],[(5,.bool)],[]⟩ .nil))))) .nil)) .nil))) .nil) .nil)))) .nil))) .nil)))
noncomputable def rulesConditions_con:Con:=⟨[Zt12],true,[],Zt44,fun x=>qbJ x.1,none⟩
noncomputable def qeE:Env:=(68,.con rulesWithin_con)::(58,.ck 64)::[]
theorem qjs (x:DL rulesConditions_con.ps):rulesConditions_con.φ x=denF Tryz.prog qeE qeH Tryz.f72 rulesConditions_con.ps rulesConditions_con.one rulesConditions_con.res rulesConditions_con.ρ x:=by kernel_rfl
theorem qkn:ConOK Tryz.prog 72 rulesConditions_con :=
  qc (env:=qeE) ((EnvOK.cons (EnvOK.check (EnvOK.nil _) qd) qfD)) mixed Tryz.func72 rulesConditions_con qeH (by kernel_rfl) (fun h=>by first | rfl | cases h) (fun g hg=>by cases hg) qjs
def qiq:Ann:=(.two .nil (.two .nil (.two .nil (.two .nil (.two .nil (.two (.two (.two (.two .nil (.two (.two (.two .nil (.two (.two .nil (.joinE ⟨[],[],[]⟩ (.two (.loop ⟨[0,1,7],[(8,Zt44)],[]⟩ .nil) .nil))) .nil)) .nil) .nil)) .nil) .nil) .nil))))))
noncomputable def rulesCheck_con:Con:=⟨[Zt12],true,[],Zt44,fun x=>qcZ x.1,none⟩
noncomputable def qix:Env:=(72,.con rulesConditions_con)::(71,.body Tryz.f71)::(129,.body Tryz.f129)::(70,.body Tryz.f70)::(69,.con rulesPieces_con)::(68,.con rulesWithin_con)::(67,.con rulesName_con)::[]
theorem qob (x:DL rulesCheck_con.ps):rulesCheck_con.φ x=denF Tryz.prog qix qiq Tryz.f36 rulesCheck_con.ps rulesCheck_con.one rulesCheck_con.res rulesCheck_con.ρ x:=by kernel_rfl
theorem qeg:ConOK Tryz.prog 36 rulesCheck_con :=
  qc (env:=qix) ((EnvOK.cons (EnvOK.body (EnvOK.body (EnvOK.body (EnvOK.cons (EnvOK.cons (EnvOK.cons (EnvOK.nil _) qlU) qfD) qow) Tryz.func70) Tryz.func129) Tryz.func71) qkn)) mixed Tryz.func36 rulesCheck_con qiq (by kernel_rfl) (fun h=>by first | rfl | cases h) (fun g hg=>by cases hg) qob
def qd4:Ann:=(.two .nil (.two .nil (.two (.two .nil (.join ⟨[0],[(3,Zt44)],[]⟩ (.two (.loop ⟨[0,9,10],[(3,Zt44),(11,Zt44)],[]⟩ .nil) .nil))) (.two (.two (.two .nil (.two .nil (.two (.two .nil (.two .nil (.join ⟨[],[(0,Zt41)],[]⟩ (.two (.own (.own .nil)) .nil)))) .nil))) .nil) (.two (.two .nil (.join ⟨[],[(6,Zt41)],[(0,none)]⟩ (.two (.loop ⟨[25,26],[(6,Zt41),(27,Zt44)],[(0,none)]⟩ .nil) .nil))) .nil)))))
noncomputable def slicesConcat_int_con:Con:=⟨[(.sl Zt42)],true,[],Zt41,fun x=>qb6 x.1,none⟩
noncomputable def qd2:Env:=(272,.body Tryz.f272)::[]
theorem qii (x:DL slicesConcat_int_con.ps):slicesConcat_int_con.φ x=denF Tryz.prog qd2 qd4 Tryz.f253 slicesConcat_int_con.ps slicesConcat_int_con.one slicesConcat_int_con.res slicesConcat_int_con.ρ x:=by kernel_rfl
theorem qi9:ConOK Tryz.prog 253 slicesConcat_int_con :=
  qc (env:=qd2) ((EnvOK.body (EnvOK.nil _) Tryz.func272)) mixed Tryz.func253 slicesConcat_int_con qd4 (by kernel_rfl) (fun h=>by first | rfl | cases h) (fun g hg=>by cases hg) qii
def qhB:Ann:=(.ord 6 0 (.two .nil (.two (.two (.two .nil (.two (.two .nil (.joinE ⟨[],[],[]⟩ (.two (.loop ⟨[0,1,7],[(8,Zt44)],[]⟩ .nil) .nil))) .nil)) .nil) .nil)) (.ord 7 0 .nil (.ord 8 0 .nil (.ord 9 0 .nil (.ord 10 0 .nil (.ord 11 0 (.two .nil (.two (.two (.two .nil (.two (.two .nil (.joinE ⟨[],[],[]⟩ (.two (.loop ⟨[0,1,7],[(8,Zt44)],[]⟩ .nil) .nil))) .nil)) .nil) .nil)) (.ord 12 0 .nil (.ord 13 0 .nil (.ord 14 0 .nil (.ord 15 0 .nil (.ord 16 0 .nil (.ord 17 0 .nil (.ord 18 0 .nil (.ord 19 0 .nil (.ord 20 0 .nil (.ord 21 0 .nil (.ord 22 0 .nil (.ord 23 0 .nil (.ord 24 0 .nil (.ord 25 0 .nil (.ord 26 0 .nil (.ord 27 0 .nil (.ord 28 0 .nil (.ord 29 0 .nil (.ord 30 0 .nil (.ord 31 0 .nil (.ord 32 0 .nil .nil)))))))))))))))))))))))))))
def qiX:Ann:=(.two .nil (.two .nil (.two .nil (.two .nil (.two .nil (.two (.two (.join ⟨[],[(76,.bool)],[]⟩ (.any 8589931423 0 (.ord 0 0 .nil (.ord 2 0 .nil (.ord 3 0 .nil (.ord 4 0 .nil (.alt (.ord 1 0 .nil (.ord 5 0 .nil qhB)) (.ord 5 0 .nil (.ord 1 0 .nil qhB))))))))) .nil) .nil))))))
noncomputable def placeSound_con:Con:=⟨[Zt12,Zt24],true,[],Zt44,fun x=>qhX x.1 x.2.1,none⟩
noncomputable def qip:Env:=(252,.body Tryz.f252)::(129,.body Tryz.f129)::(70,.body Tryz.f70)::(251,.body Tryz.f251)::(253,.con slicesConcat_int_con)::[]
theorem qoi (x:DL placeSound_con.ps):placeSound_con.φ x=denF Tryz.prog qip qiX Tryz.f222 placeSound_con.ps placeSound_con.one placeSound_con.res placeSound_con.ρ x:=by kernel_rfl
theorem qqr:ConOK Tryz.prog 222 placeSound_con :=
  qc (env:=qip) ((EnvOK.body (EnvOK.body (EnvOK.body (EnvOK.body (EnvOK.cons (EnvOK.nil _) qi9) Tryz.func251) Tryz.func70) Tryz.func129) Tryz.func252)) mixed Tryz.func222 placeSound_con qiX (by kernel_rfl) (fun h=>by first | rfl | cases h) (fun g hg=>by cases hg) qoi
def qiw:Ann := .nil
noncomputable def placeCheck_con:Con:=⟨[Zt12,Zt24],true,[],Zt44,fun x=>qf9 x.1 x.2.1,none⟩
noncomputable def qiu:Env:=(222,.con placeSound_con)::(36,.con rulesCheck_con)::[]
theorem qoj (x:DL placeCheck_con.ps):placeCheck_con.φ x=denF Tryz.prog qiu qiw Tryz.f172 placeCheck_con.ps placeCheck_con.one placeCheck_con.res placeCheck_con.ρ x:=by kernel_rfl
theorem qkR:ConOK Tryz.prog 172 placeCheck_con :=
  qc (env:=qiu) ((EnvOK.cons (EnvOK.cons (EnvOK.nil _) qeg) qqr)) mixed Tryz.func172 placeCheck_con qiw (by kernel_rfl) (fun h=>by first | rfl | cases h) (fun g hg=>by cases hg) qoj
def ql1:Ann:=(.two .nil (.two .nil (.two (.two .nil (.joinE ⟨[],[],[]⟩ (.two (.loop ⟨[3,4,9,19],[(20,Zt44)],[]⟩ (.two .nil (.two .nil (.two (.joinE ⟨[3,4,9,19,20],[],[]⟩ (.two (.two .nil (.two .nil (.joinE ⟨[3,4,9,19,20],[],[]⟩ (.two (.loop ⟨[3,4,9,10,19,20,27],[(28,Zt44)],[]⟩ (.two .nil (.two .nil (.two (.joinE ⟨[3,4,9,10,19,20,27,28],[],[]⟩ (.two (.two .nil (.two .nil (.two (.join ⟨[3,4,9,10,19,20,27,28],[(15,Zt44)],[]⟩ (.two (.loop ⟨[3,4,9,10,12,19,20,27,28],[(13,Zt44),(14,Zt44),(15,Zt44)],[]⟩ (.two (.two (.join ⟨[3,4,9,10,12,13,14,15,19,20,27,28],[(47,.bool)],[]⟩ .nil) .nil) .nil)) .nil)) .nil))) .nil)) .nil)))) .nil)))) .nil)) .nil)))) .nil))) .nil)))
noncomputable def endsLine_con:Con:=⟨[Zt12,Zt24,Zt44,Zt44],true,[],.bool,fun x=>qmr x.1 x.2.1 x.2.2.1 x.2.2.2.1,none⟩
noncomputable def qlP:Env:=(243,.body Tryz.f243)::(58,.ck 64)::[]
theorem qqR (x:DL endsLine_con.ps):endsLine_con.φ x=denF Tryz.prog qlP ql1 Tryz.f207 endsLine_con.ps endsLine_con.one endsLine_con.res endsLine_con.ρ x:=by kernel_rfl
theorem qsU:ConOK Tryz.prog 207 endsLine_con :=
  qc (env:=qlP) ((EnvOK.body (EnvOK.check (EnvOK.nil _) qd) Tryz.func243)) mixed Tryz.func207 endsLine_con ql1 (by kernel_rfl) (fun h=>by first | rfl | cases h) (fun g hg=>by cases hg) qqR
def qht:Ann := .nil
noncomputable def rulesIsLast_con:Con:=⟨[Zt12,Zt44,Zt44],true,[],.bool,fun x=>qeA x.1 x.2.1 x.2.2.1,none⟩
noncomputable def qg7:Env:=[]
theorem qmZ (x:DL rulesIsLast_con.ps):rulesIsLast_con.φ x=denF Tryz.prog qg7 qht Tryz.f103 rulesIsLast_con.ps rulesIsLast_con.one rulesIsLast_con.res rulesIsLast_con.ρ x:=by kernel_rfl
theorem qiy:ConOK Tryz.prog 103 rulesIsLast_con :=
  qc (env:=qg7) ((EnvOK.nil _)) mixed Tryz.func103 rulesIsLast_con qht (by kernel_rfl) (fun h=>by first | rfl | cases h) (fun g hg=>by cases hg) qmZ
def qjO:Ann:=(.two .nil (.two (.two .nil (.joinE ⟨[3,5,6],[],[]⟩ (.two (.two .nil (.two .nil (.two .nil (.two (.two (.two .nil (.joinE ⟨[3,5,6],[],[]⟩ (.two (.loop ⟨[3,4,5,6,27,28],[(29,Zt44)],[]⟩ .nil) .nil))) .nil) .nil)))) .nil))) (.two .nil (.two (.two .nil (.join ⟨[6],[(11,Zt44)],[]⟩ (.two (.loop ⟨[3,6,50,51],[(11,Zt44),(52,Zt44)],[]⟩ (.two .nil (.two .nil (.two (.two (.two .nil (.two .nil (.join ⟨[3,6,50,51,52],[(11,Zt44)],[]⟩ .nil))) .nil) .nil)))) .nil))) .nil))))
noncomputable def endsHolds_con:Con:=⟨[Zt12,Zt24,Zt34,Zt44],true,[],.bool,fun x=>qjG x.1 x.2.1 x.2.2.1 x.2.2.2.1,none⟩
noncomputable def qj7:Env:=(103,.con rulesIsLast_con)::(207,.con endsLine_con)::[]
theorem qqt (x:DL endsHolds_con.ps):endsHolds_con.φ x=denF Tryz.prog qj7 qjO Tryz.f158 endsHolds_con.ps endsHolds_con.one endsHolds_con.res endsHolds_con.ρ x:=by kernel_rfl
theorem qq9:ConOK Tryz.prog 158 endsHolds_con :=
  qc (env:=qj7) ((EnvOK.cons (EnvOK.cons (EnvOK.nil _) qsU) qiy)) mixed Tryz.func158 endsHolds_con qjO (by kernel_rfl) (fun h=>by first | rfl | cases h) (fun g hg=>by cases hg) qqt
def qlK:Ann := .nil
noncomputable def endsWins_con:Con:=⟨[Zt44],true,[],Zt44,fun x=>qlr x.1,some fun x=>qcM x.1⟩
noncomputable def qlC:Env:=[]
theorem qqK (x:DL endsWins_con.ps):endsWins_con.φ x=denF Tryz.prog qlC qlK Tryz.f159 endsWins_con.ps endsWins_con.one endsWins_con.res endsWins_con.ρ x:=by kernel_rfl
theorem qsx:ConOK Tryz.prog 159 endsWins_con :=
  qc (env:=qlC) ((EnvOK.nil _)) mixed Tryz.func159 endsWins_con qlK (by kernel_rfl) (fun h=>by first | rfl | cases h) (fun g hg x=>by
    cases hg
    exact qsf _) qqK
def qhu:Ann:=(.two .nil (.two (.two .nil (.joinE ⟨[],[],[]⟩ (.two (.loop ⟨[3,4],[(2,Zt44)],[]⟩ .nil) .nil))) .nil))
noncomputable def movesFilled_con:Con:=⟨[Zt12,Zt24,Zt44],true,[],.bool,fun x=>qgq x.1 x.2.1 x.2.2.1,none⟩
noncomputable def qhp:Env:=[]
theorem qnE (x:DL movesFilled_con.ps):movesFilled_con.φ x=denF Tryz.prog qhp qhu Tryz.f165 movesFilled_con.ps movesFilled_con.one movesFilled_con.res movesFilled_con.ρ x:=by kernel_rfl
theorem qox:ConOK Tryz.prog 165 movesFilled_con :=
  qc (env:=qhp) ((EnvOK.nil _)) mixed Tryz.func165 movesFilled_con qhu (by kernel_rfl) (fun h=>by first | rfl | cases h) (fun g hg=>by cases hg) qnE
def qkj:Ann:=(.two .nil (.two .nil (.two (.two .nil (.join ⟨[],[(5,Zt35)],[]⟩ (.two (.loop ⟨[2,3,11,12],[(5,Zt35),(13,Zt44)],[]⟩ (.two .nil (.two .nil (.two (.join ⟨[2,3,11,12,13],[(5,Zt35)],[(2,none)]⟩ (.two (.two .nil (.two .nil (.two .nil (.join ⟨[2,3,11,12,13],[(5,Zt35)],[(2,none)]⟩ (.two (.loop ⟨[2,3,6,11,12,13,41,42],[(5,Zt35),(43,Zt44)],[(2,none)]⟩ (.two .nil (.two .nil (.two (.two (.two .nil (.two .nil (.join ⟨[2,3,6,11,12,13,41,42,43],[(5,Zt35)],[(3,none)]⟩ .nil))) .nil) .nil)))) .nil))))) .nil)) .nil)))) .nil))) .nil)))
noncomputable def movesPuts_con:Con:=⟨[Zt12,Zt24],true,[],Zt35,fun x=>qkE x.1 x.2.1,none⟩
noncomputable def qkl:Env:=(165,.con movesFilled_con)::[]
theorem qqs (x:DL movesPuts_con.ps):movesPuts_con.φ x=denF Tryz.prog qkl qkj Tryz.f101 movesPuts_con.ps movesPuts_con.one movesPuts_con.res movesPuts_con.ρ x:=by kernel_rfl
theorem qq4:ConOK Tryz.prog 101 movesPuts_con :=
  qc (env:=qkl) ((EnvOK.cons (EnvOK.nil _) qox)) mixed Tryz.func101 movesPuts_con qkj (by kernel_rfl) (fun h=>by first | rfl | cases h) (fun g hg=>by cases hg) qqs
def qlz:Ann:=(.two .nil (.two .nil (.two .nil (.two (.two .nil (.join ⟨[2,4,5,7,9],[(10,Zt44)],[]⟩ .nil)) (.two .nil (.two (.two .nil (.join ⟨[],[(9,Zt41)],[]⟩ (.two (.loop ⟨[4,5,7,10,31],[(9,Zt41),(11,Zt44),(12,Zt44),(32,Zt44)],[]⟩ (.two .nil (.two .nil (.two (.two (.two .nil (.two .nil (.two .nil (.two .nil (.two (.two .nil (.join ⟨[4,5,7,10,11,12,13,31,32],[(9,Zt41)],[(3,none)]⟩ .nil)) .nil))))) .nil) .nil)))) .nil))) .nil))))))
noncomputable def movesWay_con:Con:=⟨[Zt12,Zt24,Zt44,Zt32],true,[],Zt41,fun x=>qmD x.1 x.2.1 x.2.2.1 x.2.2.2.1,none⟩
noncomputable def qlL:Env:=[]
theorem qsa (x:DL movesWay_con.ps):movesWay_con.φ x=denF Tryz.prog qlL qlz Tryz.f102 movesWay_con.ps movesWay_con.one movesWay_con.res movesWay_con.ρ x:=by kernel_rfl
theorem qs6:ConOK Tryz.prog 102 movesWay_con :=
  qc (env:=qlL) ((EnvOK.nil _)) mixed Tryz.func102 movesWay_con qlz (by kernel_rfl) (fun h=>by first | rfl | cases h) (fun g hg=>by cases hg) qsa
def qjV:Ann:=(.two .nil (.two .nil (.two (.two .nil (.join ⟨[],[(5,Zt35)],[(2,none)]⟩ (.two (.loop ⟨[2,3,19,20],[(5,Zt35),(21,Zt44)],[(2,none)]⟩ (.two .nil (.two .nil (.two (.join ⟨[2,3,19,20,21],[(5,Zt35)],[(3,none)]⟩ (.two (.two .nil (.two .nil (.two .nil (.two .nil (.join ⟨[2,3,19,20,21],[(5,Zt35)],[(3,none)]⟩ (.two (.loop ⟨[2,3,6,8,19,20,21,44,45],[(5,Zt35),(46,Zt44)],[(3,none)]⟩ (.two .nil (.two .nil (.two (.join ⟨[2,3,6,8,19,20,21,44,45,46],[(5,Zt35)],[(4,none)]⟩ (.two (.two .nil (.two .nil (.join ⟨[2,3,6,8,19,20,21,44,45,46],[(5,Zt35)],[(4,none)]⟩ (.two (.loop ⟨[2,3,6,8,19,20,21,44,45,46,54,55],[(5,Zt35),(56,Zt44)],[(4,none)]⟩ (.two .nil (.two .nil (.two (.two (.two .nil (.two .nil (.two (.two .nil (.two .nil (.join ⟨[2,3,5,6,8,13,19,20,21,44,45,46,54,55,56],[],[(8,some (.box Zt37))]⟩ .nil))) .nil))) .nil) .nil)))) .nil)))) .nil)) .nil)))) .nil)))))) .nil)) .nil)))) .nil))) (.two .nil (.two (.join ⟨[],[(4,Zt35)],[(3,none)]⟩ (.two (.two .nil (.two .nil (.two (.two .nil (.joinE ⟨[0],[],[(3,some (.arr 49 Zt37))]⟩ (.two (.loop ⟨[0],[(3,Zt44)],[(3,some (.arr 49 Zt37))]⟩ (.two .nil (.two (.joinE ⟨[0],[(3,Zt44)],[(3,some (.arr 49 Zt37))]⟩ (.two (.two .nil (.two (.two (.own .nil) (.two (.two .nil (.join ⟨[0],[(3,Zt44)],[(3,some (.arr 49 Zt37))]⟩ (.two (.loop ⟨[0,4],[(3,Zt44),(5,Zt44)],[(3,some (.arr 49 Zt37))]⟩ (.two .nil (.two (.two (.two .nil (.join ⟨[0,4,5],[(3,Zt44)],[(3,some (.arr 49 Zt37))]⟩ .nil)) .nil) .nil))) .nil))) (.two (.own .nil) (.two (.own .nil) .nil)))) .nil)) .nil)) .nil))) .nil))) .nil))) .nil)) .nil)))))
noncomputable def movesList_con:Con:=⟨[Zt12,Zt24],true,[],Zt35,fun x=>qaE x.1 x.2.1,none⟩
noncomputable def qjN:Env:=(108,.body Tryz.f108)::(104,.srt qgw)::(103,.con rulesIsLast_con)::(102,.con movesWay_con)::(58,.ck 64)::(101,.con movesPuts_con)::[]
theorem qp7 (x:DL movesList_con.ps):movesList_con.φ x=denF Tryz.prog qjN qjV Tryz.f49 movesList_con.ps movesList_con.one movesList_con.res movesList_con.ρ x:=by kernel_rfl
theorem qfq:ConOK Tryz.prog 49 movesList_con :=
  qc (env:=qjN) ((EnvOK.body (EnvOK.sort (EnvOK.cons (EnvOK.cons (EnvOK.check (EnvOK.cons (EnvOK.nil _) qq4) qd) qs6) qiy) qrQ) Tryz.func108)) mixed Tryz.func49 movesList_con qjV (by kernel_rfl) (fun h=>by first | rfl | cases h) (fun g hg=>by cases hg) qp7
def qiR:Ann:=(.two .nil (.two .nil (.two (.two (.two (.two .nil (.two (.two .nil (.joinE ⟨[],[],[]⟩ (.two (.loop ⟨[0,1,7],[(8,Zt44)],[]⟩ .nil) .nil))) .nil)) .nil) .nil) .nil)))
noncomputable def endsResult_con:Con:=⟨[Zt12,Zt24],true,[],Zt44,fun x=>qc6 x.1 x.2.1,none⟩
noncomputable def qiY:Env:=(159,.con endsWins_con)::(49,.con movesList_con)::(158,.con endsHolds_con)::(157,.body Tryz.f157)::(156,.body Tryz.f156)::(58,.ck 64)::[]
theorem qoh (x:DL endsResult_con.ps):endsResult_con.φ x=denF Tryz.prog qiY qiR Tryz.f96 endsResult_con.ps endsResult_con.one endsResult_con.res endsResult_con.ρ x:=by kernel_rfl
theorem qgi:ConOK Tryz.prog 96 endsResult_con :=
  qc (env:=qiY) ((EnvOK.cons (EnvOK.cons (EnvOK.cons (EnvOK.body (EnvOK.body (EnvOK.check (EnvOK.nil _) qd) Tryz.func156) Tryz.func157) qq9) qfq) qsx)) mixed Tryz.func96 endsResult_con qiR (by kernel_rfl) (fun h=>by first | rfl | cases h) (fun g hg=>by cases hg) qoh
def qoW:Ann := .nil
noncomputable def endsOf_con:Con:=⟨[Zt12,Zt24],false,[Zt44,Zt44],Zt38,fun x=>qtW x.1 x.2.1,none⟩
noncomputable def qoL:Env:=(96,.con endsResult_con)::(172,.con placeCheck_con)::[]
theorem qvd (x:DL endsOf_con.ps):endsOf_con.φ x=denF Tryz.prog qoL qoW Tryz.f123 endsOf_con.ps endsOf_con.one endsOf_con.res endsOf_con.ρ x:=by kernel_rfl
theorem endsOf_ok:ConOK Tryz.prog 123 endsOf_con :=
  qc (env:=qoL) ((EnvOK.cons (EnvOK.cons (EnvOK.nil _) qkR) qgi)) mixed Tryz.func123 endsOf_con qoW (by kernel_rfl) (fun h=>by first | rfl | cases h) (fun g hg=>by cases hg) qvd
def ql3:Ann := .nil
noncomputable def movesAll_con:Con:=⟨[Zt12,Zt24],false,[Zt35,Zt44],(.st Zt35 Zt40),fun x=>qh7 x.1 x.2.1,none⟩
noncomputable def qlR:Env:=(49,.con movesList_con)::(172,.con placeCheck_con)::[]
theorem qrD (x:DL movesAll_con.ps):movesAll_con.φ x=denF Tryz.prog qlR ql3 Tryz.f110 movesAll_con.ps movesAll_con.one movesAll_con.res movesAll_con.ρ x:=by kernel_rfl
theorem qjd:ConOK Tryz.prog 110 movesAll_con :=
  qc (env:=qlR) ((EnvOK.cons (EnvOK.cons (EnvOK.nil _) qkR) qfq)) mixed Tryz.func110 movesAll_con ql3 (by kernel_rfl) (fun h=>by first | rfl | cases h) (fun g hg=>by cases hg) qrD
def qdU:Ann:=(.two .nil (.two (.two .nil (.joinE ⟨[],[],[]⟩ (.two (.loop ⟨[0,3,7],[(8,Zt44)],[]⟩ .nil) .nil))) .nil))
noncomputable def slicesIndex_Move_con:Con:=⟨[Zt36,Zt37],true,[],Zt44,fun x=>qdO x.1 x.2.1,none⟩
noncomputable def qd1:Env:=[]
theorem qil (x:DL slicesIndex_Move_con.ps):slicesIndex_Move_con.φ x=denF Tryz.prog qd1 qdU Tryz.f155 slicesIndex_Move_con.ps slicesIndex_Move_con.one slicesIndex_Move_con.res slicesIndex_Move_con.ρ x:=by kernel_rfl
theorem qi3:ConOK Tryz.prog 155 slicesIndex_Move_con :=
  qc (env:=qd1) ((EnvOK.nil _)) mixed Tryz.func155 slicesIndex_Move_con qdU (by kernel_rfl) (fun h=>by first | rfl | cases h) (fun g hg=>by cases hg) qil
def qcz:Ann := .nil
noncomputable def slicesContains_Move_con:Con:=⟨[Zt36,Zt37],true,[],.bool,fun x=>qw x.1 x.2.1,none⟩
noncomputable def qcE:Env:=(155,.con slicesIndex_Move_con)::[]
theorem qgx (x:DL slicesContains_Move_con.ps):slicesContains_Move_con.φ x=denF Tryz.prog qcE qcz Tryz.f93 slicesContains_Move_con.ps slicesContains_Move_con.one slicesContains_Move_con.res slicesContains_Move_con.ρ x:=by kernel_rfl
theorem qcX:ConOK Tryz.prog 93 slicesContains_Move_con :=
  qc (env:=qcE) ((EnvOK.cons (EnvOK.nil _) qi3)) mixed Tryz.func93 slicesContains_Move_con qcz (by kernel_rfl) (fun h=>by first | rfl | cases h) (fun g hg=>by cases hg) qgx
def qiN:Ann := .nil
noncomputable def movesLegal_con:Con:=⟨[Zt12,Zt24,Zt37],false,[.bool,Zt44],(.st .bool Zt40),fun x=>qhP x.1 x.2.1 x.2.2.1,none⟩
noncomputable def qiL:Env:=(93,.con slicesContains_Move_con)::(110,.con movesAll_con)::[]
theorem qop (x:DL movesLegal_con.ps):movesLegal_con.φ x=denF Tryz.prog qiL qiN Tryz.f125 movesLegal_con.ps movesLegal_con.one movesLegal_con.res movesLegal_con.ρ x:=by kernel_rfl
theorem qpI:ConOK Tryz.prog 125 movesLegal_con :=
  qc (env:=qiL) ((EnvOK.cons (EnvOK.cons (EnvOK.nil _) qjd) qcX)) mixed Tryz.func125 movesLegal_con qiN (by kernel_rfl) (fun h=>by first | rfl | cases h) (fun g hg=>by cases hg) qop
def qeM:Ann := .nil
noncomputable def slicesClone_int_con:Con:=⟨[Zt42],true,[],Zt41,fun x=>qS x.1,none⟩
noncomputable def qeC:Env:=[]
theorem qjm (x:DL slicesClone_int_con.ps):slicesClone_int_con.φ x=denF Tryz.prog qeC qeM Tryz.f59 slicesClone_int_con.ps slicesClone_int_con.one slicesClone_int_con.res slicesClone_int_con.ρ x:=by kernel_rfl
theorem qcy:ConOK Tryz.prog 59 slicesClone_int_con :=
  qc (env:=qeC) ((EnvOK.nil _)) mixed Tryz.func59 slicesClone_int_con qeM (by kernel_rfl) (fun h=>by first | rfl | cases h) (fun g hg=>by cases hg) qjm
def qj5:Ann:=(.two .nil (.two .nil (.two (.join ⟨[1,2],[],[(0,some (.box Zt25)),(2,none)]⟩ (.any 887 0 (.ord 0 0 .nil (.ord 1 0 .nil (.ord 2 115 .nil (.ord 4 0 .nil (.ord 5 0 .nil (.alt (.ord 3 0 .nil (.ord 6 0 .nil (.ord 7 0 .nil (.ord 8 0 .nil (.ord 9 0 .nil (.ord 10 0 .nil .nil)))))) (.ord 6 0 .nil (.ord 3 0 .nil (.ord 7 0 .nil (.ord 8 0 .nil (.ord 9 0 .nil (.ord 10 0 .nil .nil)))))))))))))) .nil)))
noncomputable def placeCopy_con:Con:=⟨[Zt24],true,[],Zt22,fun x=>qep x.1,none⟩
noncomputable def qj1:Env:=(59,.con slicesClone_int_con)::(58,.ck 64)::[]
theorem qqh (x:DL placeCopy_con.ps):placeCopy_con.φ x=denF Tryz.prog qj1 qj5 Tryz.f95 placeCopy_con.ps placeCopy_con.one placeCopy_con.res placeCopy_con.ρ x:=by kernel_rfl
theorem qlJ:ConOK Tryz.prog 95 placeCopy_con :=
  qc (env:=qj1) ((EnvOK.cons (EnvOK.check (EnvOK.nil _) qd) qcy)) mixed Tryz.func95 placeCopy_con qj5 (by kernel_rfl) (fun h=>by first | rfl | cases h) (fun g hg=>by cases hg) qqh
def qkB:Ann:=(.two .nil (.two .nil (.two .nil (.two (.two .nil (.join ⟨[3,4,5,6,7,8],[],[(4,some (.arr 3 Zt44)),(5,some (.arr 3 Zt44)),(6,some (.arr 3 Zt44))]⟩ (.two .nil (.join ⟨[3,4,5,6,7,8],[],[(5,some (.arr 3 Zt44)),(6,some (.arr 3 Zt44))]⟩ (.tail 11 .nil))))) (.two .nil (.two (.two .nil (.join ⟨[4,5,6,7,8],[],[(5,some (.arr 3 Zt44)),(6,some (.arr 3 Zt44))]⟩ (.two (.two .nil (.join ⟨[4,5,6,7,8],[],[(5,some (.arr 3 Zt44)),(6,some (.arr 3 Zt44))]⟩ (.tail 17 .nil))) .nil))) (.two .nil (.two (.two .nil (.join ⟨[4,6,7],[],[(4,none),(5,none),(6,none),(7,some (.box Zt25))]⟩ .nil)) .nil))))))))
noncomputable def movesMake_con:Con:=⟨[Zt12,Zt24,Zt37],true,[],Zt22,fun x=>qo x.1 x.2.1 x.2.2.1,none⟩
noncomputable def qkz:Env:=(95,.con placeCopy_con)::(58,.ck 64)::[]
theorem qpA (x:DL movesMake_con.ps):movesMake_con.φ x=denF Tryz.prog qkz qkB Tryz.f50 movesMake_con.ps movesMake_con.one movesMake_con.res movesMake_con.ρ x:=by kernel_rfl
theorem qfj:ConOK Tryz.prog 50 movesMake_con :=
  qc (env:=qkz) ((EnvOK.cons (EnvOK.check (EnvOK.nil _) qd) qlJ)) mixed Tryz.func50 movesMake_con qkB (by kernel_rfl) (fun h=>by first | rfl | cases h) (fun g hg=>by cases hg) qpA
def qi0:Ann := .nil
noncomputable def movesAfter_con:Con:=⟨[Zt12,Zt24,Zt37],false,[Zt22,Zt44],Zt17,fun x=>qcf x.1 x.2.1 x.2.2.1,none⟩
noncomputable def qiQ:Env:=(50,.con movesMake_con)::(125,.con movesLegal_con)::(58,.ck 64)::[]
theorem qog (x:DL movesAfter_con.ps):movesAfter_con.φ x=denF Tryz.prog qiQ qi0 Tryz.f65 movesAfter_con.ps movesAfter_con.one movesAfter_con.res movesAfter_con.ρ x:=by kernel_rfl
theorem qpx:ConOK Tryz.prog 65 movesAfter_con :=
  qc (env:=qiQ) ((EnvOK.cons (EnvOK.cons (EnvOK.check (EnvOK.nil _) qd) qpI) qfj)) mixed Tryz.func65 movesAfter_con qi0 (by kernel_rfl) (fun h=>by first | rfl | cases h) (fun g hg=>by cases hg) qog
def qW:Ann:=(.ord 13 0 .nil (.ord 16 0 .nil (.ord 18 0 .nil (.ord 19 0 .nil .nil))))
def qcn:Ann:=(.alt (.ord 6 0 .nil (.ord 15 0 .nil (.ord 12 0 .nil qW))) (.ord 12 0 .nil (.ord 6 0 .nil (.ord 15 0 .nil qW))))
def qhe:Ann:=(.alt (.ord 6 0 .nil (.ord 9 155135 .nil (.ord 15 0 .nil (.ord 12 0 .nil qW)))) (.alt (.ord 9 0 .nil qcn) (.ord 12 0 .nil (.alt (.ord 6 0 .nil (.ord 9 0 .nil (.ord 15 0 .nil qW))) (.ord 9 0 .nil (.ord 6 0 .nil (.ord 15 0 .nil qW)))))))
def qeJ:Ann:=(.ord 11 182271 .nil (.ord 15 0 .nil (.ord 12 0 .nil qW)))
def qhi:Ann:=(.alt (.ord 5 0 .nil qcn) (.ord 12 0 .nil (.ord 5 0 .nil (.ord 6 0 .nil (.ord 15 0 .nil qW)))))
def qiI:Ann:=(.two .nil (.two .nil (.two .nil (.two (.two .nil (.join ⟨[2,5],[],[(2,none),(3,some (.box Zt25))]⟩ (.two (.loop ⟨[2,5,19,20],[(21,Zt44)],[(2,none),(3,some (.box Zt25))]⟩ (.two .nil (.two .nil (.two (.two (.two .nil (.join ⟨[2,5,19,20,21],[],[(3,some (.box Zt25)),(4,none),(5,none),(6,none)]⟩ (.any 446367 4128 (.ord 0 0 .nil (.ord 1 0 .nil (.ord 2 155579 .nil (.ord 3 0 .nil (.ord 4 155535 .nil (.ord 7 0 .nil (.ord 8 0 .nil (.ord 10 0 .nil (.ord 14 0 .nil (.ord 17 0 .nil (.alt (.ord 5 0 .nil (.alt (.ord 6 0 .nil (.ord 9 155135 .nil qeJ)) (.alt (.ord 9 0 .nil (.alt (.ord 6 0 .nil qeJ) (.ord 11 0 .nil qcn))) (.ord 11 0 .nil qhe)))) (.alt (.ord 9 0 .nil (.alt (.ord 5 0 .nil (.alt (.ord 6 0 .nil qeJ) (.ord 11 0 .nil qcn))) (.ord 11 0 .nil qhi))) (.ord 11 0 .nil (.alt (.ord 5 0 .nil qhe) (.alt (.ord 9 0 .nil qhi) (.ord 12 0 .nil (.alt (.ord 5 0 .nil (.alt (.ord 6 0 .nil (.ord 9 0 .nil (.ord 15 0 .nil qW))) (.ord 9 0 .nil (.ord 6 0 .nil (.ord 15 0 .nil qW))))) (.ord 9 0 .nil (.ord 5 0 .nil (.ord 6 0 .nil (.ord 15 0 .nil qW)))))))))))))))))))))))) .nil) .nil)))) .nil))) .nil))))
noncomputable def placeBegin_con:Con:=⟨[Zt12],false,[Zt22,Zt44],Zt17,fun x=>qch x.1,none⟩
noncomputable def qi1:Env:=(59,.con slicesClone_int_con)::(36,.con rulesCheck_con)::(58,.ck 64)::[]
theorem qoc (x:DL placeBegin_con.ps):placeBegin_con.φ x=denF Tryz.prog qi1 qiI Tryz.f23 placeBegin_con.ps placeBegin_con.one placeBegin_con.res placeBegin_con.ρ x:=by kernel_rfl
theorem qej:ConOK Tryz.prog 23 placeBegin_con :=
  qc (env:=qi1) ((EnvOK.cons (EnvOK.cons (EnvOK.check (EnvOK.nil _) qd) qeg) qcy)) mixed Tryz.func23 placeBegin_con qiI (by kernel_rfl) (fun h=>by first | rfl | cases h) (fun g hg=>by cases hg) qoc
def qeL:Ann:=(.two .nil (.two .nil (.two (.two .nil (.joinE ⟨[],[],[]⟩ (.two (.loop ⟨[0,1,12],[(13,Zt44)],[]⟩ .nil) .nil))) .nil)))
noncomputable def slicesEqual_int_con:Con:=⟨[Zt42,Zt42],true,[],.bool,fun x=>qa0 x.1 x.2.1,none⟩
noncomputable def qeQ:Env:=[]
theorem qjB (x:DL slicesEqual_int_con.ps):slicesEqual_int_con.φ x=denF Tryz.prog qeQ qeL Tryz.f54 slicesEqual_int_con.ps slicesEqual_int_con.one slicesEqual_int_con.res slicesEqual_int_con.ρ x:=by kernel_rfl
theorem qkS:ConOK Tryz.prog 54 slicesEqual_int_con :=
  qc (env:=qeQ) ((EnvOK.nil _)) mixed Tryz.func54 slicesEqual_int_con qeL (by kernel_rfl) (fun h=>by first | rfl | cases h) (fun g hg=>by cases hg) qjB
def qkG:Ann := .nil
noncomputable def placeSame_con:Con:=⟨[Zt24,Zt24],true,[],.bool,fun x=>qcO x.1 x.2.1,none⟩
noncomputable def qkT:Env:=(54,.con slicesEqual_int_con)::[]
theorem qqk (x:DL placeSame_con.ps):placeSame_con.φ x=denF Tryz.prog qkT qkG Tryz.f18 placeSame_con.ps placeSame_con.one placeSame_con.res placeSame_con.ρ x:=by kernel_rfl
theorem ql0:ConOK Tryz.prog 18 placeSame_con :=
  qc (env:=qkT) ((EnvOK.cons (EnvOK.nil _) qkS)) mixed Tryz.func18 placeSame_con qkG (by kernel_rfl) (fun h=>by first | rfl | cases h) (fun g hg=>by cases hg) qqk
def qcK:Ann := .nil
noncomputable def slicesClone_RuleWay_con:Con:=⟨[Zt29],true,[],(.osl 184 Zt32),fun x=>qa9 x.1,none⟩
noncomputable def qcQ:Env:=[]
theorem qgC (x:DL slicesClone_RuleWay_con.ps):slicesClone_RuleWay_con.φ x=denF Tryz.prog qcQ qcK Tryz.f139 slicesClone_RuleWay_con.ps slicesClone_RuleWay_con.one slicesClone_RuleWay_con.res slicesClone_RuleWay_con.ρ x:=by kernel_rfl
theorem qg0:ConOK Tryz.prog 139 slicesClone_RuleWay_con :=
  qc (env:=qcQ) ((EnvOK.nil _)) mixed Tryz.func139 slicesClone_RuleWay_con qcK (by kernel_rfl) (fun h=>by first | rfl | cases h) (fun g hg=>by cases hg) qgC
def qck:Ann := .nil
noncomputable def slicesClone_RuleEnd_con:Con:=⟨[Zt33],true,[],Zt30,fun x=>qaD x.1,none⟩
noncomputable def qcl:Env:=[]
theorem qgF (x:DL slicesClone_RuleEnd_con.ps):slicesClone_RuleEnd_con.φ x=denF Tryz.prog qcl qck Tryz.f140 slicesClone_RuleEnd_con.ps slicesClone_RuleEnd_con.one slicesClone_RuleEnd_con.res slicesClone_RuleEnd_con.ρ x:=by kernel_rfl
theorem qg1:ConOK Tryz.prog 140 slicesClone_RuleEnd_con :=
  qc (env:=qcl) ((EnvOK.nil _)) mixed Tryz.func140 slicesClone_RuleEnd_con qck (by kernel_rfl) (fun h=>by first | rfl | cases h) (fun g hg=>by cases hg) qgF
def qj3:Ann:=(.two .nil (.two .nil (.two .nil (.two (.two .nil (.join ⟨[1,2,3],[],[(2,some (.box Zt11))]⟩ (.two (.loop ⟨[1,2,3,9,10],[(11,Zt44)],[(2,some (.box Zt11))]⟩ .nil) .nil))) (.two (.join ⟨[2,3],[],[(2,some (.box Zt10)),(3,none)]⟩ (.any 347 0 (.ord 0 0 .nil (.ord 1 25 .nil (.ord 3 0 .nil (.alt (.ord 2 0 .nil (.ord 4 79 .nil (.ord 6 0 .nil (.ord 5 0 .nil (.ord 7 0 .nil (.ord 8 0 .nil (.ord 9 0 .nil .nil))))))) (.ord 4 0 .nil (.ord 2 0 .nil (.ord 6 0 .nil (.ord 5 0 .nil (.ord 7 0 .nil (.ord 8 0 .nil (.ord 9 0 .nil .nil))))))))))))) .nil)))))
noncomputable def rulesCopy_con:Con:=⟨[Zt12],true,[],Zt12,fun x=>qf7 x.1,none⟩
noncomputable def qj0:Env:=(140,.con slicesClone_RuleEnd_con)::(59,.con slicesClone_int_con)::(139,.con slicesClone_RuleWay_con)::(58,.ck 64)::[]
theorem qpR (x:DL rulesCopy_con.ps):rulesCopy_con.φ x=denF Tryz.prog qj0 qj3 Tryz.f83 rulesCopy_con.ps rulesCopy_con.one rulesCopy_con.res rulesCopy_con.ρ x:=by kernel_rfl
theorem qrJ:ConOK Tryz.prog 83 rulesCopy_con :=
  qc (env:=qj0) ((EnvOK.cons (EnvOK.cons (EnvOK.cons (EnvOK.check (EnvOK.nil _) qd) qg0) qcy) qg1)) mixed Tryz.func83 rulesCopy_con qj3 (by kernel_rfl) (fun h=>by first | rfl | cases h) (fun g hg=>by cases hg) qpR
end Go.Proofs.YthidcmjpbokeeaaGreatDoor

