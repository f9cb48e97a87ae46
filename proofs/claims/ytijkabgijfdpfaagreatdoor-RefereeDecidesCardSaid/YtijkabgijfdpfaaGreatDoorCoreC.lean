/- Contracts: Core. No condition of its own. -/
import Derived.Test.YtijkabgijfdpfaaGreatDoorMAA
import Derived.Test.YtijkabgijfdpfaaGreatDoorMAI
import Derived.Test.YtijkabgijfdpfaaGreatDoorMAD
import Derived.Laws.CopyRow
import Derived.Shelf.Spec.SlicesInsertGrow
namespace Go.Proofs.YtijkabgijfdpfaaGreatDoor
open Go.Den
set_option linter.unusedVariables false
set_option maxRecDepth 100000
def qlU:Ann:=(.two .nil (.two (.two .nil (.joinE ⟨[0],[],[]⟩ (.two (.loop ⟨[0,6],[(7,Zt68)],[]⟩ .nil) .nil))) .nil))
noncomputable def rulesName_con:Con:=⟨[.str],true,[],.bool,fun x=>qmv x.1,none⟩
noncomputable def ql8:Env:=[]
theorem qss (x:DL rulesName_con.ps):rulesName_con.φ x=denF Tryz.prog ql8 qlU Tryz.f130 rulesName_con.ps rulesName_con.one rulesName_con.res rulesName_con.ρ x:=by kernel_rfl
theorem qtY:ConOK Tryz.prog 130 rulesName_con :=
  qc (env:=ql8) ((EnvOK.nil _)) mixed Tryz.func130 rulesName_con qlU (by kernel_rfl) (fun h=>by first | rfl | cases h) (fun g hg=>by cases hg) qss
def qjA:Ann := .nil
noncomputable def rulesWithin_con:Con:=⟨[Zt68,Zt68,Zt68],true,[],.bool,fun x=>qhK x.1 x.2.1 x.2.2.1,some fun x=>qe x.1 x.2.1 x.2.2.1⟩
noncomputable def qiA:Env:=[]
theorem qqu (x:DL rulesWithin_con.ps):rulesWithin_con.φ x=denF Tryz.prog qiA qjA Tryz.f131 rulesWithin_con.ps rulesWithin_con.one rulesWithin_con.res rulesWithin_con.ρ x:=by kernel_rfl
theorem qgI:ConOK Tryz.prog 131 rulesWithin_con :=
  qc (env:=qiA) ((EnvOK.nil _)) mixed Tryz.func131 rulesWithin_con qjA (by kernel_rfl) (fun h=>by first | rfl | cases h) (fun g hg x=>by
    cases hg
    exact qq2 _ _ _) qqu
def qiY:Ann:=(.two .nil (.two .nil (.two .nil (.two (.two .nil (.joinE ⟨[],[],[]⟩ (.two (.loop ⟨[1,16,17],[(18,Zt68)],[]⟩ (.two .nil (.two .nil (.two (.joinE ⟨[1,16,17,18],[],[]⟩ (.two (.two .nil (.two (.two (.two .nil (.two .nil (.two (.two (.two .nil (.two (.two (.two .nil (.two (.two .nil (.joinE ⟨[],[],[]⟩ (.two (.loop ⟨[0,1,7],[(8,Zt68)],[]⟩ .nil) .nil))) .nil)) .nil) .nil)) .nil) .nil))) .nil) (.two .nil (.joinE ⟨[1,16,17,18],[],[]⟩ (.two (.loop ⟨[1,16,17,18,59,60],[(61,Zt68)],[]⟩ .nil) .nil))))) .nil)) .nil)))) .nil))) .nil))))
noncomputable def rulesPieces_con:Con:=⟨[Zt21],true,[],Zt68,fun x=>qhE x.1,none⟩
noncomputable def qjo:Env:=(131,.con rulesWithin_con)::(186,.body Tryz.f186)::(227,.body Tryz.f227)::(185,.body Tryz.f185)::(159,.ck 197)::[]
theorem qp2 (x:DL rulesPieces_con.ps):rulesPieces_con.φ x=denF Tryz.prog qjo qiY Tryz.f132 rulesPieces_con.ps rulesPieces_con.one rulesPieces_con.res rulesPieces_con.ρ x:=by kernel_rfl
theorem qqP:ConOK Tryz.prog 132 rulesPieces_con :=
  qc (env:=qjo) ((EnvOK.cons (EnvOK.body (EnvOK.body (EnvOK.body (EnvOK.check (EnvOK.nil _) qd) Tryz.func185) Tryz.func227) Tryz.func186) qgI)) mixed Tryz.func132 rulesPieces_con qiY (by kernel_rfl) (fun h=>by first | rfl | cases h) (fun g hg=>by cases hg) qp2
def qfl:Ann:=(.two .nil (.two .nil (.two (.two .nil (.joinE ⟨[],[],[]⟩ (.two (.loop ⟨[1,12,13],[(14,Zt68)],[]⟩ (.two .nil (.two .nil (.two (.two (.two .nil (.two .nil (.two (.two .nil (.two (.two .nil (.joinE ⟨[1,12,13,14],[(5,.bool),(6,.bool)],[]⟩ (.two .nil (.two .nil (.joinE ⟨[1,6,12,13,14],[(5,.bool)],[]⟩ .nil))))) .nil)) .nil))) .nil) .nil)))) .nil))) .nil)))
noncomputable def rulesConditions_con:Con:=⟨[Zt21],true,[],Zt68,fun x=>qce x.1,none⟩
noncomputable def qfh:Env:=(131,.con rulesWithin_con)::(159,.ck 197)::[]
theorem qly (x:DL rulesConditions_con.ps):rulesConditions_con.φ x=denF Tryz.prog qfh qfl Tryz.f135 rulesConditions_con.ps rulesConditions_con.one rulesConditions_con.res rulesConditions_con.ρ x:=by kernel_rfl
theorem qmL:ConOK Tryz.prog 135 rulesConditions_con :=
  qc (env:=qfh) ((EnvOK.cons (EnvOK.check (EnvOK.nil _) qd) qgI)) mixed Tryz.func135 rulesConditions_con qfl (by kernel_rfl) (fun h=>by first | rfl | cases h) (fun g hg=>by cases hg) qly
def qke:Ann:=(.two .nil (.two .nil (.two .nil (.two .nil (.two .nil (.two (.two (.two (.two .nil (.two (.two (.two .nil (.two (.two .nil (.joinE ⟨[],[],[]⟩ (.two (.loop ⟨[0,1,7],[(8,Zt68)],[]⟩ .nil) .nil))) .nil)) .nil) .nil)) .nil) .nil) .nil))))))
noncomputable def rulesCheck_con:Con:=⟨[Zt21],true,[],Zt68,fun x=>qha x.1,none⟩
noncomputable def qkh:Env:=(135,.con rulesConditions_con)::(134,.body Tryz.f134)::(187,.body Tryz.f187)::(133,.body Tryz.f133)::(132,.con rulesPieces_con)::(131,.con rulesWithin_con)::(130,.con rulesName_con)::[]
theorem qri (x:DL rulesCheck_con.ps):rulesCheck_con.φ x=denF Tryz.prog qkh qke Tryz.f67 rulesCheck_con.ps rulesCheck_con.one rulesCheck_con.res rulesCheck_con.ρ x:=by kernel_rfl
theorem qmR:ConOK Tryz.prog 67 rulesCheck_con :=
  qc (env:=qkh) ((EnvOK.cons (EnvOK.body (EnvOK.body (EnvOK.body (EnvOK.cons (EnvOK.cons (EnvOK.cons (EnvOK.nil _) qtY) qgI) qqP) Tryz.func133) Tryz.func187) Tryz.func134) qmL)) mixed Tryz.func67 rulesCheck_con qke (by kernel_rfl) (fun h=>by first | rfl | cases h) (fun g hg=>by cases hg) qri
def qeZ:Ann:=(.two .nil (.two .nil (.two (.two .nil (.join ⟨[0],[(3,Zt68)],[]⟩ (.two (.loop ⟨[0,9,10],[(3,Zt68),(11,Zt68)],[]⟩ .nil) .nil))) (.two (.two (.two .nil (.two .nil (.two (.two .nil (.two .nil (.join ⟨[],[(0,Zt66)],[]⟩ (.two (.own (.own .nil)) .nil)))) .nil))) .nil) (.two (.two .nil (.join ⟨[],[(6,Zt66)],[(0,none)]⟩ (.two (.loop ⟨[25,26],[(6,Zt66),(27,Zt68)],[(0,none)]⟩ .nil) .nil))) .nil)))))
noncomputable def slicesConcat_int_con:Con:=⟨[(.sl Zt67)],true,[],Zt66,fun x=>qcF x.1,none⟩
noncomputable def qe1:Env:=(232,.body Tryz.f232)::[]
theorem qka (x:DL slicesConcat_int_con.ps):slicesConcat_int_con.φ x=denF Tryz.prog qe1 qeZ Tryz.f200 slicesConcat_int_con.ps slicesConcat_int_con.one slicesConcat_int_con.res slicesConcat_int_con.ρ x:=by kernel_rfl
theorem qlm:ConOK Tryz.prog 200 slicesConcat_int_con :=
  qc (env:=qe1) ((EnvOK.body (EnvOK.nil _) Tryz.func232)) mixed Tryz.func200 slicesConcat_int_con qeZ (by kernel_rfl) (fun h=>by first | rfl | cases h) (fun g hg=>by cases hg) qka
def qiK:Ann:=(.ord 6 0 (.two .nil (.two (.two (.two .nil (.two (.two .nil (.joinE ⟨[],[],[]⟩ (.two (.loop ⟨[0,1,7],[(8,Zt68)],[]⟩ .nil) .nil))) .nil)) .nil) .nil)) (.ord 7 0 .nil (.ord 8 0 .nil (.ord 9 0 .nil (.ord 10 0 .nil (.ord 11 0 (.two .nil (.two (.two (.two .nil (.two (.two .nil (.joinE ⟨[],[],[]⟩ (.two (.loop ⟨[0,1,7],[(8,Zt68)],[]⟩ .nil) .nil))) .nil)) .nil) .nil)) (.ord 12 0 .nil (.ord 13 0 .nil (.ord 14 0 .nil (.ord 15 0 .nil (.ord 16 0 .nil (.ord 17 0 .nil (.ord 18 0 .nil (.ord 19 0 .nil (.ord 20 0 .nil (.ord 21 0 .nil (.ord 22 0 .nil (.ord 23 0 .nil (.ord 24 0 .nil (.ord 25 0 .nil (.ord 26 0 .nil (.ord 27 0 .nil (.ord 28 0 .nil (.ord 29 0 .nil (.ord 30 0 .nil (.ord 31 0 .nil (.ord 32 0 .nil .nil)))))))))))))))))))))))))))
def qkI:Ann:=(.two .nil (.two .nil (.two .nil (.two .nil (.two .nil (.two (.two (.join ⟨[],[(76,.bool)],[]⟩ (.any 8589931423 0 (.ord 0 0 .nil (.ord 2 0 .nil (.ord 3 0 .nil (.ord 4 0 .nil (.alt (.ord 1 0 .nil (.ord 5 0 .nil qiK)) (.ord 5 0 .nil (.ord 1 0 .nil qiK))))))))) .nil) .nil))))))
noncomputable def placeSound_con:Con:=⟨[Zt21,Zt40],true,[],Zt68,fun x=>qjJ x.1 x.2.1,none⟩
noncomputable def qkq:Env:=(199,.body Tryz.f199)::(187,.body Tryz.f187)::(133,.body Tryz.f133)::(198,.body Tryz.f198)::(200,.con slicesConcat_int_con)::[]
theorem qqR (x:DL placeSound_con.ps):placeSound_con.φ x=denF Tryz.prog qkq qkI Tryz.f141 placeSound_con.ps placeSound_con.one placeSound_con.res placeSound_con.ρ x:=by kernel_rfl
theorem qsD:ConOK Tryz.prog 141 placeSound_con :=
  qc (env:=qkq) ((EnvOK.body (EnvOK.body (EnvOK.body (EnvOK.body (EnvOK.cons (EnvOK.nil _) qlm) Tryz.func198) Tryz.func133) Tryz.func187) Tryz.func199)) mixed Tryz.func141 placeSound_con qkI (by kernel_rfl) (fun h=>by first | rfl | cases h) (fun g hg=>by cases hg) qqR
def qkC:Ann := .nil
noncomputable def placeCheck_con:Con:=⟨[Zt21,Zt40],true,[],Zt68,fun x=>qd5 x.1 x.2.1,none⟩
noncomputable def qk3:Env:=(141,.con placeSound_con)::(67,.con rulesCheck_con)::[]
theorem qq5 (x:DL placeCheck_con.ps):placeCheck_con.φ x=denF Tryz.prog qk3 qkC Tryz.f74 placeCheck_con.ps placeCheck_con.one placeCheck_con.res placeCheck_con.ρ x:=by kernel_rfl
theorem qe3:ConOK Tryz.prog 74 placeCheck_con :=
  qc (env:=qk3) ((EnvOK.cons (EnvOK.cons (EnvOK.nil _) qmR) qsD)) mixed Tryz.func74 placeCheck_con qkC (by kernel_rfl) (fun h=>by first | rfl | cases h) (fun g hg=>by cases hg) qq5
def qoI:Ann:=(.two .nil (.two .nil (.two (.two .nil (.joinE ⟨[],[],[]⟩ (.two (.loop ⟨[3,4,9,19],[(20,Zt68)],[]⟩ (.two .nil (.two .nil (.two (.joinE ⟨[3,4,9,19,20],[],[]⟩ (.two (.two .nil (.two .nil (.joinE ⟨[3,4,9,19,20],[],[]⟩ (.two (.loop ⟨[3,4,9,10,19,20,27],[(28,Zt68)],[]⟩ (.two .nil (.two .nil (.two (.joinE ⟨[3,4,9,10,19,20,27,28],[],[]⟩ (.two (.two .nil (.two .nil (.two (.join ⟨[3,4,9,10,19,20,27,28],[(15,Zt68)],[]⟩ (.two (.loop ⟨[3,4,9,10,12,19,20,27,28],[(13,Zt68),(14,Zt68),(15,Zt68)],[]⟩ (.two (.two (.join ⟨[3,4,9,10,12,13,14,15,19,20,27,28],[(47,.bool)],[]⟩ .nil) .nil) .nil)) .nil)) .nil))) .nil)) .nil)))) .nil)))) .nil)) .nil)))) .nil))) .nil)))
noncomputable def endsLine_con:Con:=⟨[Zt21,Zt40,Zt68,Zt68],true,[],.bool,fun x=>qpe x.1 x.2.1 x.2.2.1 x.2.2.2.1,none⟩
noncomputable def qoO:Env:=(272,.body Tryz.f272)::(159,.ck 197)::[]
theorem qvh (x:DL endsLine_con.ps):endsLine_con.φ x=denF Tryz.prog qoO qoI Tryz.f231 endsLine_con.ps endsLine_con.one endsLine_con.res endsLine_con.ρ x:=by kernel_rfl
theorem qv6:ConOK Tryz.prog 231 endsLine_con :=
  qc (env:=qoO) ((EnvOK.body (EnvOK.check (EnvOK.nil _) qd) Tryz.func272)) mixed Tryz.func231 endsLine_con qoI (by kernel_rfl) (fun h=>by first | rfl | cases h) (fun g hg=>by cases hg) qvh
def qjc:Ann := .nil
noncomputable def rulesIsLast_con:Con:=⟨[Zt21,Zt68,Zt68],true,[],.bool,fun x=>qfk x.1 x.2.1 x.2.2.1,none⟩
noncomputable def qiB:Env:=[]
theorem qqb (x:DL rulesIsLast_con.ps):rulesIsLast_con.φ x=denF Tryz.prog qiB qjc Tryz.f190 rulesIsLast_con.ps rulesIsLast_con.one rulesIsLast_con.res rulesIsLast_con.ρ x:=by kernel_rfl
theorem qki:ConOK Tryz.prog 190 rulesIsLast_con :=
  qc (env:=qiB) ((EnvOK.nil _)) mixed Tryz.func190 rulesIsLast_con qjc (by kernel_rfl) (fun h=>by first | rfl | cases h) (fun g hg=>by cases hg) qqb
def qmC:Ann:=(.two .nil (.two (.two .nil (.joinE ⟨[3,5,6],[],[]⟩ (.two (.two .nil (.two .nil (.two .nil (.two (.two (.two .nil (.joinE ⟨[3,5,6],[],[]⟩ (.two (.loop ⟨[3,4,5,6,27,28],[(29,Zt68)],[]⟩ .nil) .nil))) .nil) .nil)))) .nil))) (.two .nil (.two (.two .nil (.join ⟨[6],[(11,Zt68)],[]⟩ (.two (.loop ⟨[3,6,50,51],[(11,Zt68),(52,Zt68)],[]⟩ (.two .nil (.two .nil (.two (.two (.two .nil (.two .nil (.join ⟨[3,6,50,51,52],[(11,Zt68)],[]⟩ .nil))) .nil) .nil)))) .nil))) .nil))))
noncomputable def endsHolds_con:Con:=⟨[Zt21,Zt40,Zt53,Zt68],true,[],.bool,fun x=>qmz x.1 x.2.1 x.2.2.1 x.2.2.2.1,none⟩
noncomputable def qmZ:Env:=(190,.con rulesIsLast_con)::(231,.con endsLine_con)::[]
theorem qsU (x:DL endsHolds_con.ps):endsHolds_con.φ x=denF Tryz.prog qmZ qmC Tryz.f196 endsHolds_con.ps endsHolds_con.one endsHolds_con.res endsHolds_con.ρ x:=by kernel_rfl
theorem quK:ConOK Tryz.prog 196 endsHolds_con :=
  qc (env:=qmZ) ((EnvOK.cons (EnvOK.cons (EnvOK.nil _) qv6) qki)) mixed Tryz.func196 endsHolds_con qmC (by kernel_rfl) (fun h=>by first | rfl | cases h) (fun g hg=>by cases hg) qsU
def qon:Ann := .nil
noncomputable def endsWins_con:Con:=⟨[Zt68],true,[],Zt68,fun x=>qnp x.1,some fun x=>qdI x.1⟩
noncomputable def qol:Env:=[]
theorem quz (x:DL endsWins_con.ps):endsWins_con.φ x=denF Tryz.prog qol qon Tryz.f197 endsWins_con.ps endsWins_con.one endsWins_con.res endsWins_con.ρ x:=by kernel_rfl
theorem qwp:ConOK Tryz.prog 197 endsWins_con :=
  qc (env:=qol) ((EnvOK.nil _)) mixed Tryz.func197 endsWins_con qon (by kernel_rfl) (fun h=>by first | rfl | cases h) (fun g hg x=>by
    cases hg
    exact qvx _) quz
def qiv:Ann:=(.two .nil (.two (.two .nil (.joinE ⟨[],[],[]⟩ (.two (.loop ⟨[3,4],[(2,Zt68)],[]⟩ .nil) .nil))) .nil))
noncomputable def movesFilled_con:Con:=⟨[Zt21,Zt40,Zt68],true,[],.bool,fun x=>qhT x.1 x.2.1 x.2.2.1,none⟩
noncomputable def qjs:Env:=[]
theorem qqo (x:DL movesFilled_con.ps):movesFilled_con.φ x=denF Tryz.prog qjs qiv Tryz.f228 movesFilled_con.ps movesFilled_con.one movesFilled_con.res movesFilled_con.ρ x:=by kernel_rfl
theorem qqX:ConOK Tryz.prog 228 movesFilled_con :=
  qc (env:=qjs) ((EnvOK.nil _)) mixed Tryz.func228 movesFilled_con qiv (by kernel_rfl) (fun h=>by first | rfl | cases h) (fun g hg=>by cases hg) qqo
def qmN:Ann:=(.two .nil (.two .nil (.two (.two .nil (.join ⟨[],[(5,Zt55)],[]⟩ (.two (.loop ⟨[2,3,11,12],[(5,Zt55),(13,Zt68)],[]⟩ (.two .nil (.two .nil (.two (.join ⟨[2,3,11,12,13],[(5,Zt55)],[(2,none)]⟩ (.two (.two .nil (.two .nil (.two .nil (.join ⟨[2,3,11,12,13],[(5,Zt55)],[(2,none)]⟩ (.two (.loop ⟨[2,3,6,11,12,13,41,42],[(5,Zt55),(43,Zt68)],[(2,none)]⟩ (.two .nil (.two .nil (.two (.two (.two .nil (.two .nil (.join ⟨[2,3,6,11,12,13,41,42,43],[(5,Zt55)],[(3,none)]⟩ .nil))) .nil) .nil)))) .nil))))) .nil)) .nil)))) .nil))) .nil)))
noncomputable def movesPuts_con:Con:=⟨[Zt21,Zt40],true,[],Zt55,fun x=>ql0 x.1 x.2.1,none⟩
noncomputable def ql3:Env:=(228,.con movesFilled_con)::[]
theorem qsO (x:DL movesPuts_con.ps):movesPuts_con.φ x=denF Tryz.prog ql3 qmN Tryz.f188 movesPuts_con.ps movesPuts_con.one movesPuts_con.res movesPuts_con.ρ x:=by kernel_rfl
theorem qvj:ConOK Tryz.prog 188 movesPuts_con :=
  qc (env:=ql3) ((EnvOK.cons (EnvOK.nil _) qqX)) mixed Tryz.func188 movesPuts_con qmN (by kernel_rfl) (fun h=>by first | rfl | cases h) (fun g hg=>by cases hg) qsO
def qop:Ann:=(.two .nil (.two .nil (.two .nil (.two (.two .nil (.join ⟨[2,4,5,7,9],[(10,Zt68)],[]⟩ .nil)) (.two .nil (.two (.two .nil (.join ⟨[],[(9,Zt66)],[]⟩ (.two (.loop ⟨[4,5,7,10,31],[(9,Zt66),(11,Zt68),(12,Zt68),(32,Zt68)],[]⟩ (.two .nil (.two .nil (.two (.two (.two .nil (.two .nil (.two .nil (.two .nil (.two (.two .nil (.join ⟨[4,5,7,10,11,12,13,31,32],[(9,Zt66)],[(3,none)]⟩ .nil)) .nil))))) .nil) .nil)))) .nil))) .nil))))))
noncomputable def movesWay_con:Con:=⟨[Zt21,Zt40,Zt68,Zt50],true,[],Zt66,fun x=>qpl x.1 x.2.1 x.2.2.1 x.2.2.2.1,none⟩
noncomputable def qou:Env:=[]
theorem qtM (x:DL movesWay_con.ps):movesWay_con.φ x=denF Tryz.prog qou qop Tryz.f189 movesWay_con.ps movesWay_con.one movesWay_con.res movesWay_con.ρ x:=by kernel_rfl
theorem qvW:ConOK Tryz.prog 189 movesWay_con :=
  qc (env:=qou) ((EnvOK.nil _)) mixed Tryz.func189 movesWay_con qop (by kernel_rfl) (fun h=>by first | rfl | cases h) (fun g hg=>by cases hg) qtM
def qms:Ann:=(.two .nil (.two .nil (.two (.two .nil (.join ⟨[],[(5,Zt55)],[(2,none)]⟩ (.two (.loop ⟨[2,3,19,20],[(5,Zt55),(21,Zt68)],[(2,none)]⟩ (.two .nil (.two .nil (.two (.join ⟨[2,3,19,20,21],[(5,Zt55)],[(3,none)]⟩ (.two (.two .nil (.two .nil (.two .nil (.two .nil (.join ⟨[2,3,19,20,21],[(5,Zt55)],[(3,none)]⟩ (.two (.loop ⟨[2,3,6,8,19,20,21,44,45],[(5,Zt55),(46,Zt68)],[(3,none)]⟩ (.two .nil (.two .nil (.two (.join ⟨[2,3,6,8,19,20,21,44,45,46],[(5,Zt55)],[(4,none)]⟩ (.two (.two .nil (.two .nil (.join ⟨[2,3,6,8,19,20,21,44,45,46],[(5,Zt55)],[(4,none)]⟩ (.two (.loop ⟨[2,3,6,8,19,20,21,44,45,46,54,55],[(5,Zt55),(56,Zt68)],[(4,none)]⟩ (.two .nil (.two .nil (.two (.two (.two .nil (.two .nil (.two (.two .nil (.two .nil (.join ⟨[2,3,5,6,8,13,19,20,21,44,45,46,54,55,56],[],[(8,some (.box Zt58))]⟩ .nil))) .nil))) .nil) .nil)))) .nil)))) .nil)) .nil)))) .nil)))))) .nil)) .nil)))) .nil))) (.two .nil (.two (.join ⟨[],[(4,Zt55)],[(3,none)]⟩ (.two (.two .nil (.two .nil (.two (.two .nil (.joinE ⟨[0],[],[(3,some (.arr 41 Zt58))]⟩ (.two (.loop ⟨[0],[(3,Zt68)],[(3,some (.arr 41 Zt58))]⟩ (.two .nil (.two (.joinE ⟨[0],[(3,Zt68)],[(3,some (.arr 41 Zt58))]⟩ (.two (.two .nil (.two (.two (.own .nil) (.two (.two .nil (.join ⟨[0],[(3,Zt68)],[(3,some (.arr 41 Zt58))]⟩ (.two (.loop ⟨[0,4],[(3,Zt68),(5,Zt68)],[(3,some (.arr 41 Zt58))]⟩ (.two .nil (.two (.two (.two .nil (.join ⟨[0,4,5],[(3,Zt68)],[(3,some (.arr 41 Zt58))]⟩ .nil)) .nil) .nil))) .nil))) (.two (.own .nil) (.two (.own .nil) .nil)))) .nil)) .nil)) .nil))) .nil))) .nil))) .nil)) .nil)))))
noncomputable def movesList_con:Con:=⟨[Zt21,Zt40],true,[],Zt55,fun x=>qau x.1 x.2.1,none⟩
noncomputable def qmu:Env:=(193,.body Tryz.f193)::(191,.srt qhr)::(190,.con rulesIsLast_con)::(189,.con movesWay_con)::(159,.ck 197)::(188,.con movesPuts_con)::[]
theorem qsy (x:DL movesList_con.ps):movesList_con.φ x=denF Tryz.prog qmu qms Tryz.f137 movesList_con.ps movesList_con.one movesList_con.res movesList_con.ρ x:=by kernel_rfl
theorem qeA:ConOK Tryz.prog 137 movesList_con :=
  qc (env:=qmu) ((EnvOK.body (EnvOK.sort (EnvOK.cons (EnvOK.cons (EnvOK.check (EnvOK.cons (EnvOK.nil _) qvj) qd) qvW) qki) qvc) Tryz.func193)) mixed Tryz.func137 movesList_con qms (by kernel_rfl) (fun h=>by first | rfl | cases h) (fun g hg=>by cases hg) qsy
def qkR:Ann:=(.two .nil (.two .nil (.two (.two (.two (.two .nil (.two (.two .nil (.joinE ⟨[],[],[]⟩ (.two (.loop ⟨[0,1,7],[(8,Zt68)],[]⟩ .nil) .nil))) .nil)) .nil) .nil) .nil)))
noncomputable def endsResult_con:Con:=⟨[Zt21,Zt40],true,[],Zt68,fun x=>qd9 x.1 x.2.1,none⟩
noncomputable def qkH:Env:=(197,.con endsWins_con)::(137,.con movesList_con)::(196,.con endsHolds_con)::(195,.body Tryz.f195)::(194,.body Tryz.f194)::(159,.ck 197)::[]
theorem qq6 (x:DL endsResult_con.ps):endsResult_con.φ x=denF Tryz.prog qkH qkR Tryz.f139 endsResult_con.ps endsResult_con.one endsResult_con.res endsResult_con.ρ x:=by kernel_rfl
theorem qhM:ConOK Tryz.prog 139 endsResult_con :=
  qc (env:=qkH) ((EnvOK.cons (EnvOK.cons (EnvOK.cons (EnvOK.body (EnvOK.body (EnvOK.check (EnvOK.nil _) qd) Tryz.func194) Tryz.func195) quK) qeA) qwp)) mixed Tryz.func139 endsResult_con qkR (by kernel_rfl) (fun h=>by first | rfl | cases h) (fun g hg=>by cases hg) qq6
def qrz:Ann := .nil
noncomputable def endsOf_con:Con:=⟨[Zt21,Zt40],false,[Zt68,Zt68],Zt61,fun x=>qxb x.1 x.2.1,none⟩
noncomputable def qrO:Env:=(139,.con endsResult_con)::(74,.con placeCheck_con)::[]
theorem qyk (x:DL endsOf_con.ps):endsOf_con.φ x=denF Tryz.prog qrO qrz Tryz.f143 endsOf_con.ps endsOf_con.one endsOf_con.res endsOf_con.ρ x:=by kernel_rfl
theorem endsOf_ok:ConOK Tryz.prog 143 endsOf_con :=
  qc (env:=qrO) ((EnvOK.cons (EnvOK.cons (EnvOK.nil _) qe3) qhM)) mixed Tryz.func143 endsOf_con qrz (by kernel_rfl) (fun h=>by first | rfl | cases h) (fun g hg=>by cases hg) qyk
def qma:Ann := .nil
noncomputable def endsMoves_con:Con:=⟨[Zt21,Zt40],true,[],Zt55,fun x=>qg3 x.1 x.2.1,none⟩
noncomputable def qmM:Env:=(137,.con movesList_con)::(139,.con endsResult_con)::[]
theorem qtx (x:DL endsMoves_con.ps):endsMoves_con.φ x=denF Tryz.prog qmM qma Tryz.f168 endsMoves_con.ps endsMoves_con.one endsMoves_con.res endsMoves_con.ρ x:=by kernel_rfl
theorem qoH:ConOK Tryz.prog 168 endsMoves_con :=
  qc (env:=qmM) ((EnvOK.cons (EnvOK.cons (EnvOK.nil _) qhM) qeA)) mixed Tryz.func168 endsMoves_con qma (by kernel_rfl) (fun h=>by first | rfl | cases h) (fun g hg=>by cases hg) qtx
def qoh:Ann := .nil
noncomputable def movesAll_con:Con:=⟨[Zt21,Zt40],false,[Zt55,Zt68],(.st Zt55 Zt65),fun x=>qpj x.1 x.2.1,none⟩
noncomputable def qoB:Env:=(137,.con movesList_con)::(74,.con placeCheck_con)::[]
theorem qui (x:DL movesAll_con.ps):movesAll_con.φ x=denF Tryz.prog qoB qoh Tryz.f97 movesAll_con.ps movesAll_con.one movesAll_con.res movesAll_con.ρ x:=by kernel_rfl
theorem qvC:ConOK Tryz.prog 97 movesAll_con :=
  qc (env:=qoB) ((EnvOK.cons (EnvOK.cons (EnvOK.nil _) qe3) qeA)) mixed Tryz.func97 movesAll_con qoh (by kernel_rfl) (fun h=>by first | rfl | cases h) (fun g hg=>by cases hg) qui
def qeQ:Ann:=(.two .nil (.two (.two .nil (.joinE ⟨[],[],[]⟩ (.two (.loop ⟨[0,3,7],[(8,Zt68)],[]⟩ .nil) .nil))) .nil))
noncomputable def slicesIndex_Move_con:Con:=⟨[Zt57,Zt58],true,[],Zt68,fun x=>qeL x.1 x.2.1,none⟩
noncomputable def qeX:Env:=[]
theorem qkd (x:DL slicesIndex_Move_con.ps):slicesIndex_Move_con.φ x=denF Tryz.prog qeX qeQ Tryz.f158 slicesIndex_Move_con.ps slicesIndex_Move_con.one slicesIndex_Move_con.res slicesIndex_Move_con.ρ x:=by kernel_rfl
theorem qk9:ConOK Tryz.prog 158 slicesIndex_Move_con :=
  qc (env:=qeX) ((EnvOK.nil _)) mixed Tryz.func158 slicesIndex_Move_con qeQ (by kernel_rfl) (fun h=>by first | rfl | cases h) (fun g hg=>by cases hg) qkd
def qda:Ann := .nil
noncomputable def slicesContains_Move_con:Con:=⟨[Zt57,Zt58],true,[],.bool,fun x=>qt x.1 x.2.1,none⟩
noncomputable def qdp:Env:=(158,.con slicesIndex_Move_con)::[]
theorem qhN (x:DL slicesContains_Move_con.ps):slicesContains_Move_con.φ x=denF Tryz.prog qdp qda Tryz.f98 slicesContains_Move_con.ps slicesContains_Move_con.one slicesContains_Move_con.res slicesContains_Move_con.ρ x:=by kernel_rfl
theorem qah:ConOK Tryz.prog 98 slicesContains_Move_con :=
  qc (env:=qdp) ((EnvOK.cons (EnvOK.nil _) qk9)) mixed Tryz.func98 slicesContains_Move_con qda (by kernel_rfl) (fun h=>by first | rfl | cases h) (fun g hg=>by cases hg) qhN
def qkB:Ann := .nil
noncomputable def movesLegal_con:Con:=⟨[Zt21,Zt40,Zt58],false,[.bool,Zt68],Zt63,fun x=>qd3 x.1 x.2.1 x.2.2.1,none⟩
noncomputable def qkk:Env:=(98,.con slicesContains_Move_con)::(97,.con movesAll_con)::[]
theorem qrj (x:DL movesLegal_con.ps):movesLegal_con.φ x=denF Tryz.prog qkk qkB Tryz.f39 movesLegal_con.ps movesLegal_con.one movesLegal_con.res movesLegal_con.ρ x:=by kernel_rfl
theorem qhl:ConOK Tryz.prog 39 movesLegal_con :=
  qc (env:=qkk) ((EnvOK.cons (EnvOK.cons (EnvOK.nil _) qvC) qah)) mixed Tryz.func39 movesLegal_con qkB (by kernel_rfl) (fun h=>by first | rfl | cases h) (fun g hg=>by cases hg) qrj
def qfP:Ann := .nil
noncomputable def slicesClone_int_con:Con:=⟨[Zt67],true,[],Zt66,fun x=>qO x.1,none⟩
noncomputable def qfm:Env:=[]
theorem qlf (x:DL slicesClone_int_con.ps):slicesClone_int_con.φ x=denF Tryz.prog qfm qfP Tryz.f68 slicesClone_int_con.ps slicesClone_int_con.one slicesClone_int_con.res slicesClone_int_con.ρ x:=by kernel_rfl
theorem qdi:ConOK Tryz.prog 68 slicesClone_int_con :=
  qc (env:=qfm) ((EnvOK.nil _)) mixed Tryz.func68 slicesClone_int_con qfP (by kernel_rfl) (fun h=>by first | rfl | cases h) (fun g hg=>by cases hg) qlf
def qm9:Ann:=(.two .nil (.two .nil (.two (.join ⟨[1,2],[],[(0,some (.box Zt41)),(2,none)]⟩ (.any 887 0 (.ord 0 0 .nil (.ord 1 0 .nil (.ord 2 115 .nil (.ord 4 0 .nil (.ord 5 0 .nil (.alt (.ord 3 0 .nil (.ord 6 0 .nil (.ord 7 0 .nil (.ord 8 0 .nil (.ord 9 0 .nil (.ord 10 0 .nil .nil)))))) (.ord 6 0 .nil (.ord 3 0 .nil (.ord 7 0 .nil (.ord 8 0 .nil (.ord 9 0 .nil (.ord 10 0 .nil .nil)))))))))))))) .nil)))
noncomputable def placeCopy_con:Con:=⟨[Zt40],true,[],Zt36,fun x=>qfL x.1,none⟩
noncomputable def qmW:Env:=(68,.con slicesClone_int_con)::(159,.ck 197)::[]
theorem qtl (x:DL placeCopy_con.ps):placeCopy_con.φ x=denF Tryz.prog qmW qm9 Tryz.f126 placeCopy_con.ps placeCopy_con.one placeCopy_con.res placeCopy_con.ρ x:=by kernel_rfl
theorem qof:ConOK Tryz.prog 126 placeCopy_con :=
  qc (env:=qmW) ((EnvOK.cons (EnvOK.check (EnvOK.nil _) qd) qdi)) mixed Tryz.func126 placeCopy_con qm9 (by kernel_rfl) (fun h=>by first | rfl | cases h) (fun g hg=>by cases hg) qtl
def ql9:Ann:=(.two .nil (.two .nil (.two .nil (.two (.two .nil (.join ⟨[3,4,5,6,7,8],[],[(4,some (.arr 3 Zt68)),(5,some (.arr 3 Zt68)),(6,some (.arr 3 Zt68))]⟩ (.two .nil (.join ⟨[3,4,5,6,7,8],[],[(5,some (.arr 3 Zt68)),(6,some (.arr 3 Zt68))]⟩ (.tail 11 .nil))))) (.two .nil (.two (.two .nil (.join ⟨[4,5,6,7,8],[],[(5,some (.arr 3 Zt68)),(6,some (.arr 3 Zt68))]⟩ (.two (.two .nil (.join ⟨[4,5,6,7,8],[],[(5,some (.arr 3 Zt68)),(6,some (.arr 3 Zt68))]⟩ (.tail 17 .nil))) .nil))) (.two .nil (.two (.two .nil (.join ⟨[4,6,7],[],[(4,none),(5,none),(6,none),(7,some (.box Zt41))]⟩ .nil)) .nil))))))))
noncomputable def movesMake_con:Con:=⟨[Zt21,Zt40,Zt58],true,[],Zt36,fun x=>qL x.1 x.2.1 x.2.2.1,none⟩
noncomputable def qlG:Env:=(126,.con placeCopy_con)::(159,.ck 197)::[]
theorem qs3 (x:DL movesMake_con.ps):movesMake_con.φ x=denF Tryz.prog qlG ql9 Tryz.f63 movesMake_con.ps movesMake_con.one movesMake_con.res movesMake_con.ρ x:=by kernel_rfl
theorem qoj:ConOK Tryz.prog 63 movesMake_con :=
  qc (env:=qlG) ((EnvOK.cons (EnvOK.check (EnvOK.nil _) qd) qof)) mixed Tryz.func63 movesMake_con ql9 (by kernel_rfl) (fun h=>by first | rfl | cases h) (fun g hg=>by cases hg) qs3
def qku:Ann := .nil
noncomputable def movesAfter_con:Con:=⟨[Zt21,Zt40,Zt58],false,[Zt36,Zt68],Zt29,fun x=>qcZ x.1 x.2.1 x.2.2.1,none⟩
noncomputable def qkp:Env:=(63,.con movesMake_con)::(39,.con movesLegal_con)::(159,.ck 197)::[]
theorem qq0 (x:DL movesAfter_con.ps):movesAfter_con.φ x=denF Tryz.prog qkp qku Tryz.f142 movesAfter_con.ps movesAfter_con.one movesAfter_con.res movesAfter_con.ρ x:=by kernel_rfl
theorem qsp:ConOK Tryz.prog 142 movesAfter_con :=
  qc (env:=qkp) ((EnvOK.cons (EnvOK.cons (EnvOK.check (EnvOK.nil _) qd) qhl) qoj)) mixed Tryz.func142 movesAfter_con qku (by kernel_rfl) (fun h=>by first | rfl | cases h) (fun g hg=>by cases hg) qq0
def qY:Ann:=(.ord 13 0 .nil (.ord 16 0 .nil (.ord 18 0 .nil (.ord 19 0 .nil .nil))))
def qdk:Ann:=(.alt (.ord 6 0 .nil (.ord 15 0 .nil (.ord 12 0 .nil qY))) (.ord 12 0 .nil (.ord 6 0 .nil (.ord 15 0 .nil qY))))
def qjp:Ann:=(.alt (.ord 6 0 .nil (.ord 9 155135 .nil (.ord 15 0 .nil (.ord 12 0 .nil qY)))) (.alt (.ord 9 0 .nil qdk) (.ord 12 0 .nil (.alt (.ord 6 0 .nil (.ord 9 0 .nil (.ord 15 0 .nil qY))) (.ord 9 0 .nil (.ord 6 0 .nil (.ord 15 0 .nil qY)))))))
def qfD:Ann:=(.ord 11 182271 .nil (.ord 15 0 .nil (.ord 12 0 .nil qY)))
def qjt:Ann:=(.alt (.ord 5 0 .nil qdk) (.ord 12 0 .nil (.ord 5 0 .nil (.ord 6 0 .nil (.ord 15 0 .nil qY)))))
def qkV:Ann:=(.two .nil (.two .nil (.two .nil (.two (.two .nil (.join ⟨[2,5],[],[(2,none),(3,some (.box Zt41))]⟩ (.two (.loop ⟨[2,5,19,20],[(21,Zt68)],[(2,none),(3,some (.box Zt41))]⟩ (.two .nil (.two .nil (.two (.two (.two .nil (.join ⟨[2,5,19,20,21],[],[(3,some (.box Zt41)),(4,none),(5,none),(6,none)]⟩ (.any 446367 4128 (.ord 0 0 .nil (.ord 1 0 .nil (.ord 2 155579 .nil (.ord 3 0 .nil (.ord 4 155535 .nil (.ord 7 0 .nil (.ord 8 0 .nil (.ord 10 0 .nil (.ord 14 0 .nil (.ord 17 0 .nil (.alt (.ord 5 0 .nil (.alt (.ord 6 0 .nil (.ord 9 155135 .nil qfD)) (.alt (.ord 9 0 .nil (.alt (.ord 6 0 .nil qfD) (.ord 11 0 .nil qdk))) (.ord 11 0 .nil qjp)))) (.alt (.ord 9 0 .nil (.alt (.ord 5 0 .nil (.alt (.ord 6 0 .nil qfD) (.ord 11 0 .nil qdk))) (.ord 11 0 .nil qjt))) (.ord 11 0 .nil (.alt (.ord 5 0 .nil qjp) (.alt (.ord 9 0 .nil qjt) (.ord 12 0 .nil (.alt (.ord 5 0 .nil (.alt (.ord 6 0 .nil (.ord 9 0 .nil (.ord 15 0 .nil qY))) (.ord 9 0 .nil (.ord 6 0 .nil (.ord 15 0 .nil qY))))) (.ord 9 0 .nil (.ord 5 0 .nil (.ord 6 0 .nil (.ord 15 0 .nil qY)))))))))))))))))))))))) .nil) .nil)))) .nil))) .nil))))
noncomputable def placeBegin_con:Con:=⟨[Zt21],false,[Zt36,Zt68],Zt29,fun x=>qcP x.1,none⟩
noncomputable def qkQ:Env:=(68,.con slicesClone_int_con)::(67,.con rulesCheck_con)::(159,.ck 197)::[]
theorem qre (x:DL placeBegin_con.ps):placeBegin_con.φ x=denF Tryz.prog qkQ qkV Tryz.f17 placeBegin_con.ps placeBegin_con.one placeBegin_con.res placeBegin_con.ρ x:=by kernel_rfl
theorem qe5:ConOK Tryz.prog 17 placeBegin_con :=
  qc (env:=qkQ) ((EnvOK.cons (EnvOK.cons (EnvOK.check (EnvOK.nil _) qd) qmR) qdi)) mixed Tryz.func17 placeBegin_con qkV (by kernel_rfl) (fun h=>by first | rfl | cases h) (fun g hg=>by cases hg) qre
def qfp:Ann:=(.two .nil (.two .nil (.two (.two .nil (.joinE ⟨[],[],[]⟩ (.two (.loop ⟨[0,1,12],[(13,Zt68)],[]⟩ .nil) .nil))) .nil)))
noncomputable def slicesEqual_int_con:Con:=⟨[Zt67,Zt67],true,[],.bool,fun x=>qbf x.1 x.2.1,none⟩
noncomputable def qfn:Env:=[]
theorem qlq (x:DL slicesEqual_int_con.ps):slicesEqual_int_con.φ x=denF Tryz.prog qfn qfp Tryz.f92 slicesEqual_int_con.ps slicesEqual_int_con.one slicesEqual_int_con.res slicesEqual_int_con.ρ x:=by kernel_rfl
theorem ql1:ConOK Tryz.prog 92 slicesEqual_int_con :=
  qc (env:=qfn) ((EnvOK.nil _)) mixed Tryz.func92 slicesEqual_int_con qfp (by kernel_rfl) (fun h=>by first | rfl | cases h) (fun g hg=>by cases hg) qlq
def ql4:Ann := .nil
noncomputable def placeSame_con:Con:=⟨[Zt40,Zt40],true,[],.bool,fun x=>qdH x.1 x.2.1,none⟩
noncomputable def qmw:Env:=(92,.con slicesEqual_int_con)::[]
theorem qtc (x:DL placeSame_con.ps):placeSame_con.φ x=denF Tryz.prog qmw ql4 Tryz.f31 placeSame_con.ps placeSame_con.one placeSame_con.res placeSame_con.ρ x:=by kernel_rfl
theorem qox:ConOK Tryz.prog 31 placeSame_con :=
  qc (env:=qmw) ((EnvOK.cons (EnvOK.nil _) ql1)) mixed Tryz.func31 placeSame_con ql4 (by kernel_rfl) (fun h=>by first | rfl | cases h) (fun g hg=>by cases hg) qtc
def qc4:Ann := .nil
noncomputable def slicesClone_RuleWay_con:Con:=⟨[Zt48],true,[],(.osl 215 Zt50),fun x=>qbx x.1,none⟩
noncomputable def qdq:Env:=[]
theorem qhO (x:DL slicesClone_RuleWay_con.ps):slicesClone_RuleWay_con.φ x=denF Tryz.prog qdq qc4 Tryz.f106 slicesClone_RuleWay_con.ps slicesClone_RuleWay_con.one slicesClone_RuleWay_con.res slicesClone_RuleWay_con.ρ x:=by kernel_rfl
theorem qir:ConOK Tryz.prog 106 slicesClone_RuleWay_con :=
  qc (env:=qdq) ((EnvOK.nil _)) mixed Tryz.func106 slicesClone_RuleWay_con qc4 (by kernel_rfl) (fun h=>by first | rfl | cases h) (fun g hg=>by cases hg) qhO
def qde:Ann := .nil
noncomputable def slicesClone_RuleEnd_con:Con:=⟨[Zt51],true,[],Zt49,fun x=>qaV x.1,none⟩
noncomputable def qdK:Env:=[]
theorem qhv (x:DL slicesClone_RuleEnd_con.ps):slicesClone_RuleEnd_con.φ x=denF Tryz.prog qdK qde Tryz.f107 slicesClone_RuleEnd_con.ps slicesClone_RuleEnd_con.one slicesClone_RuleEnd_con.res slicesClone_RuleEnd_con.ρ x:=by kernel_rfl
theorem qip:ConOK Tryz.prog 107 slicesClone_RuleEnd_con :=
  qc (env:=qdK) ((EnvOK.nil _)) mixed Tryz.func107 slicesClone_RuleEnd_con qde (by kernel_rfl) (fun h=>by first | rfl | cases h) (fun g hg=>by cases hg) qhv
def qlJ:Ann:=(.two .nil (.two .nil (.two .nil (.two (.two .nil (.join ⟨[1,2,3],[],[(2,some (.box Zt20))]⟩ (.two (.loop ⟨[1,2,3,9,10],[(11,Zt68)],[(2,some (.box Zt20))]⟩ .nil) .nil))) (.two (.join ⟨[2,3],[],[(2,some (.box Zt19)),(3,none)]⟩ (.any 347 0 (.ord 0 0 .nil (.ord 1 25 .nil (.ord 3 0 .nil (.alt (.ord 2 0 .nil (.ord 4 79 .nil (.ord 6 0 .nil (.ord 5 0 .nil (.ord 7 0 .nil (.ord 8 0 .nil (.ord 9 0 .nil .nil))))))) (.ord 4 0 .nil (.ord 2 0 .nil (.ord 6 0 .nil (.ord 5 0 .nil (.ord 7 0 .nil (.ord 8 0 .nil (.ord 9 0 .nil .nil))))))))))))) .nil)))))
noncomputable def rulesCopy_con:Con:=⟨[Zt21],true,[],Zt21,fun x=>qN x.1,none⟩
noncomputable def qmx:Env:=(107,.con slicesClone_RuleEnd_con)::(68,.con slicesClone_int_con)::(106,.con slicesClone_RuleWay_con)::(159,.ck 197)::[]
theorem qsz (x:DL rulesCopy_con.ps):rulesCopy_con.φ x=denF Tryz.prog qmx qlJ Tryz.f45 rulesCopy_con.ps rulesCopy_con.one rulesCopy_con.res rulesCopy_con.ρ x:=by kernel_rfl
theorem qi1:ConOK Tryz.prog 45 rulesCopy_con :=
  qc (env:=qmx) ((EnvOK.cons (EnvOK.cons (EnvOK.cons (EnvOK.check (EnvOK.nil _) qd) qir) qdi) qip)) mixed Tryz.func45 rulesCopy_con qlJ (by kernel_rfl) (fun h=>by first | rfl | cases h) (fun g hg=>by cases hg) qsz
end Go.Proofs.YtijkabgijfdpfaaGreatDoor

