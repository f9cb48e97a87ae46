/- Contracts: Core. No condition of its own. -/
import Derived.Test.YtijkabgijfdpfaaGreatDoorMAA
import Derived.Test.YtijkabgijfdpfaaGreatDoorMAI
import Derived.Test.YtijkabgijfdpfaaGreatDoorMAD
import Derived.Laws.CopyRow
import Derived.Shelf.Spec.SlicesInsertGrow
namespace Go.Proofs.YtijkabgijfdpfaaGreatDoor
open Go.Den
set_option linter.unusedVariables false
set_option maxRecDepth 100000
def qm6:Ann:=(.two .nil (.two (.two .nil (.joinE ⟨[0],[],[]⟩ (.two (.loop ⟨[0,6],[(7,Zt68)],[]⟩ .nil) .nil))) .nil))
noncomputable def rulesName_con:Con:=⟨[.str],true,[],.bool,fun x=>qlX x.1,none⟩
noncomputable def qlS:Env:=[]
theorem qs8 (x:DL rulesName_con.ps):rulesName_con.φ x=denF Tryz.prog qlS qm6 Tryz.f130 rulesName_con.ps rulesName_con.one rulesName_con.res rulesName_con.ρ x:=by kernel_rfl
theorem qua:ConOK Tryz.prog 130 rulesName_con :=
  qc (env:=qlS) ((EnvOK.nil _)) mixed Tryz.func130 rulesName_con qm6 (by kernel_rfl) (fun h=>by first | rfl | cases h) (fun g hg=>by cases hg) qs8
def qjl:Ann := .nil
noncomputable def rulesWithin_con:Con:=⟨[Zt68,Zt68,Zt68],true,[],.bool,fun x=>qhR x.1 x.2.1 x.2.2.1,some fun x=>qe x.1 x.2.1 x.2.2.1⟩
noncomputable def qiY:Env:=[]
theorem qpJ (x:DL rulesWithin_con.ps):rulesWithin_con.φ x=denF Tryz.prog qiY qjl Tryz.f131 rulesWithin_con.ps rulesWithin_con.one rulesWithin_con.res rulesWithin_con.ρ x:=by kernel_rfl
theorem qgL:ConOK Tryz.prog 131 rulesWithin_con :=
  qc (env:=qiY) ((EnvOK.nil _)) mixed Tryz.func131 rulesWithin_con qjl (by kernel_rfl) (fun h=>by first | rfl | cases h) (fun g hg x=>by
    cases hg
    exact qq3 _ _ _) qpJ
def qjx:Ann:=(.two .nil (.two .nil (.two .nil (.two (.two .nil (.joinE ⟨[],[],[]⟩ (.two (.loop ⟨[1,16,17],[(18,Zt68)],[]⟩ (.two .nil (.two .nil (.two (.joinE ⟨[1,16,17,18],[],[]⟩ (.two (.two .nil (.two (.two (.two .nil (.two .nil (.two (.two (.two .nil (.two (.two (.two .nil (.two (.two .nil (.joinE ⟨[],[],[]⟩ (.two (.loop ⟨[0,1,7],[(8,Zt68)],[]⟩ .nil) .nil))) .nil)) .nil) .nil)) .nil) .nil))) .nil) (.two .nil (.joinE ⟨[1,16,17,18],[],[]⟩ (.two (.loop ⟨[1,16,17,18,59,60],[(61,Zt68)],[]⟩ .nil) .nil))))) .nil)) .nil)))) .nil))) .nil))))
noncomputable def rulesPieces_con:Con:=⟨[Zt21],true,[],Zt68,fun x=>qhI x.1,none⟩
noncomputable def qjC:Env:=(131,.con rulesWithin_con)::(186,.body Tryz.f186)::(227,.body Tryz.f227)::(185,.body Tryz.f185)::(159,.ck 197)::[]
theorem qpY (x:DL rulesPieces_con.ps):rulesPieces_con.φ x=denF Tryz.prog qjC qjx Tryz.f132 rulesPieces_con.ps rulesPieces_con.one rulesPieces_con.res rulesPieces_con.ρ x:=by kernel_rfl
theorem qqW:ConOK Tryz.prog 132 rulesPieces_con :=
  qc (env:=qjC) ((EnvOK.cons (EnvOK.body (EnvOK.body (EnvOK.body (EnvOK.check (EnvOK.nil _) qd) Tryz.func185) Tryz.func227) Tryz.func186) qgL)) mixed Tryz.func132 rulesPieces_con qjx (by kernel_rfl) (fun h=>by first | rfl | cases h) (fun g hg=>by cases hg) qpY
def qfl:Ann:=(.two .nil (.two .nil (.two (.two .nil (.joinE ⟨[],[],[]⟩ (.two (.loop ⟨[1,12,13],[(14,Zt68)],[]⟩ (.two .nil (.two .nil (.two (.two (.two .nil (.two .nil (.two (.two .nil (.two (.two .nil (.joinE ⟨[1,12,13,14],[(5,.bool),(6,.bool)],[]⟩ (.two .nil (.two .nil (.joinE ⟨[1,6,12,13,14],[(5,.bool)],[]⟩ .nil))))) .nil)) .nil))) .nil) .nil)))) .nil))) .nil)))
noncomputable def rulesConditions_con:Con:=⟨[Zt21],true,[],Zt68,fun x=>qch x.1,none⟩
noncomputable def qfw:Env:=(131,.con rulesWithin_con)::(159,.ck 197)::[]
theorem qk9 (x:DL rulesConditions_con.ps):rulesConditions_con.φ x=denF Tryz.prog qfw qfl Tryz.f135 rulesConditions_con.ps rulesConditions_con.one rulesConditions_con.res rulesConditions_con.ρ x:=by kernel_rfl
theorem qlV:ConOK Tryz.prog 135 rulesConditions_con :=
  qc (env:=qfw) ((EnvOK.cons (EnvOK.check (EnvOK.nil _) qd) qgL)) mixed Tryz.func135 rulesConditions_con qfl (by kernel_rfl) (fun h=>by first | rfl | cases h) (fun g hg=>by cases hg) qk9
def qkJ:Ann:=(.two .nil (.two .nil (.two .nil (.two .nil (.two .nil (.two (.two (.two (.two .nil (.two (.two (.two .nil (.two (.two .nil (.joinE ⟨[],[],[]⟩ (.two (.loop ⟨[0,1,7],[(8,Zt68)],[]⟩ .nil) .nil))) .nil)) .nil) .nil)) .nil) .nil) .nil))))))
noncomputable def rulesCheck_con:Con:=⟨[Zt21],true,[],Zt68,fun x=>qhd x.1,none⟩
noncomputable def qkY:Env:=(135,.con rulesConditions_con)::(134,.body Tryz.f134)::(187,.body Tryz.f187)::(133,.body Tryz.f133)::(132,.con rulesPieces_con)::(131,.con rulesWithin_con)::(130,.con rulesName_con)::[]
theorem qq7 (x:DL rulesCheck_con.ps):rulesCheck_con.φ x=denF Tryz.prog qkY qkJ Tryz.f67 rulesCheck_con.ps rulesCheck_con.one rulesCheck_con.res rulesCheck_con.ρ x:=by kernel_rfl
theorem qna:ConOK Tryz.prog 67 rulesCheck_con :=
  qc (env:=qkY) ((EnvOK.cons (EnvOK.body (EnvOK.body (EnvOK.body (EnvOK.cons (EnvOK.cons (EnvOK.cons (EnvOK.nil _) qua) qgL) qqW) Tryz.func133) Tryz.func187) Tryz.func134) qlV)) mixed Tryz.func67 rulesCheck_con qkJ (by kernel_rfl) (fun h=>by first | rfl | cases h) (fun g hg=>by cases hg) qq7
def qe0:Ann:=(.two .nil (.two .nil (.two (.two .nil (.join ⟨[0],[(3,Zt68)],[]⟩ (.two (.loop ⟨[0,9,10],[(3,Zt68),(11,Zt68)],[]⟩ .nil) .nil))) (.two (.two (.two .nil (.two .nil (.two (.two .nil (.two .nil (.join ⟨[],[(0,Zt66)],[]⟩ (.two (.own (.own .nil)) .nil)))) .nil))) .nil) (.two (.two .nil (.join ⟨[],[(6,Zt66)],[(0,none)]⟩ (.two (.loop ⟨[25,26],[(6,Zt66),(27,Zt68)],[(0,none)]⟩ .nil) .nil))) .nil)))))
noncomputable def slicesConcat_int_con:Con:=⟨[(.sl Zt67)],true,[],Zt66,fun x=>qcG x.1,none⟩
noncomputable def qeY:Env:=(232,.body Tryz.f232)::[]
theorem qj9 (x:DL slicesConcat_int_con.ps):slicesConcat_int_con.φ x=denF Tryz.prog qeY qe0 Tryz.f200 slicesConcat_int_con.ps slicesConcat_int_con.one slicesConcat_int_con.res slicesConcat_int_con.ρ x:=by kernel_rfl
theorem qln:ConOK Tryz.prog 200 slicesConcat_int_con :=
  qc (env:=qeY) ((EnvOK.body (EnvOK.nil _) Tryz.func232)) mixed Tryz.func200 slicesConcat_int_con qe0 (by kernel_rfl) (fun h=>by first | rfl | cases h) (fun g hg=>by cases hg) qj9
def qiD:Ann:=(.ord 6 0 (.two .nil (.two (.two (.two .nil (.two (.two .nil (.joinE ⟨[],[],[]⟩ (.two (.loop ⟨[0,1,7],[(8,Zt68)],[]⟩ .nil) .nil))) .nil)) .nil) .nil)) (.ord 7 0 .nil (.ord 8 0 .nil (.ord 9 0 .nil (.ord 10 0 .nil (.ord 11 0 (.two .nil (.two (.two (.two .nil (.two (.two .nil (.joinE ⟨[],[],[]⟩ (.two (.loop ⟨[0,1,7],[(8,Zt68)],[]⟩ .nil) .nil))) .nil)) .nil) .nil)) (.ord 12 0 .nil (.ord 13 0 .nil (.ord 14 0 .nil (.ord 15 0 .nil (.ord 16 0 .nil (.ord 17 0 .nil (.ord 18 0 .nil (.ord 19 0 .nil (.ord 20 0 .nil (.ord 21 0 .nil (.ord 22 0 .nil (.ord 23 0 .nil (.ord 24 0 .nil (.ord 25 0 .nil (.ord 26 0 .nil (.ord 27 0 .nil (.ord 28 0 .nil (.ord 29 0 .nil (.ord 30 0 .nil (.ord 31 0 .nil (.ord 32 0 .nil .nil)))))))))))))))))))))))))))
def qkD:Ann:=(.two .nil (.two .nil (.two .nil (.two .nil (.two .nil (.two (.two (.join ⟨[],[(76,.bool)],[]⟩ (.any 8589931423 0 (.ord 0 0 .nil (.ord 2 0 .nil (.ord 3 0 .nil (.ord 4 0 .nil (.alt (.ord 1 0 .nil (.ord 5 0 .nil qiD)) (.ord 5 0 .nil (.ord 1 0 .nil qiD))))))))) .nil) .nil))))))
noncomputable def placeSound_con:Con:=⟨[Zt21,Zt40],true,[],Zt68,fun x=>qjN x.1 x.2.1,none⟩
noncomputable def qks:Env:=(199,.body Tryz.f199)::(187,.body Tryz.f187)::(133,.body Tryz.f133)::(198,.body Tryz.f198)::(200,.con slicesConcat_int_con)::[]
theorem qro (x:DL placeSound_con.ps):placeSound_con.φ x=denF Tryz.prog qks qkD Tryz.f141 placeSound_con.ps placeSound_con.one placeSound_con.res placeSound_con.ρ x:=by kernel_rfl
theorem qs9:ConOK Tryz.prog 141 placeSound_con :=
  qc (env:=qks) ((EnvOK.body (EnvOK.body (EnvOK.body (EnvOK.body (EnvOK.cons (EnvOK.nil _) qln) Tryz.func198) Tryz.func133) Tryz.func187) Tryz.func199)) mixed Tryz.func141 placeSound_con qkD (by kernel_rfl) (fun h=>by first | rfl | cases h) (fun g hg=>by cases hg) qro
def qk3:Ann := .nil
noncomputable def placeCheck_con:Con:=⟨[Zt21,Zt40],true,[],Zt68,fun x=>qea x.1 x.2.1,none⟩
noncomputable def qkR:Env:=(141,.con placeSound_con)::(67,.con rulesCheck_con)::[]
theorem qq5 (x:DL placeCheck_con.ps):placeCheck_con.φ x=denF Tryz.prog qkR qk3 Tryz.f74 placeCheck_con.ps placeCheck_con.one placeCheck_con.res placeCheck_con.ρ x:=by kernel_rfl
theorem qe5:ConOK Tryz.prog 74 placeCheck_con :=
  qc (env:=qkR) ((EnvOK.cons (EnvOK.cons (EnvOK.nil _) qna) qs9)) mixed Tryz.func74 placeCheck_con qk3 (by kernel_rfl) (fun h=>by first | rfl | cases h) (fun g hg=>by cases hg) qq5
def qob:Ann:=(.two .nil (.two .nil (.two (.two .nil (.joinE ⟨[],[],[]⟩ (.two (.loop ⟨[3,4,9,19],[(20,Zt68)],[]⟩ (.two .nil (.two .nil (.two (.joinE ⟨[3,4,9,19,20],[],[]⟩ (.two (.two .nil (.two .nil (.joinE ⟨[3,4,9,19,20],[],[]⟩ (.two (.loop ⟨[3,4,9,10,19,20,27],[(28,Zt68)],[]⟩ (.two .nil (.two .nil (.two (.joinE ⟨[3,4,9,10,19,20,27,28],[],[]⟩ (.two (.two .nil (.two .nil (.two (.join ⟨[3,4,9,10,19,20,27,28],[(15,Zt68)],[]⟩ (.two (.loop ⟨[3,4,9,10,12,19,20,27,28],[(13,Zt68),(14,Zt68),(15,Zt68)],[]⟩ (.two (.two (.join ⟨[3,4,9,10,12,13,14,15,19,20,27,28],[(47,.bool)],[]⟩ .nil) .nil) .nil)) .nil)) .nil))) .nil)) .nil)))) .nil)))) .nil)) .nil)))) .nil))) .nil)))
noncomputable def endsLine_con:Con:=⟨[Zt21,Zt40,Zt68,Zt68],true,[],.bool,fun x=>qo6 x.1 x.2.1 x.2.2.1 x.2.2.2.1,none⟩
noncomputable def qoa:Env:=(272,.body Tryz.f272)::(159,.ck 197)::[]
theorem qtP (x:DL endsLine_con.ps):endsLine_con.φ x=denF Tryz.prog qoa qob Tryz.f231 endsLine_con.ps endsLine_con.one endsLine_con.res endsLine_con.ρ x:=by kernel_rfl
theorem qvX:ConOK Tryz.prog 231 endsLine_con :=
  qc (env:=qoa) ((EnvOK.body (EnvOK.check (EnvOK.nil _) qd) Tryz.func272)) mixed Tryz.func231 endsLine_con qob (by kernel_rfl) (fun h=>by first | rfl | cases h) (fun g hg=>by cases hg) qtP
def qjo:Ann := .nil
noncomputable def rulesIsLast_con:Con:=⟨[Zt21,Zt68,Zt68],true,[],.bool,fun x=>qfh x.1 x.2.1 x.2.2.1,none⟩
noncomputable def qjd:Env:=[]
theorem qqi (x:DL rulesIsLast_con.ps):rulesIsLast_con.φ x=denF Tryz.prog qjd qjo Tryz.f190 rulesIsLast_con.ps rulesIsLast_con.one rulesIsLast_con.res rulesIsLast_con.ρ x:=by kernel_rfl
theorem qkP:ConOK Tryz.prog 190 rulesIsLast_con :=
  qc (env:=qjd) ((EnvOK.nil _)) mixed Tryz.func190 rulesIsLast_con qjo (by kernel_rfl) (fun h=>by first | rfl | cases h) (fun g hg=>by cases hg) qqi
def qmZ:Ann:=(.two .nil (.two (.two .nil (.joinE ⟨[3,5,6],[],[]⟩ (.two (.two .nil (.two .nil (.two .nil (.two (.two (.two .nil (.joinE ⟨[3,5,6],[],[]⟩ (.two (.loop ⟨[3,4,5,6,27,28],[(29,Zt68)],[]⟩ .nil) .nil))) .nil) .nil)))) .nil))) (.two .nil (.two (.two .nil (.join ⟨[6],[(11,Zt68)],[]⟩ (.two (.loop ⟨[3,6,50,51],[(11,Zt68),(52,Zt68)],[]⟩ (.two .nil (.two .nil (.two (.two (.two .nil (.two .nil (.join ⟨[3,6,50,51,52],[(11,Zt68)],[]⟩ .nil))) .nil) .nil)))) .nil))) .nil))))
noncomputable def endsHolds_con:Con:=⟨[Zt21,Zt40,Zt53,Zt68],true,[],.bool,fun x=>ql6 x.1 x.2.1 x.2.2.1 x.2.2.2.1,none⟩
noncomputable def qlT:Env:=(190,.con rulesIsLast_con)::(231,.con endsLine_con)::[]
theorem qsR (x:DL endsHolds_con.ps):endsHolds_con.φ x=denF Tryz.prog qlT qmZ Tryz.f196 endsHolds_con.ps endsHolds_con.one endsHolds_con.res endsHolds_con.ρ x:=by kernel_rfl
theorem qt7:ConOK Tryz.prog 196 endsHolds_con :=
  qc (env:=qlT) ((EnvOK.cons (EnvOK.cons (EnvOK.nil _) qvX) qkP)) mixed Tryz.func196 endsHolds_con qmZ (by kernel_rfl) (fun h=>by first | rfl | cases h) (fun g hg=>by cases hg) qsR
def qon:Ann := .nil
noncomputable def endsWins_con:Con:=⟨[Zt68],true,[],Zt68,fun x=>qn7 x.1,some fun x=>qdt x.1⟩
noncomputable def qom:Env:=[]
theorem quk (x:DL endsWins_con.ps):endsWins_con.φ x=denF Tryz.prog qom qon Tryz.f197 endsWins_con.ps endsWins_con.one endsWins_con.res endsWins_con.ρ x:=by kernel_rfl
theorem qvT:ConOK Tryz.prog 197 endsWins_con :=
  qc (env:=qom) ((EnvOK.nil _)) mixed Tryz.func197 endsWins_con qon (by kernel_rfl) (fun h=>by first | rfl | cases h) (fun g hg x=>by
    cases hg
    exact qwj _) quk
def qiZ:Ann:=(.two .nil (.two (.two .nil (.joinE ⟨[],[],[]⟩ (.two (.loop ⟨[3,4],[(2,Zt68)],[]⟩ .nil) .nil))) .nil))
noncomputable def movesFilled_con:Con:=⟨[Zt21,Zt40,Zt68],true,[],.bool,fun x=>qhM x.1 x.2.1 x.2.2.1,none⟩
noncomputable def qjw:Env:=[]
theorem qpr (x:DL movesFilled_con.ps):movesFilled_con.φ x=denF Tryz.prog qjw qiZ Tryz.f228 movesFilled_con.ps movesFilled_con.one movesFilled_con.res movesFilled_con.ρ x:=by kernel_rfl
theorem qrf:ConOK Tryz.prog 228 movesFilled_con :=
  qc (env:=qjw) ((EnvOK.nil _)) mixed Tryz.func228 movesFilled_con qiZ (by kernel_rfl) (fun h=>by first | rfl | cases h) (fun g hg=>by cases hg) qpr
def qmr:Ann:=(.two .nil (.two .nil (.two (.two .nil (.join ⟨[],[(5,Zt55)],[]⟩ (.two (.loop ⟨[2,3,11,12],[(5,Zt55),(13,Zt68)],[]⟩ (.two .nil (.two .nil (.two (.join ⟨[2,3,11,12,13],[(5,Zt55)],[(2,none)]⟩ (.two (.two .nil (.two .nil (.two .nil (.join ⟨[2,3,11,12,13],[(5,Zt55)],[(2,none)]⟩ (.two (.loop ⟨[2,3,6,11,12,13,41,42],[(5,Zt55),(43,Zt68)],[(2,none)]⟩ (.two .nil (.two .nil (.two (.two (.two .nil (.two .nil (.join ⟨[2,3,6,11,12,13,41,42,43],[(5,Zt55)],[(3,none)]⟩ .nil))) .nil) .nil)))) .nil))))) .nil)) .nil)))) .nil))) .nil)))
noncomputable def movesPuts_con:Con:=⟨[Zt21,Zt40],true,[],Zt55,fun x=>qlI x.1 x.2.1,none⟩
noncomputable def qmi:Env:=(228,.con movesFilled_con)::[]
theorem qs4 (x:DL movesPuts_con.ps):movesPuts_con.φ x=denF Tryz.prog qmi qmr Tryz.f188 movesPuts_con.ps movesPuts_con.one movesPuts_con.res movesPuts_con.ρ x:=by kernel_rfl
theorem qtK:ConOK Tryz.prog 188 movesPuts_con :=
  qc (env:=qmi) ((EnvOK.cons (EnvOK.nil _) qrf)) mixed Tryz.func188 movesPuts_con qmr (by kernel_rfl) (fun h=>by first | rfl | cases h) (fun g hg=>by cases hg) qs4
def qoq:Ann:=(.two .nil (.two .nil (.two .nil (.two (.two .nil (.join ⟨[2,4,5,7,9],[(10,Zt68)],[]⟩ .nil)) (.two .nil (.two (.two .nil (.join ⟨[],[(9,Zt66)],[]⟩ (.two (.loop ⟨[4,5,7,10,31],[(9,Zt66),(11,Zt68),(12,Zt68),(32,Zt68)],[]⟩ (.two .nil (.two .nil (.two (.two (.two .nil (.two .nil (.two .nil (.two .nil (.two (.two .nil (.join ⟨[4,5,7,10,11,12,13,31,32],[(9,Zt66)],[(3,none)]⟩ .nil)) .nil))))) .nil) .nil)))) .nil))) .nil))))))
noncomputable def movesWay_con:Con:=⟨[Zt21,Zt40,Zt68,Zt50],true,[],Zt66,fun x=>qpc x.1 x.2.1 x.2.2.1 x.2.2.2.1,none⟩
noncomputable def qoE:Env:=[]
theorem qvg (x:DL movesWay_con.ps):movesWay_con.φ x=denF Tryz.prog qoE qoq Tryz.f189 movesWay_con.ps movesWay_con.one movesWay_con.res movesWay_con.ρ x:=by kernel_rfl
theorem qvy:ConOK Tryz.prog 189 movesWay_con :=
  qc (env:=qoE) ((EnvOK.nil _)) mixed Tryz.func189 movesWay_con qoq (by kernel_rfl) (fun h=>by first | rfl | cases h) (fun g hg=>by cases hg) qvg
def qme:Ann:=(.two .nil (.two .nil (.two (.two .nil (.join ⟨[],[(5,Zt55)],[(2,none)]⟩ (.two (.loop ⟨[2,3,19,20],[(5,Zt55),(21,Zt68)],[(2,none)]⟩ (.two .nil (.two .nil (.two (.join ⟨[2,3,19,20,21],[(5,Zt55)],[(3,none)]⟩ (.two (.two .nil (.two .nil (.two .nil (.two .nil (.join ⟨[2,3,19,20,21],[(5,Zt55)],[(3,none)]⟩ (.two (.loop ⟨[2,3,6,8,19,20,21,44,45],[(5,Zt55),(46,Zt68)],[(3,none)]⟩ (.two .nil (.two .nil (.two (.join ⟨[2,3,6,8,19,20,21,44,45,46],[(5,Zt55)],[(4,none)]⟩ (.two (.two .nil (.two .nil (.join ⟨[2,3,6,8,19,20,21,44,45,46],[(5,Zt55)],[(4,none)]⟩ (.two (.loop ⟨[2,3,6,8,19,20,21,44,45,46,54,55],[(5,Zt55),(56,Zt68)],[(4,none)]⟩ (.two .nil (.two .nil (.two (.two (.two .nil (.two .nil (.two (.two .nil (.two .nil (.join ⟨[2,3,5,6,8,13,19,20,21,44,45,46,54,55,56],[],[(8,some (.box Zt58))]⟩ .nil))) .nil))) .nil) .nil)))) .nil)))) .nil)) .nil)))) .nil)))))) .nil)) .nil)))) .nil))) (.two .nil (.two (.join ⟨[],[(4,Zt55)],[(3,none)]⟩ (.two (.two .nil (.two .nil (.two (.two .nil (.joinE ⟨[0],[],[(3,some (.arr 41 Zt58))]⟩ (.two (.loop ⟨[0],[(3,Zt68)],[(3,some (.arr 41 Zt58))]⟩ (.two .nil (.two (.joinE ⟨[0],[(3,Zt68)],[(3,some (.arr 41 Zt58))]⟩ (.two (.two .nil (.two (.two (.own .nil) (.two (.two .nil (.join ⟨[0],[(3,Zt68)],[(3,some (.arr 41 Zt58))]⟩ (.two (.loop ⟨[0,4],[(3,Zt68),(5,Zt68)],[(3,some (.arr 41 Zt58))]⟩ (.two .nil (.two (.two (.two .nil (.join ⟨[0,4,5],[(3,Zt68)],[(3,some (.arr 41 Zt58))]⟩ .nil)) .nil) .nil))) .nil))) (.two (.own .nil) (.two (.own .nil) .nil)))) .nil)) .nil)) .nil))) .nil))) .nil))) .nil)) .nil)))))
noncomputable def movesList_con:Con:=⟨[Zt21,Zt40],true,[],Zt55,fun x=>qaw x.1 x.2.1,none⟩
noncomputable def qmm:Env:=(193,.body Tryz.f193)::(191,.srt qhC)::(190,.con rulesIsLast_con)::(189,.con movesWay_con)::(159,.ck 197)::(188,.con movesPuts_con)::[]
theorem qs3 (x:DL movesList_con.ps):movesList_con.φ x=denF Tryz.prog qmm qme Tryz.f137 movesList_con.ps movesList_con.one movesList_con.res movesList_con.ρ x:=by kernel_rfl
theorem qeo:ConOK Tryz.prog 137 movesList_con :=
  qc (env:=qmm) ((EnvOK.body (EnvOK.sort (EnvOK.cons (EnvOK.cons (EnvOK.check (EnvOK.cons (EnvOK.nil _) qtK) qd) qvy) qkP) quy) Tryz.func193)) mixed Tryz.func137 movesList_con qme (by kernel_rfl) (fun h=>by first | rfl | cases h) (fun g hg=>by cases hg) qs3
def qkT:Ann:=(.two .nil (.two .nil (.two (.two (.two (.two .nil (.two (.two .nil (.joinE ⟨[],[],[]⟩ (.two (.loop ⟨[0,1,7],[(8,Zt68)],[]⟩ .nil) .nil))) .nil)) .nil) .nil) .nil)))
noncomputable def endsResult_con:Con:=⟨[Zt21,Zt40],true,[],Zt68,fun x=>qd7 x.1 x.2.1,none⟩
noncomputable def qkA:Env:=(197,.con endsWins_con)::(137,.con movesList_con)::(196,.con endsHolds_con)::(195,.body Tryz.f195)::(194,.body Tryz.f194)::(159,.ck 197)::[]
theorem qqS (x:DL endsResult_con.ps):endsResult_con.φ x=denF Tryz.prog qkA qkT Tryz.f139 endsResult_con.ps endsResult_con.one endsResult_con.res endsResult_con.ρ x:=by kernel_rfl
theorem qhL:ConOK Tryz.prog 139 endsResult_con :=
  qc (env:=qkA) ((EnvOK.cons (EnvOK.cons (EnvOK.cons (EnvOK.body (EnvOK.body (EnvOK.check (EnvOK.nil _) qd) Tryz.func194) Tryz.func195) qt7) qeo) qvT)) mixed Tryz.func139 endsResult_con qkT (by kernel_rfl) (fun h=>by first | rfl | cases h) (fun g hg=>by cases hg) qqS
def qrt:Ann := .nil
noncomputable def endsOf_con:Con:=⟨[Zt21,Zt40],false,[Zt68,Zt68],Zt61,fun x=>qwz x.1 x.2.1,none⟩
noncomputable def qrz:Env:=(139,.con endsResult_con)::(74,.con placeCheck_con)::[]
theorem qx0 (x:DL endsOf_con.ps):endsOf_con.φ x=denF Tryz.prog qrz qrt Tryz.f143 endsOf_con.ps endsOf_con.one endsOf_con.res endsOf_con.ρ x:=by kernel_rfl
theorem endsOf_ok:ConOK Tryz.prog 143 endsOf_con :=
  qc (env:=qrz) ((EnvOK.cons (EnvOK.cons (EnvOK.nil _) qe5) qhL)) mixed Tryz.func143 endsOf_con qrt (by kernel_rfl) (fun h=>by first | rfl | cases h) (fun g hg=>by cases hg) qx0
def qmE:Ann := .nil
noncomputable def endsMoves_con:Con:=⟨[Zt21,Zt40],true,[],Zt55,fun x=>qgZ x.1 x.2.1,none⟩
noncomputable def qnb:Env:=(137,.con movesList_con)::(139,.con endsResult_con)::[]
theorem qsV (x:DL endsMoves_con.ps):endsMoves_con.φ x=denF Tryz.prog qnb qmE Tryz.f168 endsMoves_con.ps endsMoves_con.one endsMoves_con.res endsMoves_con.ρ x:=by kernel_rfl
theorem qop:ConOK Tryz.prog 168 endsMoves_con :=
  qc (env:=qnb) ((EnvOK.cons (EnvOK.cons (EnvOK.nil _) qhL) qeo)) mixed Tryz.func168 endsMoves_con qmE (by kernel_rfl) (fun h=>by first | rfl | cases h) (fun g hg=>by cases hg) qsV
def qoN:Ann := .nil
noncomputable def movesAll_con:Con:=⟨[Zt21,Zt40],false,[Zt55,Zt68],(.st Zt55 Zt65),fun x=>qo9 x.1 x.2.1,none⟩
noncomputable def qoO:Env:=(137,.con movesList_con)::(74,.con placeCheck_con)::[]
theorem quf (x:DL movesAll_con.ps):movesAll_con.φ x=denF Tryz.prog qoO qoN Tryz.f97 movesAll_con.ps movesAll_con.one movesAll_con.res movesAll_con.ρ x:=by kernel_rfl
theorem qvP:ConOK Tryz.prog 97 movesAll_con :=
  qc (env:=qoO) ((EnvOK.cons (EnvOK.cons (EnvOK.nil _) qe5) qeo)) mixed Tryz.func97 movesAll_con qoN (by kernel_rfl) (fun h=>by first | rfl | cases h) (fun g hg=>by cases hg) quf
def qeX:Ann:=(.two .nil (.two (.two .nil (.joinE ⟨[],[],[]⟩ (.two (.loop ⟨[0,3,7],[(8,Zt68)],[]⟩ .nil) .nil))) .nil))
noncomputable def slicesIndex_Move_con:Con:=⟨[Zt57,Zt58],true,[],Zt68,fun x=>qeO x.1 x.2.1,none⟩
noncomputable def qeT:Env:=[]
theorem qj8 (x:DL slicesIndex_Move_con.ps):slicesIndex_Move_con.φ x=denF Tryz.prog qeT qeX Tryz.f158 slicesIndex_Move_con.ps slicesIndex_Move_con.one slicesIndex_Move_con.res slicesIndex_Move_con.ρ x:=by kernel_rfl
theorem qle:ConOK Tryz.prog 158 slicesIndex_Move_con :=
  qc (env:=qeT) ((EnvOK.nil _)) mixed Tryz.func158 slicesIndex_Move_con qeX (by kernel_rfl) (fun h=>by first | rfl | cases h) (fun g hg=>by cases hg) qj8
def qdG:Ann := .nil
noncomputable def slicesContains_Move_con:Con:=⟨[Zt57,Zt58],true,[],.bool,fun x=>qt x.1 x.2.1,none⟩
noncomputable def qc1:Env:=(158,.con slicesIndex_Move_con)::[]
theorem qhz (x:DL slicesContains_Move_con.ps):slicesContains_Move_con.φ x=denF Tryz.prog qc1 qdG Tryz.f98 slicesContains_Move_con.ps slicesContains_Move_con.one slicesContains_Move_con.res slicesContains_Move_con.ρ x:=by kernel_rfl
theorem qai:ConOK Tryz.prog 98 slicesContains_Move_con :=
  qc (env:=qc1) ((EnvOK.cons (EnvOK.nil _) qle)) mixed Tryz.func98 slicesContains_Move_con qdG (by kernel_rfl) (fun h=>by first | rfl | cases h) (fun g hg=>by cases hg) qhz
def qkW:Ann := .nil
noncomputable def movesLegal_con:Con:=⟨[Zt21,Zt40,Zt58],false,[.bool,Zt68],Zt63,fun x=>qd0 x.1 x.2.1 x.2.2.1,none⟩
noncomputable def qkV:Env:=(98,.con slicesContains_Move_con)::(97,.con movesAll_con)::[]
theorem qq8 (x:DL movesLegal_con.ps):movesLegal_con.φ x=denF Tryz.prog qkV qkW Tryz.f39 movesLegal_con.ps movesLegal_con.one movesLegal_con.res movesLegal_con.ρ x:=by kernel_rfl
theorem qhN:ConOK Tryz.prog 39 movesLegal_con :=
  qc (env:=qkV) ((EnvOK.cons (EnvOK.cons (EnvOK.nil _) qvP) qai)) mixed Tryz.func39 movesLegal_con qkW (by kernel_rfl) (fun h=>by first | rfl | cases h) (fun g hg=>by cases hg) qq8
def qfp:Ann := .nil
noncomputable def slicesClone_int_con:Con:=⟨[Zt67],true,[],Zt66,fun x=>qO x.1,none⟩
noncomputable def qfK:Env:=[]
theorem qly (x:DL slicesClone_int_con.ps):slicesClone_int_con.φ x=denF Tryz.prog qfK qfp Tryz.f68 slicesClone_int_con.ps slicesClone_int_con.one slicesClone_int_con.res slicesClone_int_con.ρ x:=by kernel_rfl
theorem qdl:ConOK Tryz.prog 68 slicesClone_int_con :=
  qc (env:=qfK) ((EnvOK.nil _)) mixed Tryz.func68 slicesClone_int_con qfp (by kernel_rfl) (fun h=>by first | rfl | cases h) (fun g hg=>by cases hg) qly
def qmQ:Ann:=(.two .nil (.two .nil (.two (.join ⟨[1,2],[],[(0,some (.box Zt41)),(2,none)]⟩ (.any 887 0 (.ord 0 0 .nil (.ord 1 0 .nil (.ord 2 115 .nil (.ord 4 0 .nil (.ord 5 0 .nil (.alt (.ord 3 0 .nil (.ord 6 0 .nil (.ord 7 0 .nil (.ord 8 0 .nil (.ord 9 0 .nil (.ord 10 0 .nil .nil)))))) (.ord 6 0 .nil (.ord 3 0 .nil (.ord 7 0 .nil (.ord 8 0 .nil (.ord 9 0 .nil (.ord 10 0 .nil .nil)))))))))))))) .nil)))
noncomputable def placeCopy_con:Con:=⟨[Zt40],true,[],Zt36,fun x=>qfo x.1,none⟩
noncomputable def qma:Env:=(68,.con slicesClone_int_con)::(159,.ck 197)::[]
theorem qtt (x:DL placeCopy_con.ps):placeCopy_con.φ x=denF Tryz.prog qma qmQ Tryz.f126 placeCopy_con.ps placeCopy_con.one placeCopy_con.res placeCopy_con.ρ x:=by kernel_rfl
theorem qoh:ConOK Tryz.prog 126 placeCopy_con :=
  qc (env:=qma) ((EnvOK.cons (EnvOK.check (EnvOK.nil _) qd) qdl)) mixed Tryz.func126 placeCopy_con qmQ (by kernel_rfl) (fun h=>by first | rfl | cases h) (fun g hg=>by cases hg) qtt
def qnj:Ann:=(.two .nil (.two .nil (.two .nil (.two (.two .nil (.join ⟨[3,4,5,6,7,8],[],[(4,some (.arr 3 Zt68)),(5,some (.arr 3 Zt68)),(6,some (.arr 3 Zt68))]⟩ (.two .nil (.join ⟨[3,4,5,6,7,8],[],[(5,some (.arr 3 Zt68)),(6,some (.arr 3 Zt68))]⟩ (.tail 11 .nil))))) (.two .nil (.two (.two .nil (.join ⟨[4,5,6,7,8],[],[(5,some (.arr 3 Zt68)),(6,some (.arr 3 Zt68))]⟩ (.two (.two .nil (.join ⟨[4,5,6,7,8],[],[(5,some (.arr 3 Zt68)),(6,some (.arr 3 Zt68))]⟩ (.tail 17 .nil))) .nil))) (.two .nil (.two (.two .nil (.join ⟨[4,6,7],[],[(4,none),(5,none),(6,none),(7,some (.box Zt41))]⟩ .nil)) .nil))))))))
noncomputable def movesMake_con:Con:=⟨[Zt21,Zt40,Zt58],true,[],Zt36,fun x=>qL x.1 x.2.1 x.2.2.1,none⟩
noncomputable def ql0:Env:=(126,.con placeCopy_con)::(159,.ck 197)::[]
theorem qtd (x:DL movesMake_con.ps):movesMake_con.φ x=denF Tryz.prog ql0 qnj Tryz.f63 movesMake_con.ps movesMake_con.one movesMake_con.res movesMake_con.ρ x:=by kernel_rfl
theorem qoA:ConOK Tryz.prog 63 movesMake_con :=
  qc (env:=ql0) ((EnvOK.cons (EnvOK.check (EnvOK.nil _) qd) qoh)) mixed Tryz.func63 movesMake_con qnj (by kernel_rfl) (fun h=>by first | rfl | cases h) (fun g hg=>by cases hg) qtd
def qkp:Ann := .nil
noncomputable def movesAfter_con:Con:=⟨[Zt21,Zt40,Zt58],false,[Zt36,Zt68],Zt29,fun x=>qc0 x.1 x.2.1 x.2.2.1,none⟩
noncomputable def qkf:Env:=(63,.con movesMake_con)::(39,.con movesLegal_con)::(159,.ck 197)::[]
theorem qqU (x:DL movesAfter_con.ps):movesAfter_con.φ x=denF Tryz.prog qkf qkp Tryz.f142 movesAfter_con.ps movesAfter_con.one movesAfter_con.res movesAfter_con.ρ x:=by kernel_rfl
theorem qtf:ConOK Tryz.prog 142 movesAfter_con :=
  qc (env:=qkf) ((EnvOK.cons (EnvOK.cons (EnvOK.check (EnvOK.nil _) qd) qhN) qoA)) mixed Tryz.func142 movesAfter_con qkp (by kernel_rfl) (fun h=>by first | rfl | cases h) (fun g hg=>by cases hg) qqU
def qY:Ann:=(.ord 13 0 .nil (.ord 16 0 .nil (.ord 18 0 .nil (.ord 19 0 .nil .nil))))
def qdr:Ann:=(.alt (.ord 6 0 .nil (.ord 15 0 .nil (.ord 12 0 .nil qY))) (.ord 12 0 .nil (.ord 6 0 .nil (.ord 15 0 .nil qY))))
def qiM:Ann:=(.alt (.ord 6 0 .nil (.ord 9 155135 .nil (.ord 15 0 .nil (.ord 12 0 .nil qY)))) (.alt (.ord 9 0 .nil qdr) (.ord 12 0 .nil (.alt (.ord 6 0 .nil (.ord 9 0 .nil (.ord 15 0 .nil qY))) (.ord 9 0 .nil (.ord 6 0 .nil (.ord 15 0 .nil qY)))))))
def qfr:Ann:=(.ord 11 182271 .nil (.ord 15 0 .nil (.ord 12 0 .nil qY)))
def qiz:Ann:=(.alt (.ord 5 0 .nil qdr) (.ord 12 0 .nil (.ord 5 0 .nil (.ord 6 0 .nil (.ord 15 0 .nil qY)))))
def qkB:Ann:=(.two .nil (.two .nil (.two .nil (.two (.two .nil (.join ⟨[2,5],[],[(2,none),(3,some (.box Zt41))]⟩ (.two (.loop ⟨[2,5,19,20],[(21,Zt68)],[(2,none),(3,some (.box Zt41))]⟩ (.two .nil (.two .nil (.two (.two (.two .nil (.join ⟨[2,5,19,20,21],[],[(3,some (.box Zt41)),(4,none),(5,none),(6,none)]⟩ (.any 446367 4128 (.ord 0 0 .nil (.ord 1 0 .nil (.ord 2 155579 .nil (.ord 3 0 .nil (.ord 4 155535 .nil (.ord 7 0 .nil (.ord 8 0 .nil (.ord 10 0 .nil (.ord 14 0 .nil (.ord 17 0 .nil (.alt (.ord 5 0 .nil (.alt (.ord 6 0 .nil (.ord 9 155135 .nil qfr)) (.alt (.ord 9 0 .nil (.alt (.ord 6 0 .nil qfr) (.ord 11 0 .nil qdr))) (.ord 11 0 .nil qiM)))) (.alt (.ord 9 0 .nil (.alt (.ord 5 0 .nil (.alt (.ord 6 0 .nil qfr) (.ord 11 0 .nil qdr))) (.ord 11 0 .nil qiz))) (.ord 11 0 .nil (.alt (.ord 5 0 .nil qiM) (.alt (.ord 9 0 .nil qiz) (.ord 12 0 .nil (.alt (.ord 5 0 .nil (.alt (.ord 6 0 .nil (.ord 9 0 .nil (.ord 15 0 .nil qY))) (.ord 9 0 .nil (.ord 6 0 .nil (.ord 15 0 .nil qY))))) (.ord 9 0 .nil (.ord 5 0 .nil (.ord 6 0 .nil (.ord 15 0 .nil qY)))))))))))))))))))))))) .nil) .nil)))) .nil))) .nil))))
noncomputable def placeBegin_con:Con:=⟨[Zt21],false,[Zt36,Zt68],Zt29,fun x=>qcY x.1,none⟩
noncomputable def qku:Env:=(68,.con slicesClone_int_con)::(67,.con rulesCheck_con)::(159,.ck 197)::[]
theorem qqR (x:DL placeBegin_con.ps):placeBegin_con.φ x=denF Tryz.prog qku qkB Tryz.f17 placeBegin_con.ps placeBegin_con.one placeBegin_con.res placeBegin_con.ρ x:=by kernel_rfl
theorem qe6:ConOK Tryz.prog 17 placeBegin_con :=
  qc (env:=qku) ((EnvOK.cons (EnvOK.cons (EnvOK.check (EnvOK.nil _) qd) qna) qdl)) mixed Tryz.func17 placeBegin_con qkB (by kernel_rfl) (fun h=>by first | rfl | cases h) (fun g hg=>by cases hg) qqR
def qfG:Ann:=(.two .nil (.two .nil (.two (.two .nil (.joinE ⟨[],[],[]⟩ (.two (.loop ⟨[0,1,12],[(13,Zt68)],[]⟩ .nil) .nil))) .nil)))
noncomputable def slicesEqual_int_con:Con:=⟨[Zt67,Zt67],true,[],.bool,fun x=>qbg x.1 x.2.1,none⟩
noncomputable def qfJ:Env:=[]
theorem qlj (x:DL slicesEqual_int_con.ps):slicesEqual_int_con.φ x=denF Tryz.prog qfJ qfG Tryz.f92 slicesEqual_int_con.ps slicesEqual_int_con.one slicesEqual_int_con.res slicesEqual_int_con.ρ x:=by kernel_rfl
theorem qml:ConOK Tryz.prog 92 slicesEqual_int_con :=
  qc (env:=qfJ) ((EnvOK.nil _)) mixed Tryz.func92 slicesEqual_int_con qfG (by kernel_rfl) (fun h=>by first | rfl | cases h) (fun g hg=>by cases hg) qlj
def qmO:Ann := .nil
noncomputable def placeSame_con:Con:=⟨[Zt40,Zt40],true,[],.bool,fun x=>qc9 x.1 x.2.1,none⟩
noncomputable def ql7:Env:=(92,.con slicesEqual_int_con)::[]
theorem qtq (x:DL placeSame_con.ps):placeSame_con.φ x=denF Tryz.prog ql7 qmO Tryz.f31 placeSame_con.ps placeSame_con.one placeSame_con.res placeSame_con.ρ x:=by kernel_rfl
theorem qol:ConOK Tryz.prog 31 placeSame_con :=
  qc (env:=ql7) ((EnvOK.cons (EnvOK.nil _) qml)) mixed Tryz.func31 placeSame_con qmO (by kernel_rfl) (fun h=>by first | rfl | cases h) (fun g hg=>by cases hg) qtq
def qdA:Ann := .nil
noncomputable def slicesClone_RuleWay_con:Con:=⟨[Zt48],true,[],(.osl 215 Zt50),fun x=>qbv x.1,none⟩
noncomputable def qdw:Env:=[]
theorem qhO (x:DL slicesClone_RuleWay_con.ps):slicesClone_RuleWay_con.φ x=denF Tryz.prog qdw qdA Tryz.f106 slicesClone_RuleWay_con.ps slicesClone_RuleWay_con.one slicesClone_RuleWay_con.res slicesClone_RuleWay_con.ρ x:=by kernel_rfl
theorem qiq:ConOK Tryz.prog 106 slicesClone_RuleWay_con :=
  qc (env:=qdw) ((EnvOK.nil _)) mixed Tryz.func106 slicesClone_RuleWay_con qdA (by kernel_rfl) (fun h=>by first | rfl | cases h) (fun g hg=>by cases hg) qhO
def qdD:Ann := .nil
noncomputable def slicesClone_RuleEnd_con:Con:=⟨[Zt51],true,[],Zt49,fun x=>qaQ x.1,none⟩
noncomputable def qdh:Env:=[]
theorem qhr (x:DL slicesClone_RuleEnd_con.ps):slicesClone_RuleEnd_con.φ x=denF Tryz.prog qdh qdD Tryz.f107 slicesClone_RuleEnd_con.ps slicesClone_RuleEnd_con.one slicesClone_RuleEnd_con.res slicesClone_RuleEnd_con.ρ x:=by kernel_rfl
theorem qir:ConOK Tryz.prog 107 slicesClone_RuleEnd_con :=
  qc (env:=qdh) ((EnvOK.nil _)) mixed Tryz.func107 slicesClone_RuleEnd_con qdD (by kernel_rfl) (fun h=>by first | rfl | cases h) (fun g hg=>by cases hg) qhr
def qmn:Ann:=(.two .nil (.two .nil (.two .nil (.two (.two .nil (.join ⟨[1,2,3],[],[(2,some (.box Zt20))]⟩ (.two (.loop ⟨[1,2,3,9,10],[(11,Zt68)],[(2,some (.box Zt20))]⟩ .nil) .nil))) (.two (.join ⟨[2,3],[],[(2,some (.box Zt19)),(3,none)]⟩ (.any 347 0 (.ord 0 0 .nil (.ord 1 25 .nil (.ord 3 0 .nil (.alt (.ord 2 0 .nil (.ord 4 79 .nil (.ord 6 0 .nil (.ord 5 0 .nil (.ord 7 0 .nil (.ord 8 0 .nil (.ord 9 0 .nil .nil))))))) (.ord 4 0 .nil (.ord 2 0 .nil (.ord 6 0 .nil (.ord 5 0 .nil (.ord 7 0 .nil (.ord 8 0 .nil (.ord 9 0 .nil .nil))))))))))))) .nil)))))
noncomputable def rulesCopy_con:Con:=⟨[Zt21],true,[],Zt21,fun x=>qN x.1,none⟩
noncomputable def qnk:Env:=(107,.con slicesClone_RuleEnd_con)::(68,.con slicesClone_int_con)::(106,.con slicesClone_RuleWay_con)::(159,.ck 197)::[]
theorem qsq (x:DL rulesCopy_con.ps):rulesCopy_con.φ x=denF Tryz.prog qnk qmn Tryz.f45 rulesCopy_con.ps rulesCopy_con.one rulesCopy_con.res rulesCopy_con.ρ x:=by kernel_rfl
theorem qjB:ConOK Tryz.prog 45 rulesCopy_con :=
  qc (env:=qnk) ((EnvOK.cons (EnvOK.cons (EnvOK.cons (EnvOK.check (EnvOK.nil _) qd) qiq) qdl) qir)) mixed Tryz.func45 rulesCopy_con qmn (by kernel_rfl) (fun h=>by first | rfl | cases h) (fun g hg=>by cases hg) qsq
end Go.Proofs.YtijkabgijfdpfaaGreatDoor

