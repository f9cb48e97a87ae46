/- Contracts: Core. No condition of its own. -/
import Derived.Test.YtcifaoaepbidoaaMAA
import Derived.Test.YtcifaoaepbidoaaMAG
import Derived.Test.YtcifaoaepbidoaaMAD
import Derived.Laws.CopyRow
import Derived.Shelf.Spec.SlicesInsertGrow
namespace Go.Proofs.Ytcifaoaepbidoaa
open Go.Den
set_option linter.unusedVariables false
set_option maxRecDepth 100000
def qh7:Ann:=(.two .nil (.two .nil (.two (.two .nil (.joinE ⟨[],[],[]⟩ (.two (.loop ⟨[3,4,9,19],[(20,Zt22)],[]⟩ (.two .nil (.two .nil (.two (.joinE ⟨[3,4,9,19,20],[],[]⟩ (.two (.two .nil (.two .nil (.joinE ⟨[3,4,9,19,20],[],[]⟩ (.two (.loop ⟨[3,4,9,10,19,20,27],[(28,Zt22)],[]⟩ (.two .nil (.two .nil (.two (.joinE ⟨[3,4,9,10,19,20,27,28],[],[]⟩ (.two (.two .nil (.two .nil (.two (.join ⟨[3,4,9,10,19,20,27,28],[(15,Zt22)],[]⟩ (.two (.loop ⟨[3,4,9,10,12,19,20,27,28],[(13,Zt22),(14,Zt22),(15,Zt22)],[]⟩ (.two (.two (.join ⟨[3,4,9,10,12,13,14,15,19,20,27,28],[(47,.bool)],[]⟩ .nil) .nil) .nil)) .nil)) .nil))) .nil)) .nil)))) .nil)))) .nil)) .nil)))) .nil))) .nil)))
noncomputable def endsLine_con:Con:=⟨[Zt4,Zt10,Zt22,Zt22],true,[],.bool,fun x=>qiv x.1 x.2.1 x.2.2.1 x.2.2.2.1,none⟩
noncomputable def qh4:Env:=(139,.body Try.f139)::[]
theorem qlN (x:DL endsLine_con.ps):endsLine_con.φ x=denF Try.prog qh4 qh7 Try.f125 endsLine_con.ps endsLine_con.one endsLine_con.res endsLine_con.ρ x:=by kernel_rfl
theorem qnD:ConOK Try.prog 125 endsLine_con :=
  qi (env:=qh4) ((EnvOK.body (EnvOK.nil _) Try.func139)) mixed Try.func125 endsLine_con qh7 (by kernel_rfl) (fun h=>by first | rfl | cases h) (fun g hg=>by cases hg) qlN
def qeU:Ann := .nil
noncomputable def rulesIsLast_con:Con:=⟨[Zt4,Zt22,Zt22],true,[],.bool,fun x=>qcS x.1 x.2.1 x.2.2.1,none⟩
noncomputable def qfe:Env:=[]
theorem qi4 (x:DL rulesIsLast_con.ps):rulesIsLast_con.φ x=denF Try.prog qfe qeU Try.f100 rulesIsLast_con.ps rulesIsLast_con.one rulesIsLast_con.res rulesIsLast_con.ρ x:=by kernel_rfl
theorem qfI:ConOK Try.prog 100 rulesIsLast_con :=
  qi (env:=qfe) ((EnvOK.nil _)) mixed Try.func100 rulesIsLast_con qeU (by kernel_rfl) (fun h=>by first | rfl | cases h) (fun g hg=>by cases hg) qi4
def qgQ:Ann:=(.two .nil (.two (.two .nil (.joinE ⟨[3,5,6],[],[]⟩ (.two (.two .nil (.two .nil (.two .nil (.two (.two (.two .nil (.joinE ⟨[3,5,6],[],[]⟩ (.two (.loop ⟨[3,4,5,6,27,28],[(29,Zt22)],[]⟩ .nil) .nil))) .nil) .nil)))) .nil))) (.two .nil (.two (.two .nil (.join ⟨[6],[(11,Zt22)],[]⟩ (.two (.loop ⟨[3,6,50,51],[(11,Zt22),(52,Zt22)],[]⟩ (.two .nil (.two .nil (.two (.two (.two .nil (.two .nil (.join ⟨[3,6,50,51,52],[(11,Zt22)],[]⟩ .nil))) .nil) .nil)))) .nil))) .nil))))
noncomputable def endsHolds_con:Con:=⟨[Zt4,Zt10,Zt14,Zt22],true,[],.bool,fun x=>qgZ x.1 x.2.1 x.2.2.1 x.2.2.2.1,none⟩
noncomputable def qhd:Env:=(100,.con rulesIsLast_con)::(125,.con endsLine_con)::[]
theorem qk0 (x:DL endsHolds_con.ps):endsHolds_con.φ x=denF Try.prog qhd qgQ Try.f93 endsHolds_con.ps endsHolds_con.one endsHolds_con.res endsHolds_con.ρ x:=by kernel_rfl
theorem ql8:ConOK Try.prog 93 endsHolds_con :=
  qi (env:=qhd) ((EnvOK.cons (EnvOK.cons (EnvOK.nil _) qnD) qfI)) mixed Try.func93 endsHolds_con qgQ (by kernel_rfl) (fun h=>by first | rfl | cases h) (fun g hg=>by cases hg) qk0
def qii:Ann := .nil
noncomputable def endsWins_con:Con:=⟨[Zt22],true,[],Zt22,fun x=>qhJ x.1,some fun x=>qbx x.1⟩
noncomputable def qhX:Env:=[]
theorem qlG (x:DL endsWins_con.ps):endsWins_con.φ x=denF Try.prog qhX qii Try.f94 endsWins_con.ps endsWins_con.one endsWins_con.res endsWins_con.ρ x:=by kernel_rfl
theorem qne:ConOK Try.prog 94 endsWins_con :=
  qi (env:=qhX) ((EnvOK.nil _)) mixed Try.func94 endsWins_con qii (by kernel_rfl) (fun h=>by first | rfl | cases h) (fun g hg x=>by
    cases hg
    exact qnd _) qlG
def qeZ:Ann:=(.two .nil (.two (.two .nil (.joinE ⟨[],[],[]⟩ (.two (.loop ⟨[3,4],[(2,Zt22)],[]⟩ .nil) .nil))) .nil))
noncomputable def movesFilled_con:Con:=⟨[Zt4,Zt10,Zt22],true,[],.bool,fun x=>qd9 x.1 x.2.1 x.2.2.1,none⟩
noncomputable def qeG:Env:=[]
theorem qjI (x:DL movesFilled_con.ps):movesFilled_con.φ x=denF Try.prog qeG qeZ Try.f129 movesFilled_con.ps movesFilled_con.one movesFilled_con.res movesFilled_con.ρ x:=by kernel_rfl
theorem qjY:ConOK Try.prog 129 movesFilled_con :=
  qi (env:=qeG) ((EnvOK.nil _)) mixed Try.func129 movesFilled_con qeZ (by kernel_rfl) (fun h=>by first | rfl | cases h) (fun g hg=>by cases hg) qjI
def qgq:Ann:=(.two .nil (.two .nil (.two (.two .nil (.join ⟨[],[(5,Zt15)],[]⟩ (.two (.loop ⟨[2,3,11,12],[(5,Zt15),(13,Zt22)],[]⟩ (.two .nil (.two .nil (.two (.join ⟨[2,3,11,12,13],[(5,Zt15)],[(2,none)]⟩ (.two (.two .nil (.two .nil (.two .nil (.join ⟨[2,3,11,12,13],[(5,Zt15)],[(2,none)]⟩ (.two (.loop ⟨[2,3,6,11,12,13,41,42],[(5,Zt15),(43,Zt22)],[(2,none)]⟩ (.two .nil (.two .nil (.two (.two (.two .nil (.two .nil (.join ⟨[2,3,6,11,12,13,41,42,43],[(5,Zt15)],[(3,none)]⟩ .nil))) .nil) .nil)))) .nil))))) .nil)) .nil)))) .nil))) .nil)))
noncomputable def movesPuts_con:Con:=⟨[Zt4,Zt10],true,[],Zt15,fun x=>qhg x.1 x.2.1,none⟩
noncomputable def qg8:Env:=(129,.con movesFilled_con)::[]
theorem qll (x:DL movesPuts_con.ps):movesPuts_con.φ x=denF Try.prog qg8 qgq Try.f98 movesPuts_con.ps movesPuts_con.one movesPuts_con.res movesPuts_con.ρ x:=by kernel_rfl
theorem qms:ConOK Try.prog 98 movesPuts_con :=
  qi (env:=qg8) ((EnvOK.cons (EnvOK.nil _) qjY)) mixed Try.func98 movesPuts_con qgq (by kernel_rfl) (fun h=>by first | rfl | cases h) (fun g hg=>by cases hg) qll
def qih:Ann:=(.two .nil (.two .nil (.two .nil (.two (.two .nil (.join ⟨[2,4,5,7,9],[(10,Zt22)],[]⟩ .nil)) (.two .nil (.two (.two .nil (.join ⟨[],[(9,Zt19)],[]⟩ (.two (.loop ⟨[4,5,7,10,31],[(9,Zt19),(11,Zt22),(12,Zt22),(32,Zt22)],[]⟩ (.two .nil (.two .nil (.two (.two (.two .nil (.two .nil (.two .nil (.two .nil (.two (.two .nil (.join ⟨[4,5,7,10,11,12,13,31,32],[(9,Zt19)],[(3,none)]⟩ .nil)) .nil))))) .nil) .nil)))) .nil))) .nil))))))
noncomputable def movesWay_con:Con:=⟨[Zt4,Zt10,Zt22,Zt12],true,[],Zt19,fun x=>qis x.1 x.2.1 x.2.2.1 x.2.2.2.1,none⟩
noncomputable def qid:Env:=[]
theorem qmf (x:DL movesWay_con.ps):movesWay_con.φ x=denF Try.prog qid qih Try.f99 movesWay_con.ps movesWay_con.one movesWay_con.res movesWay_con.ρ x:=by kernel_rfl
theorem qnh:ConOK Try.prog 99 movesWay_con :=
  qi (env:=qid) ((EnvOK.nil _)) mixed Try.func99 movesWay_con qih (by kernel_rfl) (fun h=>by first | rfl | cases h) (fun g hg=>by cases hg) qmf
def qgC:Ann:=(.two .nil (.two .nil (.two (.two .nil (.join ⟨[],[(5,Zt15)],[(2,none)]⟩ (.two (.loop ⟨[2,3,19,20],[(5,Zt15),(21,Zt22)],[(2,none)]⟩ (.two .nil (.two .nil (.two (.join ⟨[2,3,19,20,21],[(5,Zt15)],[(3,none)]⟩ (.two (.two .nil (.two .nil (.two .nil (.two .nil (.join ⟨[2,3,19,20,21],[(5,Zt15)],[(3,none)]⟩ (.two (.loop ⟨[2,3,6,8,19,20,21,44,45],[(5,Zt15),(46,Zt22)],[(3,none)]⟩ (.two .nil (.two .nil (.two (.join ⟨[2,3,6,8,19,20,21,44,45,46],[(5,Zt15)],[(4,none)]⟩ (.two (.two .nil (.two .nil (.join ⟨[2,3,6,8,19,20,21,44,45,46],[(5,Zt15)],[(4,none)]⟩ (.two (.loop ⟨[2,3,6,8,19,20,21,44,45,46,54,55],[(5,Zt15),(56,Zt22)],[(4,none)]⟩ (.two .nil (.two .nil (.two (.two (.two .nil (.two .nil (.two (.two .nil (.two .nil (.join ⟨[2,3,5,6,8,13,19,20,21,44,45,46,54,55,56],[],[(8,some (.box Zt16))]⟩ .nil))) .nil))) .nil) .nil)))) .nil)))) .nil)) .nil)))) .nil)))))) .nil)) .nil)))) .nil))) (.two .nil (.two (.join ⟨[],[(4,Zt15)],[(3,none)]⟩ (.two (.two .nil (.two .nil (.two (.two .nil (.joinE ⟨[0],[],[(3,some (.arr 83 Zt16))]⟩ (.two (.loop ⟨[0],[(3,Zt22)],[(3,some (.arr 83 Zt16))]⟩ (.two .nil (.two (.joinE ⟨[0],[(3,Zt22)],[(3,some (.arr 83 Zt16))]⟩ (.two (.two .nil (.two (.two (.own .nil) (.two (.two .nil (.join ⟨[0],[(3,Zt22)],[(3,some (.arr 83 Zt16))]⟩ (.two (.loop ⟨[0,4],[(3,Zt22),(5,Zt22)],[(3,some (.arr 83 Zt16))]⟩ (.two .nil (.two (.two (.two .nil (.join ⟨[0,4,5],[(3,Zt22)],[(3,some (.arr 83 Zt16))]⟩ .nil)) .nil) .nil))) .nil))) (.two (.own .nil) (.two (.own .nil) .nil)))) .nil)) .nil)) .nil))) .nil))) .nil))) .nil)) .nil)))))
noncomputable def movesList_con:Con:=⟨[Zt4,Zt10],true,[],Zt15,fun x=>qbo x.1 x.2.1,none⟩
noncomputable def qgr:Env:=(103,.body Try.f103)::(101,.srt qec)::(100,.con rulesIsLast_con)::(99,.con movesWay_con)::(98,.con movesPuts_con)::[]
theorem qk8 (x:DL movesList_con.ps):movesList_con.φ x=denF Try.prog qgr qgC Try.f68 movesList_con.ps movesList_con.one movesList_con.res movesList_con.ρ x:=by kernel_rfl
theorem qeT:ConOK Try.prog 68 movesList_con :=
  qi (env:=qgr) ((EnvOK.body (EnvOK.sort (EnvOK.cons (EnvOK.cons (EnvOK.cons (EnvOK.nil _) qms) qnh) qfI) qmg) Try.func103)) mixed Try.func68 movesList_con qgC (by kernel_rfl) (fun h=>by first | rfl | cases h) (fun g hg=>by cases hg) qk8
def qfT:Ann:=(.two .nil (.two .nil (.two (.two (.two (.two .nil (.two (.two .nil (.joinE ⟨[],[],[]⟩ (.two (.loop ⟨[0,1,7],[(8,Zt22)],[]⟩ .nil) .nil))) .nil)) .nil) .nil) .nil)))
noncomputable def endsResult_con:Con:=⟨[Zt4,Zt10],true,[],Zt22,fun x=>qav x.1 x.2.1,none⟩
noncomputable def qfH:Env:=(94,.con endsWins_con)::(68,.con movesList_con)::(93,.con endsHolds_con)::(92,.body Try.f92)::(91,.body Try.f91)::[]
theorem qjW (x:DL endsResult_con.ps):endsResult_con.φ x=denF Try.prog qfH qfT Try.f65 endsResult_con.ps endsResult_con.one endsResult_con.res endsResult_con.ρ x:=by kernel_rfl
theorem qef:ConOK Try.prog 65 endsResult_con :=
  qi (env:=qfH) ((EnvOK.cons (EnvOK.cons (EnvOK.cons (EnvOK.body (EnvOK.body (EnvOK.nil _) Try.func91) Try.func92) ql8) qeT) qne)) mixed Try.func65 endsResult_con qfT (by kernel_rfl) (fun h=>by first | rfl | cases h) (fun g hg=>by cases hg) qjW
def qgL:Ann:=(.two .nil (.two (.two .nil (.joinE ⟨[0],[],[]⟩ (.two (.loop ⟨[0,6],[(7,Zt22)],[]⟩ .nil) .nil))) .nil))
noncomputable def rulesName_con:Con:=⟨[.str],true,[],.bool,fun x=>qgW x.1,none⟩
noncomputable def qgG:Env:=[]
theorem qlh (x:DL rulesName_con.ps):rulesName_con.φ x=denF Try.prog qgG qgL Try.f117 rulesName_con.ps rulesName_con.one rulesName_con.res rulesName_con.ρ x:=by kernel_rfl
theorem qmG:ConOK Try.prog 117 rulesName_con :=
  qi (env:=qgG) ((EnvOK.nil _)) mixed Try.func117 rulesName_con qgL (by kernel_rfl) (fun h=>by first | rfl | cases h) (fun g hg=>by cases hg) qlh
def qeK:Ann := .nil
noncomputable def rulesWithin_con:Con:=⟨[Zt22,Zt22,Zt22],true,[],.bool,fun x=>qd2 x.1 x.2.1 x.2.2.1,some fun x=>qa x.1 x.2.1 x.2.2.1⟩
noncomputable def qeC:Env:=[]
theorem qiL (x:DL rulesWithin_con.ps):rulesWithin_con.φ x=denF Try.prog qeC qeK Try.f118 rulesWithin_con.ps rulesWithin_con.one rulesWithin_con.res rulesWithin_con.ρ x:=by kernel_rfl
theorem qdF:ConOK Try.prog 118 rulesWithin_con :=
  qi (env:=qeC) ((EnvOK.nil _)) mixed Try.func118 rulesWithin_con qeK (by kernel_rfl) (fun h=>by first | rfl | cases h) (fun g hg x=>by
    cases hg
    exact qjS _ _ _) qiL
def qfb:Ann:=(.two .nil (.two .nil (.two .nil (.two (.two .nil (.joinE ⟨[],[],[]⟩ (.two (.loop ⟨[1,16,17],[(18,Zt22)],[]⟩ (.two .nil (.two .nil (.two (.joinE ⟨[1,16,17,18],[],[]⟩ (.two (.two .nil (.two (.two (.two .nil (.two .nil (.two (.two (.two .nil (.two (.two (.two .nil (.two (.two .nil (.joinE ⟨[],[],[]⟩ (.two (.loop ⟨[0,1,7],[(8,Zt22)],[]⟩ .nil) .nil))) .nil)) .nil) .nil)) .nil) .nil))) .nil) (.two .nil (.joinE ⟨[1,16,17,18],[],[]⟩ (.two (.loop ⟨[1,16,17,18,59,60],[(61,Zt22)],[]⟩ .nil) .nil))))) .nil)) .nil)))) .nil))) .nil))))
noncomputable def rulesPieces_con:Con:=⟨[Zt4],true,[],Zt22,fun x=>qeq x.1,none⟩
noncomputable def qeL:Env:=(118,.con rulesWithin_con)::(137,.body Try.f137)::(152,.body Try.f152)::(136,.body Try.f136)::[]
theorem qjq (x:DL rulesPieces_con.ps):rulesPieces_con.φ x=denF Try.prog qeL qfb Try.f119 rulesPieces_con.ps rulesPieces_con.one rulesPieces_con.res rulesPieces_con.ρ x:=by kernel_rfl
theorem qjP:ConOK Try.prog 119 rulesPieces_con :=
  qi (env:=qeL) ((EnvOK.cons (EnvOK.body (EnvOK.body (EnvOK.body (EnvOK.nil _) Try.func136) Try.func152) Try.func137) qdF)) mixed Try.func119 rulesPieces_con qfb (by kernel_rfl) (fun h=>by first | rfl | cases h) (fun g hg=>by cases hg) qjq
def qcY:Ann:=(.two .nil (.two .nil (.two (.two .nil (.joinE ⟨[],[],[]⟩ (.two (.loop ⟨[1,12,13],[(14,Zt22)],[]⟩ (.two .nil (.two .nil (.two (.two (.two .nil (.two .nil (.two (.two .nil (.two (.two .nil (.joinE ⟨[1,12,13,14],[(5,.bool),(6,.bool)],[]⟩ (.two .nil (.two .nil (.joinE ⟨[1,6,12,13,14],[(5,.bool)],[]⟩ .nil))))) .nil)) .nil))) .nil) .nil)))) .nil))) .nil)))
noncomputable def rulesConditions_con:Con:=⟨[Zt4],true,[],Zt22,fun x=>qa7 x.1,none⟩
noncomputable def qcO:Env:=(118,.con rulesWithin_con)::[]
theorem qfZ (x:DL rulesConditions_con.ps):rulesConditions_con.φ x=denF Try.prog qcO qcY Try.f121 rulesConditions_con.ps rulesConditions_con.one rulesConditions_con.res rulesConditions_con.ρ x:=by kernel_rfl
theorem qgv:ConOK Try.prog 121 rulesConditions_con :=
  qi (env:=qcO) ((EnvOK.cons (EnvOK.nil _) qdF)) mixed Try.func121 rulesConditions_con qcY (by kernel_rfl) (fun h=>by first | rfl | cases h) (fun g hg=>by cases hg) qfZ
def qfL:Ann:=(.two .nil (.two .nil (.two .nil (.two .nil (.two .nil (.two (.two (.two (.two .nil (.two (.two (.two .nil (.two (.two .nil (.joinE ⟨[],[],[]⟩ (.two (.loop ⟨[0,1,7],[(8,Zt22)],[]⟩ .nil) .nil))) .nil)) .nil) .nil)) .nil) .nil) .nil))))))
noncomputable def rulesCheck_con:Con:=⟨[Zt4],true,[],Zt22,fun x=>qfx x.1,none⟩
noncomputable def qfS:Env:=(121,.con rulesConditions_con)::(120,.body Try.f120)::(81,.body Try.f81)::(48,.body Try.f48)::(119,.con rulesPieces_con)::(118,.con rulesWithin_con)::(117,.con rulesName_con)::[]
theorem qjX (x:DL rulesCheck_con.ps):rulesCheck_con.φ x=denF Try.prog qfS qfL Try.f89 rulesCheck_con.ps rulesCheck_con.one rulesCheck_con.res rulesCheck_con.ρ x:=by kernel_rfl
theorem qlD:ConOK Try.prog 89 rulesCheck_con :=
  qi (env:=qfS) ((EnvOK.cons (EnvOK.body (EnvOK.body (EnvOK.body (EnvOK.cons (EnvOK.cons (EnvOK.cons (EnvOK.nil _) qmG) qdF) qjP) Try.func48) Try.func81) Try.func120) qgv)) mixed Try.func89 rulesCheck_con qfL (by kernel_rfl) (fun h=>by first | rfl | cases h) (fun g hg=>by cases hg) qjX
def qcB:Ann:=(.two .nil (.two .nil (.two (.two .nil (.join ⟨[0],[(3,Zt22)],[]⟩ (.two (.loop ⟨[0,9,10],[(3,Zt22),(11,Zt22)],[]⟩ .nil) .nil))) (.two (.two (.two .nil (.two .nil (.two (.two .nil (.two .nil (.join ⟨[],[(0,Zt19)],[]⟩ (.two (.own (.own .nil)) .nil)))) .nil))) .nil) (.two (.two .nil (.join ⟨[],[(6,Zt19)],[(0,none)]⟩ (.two (.loop ⟨[25,26],[(6,Zt19),(27,Zt22)],[(0,none)]⟩ .nil) .nil))) .nil)))))
noncomputable def slicesConcat_int_con:Con:=⟨[(.sl Zt20)],true,[],Zt19,fun x=>qbq x.1,none⟩
noncomputable def qcy:Env:=(138,.body Try.f138)::[]
theorem qfE (x:DL slicesConcat_int_con.ps):slicesConcat_int_con.φ x=denF Try.prog qcy qcB Try.f124 slicesConcat_int_con.ps slicesConcat_int_con.one slicesConcat_int_con.res slicesConcat_int_con.ρ x:=by kernel_rfl
theorem qgf:ConOK Try.prog 124 slicesConcat_int_con :=
  qi (env:=qcy) ((EnvOK.body (EnvOK.nil _) Try.func138)) mixed Try.func124 slicesConcat_int_con qcB (by kernel_rfl) (fun h=>by first | rfl | cases h) (fun g hg=>by cases hg) qfE
def qeP:Ann:=(.ord 6 0 (.two .nil (.two (.two (.two .nil (.two (.two .nil (.joinE ⟨[],[],[]⟩ (.two (.loop ⟨[0,1,7],[(8,Zt22)],[]⟩ .nil) .nil))) .nil)) .nil) .nil)) (.ord 7 0 .nil (.ord 8 0 .nil (.ord 9 0 .nil (.ord 10 0 .nil (.ord 11 0 (.two .nil (.two (.two (.two .nil (.two (.two .nil (.joinE ⟨[],[],[]⟩ (.two (.loop ⟨[0,1,7],[(8,Zt22)],[]⟩ .nil) .nil))) .nil)) .nil) .nil)) (.ord 12 0 .nil (.ord 13 0 .nil (.ord 14 0 .nil (.ord 15 0 .nil (.ord 16 0 .nil (.ord 17 0 .nil (.ord 18 0 .nil (.ord 19 0 .nil (.ord 20 0 .nil (.ord 21 0 .nil (.ord 22 0 .nil (.ord 23 0 .nil (.ord 24 0 .nil (.ord 25 0 .nil (.ord 26 0 .nil (.ord 27 0 .nil (.ord 28 0 .nil (.ord 29 0 .nil (.ord 30 0 .nil (.ord 31 0 .nil (.ord 32 0 .nil .nil)))))))))))))))))))))))))))
def qfG:Ann:=(.two .nil (.two .nil (.two .nil (.two .nil (.two .nil (.two (.two (.join ⟨[],[(76,.bool)],[]⟩ (.any 8589931423 0 (.ord 0 0 .nil (.ord 2 0 .nil (.ord 3 0 .nil (.ord 4 0 .nil (.alt (.ord 1 0 .nil (.ord 5 0 .nil qeP)) (.ord 5 0 .nil (.ord 1 0 .nil qeP))))))))) .nil) .nil))))))
noncomputable def placeSound_con:Con:=⟨[Zt4,Zt10],true,[],Zt22,fun x=>qfr x.1 x.2.1,none⟩
noncomputable def qfM:Env:=(123,.body Try.f123)::(81,.body Try.f81)::(48,.body Try.f48)::(122,.body Try.f122)::(124,.con slicesConcat_int_con)::[]
theorem qjL (x:DL placeSound_con.ps):placeSound_con.φ x=denF Try.prog qfM qfG Try.f90 placeSound_con.ps placeSound_con.one placeSound_con.res placeSound_con.ρ x:=by kernel_rfl
theorem qlm:ConOK Try.prog 90 placeSound_con :=
  qi (env:=qfM) ((EnvOK.body (EnvOK.body (EnvOK.body (EnvOK.body (EnvOK.cons (EnvOK.nil _) qgf) Try.func122) Try.func48) Try.func81) Try.func123)) mixed Try.func90 placeSound_con qfG (by kernel_rfl) (fun h=>by first | rfl | cases h) (fun g hg=>by cases hg) qjL
def qfU:Ann := .nil
noncomputable def placeCheck_con:Con:=⟨[Zt4,Zt10],true,[],Zt22,fun x=>qbV x.1 x.2.1,none⟩
noncomputable def qfJ:Env:=(90,.con placeSound_con)::(89,.con rulesCheck_con)::[]
theorem qjN (x:DL placeCheck_con.ps):placeCheck_con.φ x=denF Try.prog qfJ qfU Try.f63 placeCheck_con.ps placeCheck_con.one placeCheck_con.res placeCheck_con.ρ x:=by kernel_rfl
theorem qgA:ConOK Try.prog 63 placeCheck_con :=
  qi (env:=qfJ) ((EnvOK.cons (EnvOK.cons (EnvOK.nil _) qlD) qlm)) mixed Try.func63 placeCheck_con qfU (by kernel_rfl) (fun h=>by first | rfl | cases h) (fun g hg=>by cases hg) qjN
def qkJ:Ann := .nil
noncomputable def ref1In_con:Con:=⟨[Zt22,Zt22,Zt22],true,[],.bool,fun x=>qk1 x.1 x.2.1 x.2.2.1,some fun x=>qu x.1 x.2.1 x.2.2.1⟩
noncomputable def qj1:Env:=[]
theorem qoT (x:DL ref1In_con.ps):ref1In_con.φ x=denF Try.prog qj1 qkJ Try.f32 ref1In_con.ps ref1In_con.one ref1In_con.res ref1In_con.ρ x:=by kernel_rfl
theorem qcQ:ConOK Try.prog 32 ref1In_con :=
  qi (env:=qj1) ((EnvOK.nil _)) mixed Try.func32 ref1In_con qkJ (by kernel_rfl) (fun h=>by first | rfl | cases h) (fun g hg x=>by
    cases hg
    exact ref1In_eq _ _ _) qoT
def qgV:Ann:=(.two .nil (.two (.two .nil (.joinE ⟨[0],[],[]⟩ (.two (.loop ⟨[0,6],[(7,Zt22)],[]⟩ .nil) .nil))) .nil))
noncomputable def ref1Named_con:Con:=⟨[.str],true,[],.bool,fun x=>qgw x.1,none⟩
noncomputable def qgR:Env:=(32,.con ref1In_con)::[]
theorem qlf (x:DL ref1Named_con.ps):ref1Named_con.φ x=denF Try.prog qgR qgV Try.f104 ref1Named_con.ps ref1Named_con.one ref1Named_con.res ref1Named_con.ρ x:=by kernel_rfl
theorem qmZ:ConOK Try.prog 104 ref1Named_con :=
  qi (env:=qgR) ((EnvOK.cons (EnvOK.nil _) qcQ)) mixed Try.func104 ref1Named_con qgV (by kernel_rfl) (fun h=>by first | rfl | cases h) (fun g hg=>by cases hg) qlf
def qdf:Ann:=(.two .nil (.two .nil (.two .nil (.two (.two .nil (.joinE ⟨[0,5],[],[]⟩ (.two (.loop ⟨[0,5,18],[(19,Zt22)],[]⟩ .nil) .nil))) (.two .nil (.two .nil (.two (.two .nil (.joinE ⟨[],[],[]⟩ (.two (.loop ⟨[48,49],[(50,Zt22)],[]⟩ .nil) .nil))) .nil)))))))
noncomputable def ref1PieceError_con:Con:=⟨[Zt6,Zt22],true,[],Zt22,fun x=>qca x.1 x.2.1,none⟩
noncomputable def qdu:Env:=(32,.con ref1In_con)::[]
theorem qhb (x:DL ref1PieceError_con.ps):ref1PieceError_con.φ x=denF Try.prog qdu qdf Try.f105 ref1PieceError_con.ps ref1PieceError_con.one ref1PieceError_con.res ref1PieceError_con.ρ x:=by kernel_rfl
theorem qhp:ConOK Try.prog 105 ref1PieceError_con :=
  qi (env:=qdu) ((EnvOK.cons (EnvOK.nil _) qcQ)) mixed Try.func105 ref1PieceError_con qdf (by kernel_rfl) (fun h=>by first | rfl | cases h) (fun g hg=>by cases hg) qhb
def qc6:Ann:=(.two .nil (.two .nil (.two .nil (.two .nil (.two .nil (.two .nil (.two (.two .nil (.joinE ⟨[1,3],[],[]⟩ (.two (.loop ⟨[1,3,35],[(36,Zt22)],[]⟩ .nil) .nil))) (.two .nil (.two (.two .nil (.joinE ⟨[1,3],[],[]⟩ (.two (.loop ⟨[1,3,57,58],[(59,Zt22)],[]⟩ .nil) .nil))) (.two .nil (.two (.two .nil (.joinE ⟨[1],[],[]⟩ (.two (.loop ⟨[1,3,74,75],[(76,Zt22)],[]⟩ (.two .nil (.two .nil (.two (.two (.two .nil (.two .nil (.two .nil (.two (.two .nil (.join ⟨[1,3,9,11,74,75,76],[(10,.bool)],[]⟩ .nil)) (.two (.two .nil (.join ⟨[1,3,10,74,75,76],[(11,.bool)],[]⟩ .nil)) .nil))))) .nil) .nil)))) .nil))) .nil)))))))))))
noncomputable def ref1RulesError_con:Con:=⟨[Zt4],true,[],Zt22,fun x=>qcc x.1,none⟩
noncomputable def qdl:Env:=(105,.con ref1PieceError_con)::(32,.con ref1In_con)::(104,.con ref1Named_con)::[]
theorem qgn (x:DL ref1RulesError_con.ps):ref1RulesError_con.φ x=denF Try.prog qdl qc6 Try.f69 ref1RulesError_con.ps ref1RulesError_con.one ref1RulesError_con.res ref1RulesError_con.ρ x:=by kernel_rfl
theorem qhw:ConOK Try.prog 69 ref1RulesError_con :=
  qi (env:=qdl) ((EnvOK.cons (EnvOK.cons (EnvOK.cons (EnvOK.nil _) qmZ) qcQ) qhp)) mixed Try.func69 ref1RulesError_con qc6 (by kernel_rfl) (fun h=>by first | rfl | cases h) (fun g hg=>by cases hg) qgn
def qdt:Ann:=(.two .nil (.two .nil (.two .nil (.two .nil (.two .nil (.two (.two .nil (.join ⟨[3],[(7,.bool)],[]⟩ (.two (.loop ⟨[3,6,56,57],[(7,.bool),(58,Zt22)],[]⟩ .nil) .nil))) (.two (.two .nil (.join ⟨[],[(7,.bool)],[]⟩ (.two (.loop ⟨[71],[(7,.bool),(72,Zt22)],[]⟩ (.two .nil (.two .nil (.two (.join ⟨[71,72],[(7,.bool)],[]⟩ (.two (.two .nil (.two .nil (.join ⟨[71,72],[(7,.bool)],[]⟩ (.two (.loop ⟨[71,72,75,76],[(7,.bool),(77,Zt22)],[]⟩ .nil) .nil)))) .nil)) .nil)))) .nil))) .nil)))))))
noncomputable def ref1PlaceError_con:Con:=⟨[Zt4,Zt10],true,[],Zt22,fun x=>qb3 x.1 x.2.1,none⟩
noncomputable def qdD:Env:=(32,.con ref1In_con)::(69,.con ref1RulesError_con)::[]
theorem qg4 (x:DL ref1PlaceError_con.ps):ref1PlaceError_con.φ x=denF Try.prog qdD qdt Try.f33 ref1PlaceError_con.ps ref1PlaceError_con.one ref1PlaceError_con.res ref1PlaceError_con.ρ x:=by kernel_rfl
theorem qhB:ConOK Try.prog 33 ref1PlaceError_con :=
  qi (env:=qdD) ((EnvOK.cons (EnvOK.cons (EnvOK.nil _) qhw) qcQ)) mixed Try.func33 ref1PlaceError_con qdt (by kernel_rfl) (fun h=>by first | rfl | cases h) (fun g hg=>by cases hg) qg4
def qh9:Ann := .nil
noncomputable def ref1Mine_con:Con:=⟨[Zt22,Zt22],true,[],.bool,fun x=>qdi x.1 x.2.1,none⟩
noncomputable def qh2:Env:=[]
theorem qlQ (x:DL ref1Mine_con.ps):ref1Mine_con.φ x=denF Try.prog qh2 qh9 Try.f106 ref1Mine_con.ps ref1Mine_con.one ref1Mine_con.res ref1Mine_con.ρ x:=by kernel_rfl
theorem qf3:ConOK Try.prog 106 ref1Mine_con :=
  qi (env:=qh2) ((EnvOK.nil _)) mixed Try.func106 ref1Mine_con qh9 (by kernel_rfl) (fun h=>by first | rfl | cases h) (fun g hg=>by cases hg) qlQ
def qjo:Ann := .nil
noncomputable def ref1Far_con:Con:=⟨[Zt4,Zt22,Zt22],true,[],.bool,fun x=>qjf x.1 x.2.1 x.2.2.1,some fun x=>qd8 x.1 x.2.1 x.2.2.1⟩
noncomputable def qiR:Env:=[]
theorem qnz (x:DL ref1Far_con.ps):ref1Far_con.φ x=denF Try.prog qiR qjo Try.f71 ref1Far_con.ps ref1Far_con.one ref1Far_con.res ref1Far_con.ρ x:=by kernel_rfl
theorem qkM:ConOK Try.prog 71 ref1Far_con :=
  qi (env:=qiR) ((EnvOK.nil _)) mixed Try.func71 ref1Far_con qjo (by kernel_rfl) (fun h=>by first | rfl | cases h) (fun g hg x=>by
    cases hg
    exact qpb _ _ _) qnz
def qkK:Ann := .nil
noncomputable def ref1At_con:Con:=⟨[Zt4,Zt10,Zt22,Zt22],true,[],Zt22,fun x=>qkv x.1 x.2.1 x.2.2.1 x.2.2.2.1,none⟩
noncomputable def qkC:Env:=(32,.con ref1In_con)::[]
theorem qpr (x:DL ref1At_con.ps):ref1At_con.φ x=denF Try.prog qkC qkK Try.f107 ref1At_con.ps ref1At_con.one ref1At_con.res ref1At_con.ρ x:=by kernel_rfl
theorem qmi:ConOK Try.prog 107 ref1At_con :=
  qi (env:=qkC) ((EnvOK.cons (EnvOK.nil _) qcQ)) mixed Try.func107 ref1At_con qkK (by kernel_rfl) (fun h=>by first | rfl | cases h) (fun g hg=>by cases hg) qpr
def qff:Ann:=(.two .nil (.two .nil (.two .nil (.two (.two .nil (.joinE ⟨[],[],[]⟩ (.two (.loop ⟨[3,5,6,9,11,12,13],[(14,Zt22)],[]⟩ .nil) .nil))) .nil))))
noncomputable def ref1Reaches_con:Con:=⟨[Zt4,Zt10,Zt22,Zt22,Zt12],true,[],.bool,fun x=>qeg x.1 x.2.1 x.2.2.1 x.2.2.2.1 x.2.2.2.2.1,none⟩
noncomputable def qe0:Env:=(106,.con ref1Mine_con)::(107,.con ref1At_con)::[]
theorem qjJ (x:DL ref1Reaches_con.ps):ref1Reaches_con.φ x=denF Try.prog qe0 qff Try.f109 ref1Reaches_con.ps ref1Reaches_con.one ref1Reaches_con.res ref1Reaches_con.ρ x:=by kernel_rfl
theorem qjT:ConOK Try.prog 109 ref1Reaches_con :=
  qi (env:=qe0) ((EnvOK.cons (EnvOK.cons (EnvOK.nil _) qmi) qf3)) mixed Try.func109 ref1Reaches_con qff (by kernel_rfl) (fun h=>by first | rfl | cases h) (fun g hg=>by cases hg) qjJ
def qeH:Ann:=(.two .nil (.two .nil (.two .nil (.two (.two .nil (.two (.two .nil (.two (.two .nil (.joinE ⟨[],[],[]⟩ (.two (.loop ⟨[3,4,5],[(8,Zt22)],[]⟩ .nil) .nil))) .nil)) .nil)) (.two .nil (.two .nil (.two .nil (.two .nil (.two (.two .nil (.two .nil (.join ⟨[3,4,5,10],[(11,Zt22)],[]⟩ .nil))) (.two .nil (.two (.two .nil (.joinE ⟨[],[],[]⟩ (.two (.loop ⟨[3,4,5,132,133],[(134,Zt22)],[]⟩ .nil) .nil))) .nil)))))))))))
noncomputable def ref1Allowed_con:Con:=⟨[Zt4,Zt10,Zt16],true,[],.bool,fun x=>qep x.1 x.2.1 x.2.2.1,none⟩
noncomputable def qe9:Env:=(109,.con ref1Reaches_con)::(71,.con ref1Far_con)::(106,.con ref1Mine_con)::(32,.con ref1In_con)::[]
theorem qjt (x:DL ref1Allowed_con.ps):ref1Allowed_con.φ x=denF Try.prog qe9 qeH Try.f75 ref1Allowed_con.ps ref1Allowed_con.one ref1Allowed_con.res ref1Allowed_con.ρ x:=by kernel_rfl
theorem qjU:ConOK Try.prog 75 ref1Allowed_con :=
  qi (env:=qe9) ((EnvOK.cons (EnvOK.cons (EnvOK.cons (EnvOK.cons (EnvOK.nil _) qcQ) qf3) qkM) qjT)) mixed Try.func75 ref1Allowed_con qeH (by kernel_rfl) (fun h=>by first | rfl | cases h) (fun g hg=>by cases hg) qjt
def qgK:Ann:=(.two .nil (.two .nil (.two (.two .nil (.join ⟨[],[(5,Zt15)],[]⟩ (.two (.loop ⟨[2,3],[(5,Zt15),(6,Zt22)],[]⟩ (.two .nil (.two (.join ⟨[2,3,6],[(5,Zt15)],[(2,none)]⟩ (.two (.two .nil (.join ⟨[2,3,6],[(5,Zt15)],[(2,none)]⟩ (.two (.loop ⟨[2,3,6,19],[(5,Zt15),(20,Zt22)],[(2,none)]⟩ (.two .nil (.two .nil (.two (.join ⟨[2,3,6,19,20],[(5,Zt15)],[(3,none)]⟩ (.two (.two .nil (.two .nil (.join ⟨[2,3,6,19,20],[(5,Zt15)],[(3,none)]⟩ (.two (.loop ⟨[2,3,6,7,19,20,25],[(5,Zt15),(26,Zt22)],[(3,none)]⟩ (.two .nil (.two .nil (.two (.two (.two .nil (.two .nil (.two .nil (.join ⟨[2,3,6,7,19,20,25,26],[(5,Zt15)],[(4,none)]⟩ .nil)))) .nil) .nil)))) .nil)))) .nil)) .nil)))) .nil))) .nil)) .nil))) .nil))) .nil)))
noncomputable def ref1Moves_con:Con:=⟨[Zt4,Zt10],true,[],Zt15,fun x=>qcP x.1 x.2.1,none⟩
noncomputable def qgH:Env:=(75,.con ref1Allowed_con)::[]
theorem qk9 (x:DL ref1Moves_con.ps):ref1Moves_con.φ x=denF Try.prog qgH qgK Try.f37 ref1Moves_con.ps ref1Moves_con.one ref1Moves_con.res ref1Moves_con.ρ x:=by kernel_rfl
theorem qe2:ConOK Try.prog 37 ref1Moves_con :=
  qi (env:=qgH) ((EnvOK.cons (EnvOK.nil _) qjU)) mixed Try.func37 ref1Moves_con qgK (by kernel_rfl) (fun h=>by first | rfl | cases h) (fun g hg=>by cases hg) qk9
def qha:Ann:=(.two .nil (.two .nil (.two .nil (.two (.two .nil (.join ⟨[3,4,5,6,7,8],[],[(4,some (.box Zt11))]⟩ (.two (.loop ⟨[3,4,5,6,7,8,28,29],[(30,Zt22)],[(4,some (.box Zt11))]⟩ (.two .nil (.two .nil (.two (.two (.two .nil (.two (.two .nil (.two (.two .nil (.join ⟨[3,4,5,6,7,8,28,29,30],[(10,Zt22)],[]⟩ (.two .nil (.two .nil (.join ⟨[3,4,5,6,7,8,28,29,30],[(10,Zt22)],[]⟩ .nil))))) .nil)) .nil)) .nil) .nil)))) .nil))) (.two (.two .nil (.join ⟨[5,6,7,8],[],[(4,some (.box Zt11)),(5,none),(6,none),(7,none)]⟩ (.two (.loop ⟨[3,4,5,6,7,8],[(58,Zt22)],[(4,some (.box Zt11)),(5,none),(6,none),(7,none)]⟩ (.two .nil (.two .nil (.two (.join ⟨[3,4,5,6,7,8,58],[],[(4,some (.box Zt11)),(8,none),(9,none),(10,none)]⟩ (.two (.two .nil (.two .nil (.join ⟨[3,4,5,6,7,8,58],[],[(4,some (.box Zt11)),(8,none),(9,none),(10,none)]⟩ (.two (.loop ⟨[3,4,5,6,7,8,11,58,64,65],[(66,Zt22)],[(4,some (.box Zt11)),(8,none),(9,none),(10,none)]⟩ (.two .nil (.two .nil (.two (.two (.two .nil (.two (.two .nil (.join ⟨[3,4,5,6,7,8,11,12,58,64,65,66],[(13,Zt22)],[]⟩ .nil)) (.two (.two .nil (.join ⟨[3,4,5,6,7,8,11,58,64,65,66],[(13,Zt22)],[]⟩ .nil)) (.join ⟨[3,4,5,6,7,8,11,58,64,65,66],[],[(4,some (.box Zt11)),(11,none),(12,none),(13,none)]⟩ .nil)))) .nil) .nil)))) .nil)))) .nil)) .nil)))) .nil))) (.two (.two .nil (.join ⟨[5,6,7,8],[],[(4,some (.box Zt11)),(8,none),(9,none),(10,none)]⟩ .nil)) (.two (.two .nil (.join ⟨[6,7],[],[(4,some (.box Zt11)),(11,none),(12,none),(13,none)]⟩ .nil)) .nil)))))))
noncomputable def ref1After_con:Con:=⟨[Zt4,Zt10,Zt16],true,[],Zt9,fun x=>qdT x.1 x.2.1 x.2.2.1,none⟩
noncomputable def qgk:Env:=[]
theorem qk7 (x:DL ref1After_con.ps):ref1After_con.φ x=denF Try.prog qgk qha Try.f72 ref1After_con.ps ref1After_con.one ref1After_con.res ref1After_con.ρ x:=by kernel_rfl
theorem qlP:ConOK Try.prog 72 ref1After_con :=
  qi (env:=qgk) ((EnvOK.nil _)) mixed Try.func72 ref1After_con qha (by kernel_rfl) (fun h=>by first | rfl | cases h) (fun g hg=>by cases hg) qk7
def qgo:Ann:=(.two .nil (.two (.two .nil (.joinE ⟨[],[],[]⟩ (.two (.loop ⟨[2,3,4,5,16],[(17,Zt22)],[]⟩ (.two .nil (.two .nil (.two (.joinE ⟨[2,3,4,5,16,17],[],[]⟩ (.two (.two .nil (.two .nil (.joinE ⟨[2,3,4,5,16,17],[],[]⟩ (.two (.loop ⟨[2,3,4,5,9,16,17,21],[(22,Zt22)],[]⟩ (.two .nil (.two .nil (.two (.joinE ⟨[2,3,4,5,9,16,17,21,22],[],[]⟩ (.two (.two .nil (.two .nil (.joinE ⟨[2,3,4,5,9,16,17,21,22],[],[]⟩ (.two (.loop ⟨[2,3,4,5,9,10,16,17,21,22],[(25,Zt22)],[]⟩ (.two .nil (.two .nil (.two (.joinE ⟨[2,3,4,5,9,10,16,17,21,22,25],[],[]⟩ (.two (.two .nil (.two (.join ⟨[2,3,4,5,9,10,16,17,21,22,25],[(12,Zt22),(13,Zt22)],[]⟩ (.any 1006 17 (.ord 1 0 .nil (.ord 5 0 .nil (.alt (.ord 0 0 .nil (.ord 2 0 .nil (.ord 3 247 .nil (.ord 8 0 .nil (.ord 4 0 .nil (.ord 6 0 .nil (.ord 7 0 .nil (.ord 9 0 .nil .nil)))))))) (.ord 4 0 .nil (.ord 6 0 .nil (.ord 7 383 .nil (.ord 0 0 .nil (.ord 2 0 .nil (.ord 3 0 .nil (.ord 8 0 .nil (.ord 9 0 .nil .nil))))))))))))) (.two .nil (.two (.join ⟨[2,3,4,5,9,10,16,17,21,22,25],[(14,Zt22)],[]⟩ (.two (.loop ⟨[2,3,4,5,9,10,12,13,16,17,21,22,25],[(14,Zt22)],[]⟩ .nil) .nil)) .nil)))) .nil)) .nil)))) .nil)))) .nil)) .nil)))) .nil)))) .nil)) .nil)))) .nil))) .nil))
noncomputable def ref1Lined_con:Con:=⟨[Zt4,Zt10,Zt22,Zt22],true,[],.bool,fun x=>qeV x.1 x.2.1 x.2.2.1 x.2.2.2.1,none⟩
noncomputable def qgY:Env:=(106,.con ref1Mine_con)::(107,.con ref1At_con)::[]
theorem qlb (x:DL ref1Lined_con.ps):ref1Lined_con.φ x=denF Try.prog qgY qgo Try.f70 ref1Lined_con.ps ref1Lined_con.one ref1Lined_con.res ref1Lined_con.ρ x:=by kernel_rfl
theorem qmq:ConOK Try.prog 70 ref1Lined_con :=
  qi (env:=qgY) ((EnvOK.cons (EnvOK.cons (EnvOK.nil _) qmi) qf3)) mixed Try.func70 ref1Lined_con qgo (by kernel_rfl) (fun h=>by first | rfl | cases h) (fun g hg=>by cases hg) qlb
def qfP:Ann:=(.two .nil (.two .nil (.two (.two .nil (.joinE ⟨[2,3,5],[],[]⟩ (.two (.loop ⟨[2,3,5,16,17],[(18,Zt22)],[]⟩ (.two .nil (.two .nil (.two (.joinE ⟨[2,3,5,16,17,18],[],[]⟩ (.two (.two .nil (.two .nil (.two .nil (.two (.two .nil (.join ⟨[2,3,5,7,16,17,18],[(8,.bool),(9,Zt22)],[]⟩ (.two (.loop ⟨[2,3,5,7,16,17,18,34,35],[(8,.bool),(9,Zt22),(36,Zt22)],[]⟩ (.two .nil (.two .nil (.two (.two (.two .nil (.two (.two .nil (.join ⟨[2,3,5,7,9,11,16,17,18,34,35,36],[(8,.bool)],[]⟩ .nil)) (.two .nil (.join ⟨[2,3,5,7,8,16,17,18,34,35,36],[(9,Zt22)],[]⟩ .nil)))) .nil) .nil)))) .nil))) (.two (.two .nil (.join ⟨[2,3,5,7,16,17,18],[(8,.bool)],[]⟩ .nil)) .nil))))) .nil)) .nil)))) .nil))) .nil)))
noncomputable def ref1Result_con:Con:=⟨[Zt4,Zt10],true,[],Zt22,fun x=>qcK x.1 x.2.1,none⟩
noncomputable def qfQ:Env:=(37,.con ref1Moves_con)::(71,.con ref1Far_con)::(70,.con ref1Lined_con)::[]
theorem qjM (x:DL ref1Result_con.ps):ref1Result_con.φ x=denF Try.prog qfQ qfP Try.f34 ref1Result_con.ps ref1Result_con.one ref1Result_con.res ref1Result_con.ρ x:=by kernel_rfl
theorem qhj:ConOK Try.prog 34 ref1Result_con :=
  qi (env:=qfQ) ((EnvOK.cons (EnvOK.cons (EnvOK.cons (EnvOK.nil _) qmq) qkM) qe2)) mixed Try.func34 ref1Result_con qfP (by kernel_rfl) (fun h=>by first | rfl | cases h) (fun g hg=>by cases hg) qjM
def qgM:Ann := .nil
noncomputable def law1Three_con:Con:=⟨[],true,[],(.st .str (.st Zt22 (.st Zt22 (.st (.osl 153 Zt8) (.st Zt19 (.st .bool (.st .bool (.st (.osl 155 Zt14) Zt16)))))))),fun x=>qgd,some fun x=>qm⟩
noncomputable def qhf:Env:=[]
theorem qk5 (x:DL law1Three_con.ps):law1Three_con.φ x=denF Try.prog qhf qgM Try.f28 law1Three_con.ps law1Three_con.one law1Three_con.res law1Three_con.ρ x:=by kernel_rfl
theorem ql1:ConOK Try.prog 28 law1Three_con :=
  qi (env:=qhf) ((EnvOK.nil _)) mixed Try.func28 law1Three_con qgM (by kernel_rfl) (fun h=>by first | rfl | cases h) (fun g hg x=>by
    cases hg
    exact qmd ) qk5
def qiV:Ann := .nil
noncomputable def law1Put_con:Con:=⟨[Zt22],true,[],Zt16,fun x=>qiK x.1,some fun x=>qf5 x.1⟩
noncomputable def qiC:Env:=[]
theorem qnn (x:DL law1Put_con.ps):law1Put_con.φ x=denF Try.prog qiC qiV Try.f30 law1Put_con.ps law1Put_con.one law1Put_con.res law1Put_con.ρ x:=by kernel_rfl
theorem qoZ:ConOK Try.prog 30 law1Put_con :=
  qi (env:=qiC) ((EnvOK.nil _)) mixed Try.func30 law1Put_con qiV (by kernel_rfl) (fun h=>by first | rfl | cases h) (fun g hg x=>by
    cases hg
    exact qoS _) qnn
def qcL:Ann := .nil
noncomputable def slicesClone_int_con:Con:=⟨[Zt20],true,[],Zt19,fun x=>qac x.1,none⟩
noncomputable def qcR:Env:=[]
theorem qfW (x:DL slicesClone_int_con.ps):slicesClone_int_con.φ x=denF Try.prog qcR qcL Try.f80 slicesClone_int_con.ps slicesClone_int_con.one slicesClone_int_con.res slicesClone_int_con.ρ x:=by kernel_rfl
theorem qhi:ConOK Try.prog 80 slicesClone_int_con :=
  qi (env:=qcR) ((EnvOK.nil _)) mixed Try.func80 slicesClone_int_con qcL (by kernel_rfl) (fun h=>by first | rfl | cases h) (fun g hg=>by cases hg) qfW
def qgJ:Ann:=(.two .nil (.two .nil (.two (.join ⟨[1,2],[],[(0,some (.box Zt11)),(2,none)]⟩ (.any 887 0 (.ord 0 0 .nil (.ord 1 0 .nil (.ord 2 115 .nil (.ord 4 0 .nil (.ord 5 0 .nil (.alt (.ord 3 0 .nil (.ord 6 0 .nil (.ord 7 0 .nil (.ord 8 0 .nil (.ord 9 0 .nil (.ord 10 0 .nil .nil)))))) (.ord 6 0 .nil (.ord 3 0 .nil (.ord 7 0 .nil (.ord 8 0 .nil (.ord 9 0 .nil (.ord 10 0 .nil .nil)))))))))))))) .nil)))
noncomputable def placeCopy_con:Con:=⟨[Zt10],true,[],Zt9,fun x=>qci x.1,none⟩
noncomputable def qg9:Env:=(80,.con slicesClone_int_con)::[]
theorem qkT (x:DL placeCopy_con.ps):placeCopy_con.φ x=denF Try.prog qg9 qgJ Try.f111 placeCopy_con.ps placeCopy_con.one placeCopy_con.res placeCopy_con.ρ x:=by kernel_rfl
theorem qe4:ConOK Try.prog 111 placeCopy_con :=
  qi (env:=qg9) ((EnvOK.cons (EnvOK.nil _) qhi)) mixed Try.func111 placeCopy_con qgJ (by kernel_rfl) (fun h=>by first | rfl | cases h) (fun g hg=>by cases hg) qkT
def qgS:Ann:=(.two .nil (.two .nil (.two .nil (.two (.two .nil (.join ⟨[3,4,5,6,7,8],[],[(4,some (.arr 3 Zt22)),(5,some (.arr 3 Zt22)),(6,some (.arr 3 Zt22))]⟩ (.two .nil (.join ⟨[3,4,5,6,7,8],[],[(5,some (.arr 3 Zt22)),(6,some (.arr 3 Zt22))]⟩ (.tail 11 .nil))))) (.two .nil (.two (.two .nil (.join ⟨[4,5,6,7,8],[],[(5,some (.arr 3 Zt22)),(6,some (.arr 3 Zt22))]⟩ (.two (.two .nil (.join ⟨[4,5,6,7,8],[],[(5,some (.arr 3 Zt22)),(6,some (.arr 3 Zt22))]⟩ (.tail 17 .nil))) .nil))) (.two .nil (.two (.two .nil (.join ⟨[4,6,7],[],[(4,none),(5,none),(6,none),(7,some (.box Zt11))]⟩ .nil)) .nil))))))))
noncomputable def movesMake_con:Con:=⟨[Zt4,Zt10,Zt16],true,[],Zt9,fun x=>qck x.1 x.2.1 x.2.2.1,none⟩
noncomputable def qgI:Env:=(111,.con placeCopy_con)::[]
theorem qlz (x:DL movesMake_con.ps):movesMake_con.φ x=denF Try.prog qgI qgS Try.f95 movesMake_con.ps movesMake_con.one movesMake_con.res movesMake_con.ρ x:=by kernel_rfl
theorem qlX:ConOK Try.prog 95 movesMake_con :=
  qi (env:=qgI) ((EnvOK.cons (EnvOK.nil _) qe4)) mixed Try.func95 movesMake_con qgS (by kernel_rfl) (fun h=>by first | rfl | cases h) (fun g hg=>by cases hg) qlz
end Go.Proofs.Ytcifaoaepbidoaa

