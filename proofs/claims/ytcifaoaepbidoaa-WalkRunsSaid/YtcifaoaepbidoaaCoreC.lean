/- Contracts: Core. No condition of its own. -/
import Derived.Test.YtcifaoaepbidoaaMAA
import Derived.Test.YtcifaoaepbidoaaMAG
import Derived.Test.YtcifaoaepbidoaaMAD
import Derived.Laws.CopyRow
import Derived.Shelf.Spec.SlicesInsertGrow
namespace Go.Proofs.Ytcifaoaepbidoaa
open Go.Den
set_option linter.unusedVariables false
set_option maxRecDepth 100000
def qiN:Ann:=(.two .nil (.two .nil (.two (.two .nil (.joinE ⟨[],[],[]⟩ (.two (.loop ⟨[3,4,9,19],[(20,Zt28)],[]⟩ (.two .nil (.two .nil (.two (.joinE ⟨[3,4,9,19,20],[],[]⟩ (.two (.two .nil (.two .nil (.joinE ⟨[3,4,9,19,20],[],[]⟩ (.two (.loop ⟨[3,4,9,10,19,20,27],[(28,Zt28)],[]⟩ (.two .nil (.two .nil (.two (.joinE ⟨[3,4,9,10,19,20,27,28],[],[]⟩ (.two (.two .nil (.two .nil (.two (.join ⟨[3,4,9,10,19,20,27,28],[(15,Zt28)],[]⟩ (.two (.loop ⟨[3,4,9,10,12,19,20,27,28],[(13,Zt28),(14,Zt28),(15,Zt28)],[]⟩ (.two (.two (.join ⟨[3,4,9,10,12,13,14,15,19,20,27,28],[(47,.bool)],[]⟩ .nil) .nil) .nil)) .nil)) .nil))) .nil)) .nil)))) .nil)))) .nil)) .nil)))) .nil))) .nil)))
noncomputable def endsLine_con:Con:=⟨[Zt5,Zt12,Zt28,Zt28],true,[],.bool,fun x=>qjb x.1 x.2.1 x.2.2.1 x.2.2.2.1,none⟩
noncomputable def qiX:Env:=(139,.body Try.f139)::[]
theorem qm3 (x:DL endsLine_con.ps):endsLine_con.φ x=denF Try.prog qiX qiN Try.f125 endsLine_con.ps endsLine_con.one endsLine_con.res endsLine_con.ρ x:=by kernel_rfl
theorem qoX:ConOK Try.prog 125 endsLine_con :=
  qh (env:=qiX) ((EnvOK.body (EnvOK.nil _) Try.func139)) mixed Try.func125 endsLine_con qiN (by kernel_rfl) (fun h=>by first | rfl | cases h) (fun g hg=>by cases hg) qm3
def qfc:Ann := .nil
noncomputable def rulesIsLast_con:Con:=⟨[Zt5,Zt28,Zt28],true,[],.bool,fun x=>qcV x.1 x.2.1 x.2.2.1,none⟩
noncomputable def qe8:Env:=[]
theorem qjD (x:DL rulesIsLast_con.ps):rulesIsLast_con.φ x=denF Try.prog qe8 qfc Try.f100 rulesIsLast_con.ps rulesIsLast_con.one rulesIsLast_con.res rulesIsLast_con.ρ x:=by kernel_rfl
theorem qf8:ConOK Try.prog 100 rulesIsLast_con :=
  qh (env:=qe8) ((EnvOK.nil _)) mixed Try.func100 rulesIsLast_con qfc (by kernel_rfl) (fun h=>by first | rfl | cases h) (fun g hg=>by cases hg) qjD
def qho:Ann:=(.two .nil (.two (.two .nil (.joinE ⟨[3,5,6],[],[]⟩ (.two (.two .nil (.two .nil (.two .nil (.two (.two (.two .nil (.joinE ⟨[3,5,6],[],[]⟩ (.two (.loop ⟨[3,4,5,6,27,28],[(29,Zt28)],[]⟩ .nil) .nil))) .nil) .nil)))) .nil))) (.two .nil (.two (.two .nil (.join ⟨[6],[(11,Zt28)],[]⟩ (.two (.loop ⟨[3,6,50,51],[(11,Zt28),(52,Zt28)],[]⟩ (.two .nil (.two .nil (.two (.two (.two .nil (.two .nil (.join ⟨[3,6,50,51,52],[(11,Zt28)],[]⟩ .nil))) .nil) .nil)))) .nil))) .nil))))
noncomputable def endsHolds_con:Con:=⟨[Zt5,Zt12,Zt19,Zt28],true,[],.bool,fun x=>qgT x.1 x.2.1 x.2.2.1 x.2.2.2.1,none⟩
noncomputable def qhY:Env:=(100,.con rulesIsLast_con)::(125,.con endsLine_con)::[]
theorem qlU (x:DL endsHolds_con.ps):endsHolds_con.φ x=denF Try.prog qhY qho Try.f93 endsHolds_con.ps endsHolds_con.one endsHolds_con.res endsHolds_con.ρ x:=by kernel_rfl
theorem qnG:ConOK Try.prog 93 endsHolds_con :=
  qh (env:=qhY) ((EnvOK.cons (EnvOK.cons (EnvOK.nil _) qoX) qf8)) mixed Try.func93 endsHolds_con qho (by kernel_rfl) (fun h=>by first | rfl | cases h) (fun g hg=>by cases hg) qlU
def qiC:Ann := .nil
noncomputable def endsWins_con:Con:=⟨[Zt28],true,[],Zt28,fun x=>qis x.1,some fun x=>qbT x.1⟩
noncomputable def qi1:Env:=[]
theorem qnq (x:DL endsWins_con.ps):endsWins_con.φ x=denF Try.prog qi1 qiC Try.f94 endsWins_con.ps endsWins_con.one endsWins_con.res endsWins_con.ρ x:=by kernel_rfl
theorem qo9:ConOK Try.prog 94 endsWins_con :=
  qh (env:=qi1) ((EnvOK.nil _)) mixed Try.func94 endsWins_con qiC (by kernel_rfl) (fun h=>by first | rfl | cases h) (fun g hg x=>by
    cases hg
    exact qos _) qnq
def qfx:Ann:=(.two .nil (.two (.two .nil (.joinE ⟨[],[],[]⟩ (.two (.loop ⟨[3,4],[(2,Zt28)],[]⟩ .nil) .nil))) .nil))
noncomputable def movesFilled_con:Con:=⟨[Zt5,Zt12,Zt28],true,[],.bool,fun x=>qew x.1 x.2.1 x.2.2.1,none⟩
noncomputable def qfF:Env:=[]
theorem qjN (x:DL movesFilled_con.ps):movesFilled_con.φ x=denF Try.prog qfF qfx Try.f129 movesFilled_con.ps movesFilled_con.one movesFilled_con.res movesFilled_con.ρ x:=by kernel_rfl
theorem qkE:ConOK Try.prog 129 movesFilled_con :=
  qh (env:=qfF) ((EnvOK.nil _)) mixed Try.func129 movesFilled_con qfx (by kernel_rfl) (fun h=>by first | rfl | cases h) (fun g hg=>by cases hg) qjN
def qg3:Ann:=(.two .nil (.two .nil (.two (.two .nil (.join ⟨[],[(5,Zt20)],[]⟩ (.two (.loop ⟨[2,3,11,12],[(5,Zt20),(13,Zt28)],[]⟩ (.two .nil (.two .nil (.two (.join ⟨[2,3,11,12,13],[(5,Zt20)],[(2,none)]⟩ (.two (.two .nil (.two .nil (.two .nil (.join ⟨[2,3,11,12,13],[(5,Zt20)],[(2,none)]⟩ (.two (.loop ⟨[2,3,6,11,12,13,41,42],[(5,Zt20),(43,Zt28)],[(2,none)]⟩ (.two .nil (.two .nil (.two (.two (.two .nil (.two .nil (.join ⟨[2,3,6,11,12,13,41,42,43],[(5,Zt20)],[(3,none)]⟩ .nil))) .nil) .nil)))) .nil))))) .nil)) .nil)))) .nil))) .nil)))
noncomputable def movesPuts_con:Con:=⟨[Zt5,Zt12],true,[],Zt20,fun x=>qgX x.1 x.2.1,none⟩
noncomputable def qhB:Env:=(129,.con movesFilled_con)::[]
theorem qmi (x:DL movesPuts_con.ps):movesPuts_con.φ x=denF Try.prog qhB qg3 Try.f98 movesPuts_con.ps movesPuts_con.one movesPuts_con.res movesPuts_con.ρ x:=by kernel_rfl
theorem qnB:ConOK Try.prog 98 movesPuts_con :=
  qh (env:=qhB) ((EnvOK.cons (EnvOK.nil _) qkE)) mixed Try.func98 movesPuts_con qg3 (by kernel_rfl) (fun h=>by first | rfl | cases h) (fun g hg=>by cases hg) qmi
def qiY:Ann:=(.two .nil (.two .nil (.two .nil (.two (.two .nil (.join ⟨[2,4,5,7,9],[(10,Zt28)],[]⟩ .nil)) (.two .nil (.two (.two .nil (.join ⟨[],[(9,Zt26)],[]⟩ (.two (.loop ⟨[4,5,7,10,31],[(9,Zt26),(11,Zt28),(12,Zt28),(32,Zt28)],[]⟩ (.two .nil (.two .nil (.two (.two (.two .nil (.two .nil (.two .nil (.two .nil (.two (.two .nil (.join ⟨[4,5,7,10,11,12,13,31,32],[(9,Zt26)],[(3,none)]⟩ .nil)) .nil))))) .nil) .nil)))) .nil))) .nil))))))
noncomputable def movesWay_con:Con:=⟨[Zt5,Zt12,Zt28,Zt17],true,[],Zt26,fun x=>qje x.1 x.2.1 x.2.2.1 x.2.2.2.1,none⟩
noncomputable def qiL:Env:=[]
theorem qog (x:DL movesWay_con.ps):movesWay_con.φ x=denF Try.prog qiL qiY Try.f99 movesWay_con.ps movesWay_con.one movesWay_con.res movesWay_con.ρ x:=by kernel_rfl
theorem qo7:ConOK Try.prog 99 movesWay_con :=
  qh (env:=qiL) ((EnvOK.nil _)) mixed Try.func99 movesWay_con qiY (by kernel_rfl) (fun h=>by first | rfl | cases h) (fun g hg=>by cases hg) qog
def qg1:Ann:=(.two .nil (.two .nil (.two (.two .nil (.join ⟨[],[(5,Zt20)],[(2,none)]⟩ (.two (.loop ⟨[2,3,19,20],[(5,Zt20),(21,Zt28)],[(2,none)]⟩ (.two .nil (.two .nil (.two (.join ⟨[2,3,19,20,21],[(5,Zt20)],[(3,none)]⟩ (.two (.two .nil (.two .nil (.two .nil (.two .nil (.join ⟨[2,3,19,20,21],[(5,Zt20)],[(3,none)]⟩ (.two (.loop ⟨[2,3,6,8,19,20,21,44,45],[(5,Zt20),(46,Zt28)],[(3,none)]⟩ (.two .nil (.two .nil (.two (.join ⟨[2,3,6,8,19,20,21,44,45,46],[(5,Zt20)],[(4,none)]⟩ (.two (.two .nil (.two .nil (.join ⟨[2,3,6,8,19,20,21,44,45,46],[(5,Zt20)],[(4,none)]⟩ (.two (.loop ⟨[2,3,6,8,19,20,21,44,45,46,54,55],[(5,Zt20),(56,Zt28)],[(4,none)]⟩ (.two .nil (.two .nil (.two (.two (.two .nil (.two .nil (.two (.two .nil (.two .nil (.join ⟨[2,3,5,6,8,13,19,20,21,44,45,46,54,55,56],[],[(8,some (.box Zt21))]⟩ .nil))) .nil))) .nil) .nil)))) .nil)))) .nil)) .nil)))) .nil)))))) .nil)) .nil)))) .nil))) (.two .nil (.two (.join ⟨[],[(4,Zt20)],[(3,none)]⟩ (.two (.two .nil (.two .nil (.two (.two .nil (.joinE ⟨[0],[],[(3,some (.arr 83 Zt21))]⟩ (.two (.loop ⟨[0],[(3,Zt28)],[(3,some (.arr 83 Zt21))]⟩ (.two .nil (.two (.joinE ⟨[0],[(3,Zt28)],[(3,some (.arr 83 Zt21))]⟩ (.two (.two .nil (.two (.two (.own .nil) (.two (.two .nil (.join ⟨[0],[(3,Zt28)],[(3,some (.arr 83 Zt21))]⟩ (.two (.loop ⟨[0,4],[(3,Zt28),(5,Zt28)],[(3,some (.arr 83 Zt21))]⟩ (.two .nil (.two (.two (.two .nil (.join ⟨[0,4,5],[(3,Zt28)],[(3,some (.arr 83 Zt21))]⟩ .nil)) .nil) .nil))) .nil))) (.two (.own .nil) (.two (.own .nil) .nil)))) .nil)) .nil)) .nil))) .nil))) .nil))) .nil)) .nil)))))
noncomputable def movesList_con:Con:=⟨[Zt5,Zt12],true,[],Zt20,fun x=>qby x.1 x.2.1,none⟩
noncomputable def qh0:Env:=(103,.body Try.f103)::(101,.srt qes)::(100,.con rulesIsLast_con)::(99,.con movesWay_con)::(98,.con movesPuts_con)::[]
theorem ql9 (x:DL movesList_con.ps):movesList_con.φ x=denF Try.prog qh0 qg1 Try.f68 movesList_con.ps movesList_con.one movesList_con.res movesList_con.ρ x:=by kernel_rfl
theorem qdH:ConOK Try.prog 68 movesList_con :=
  qh (env:=qh0) ((EnvOK.body (EnvOK.sort (EnvOK.cons (EnvOK.cons (EnvOK.cons (EnvOK.nil _) qnB) qo7) qf8) qne) Try.func103)) mixed Try.func68 movesList_con qg1 (by kernel_rfl) (fun h=>by first | rfl | cases h) (fun g hg=>by cases hg) ql9
def qgd:Ann:=(.two .nil (.two .nil (.two (.two (.two (.two .nil (.two (.two .nil (.joinE ⟨[],[],[]⟩ (.two (.loop ⟨[0,1,7],[(8,Zt28)],[]⟩ .nil) .nil))) .nil)) .nil) .nil) .nil)))
noncomputable def endsResult_con:Con:=⟨[Zt5,Zt12],true,[],Zt28,fun x=>qaw x.1 x.2.1,none⟩
noncomputable def qgk:Env:=(94,.con endsWins_con)::(68,.con movesList_con)::(93,.con endsHolds_con)::(92,.body Try.f92)::(91,.body Try.f91)::[]
theorem qkM (x:DL endsResult_con.ps):endsResult_con.φ x=denF Try.prog qgk qgd Try.f65 endsResult_con.ps endsResult_con.one endsResult_con.res endsResult_con.ρ x:=by kernel_rfl
theorem qcS:ConOK Try.prog 65 endsResult_con :=
  qh (env:=qgk) ((EnvOK.cons (EnvOK.cons (EnvOK.cons (EnvOK.body (EnvOK.body (EnvOK.nil _) Try.func91) Try.func92) qnG) qdH) qo9)) mixed Try.func65 endsResult_con qgd (by kernel_rfl) (fun h=>by first | rfl | cases h) (fun g hg=>by cases hg) qkM
def qgY:Ann := .nil
noncomputable def endsMoves_con:Con:=⟨[Zt5,Zt12],true,[],Zt20,fun x=>qc6 x.1 x.2.1,none⟩
noncomputable def qhf:Env:=(68,.con movesList_con)::(65,.con endsResult_con)::[]
theorem qlI (x:DL endsMoves_con.ps):endsMoves_con.φ x=denF Try.prog qhf qgY Try.f126 endsMoves_con.ps endsMoves_con.one endsMoves_con.res endsMoves_con.ρ x:=by kernel_rfl
theorem qnu:ConOK Try.prog 126 endsMoves_con :=
  qh (env:=qhf) ((EnvOK.cons (EnvOK.cons (EnvOK.nil _) qcS) qdH)) mixed Try.func126 endsMoves_con qgY (by kernel_rfl) (fun h=>by first | rfl | cases h) (fun g hg=>by cases hg) qlI
def qld:Ann := .nil
noncomputable def zobMix_con:Con:=⟨[Zt28],true,[],(.int .u64),fun x=>qmz x.1,some fun x=>qcY x.1⟩
noncomputable def qk3:Env:=[]
theorem qrf (x:DL zobMix_con.ps):zobMix_con.φ x=denF Try.prog qk3 qld Try.f140 zobMix_con.ps zobMix_con.one zobMix_con.res zobMix_con.ρ x:=by kernel_rfl
theorem zobMix_ok:ConOK Try.prog 140 zobMix_con :=
  qh (env:=qk3) ((EnvOK.nil _)) mixed Try.func140 zobMix_con qld (by kernel_rfl) (fun h=>by first | rfl | cases h) (fun g hg x=>by
    cases hg
    exact zobMix_eq _) qrf
def qhC:Ann:=(.two .nil (.two (.two .nil (.joinE ⟨[0],[],[]⟩ (.two (.loop ⟨[0,6],[(7,Zt28)],[]⟩ .nil) .nil))) .nil))
noncomputable def rulesName_con:Con:=⟨[.str],true,[],.bool,fun x=>qhz x.1,none⟩
noncomputable def qhi:Env:=[]
theorem qmd (x:DL rulesName_con.ps):rulesName_con.φ x=denF Try.prog qhi qhC Try.f117 rulesName_con.ps rulesName_con.one rulesName_con.res rulesName_con.ρ x:=by kernel_rfl
theorem qnp:ConOK Try.prog 117 rulesName_con :=
  qh (env:=qhi) ((EnvOK.nil _)) mixed Try.func117 rulesName_con qhC (by kernel_rfl) (fun h=>by first | rfl | cases h) (fun g hg=>by cases hg) qmd
def qfi:Ann := .nil
noncomputable def rulesWithin_con:Con:=⟨[Zt28,Zt28,Zt28],true,[],.bool,fun x=>qeO x.1 x.2.1 x.2.2.1,some fun x=>qa x.1 x.2.1 x.2.2.1⟩
noncomputable def qfB:Env:=[]
theorem qj6 (x:DL rulesWithin_con.ps):rulesWithin_con.φ x=denF Try.prog qfB qfi Try.f118 rulesWithin_con.ps rulesWithin_con.one rulesWithin_con.res rulesWithin_con.ρ x:=by kernel_rfl
theorem qd5:ConOK Try.prog 118 rulesWithin_con :=
  qh (env:=qfB) ((EnvOK.nil _)) mixed Try.func118 rulesWithin_con qfi (by kernel_rfl) (fun h=>by first | rfl | cases h) (fun g hg x=>by
    cases hg
    exact qkN _ _ _) qj6
def qfa:Ann:=(.two .nil (.two .nil (.two .nil (.two (.two .nil (.joinE ⟨[],[],[]⟩ (.two (.loop ⟨[1,16,17],[(18,Zt28)],[]⟩ (.two .nil (.two .nil (.two (.joinE ⟨[1,16,17,18],[],[]⟩ (.two (.two .nil (.two (.two (.two .nil (.two .nil (.two (.two (.two .nil (.two (.two (.two .nil (.two (.two .nil (.joinE ⟨[],[],[]⟩ (.two (.loop ⟨[0,1,7],[(8,Zt28)],[]⟩ .nil) .nil))) .nil)) .nil) .nil)) .nil) .nil))) .nil) (.two .nil (.joinE ⟨[1,16,17,18],[],[]⟩ (.two (.loop ⟨[1,16,17,18,59,60],[(61,Zt28)],[]⟩ .nil) .nil))))) .nil)) .nil)))) .nil))) .nil))))
noncomputable def rulesPieces_con:Con:=⟨[Zt5],true,[],Zt28,fun x=>qeD x.1,none⟩
noncomputable def qfw:Env:=(118,.con rulesWithin_con)::(137,.body Try.f137)::(152,.body Try.f152)::(136,.body Try.f136)::[]
theorem qjy (x:DL rulesPieces_con.ps):rulesPieces_con.φ x=denF Try.prog qfw qfa Try.f119 rulesPieces_con.ps rulesPieces_con.one rulesPieces_con.res rulesPieces_con.ρ x:=by kernel_rfl
theorem qkO:ConOK Try.prog 119 rulesPieces_con :=
  qh (env:=qfw) ((EnvOK.cons (EnvOK.body (EnvOK.body (EnvOK.body (EnvOK.nil _) Try.func136) Try.func152) Try.func137) qd5)) mixed Try.func119 rulesPieces_con qfa (by kernel_rfl) (fun h=>by first | rfl | cases h) (fun g hg=>by cases hg) qjy
def qdp:Ann:=(.two .nil (.two .nil (.two (.two .nil (.joinE ⟨[],[],[]⟩ (.two (.loop ⟨[1,12,13],[(14,Zt28)],[]⟩ (.two .nil (.two .nil (.two (.two (.two .nil (.two .nil (.two (.two .nil (.two (.two .nil (.joinE ⟨[1,12,13,14],[(5,.bool),(6,.bool)],[]⟩ (.two .nil (.two .nil (.joinE ⟨[1,6,12,13,14],[(5,.bool)],[]⟩ .nil))))) .nil)) .nil))) .nil) .nil)))) .nil))) .nil)))
noncomputable def rulesConditions_con:Con:=⟨[Zt5],true,[],Zt28,fun x=>qbc x.1,none⟩
noncomputable def qc8:Env:=(118,.con rulesWithin_con)::[]
theorem qgD (x:DL rulesConditions_con.ps):rulesConditions_con.φ x=denF Try.prog qc8 qdp Try.f121 rulesConditions_con.ps rulesConditions_con.one rulesConditions_con.res rulesConditions_con.ρ x:=by kernel_rfl
theorem qhe:ConOK Try.prog 121 rulesConditions_con :=
  qh (env:=qc8) ((EnvOK.cons (EnvOK.nil _) qd5)) mixed Try.func121 rulesConditions_con qdp (by kernel_rfl) (fun h=>by first | rfl | cases h) (fun g hg=>by cases hg) qgD
def qgc:Ann:=(.two .nil (.two .nil (.two .nil (.two .nil (.two .nil (.two (.two (.two (.two .nil (.two (.two (.two .nil (.two (.two .nil (.joinE ⟨[],[],[]⟩ (.two (.loop ⟨[0,1,7],[(8,Zt28)],[]⟩ .nil) .nil))) .nil)) .nil) .nil)) .nil) .nil) .nil))))))
noncomputable def rulesCheck_con:Con:=⟨[Zt5],true,[],Zt28,fun x=>qfX x.1,none⟩
noncomputable def qgh:Env:=(121,.con rulesConditions_con)::(120,.body Try.f120)::(81,.body Try.f81)::(48,.body Try.f48)::(119,.con rulesPieces_con)::(118,.con rulesWithin_con)::(117,.con rulesName_con)::[]
theorem qkH (x:DL rulesCheck_con.ps):rulesCheck_con.φ x=denF Try.prog qgh qgc Try.f89 rulesCheck_con.ps rulesCheck_con.one rulesCheck_con.res rulesCheck_con.ρ x:=by kernel_rfl
theorem qmk:ConOK Try.prog 89 rulesCheck_con :=
  qh (env:=qgh) ((EnvOK.cons (EnvOK.body (EnvOK.body (EnvOK.body (EnvOK.cons (EnvOK.cons (EnvOK.cons (EnvOK.nil _) qnp) qd5) qkO) Try.func48) Try.func81) Try.func120) qhe)) mixed Try.func89 rulesCheck_con qgc (by kernel_rfl) (fun h=>by first | rfl | cases h) (fun g hg=>by cases hg) qkH
def qcH:Ann:=(.two .nil (.two .nil (.two (.two .nil (.join ⟨[0],[(3,Zt28)],[]⟩ (.two (.loop ⟨[0,9,10],[(3,Zt28),(11,Zt28)],[]⟩ .nil) .nil))) (.two (.two (.two .nil (.two .nil (.two (.two .nil (.two .nil (.join ⟨[],[(0,Zt26)],[]⟩ (.two (.own (.own .nil)) .nil)))) .nil))) .nil) (.two (.two .nil (.join ⟨[],[(6,Zt26)],[(0,none)]⟩ (.two (.loop ⟨[25,26],[(6,Zt26),(27,Zt28)],[(0,none)]⟩ .nil) .nil))) .nil)))))
noncomputable def slicesConcat_int_con:Con:=⟨[(.sl Zt27)],true,[],Zt26,fun x=>qbz x.1,none⟩
noncomputable def qcJ:Env:=(138,.body Try.f138)::[]
theorem qf3 (x:DL slicesConcat_int_con.ps):slicesConcat_int_con.φ x=denF Try.prog qcJ qcH Try.f124 slicesConcat_int_con.ps slicesConcat_int_con.one slicesConcat_int_con.res slicesConcat_int_con.ρ x:=by kernel_rfl
theorem qgC:ConOK Try.prog 124 slicesConcat_int_con :=
  qh (env:=qcJ) ((EnvOK.body (EnvOK.nil _) Try.func138)) mixed Try.func124 slicesConcat_int_con qcH (by kernel_rfl) (fun h=>by first | rfl | cases h) (fun g hg=>by cases hg) qf3
def qe7:Ann:=(.ord 6 0 (.two .nil (.two (.two (.two .nil (.two (.two .nil (.joinE ⟨[],[],[]⟩ (.two (.loop ⟨[0,1,7],[(8,Zt28)],[]⟩ .nil) .nil))) .nil)) .nil) .nil)) (.ord 7 0 .nil (.ord 8 0 .nil (.ord 9 0 .nil (.ord 10 0 .nil (.ord 11 0 (.two .nil (.two (.two (.two .nil (.two (.two .nil (.joinE ⟨[],[],[]⟩ (.two (.loop ⟨[0,1,7],[(8,Zt28)],[]⟩ .nil) .nil))) .nil)) .nil) .nil)) (.ord 12 0 .nil (.ord 13 0 .nil (.ord 14 0 .nil (.ord 15 0 .nil (.ord 16 0 .nil (.ord 17 0 .nil (.ord 18 0 .nil (.ord 19 0 .nil (.ord 20 0 .nil (.ord 21 0 .nil (.ord 22 0 .nil (.ord 23 0 .nil (.ord 24 0 .nil (.ord 25 0 .nil (.ord 26 0 .nil (.ord 27 0 .nil (.ord 28 0 .nil (.ord 29 0 .nil (.ord 30 0 .nil (.ord 31 0 .nil (.ord 32 0 .nil .nil)))))))))))))))))))))))))))
def qgj:Ann:=(.two .nil (.two .nil (.two .nil (.two .nil (.two .nil (.two (.two (.join ⟨[],[(76,.bool)],[]⟩ (.any 8589931423 0 (.ord 0 0 .nil (.ord 2 0 .nil (.ord 3 0 .nil (.ord 4 0 .nil (.alt (.ord 1 0 .nil (.ord 5 0 .nil qe7)) (.ord 5 0 .nil (.ord 1 0 .nil qe7))))))))) .nil) .nil))))))
noncomputable def placeSound_con:Con:=⟨[Zt5,Zt12],true,[],Zt28,fun x=>qfL x.1 x.2.1,none⟩
noncomputable def qf9:Env:=(123,.body Try.f123)::(81,.body Try.f81)::(48,.body Try.f48)::(122,.body Try.f122)::(124,.con slicesConcat_int_con)::[]
theorem qkP (x:DL placeSound_con.ps):placeSound_con.φ x=denF Try.prog qf9 qgj Try.f90 placeSound_con.ps placeSound_con.one placeSound_con.res placeSound_con.ρ x:=by kernel_rfl
theorem qlJ:ConOK Try.prog 90 placeSound_con :=
  qh (env:=qf9) ((EnvOK.body (EnvOK.body (EnvOK.body (EnvOK.body (EnvOK.cons (EnvOK.nil _) qgC) Try.func122) Try.func48) Try.func81) Try.func123)) mixed Try.func90 placeSound_con qgj (by kernel_rfl) (fun h=>by first | rfl | cases h) (fun g hg=>by cases hg) qkP
def qge:Ann := .nil
noncomputable def placeCheck_con:Con:=⟨[Zt5,Zt12],true,[],Zt28,fun x=>qfI x.1 x.2.1,none⟩
noncomputable def qgf:Env:=(90,.con placeSound_con)::(89,.con rulesCheck_con)::[]
theorem qkJ (x:DL placeCheck_con.ps):placeCheck_con.φ x=denF Try.prog qgf qge Try.f63 placeCheck_con.ps placeCheck_con.one placeCheck_con.res placeCheck_con.ρ x:=by kernel_rfl
theorem qmh:ConOK Try.prog 63 placeCheck_con :=
  qh (env:=qgf) ((EnvOK.cons (EnvOK.cons (EnvOK.nil _) qmk) qlJ)) mixed Try.func63 placeCheck_con qge (by kernel_rfl) (fun h=>by first | rfl | cases h) (fun g hg=>by cases hg) qkJ
def qls:Ann := .nil
noncomputable def ref1In_con:Con:=⟨[Zt28,Zt28,Zt28],true,[],.bool,fun x=>qmf x.1 x.2.1 x.2.2.1,some fun x=>qu x.1 x.2.1 x.2.2.1⟩
noncomputable def qlr:Env:=[]
theorem qq0 (x:DL ref1In_con.ps):ref1In_con.φ x=denF Try.prog qlr qls Try.f32 ref1In_con.ps ref1In_con.one ref1In_con.res ref1In_con.ρ x:=by kernel_rfl
theorem qc5:ConOK Try.prog 32 ref1In_con :=
  qh (env:=qlr) ((EnvOK.nil _)) mixed Try.func32 ref1In_con qls (by kernel_rfl) (fun h=>by first | rfl | cases h) (fun g hg x=>by
    cases hg
    exact ref1In_eq _ _ _) qq0
def qhT:Ann:=(.two .nil (.two (.two .nil (.joinE ⟨[0],[],[]⟩ (.two (.loop ⟨[0,6],[(7,Zt28)],[]⟩ .nil) .nil))) .nil))
noncomputable def ref1Named_con:Con:=⟨[.str],true,[],.bool,fun x=>qhN x.1,none⟩
noncomputable def qhr:Env:=(32,.con ref1In_con)::[]
theorem qlN (x:DL ref1Named_con.ps):ref1Named_con.φ x=denF Try.prog qhr qhT Try.f104 ref1Named_con.ps ref1Named_con.one ref1Named_con.res ref1Named_con.ρ x:=by kernel_rfl
theorem qoc:ConOK Try.prog 104 ref1Named_con :=
  qh (env:=qhr) ((EnvOK.cons (EnvOK.nil _) qc5)) mixed Try.func104 ref1Named_con qhT (by kernel_rfl) (fun h=>by first | rfl | cases h) (fun g hg=>by cases hg) qlN
def qdJ:Ann:=(.two .nil (.two .nil (.two .nil (.two (.two .nil (.joinE ⟨[0,5],[],[]⟩ (.two (.loop ⟨[0,5,18],[(19,Zt28)],[]⟩ .nil) .nil))) (.two .nil (.two .nil (.two (.two .nil (.joinE ⟨[],[],[]⟩ (.two (.loop ⟨[48,49],[(50,Zt28)],[]⟩ .nil) .nil))) .nil)))))))
noncomputable def ref1PieceError_con:Con:=⟨[Zt8,Zt28],true,[],Zt28,fun x=>qb9 x.1 x.2.1,none⟩
noncomputable def qdI:Env:=(32,.con ref1In_con)::[]
theorem qhE (x:DL ref1PieceError_con.ps):ref1PieceError_con.φ x=denF Try.prog qdI qdJ Try.f105 ref1PieceError_con.ps ref1PieceError_con.one ref1PieceError_con.res ref1PieceError_con.ρ x:=by kernel_rfl
theorem qh7:ConOK Try.prog 105 ref1PieceError_con :=
  qh (env:=qdI) ((EnvOK.cons (EnvOK.nil _) qc5)) mixed Try.func105 ref1PieceError_con qdJ (by kernel_rfl) (fun h=>by first | rfl | cases h) (fun g hg=>by cases hg) qhE
def qdQ:Ann:=(.two .nil (.two .nil (.two .nil (.two .nil (.two .nil (.two .nil (.two (.two .nil (.joinE ⟨[1,3],[],[]⟩ (.two (.loop ⟨[1,3,35],[(36,Zt28)],[]⟩ .nil) .nil))) (.two .nil (.two (.two .nil (.joinE ⟨[1,3],[],[]⟩ (.two (.loop ⟨[1,3,57,58],[(59,Zt28)],[]⟩ .nil) .nil))) (.two .nil (.two (.two .nil (.joinE ⟨[1],[],[]⟩ (.two (.loop ⟨[1,3,74,75],[(76,Zt28)],[]⟩ (.two .nil (.two .nil (.two (.two (.two .nil (.two .nil (.two .nil (.two (.two .nil (.join ⟨[1,3,9,11,74,75,76],[(10,.bool)],[]⟩ .nil)) (.two (.two .nil (.join ⟨[1,3,10,74,75,76],[(11,.bool)],[]⟩ .nil)) .nil))))) .nil) .nil)))) .nil))) .nil)))))))))))
noncomputable def ref1RulesError_con:Con:=⟨[Zt5],true,[],Zt28,fun x=>qca x.1,none⟩
noncomputable def qdX:Env:=(105,.con ref1PieceError_con)::(32,.con ref1In_con)::(104,.con ref1Named_con)::[]
theorem qhG (x:DL ref1RulesError_con.ps):ref1RulesError_con.φ x=denF Try.prog qdX qdQ Try.f69 ref1RulesError_con.ps ref1RulesError_con.one ref1RulesError_con.res ref1RulesError_con.ρ x:=by kernel_rfl
theorem qii:ConOK Try.prog 69 ref1RulesError_con :=
  qh (env:=qdX) ((EnvOK.cons (EnvOK.cons (EnvOK.cons (EnvOK.nil _) qoc) qc5) qh7)) mixed Try.func69 ref1RulesError_con qdQ (by kernel_rfl) (fun h=>by first | rfl | cases h) (fun g hg=>by cases hg) qhG
def qdv:Ann:=(.two .nil (.two .nil (.two .nil (.two .nil (.two .nil (.two (.two .nil (.join ⟨[3],[(7,.bool)],[]⟩ (.two (.loop ⟨[3,6,56,57],[(7,.bool),(58,Zt28)],[]⟩ .nil) .nil))) (.two (.two .nil (.join ⟨[],[(7,.bool)],[]⟩ (.two (.loop ⟨[71],[(7,.bool),(72,Zt28)],[]⟩ (.two .nil (.two .nil (.two (.join ⟨[71,72],[(7,.bool)],[]⟩ (.two (.two .nil (.two .nil (.join ⟨[71,72],[(7,.bool)],[]⟩ (.two (.loop ⟨[71,72,75,76],[(7,.bool),(77,Zt28)],[]⟩ .nil) .nil)))) .nil)) .nil)))) .nil))) .nil)))))))
noncomputable def ref1PlaceError_con:Con:=⟨[Zt5,Zt12],true,[],Zt28,fun x=>qck x.1 x.2.1,none⟩
noncomputable def qdN:Env:=(32,.con ref1In_con)::(69,.con ref1RulesError_con)::[]
theorem qgW (x:DL ref1PlaceError_con.ps):ref1PlaceError_con.φ x=denF Try.prog qdN qdv Try.f33 ref1PlaceError_con.ps ref1PlaceError_con.one ref1PlaceError_con.res ref1PlaceError_con.ρ x:=by kernel_rfl
theorem qh8:ConOK Try.prog 33 ref1PlaceError_con :=
  qh (env:=qdN) ((EnvOK.cons (EnvOK.cons (EnvOK.nil _) qii) qc5)) mixed Try.func33 ref1PlaceError_con qdv (by kernel_rfl) (fun h=>by first | rfl | cases h) (fun g hg=>by cases hg) qgW
def qiO:Ann := .nil
noncomputable def ref1Mine_con:Con:=⟨[Zt28,Zt28],true,[],.bool,fun x=>qd3 x.1 x.2.1,none⟩
noncomputable def qiF:Env:=[]
theorem qoi (x:DL ref1Mine_con.ps):ref1Mine_con.φ x=denF Try.prog qiF qiO Try.f106 ref1Mine_con.ps ref1Mine_con.one ref1Mine_con.res ref1Mine_con.ρ x:=by kernel_rfl
theorem qgF:ConOK Try.prog 106 ref1Mine_con :=
  qh (env:=qiF) ((EnvOK.nil _)) mixed Try.func106 ref1Mine_con qiO (by kernel_rfl) (fun h=>by first | rfl | cases h) (fun g hg=>by cases hg) qoi
def qjC:Ann := .nil
noncomputable def ref1Far_con:Con:=⟨[Zt5,Zt28,Zt28],true,[],.bool,fun x=>qjS x.1 x.2.1 x.2.2.1,some fun x=>qeG x.1 x.2.1 x.2.2.1⟩
noncomputable def qkj:Env:=[]
theorem qok (x:DL ref1Far_con.ps):ref1Far_con.φ x=denF Try.prog qkj qjC Try.f71 ref1Far_con.ps ref1Far_con.one ref1Far_con.res ref1Far_con.ρ x:=by kernel_rfl
theorem qlq:ConOK Try.prog 71 ref1Far_con :=
  qh (env:=qkj) ((EnvOK.nil _)) mixed Try.func71 ref1Far_con qjC (by kernel_rfl) (fun h=>by first | rfl | cases h) (fun g hg x=>by
    cases hg
    exact qqN _ _ _) qok
def qlz:Ann := .nil
noncomputable def ref1At_con:Con:=⟨[Zt5,Zt12,Zt28,Zt28],true,[],Zt28,fun x=>qk4 x.1 x.2.1 x.2.2.1 x.2.2.2.1,none⟩
noncomputable def qle:Env:=(32,.con ref1In_con)::[]
theorem qqM (x:DL ref1At_con.ps):ref1At_con.φ x=denF Try.prog qle qlz Try.f107 ref1At_con.ps ref1At_con.one ref1At_con.res ref1At_con.ρ x:=by kernel_rfl
theorem qn1:ConOK Try.prog 107 ref1At_con :=
  qh (env:=qle) ((EnvOK.cons (EnvOK.nil _) qc5)) mixed Try.func107 ref1At_con qlz (by kernel_rfl) (fun h=>by first | rfl | cases h) (fun g hg=>by cases hg) qqM
def qfm:Ann:=(.two .nil (.two .nil (.two .nil (.two (.two .nil (.joinE ⟨[],[],[]⟩ (.two (.loop ⟨[3,5,6,9,11,12,13],[(14,Zt28)],[]⟩ .nil) .nil))) .nil))))
noncomputable def ref1Reaches_con:Con:=⟨[Zt5,Zt12,Zt28,Zt28,Zt17],true,[],.bool,fun x=>qeE x.1 x.2.1 x.2.2.1 x.2.2.2.1 x.2.2.2.2.1,none⟩
noncomputable def qfu:Env:=(106,.con ref1Mine_con)::(107,.con ref1At_con)::[]
theorem qjW (x:DL ref1Reaches_con.ps):ref1Reaches_con.φ x=denF Try.prog qfu qfm Try.f109 ref1Reaches_con.ps ref1Reaches_con.one ref1Reaches_con.res ref1Reaches_con.ρ x:=by kernel_rfl
theorem qkG:ConOK Try.prog 109 ref1Reaches_con :=
  qh (env:=qfu) ((EnvOK.cons (EnvOK.cons (EnvOK.nil _) qn1) qgF)) mixed Try.func109 ref1Reaches_con qfm (by kernel_rfl) (fun h=>by first | rfl | cases h) (fun g hg=>by cases hg) qjW
def qfE:Ann:=(.two .nil (.two .nil (.two .nil (.two (.two .nil (.two (.two .nil (.two (.two .nil (.joinE ⟨[],[],[]⟩ (.two (.loop ⟨[3,4,5],[(8,Zt28)],[]⟩ .nil) .nil))) .nil)) .nil)) (.two .nil (.two .nil (.two .nil (.two .nil (.two (.two .nil (.two .nil (.join ⟨[3,4,5,10],[(11,Zt28)],[]⟩ .nil))) (.two .nil (.two (.two .nil (.joinE ⟨[],[],[]⟩ (.two (.loop ⟨[3,4,5,132,133],[(134,Zt28)],[]⟩ .nil) .nil))) .nil)))))))))))
noncomputable def ref1Allowed_con:Con:=⟨[Zt5,Zt12,Zt21],true,[],.bool,fun x=>qeQ x.1 x.2.1 x.2.2.1,none⟩
noncomputable def qfb:Env:=(109,.con ref1Reaches_con)::(71,.con ref1Far_con)::(106,.con ref1Mine_con)::(32,.con ref1In_con)::[]
theorem qjO (x:DL ref1Allowed_con.ps):ref1Allowed_con.φ x=denF Try.prog qfb qfE Try.f75 ref1Allowed_con.ps ref1Allowed_con.one ref1Allowed_con.res ref1Allowed_con.ρ x:=by kernel_rfl
theorem qkD:ConOK Try.prog 75 ref1Allowed_con :=
  qh (env:=qfb) ((EnvOK.cons (EnvOK.cons (EnvOK.cons (EnvOK.cons (EnvOK.nil _) qc5) qgF) qlq) qkG)) mixed Try.func75 ref1Allowed_con qfE (by kernel_rfl) (fun h=>by first | rfl | cases h) (fun g hg=>by cases hg) qjO
def qgS:Ann:=(.two .nil (.two .nil (.two (.two .nil (.join ⟨[],[(5,Zt20)],[]⟩ (.two (.loop ⟨[2,3],[(5,Zt20),(6,Zt28)],[]⟩ (.two .nil (.two (.join ⟨[2,3,6],[(5,Zt20)],[(2,none)]⟩ (.two (.two .nil (.join ⟨[2,3,6],[(5,Zt20)],[(2,none)]⟩ (.two (.loop ⟨[2,3,6,19],[(5,Zt20),(20,Zt28)],[(2,none)]⟩ (.two .nil (.two .nil (.two (.join ⟨[2,3,6,19,20],[(5,Zt20)],[(3,none)]⟩ (.two (.two .nil (.two .nil (.join ⟨[2,3,6,19,20],[(5,Zt20)],[(3,none)]⟩ (.two (.loop ⟨[2,3,6,7,19,20,25],[(5,Zt20),(26,Zt28)],[(3,none)]⟩ (.two .nil (.two .nil (.two (.two (.two .nil (.two .nil (.two .nil (.join ⟨[2,3,6,7,19,20,25,26],[(5,Zt20)],[(4,none)]⟩ .nil)))) .nil) .nil)))) .nil)))) .nil)) .nil)))) .nil))) .nil)) .nil))) .nil))) .nil)))
noncomputable def ref1Moves_con:Con:=⟨[Zt5,Zt12],true,[],Zt20,fun x=>qaZ x.1 x.2.1,none⟩
noncomputable def qg6:Env:=(75,.con ref1Allowed_con)::[]
theorem qmb (x:DL ref1Moves_con.ps):ref1Moves_con.φ x=denF Try.prog qg6 qgS Try.f37 ref1Moves_con.ps ref1Moves_con.one ref1Moves_con.res ref1Moves_con.ρ x:=by kernel_rfl
theorem qcp:ConOK Try.prog 37 ref1Moves_con :=
  qh (env:=qg6) ((EnvOK.cons (EnvOK.nil _) qkD)) mixed Try.func37 ref1Moves_con qgS (by kernel_rfl) (fun h=>by first | rfl | cases h) (fun g hg=>by cases hg) qmb
def qg0:Ann:=(.two .nil (.two .nil (.two .nil (.two (.two .nil (.join ⟨[3,4,5,6,7,8],[],[(4,some (.box Zt13))]⟩ (.two (.loop ⟨[3,4,5,6,7,8,28,29],[(30,Zt28)],[(4,some (.box Zt13))]⟩ (.two .nil (.two .nil (.two (.two (.two .nil (.two (.two .nil (.two (.two .nil (.join ⟨[3,4,5,6,7,8,28,29,30],[(10,Zt28)],[]⟩ (.two .nil (.two .nil (.join ⟨[3,4,5,6,7,8,28,29,30],[(10,Zt28)],[]⟩ .nil))))) .nil)) .nil)) .nil) .nil)))) .nil))) (.two (.two .nil (.join ⟨[5,6,7,8],[],[(4,some (.box Zt13)),(5,none),(6,none),(7,none)]⟩ (.two (.loop ⟨[3,4,5,6,7,8],[(58,Zt28)],[(4,some (.box Zt13)),(5,none),(6,none),(7,none)]⟩ (.two .nil (.two .nil (.two (.join ⟨[3,4,5,6,7,8,58],[],[(4,some (.box Zt13)),(8,none),(9,none),(10,none)]⟩ (.two (.two .nil (.two .nil (.join ⟨[3,4,5,6,7,8,58],[],[(4,some (.box Zt13)),(8,none),(9,none),(10,none)]⟩ (.two (.loop ⟨[3,4,5,6,7,8,11,58,64,65],[(66,Zt28)],[(4,some (.box Zt13)),(8,none),(9,none),(10,none)]⟩ (.two .nil (.two .nil (.two (.two (.two .nil (.two (.two .nil (.join ⟨[3,4,5,6,7,8,11,12,58,64,65,66],[(13,Zt28)],[]⟩ .nil)) (.two (.two .nil (.join ⟨[3,4,5,6,7,8,11,58,64,65,66],[(13,Zt28)],[]⟩ .nil)) (.join ⟨[3,4,5,6,7,8,11,58,64,65,66],[],[(4,some (.box Zt13)),(11,none),(12,none),(13,none)]⟩ .nil)))) .nil) .nil)))) .nil)))) .nil)) .nil)))) .nil))) (.two (.two .nil (.join ⟨[5,6,7,8],[],[(4,some (.box Zt13)),(8,none),(9,none),(10,none)]⟩ .nil)) (.two (.two .nil (.join ⟨[6,7],[],[(4,some (.box Zt13)),(11,none),(12,none),(13,none)]⟩ .nil)) .nil)))))))
noncomputable def ref1After_con:Con:=⟨[Zt5,Zt12,Zt21],true,[],Zt11,fun x=>qbe x.1 x.2.1 x.2.2.1,none⟩
noncomputable def qhx:Env:=[]
theorem qma (x:DL ref1After_con.ps):ref1After_con.φ x=denF Try.prog qhx qg0 Try.f72 ref1After_con.ps ref1After_con.one ref1After_con.res ref1After_con.ρ x:=by kernel_rfl
theorem qiS:ConOK Try.prog 72 ref1After_con :=
  qh (env:=qhx) ((EnvOK.nil _)) mixed Try.func72 ref1After_con qg0 (by kernel_rfl) (fun h=>by first | rfl | cases h) (fun g hg=>by cases hg) qma
def qhg:Ann:=(.two .nil (.two (.two .nil (.joinE ⟨[],[],[]⟩ (.two (.loop ⟨[2,3,4,5,16],[(17,Zt28)],[]⟩ (.two .nil (.two .nil (.two (.joinE ⟨[2,3,4,5,16,17],[],[]⟩ (.two (.two .nil (.two .nil (.joinE ⟨[2,3,4,5,16,17],[],[]⟩ (.two (.loop ⟨[2,3,4,5,9,16,17,21],[(22,Zt28)],[]⟩ (.two .nil (.two .nil (.two (.joinE ⟨[2,3,4,5,9,16,17,21,22],[],[]⟩ (.two (.two .nil (.two .nil (.joinE ⟨[2,3,4,5,9,16,17,21,22],[],[]⟩ (.two (.loop ⟨[2,3,4,5,9,10,16,17,21,22],[(25,Zt28)],[]⟩ (.two .nil (.two .nil (.two (.joinE ⟨[2,3,4,5,9,10,16,17,21,22,25],[],[]⟩ (.two (.two .nil (.two (.join ⟨[2,3,4,5,9,10,16,17,21,22,25],[(12,Zt28),(13,Zt28)],[]⟩ (.any 1006 17 (.ord 1 0 .nil (.ord 5 0 .nil (.alt (.ord 0 0 .nil (.ord 2 0 .nil (.ord 3 247 .nil (.ord 8 0 .nil (.ord 4 0 .nil (.ord 6 0 .nil (.ord 7 0 .nil (.ord 9 0 .nil .nil)))))))) (.ord 4 0 .nil (.ord 6 0 .nil (.ord 7 383 .nil (.ord 0 0 .nil (.ord 2 0 .nil (.ord 3 0 .nil (.ord 8 0 .nil (.ord 9 0 .nil .nil))))))))))))) (.two .nil (.two (.join ⟨[2,3,4,5,9,10,16,17,21,22,25],[(14,Zt28)],[]⟩ (.two (.loop ⟨[2,3,4,5,9,10,12,13,16,17,21,22,25],[(14,Zt28)],[]⟩ .nil) .nil)) .nil)))) .nil)) .nil)))) .nil)))) .nil)) .nil)))) .nil)))) .nil)) .nil)))) .nil))) .nil))
noncomputable def ref1Lined_con:Con:=⟨[Zt5,Zt12,Zt28,Zt28],true,[],.bool,fun x=>qe3 x.1 x.2.1 x.2.2.1 x.2.2.2.1,none⟩
noncomputable def qhV:Env:=(106,.con ref1Mine_con)::(107,.con ref1At_con)::[]
theorem qlK (x:DL ref1Lined_con.ps):ref1Lined_con.φ x=denF Try.prog qhV qhg Try.f70 ref1Lined_con.ps ref1Lined_con.one ref1Lined_con.res ref1Lined_con.ρ x:=by kernel_rfl
theorem qob:ConOK Try.prog 70 ref1Lined_con :=
  qh (env:=qhV) ((EnvOK.cons (EnvOK.cons (EnvOK.nil _) qn1) qgF)) mixed Try.func70 ref1Lined_con qhg (by kernel_rfl) (fun h=>by first | rfl | cases h) (fun g hg=>by cases hg) qlK
def qgl:Ann:=(.two .nil (.two .nil (.two (.two .nil (.joinE ⟨[2,3,5],[],[]⟩ (.two (.loop ⟨[2,3,5,16,17],[(18,Zt28)],[]⟩ (.two .nil (.two .nil (.two (.joinE ⟨[2,3,5,16,17,18],[],[]⟩ (.two (.two .nil (.two .nil (.two .nil (.two (.two .nil (.join ⟨[2,3,5,7,16,17,18],[(8,.bool),(9,Zt28)],[]⟩ (.two (.loop ⟨[2,3,5,7,16,17,18,34,35],[(8,.bool),(9,Zt28),(36,Zt28)],[]⟩ (.two .nil (.two .nil (.two (.two (.two .nil (.two (.two .nil (.join ⟨[2,3,5,7,9,11,16,17,18,34,35,36],[(8,.bool)],[]⟩ .nil)) (.two .nil (.join ⟨[2,3,5,7,8,16,17,18,34,35,36],[(9,Zt28)],[]⟩ .nil)))) .nil) .nil)))) .nil))) (.two (.two .nil (.join ⟨[2,3,5,7,16,17,18],[(8,.bool)],[]⟩ .nil)) .nil))))) .nil)) .nil)))) .nil))) .nil)))
noncomputable def ref1Result_con:Con:=⟨[Zt5,Zt12],true,[],Zt28,fun x=>qa1 x.1 x.2.1,none⟩
noncomputable def qgg:Env:=(37,.con ref1Moves_con)::(71,.con ref1Far_con)::(70,.con ref1Lined_con)::[]
theorem qkF (x:DL ref1Result_con.ps):ref1Result_con.φ x=denF Try.prog qgg qgl Try.f34 ref1Result_con.ps ref1Result_con.one ref1Result_con.res ref1Result_con.ρ x:=by kernel_rfl
theorem qeP:ConOK Try.prog 34 ref1Result_con :=
  qh (env:=qgg) ((EnvOK.cons (EnvOK.cons (EnvOK.cons (EnvOK.nil _) qob) qlq) qcp)) mixed Try.func34 ref1Result_con qgl (by kernel_rfl) (fun h=>by first | rfl | cases h) (fun g hg=>by cases hg) qkF
def qhd:Ann := .nil
noncomputable def ref1Mixed_con:Con:=⟨[Zt28],true,[],(.int .u64),fun x=>qgs x.1,some fun x=>qef x.1⟩
noncomputable def qhF:Env:=[]
theorem qmm (x:DL ref1Mixed_con.ps):ref1Mixed_con.φ x=denF Try.prog qhF qhd Try.f132 ref1Mixed_con.ps ref1Mixed_con.one ref1Mixed_con.res ref1Mixed_con.ρ x:=by kernel_rfl
theorem qnW:ConOK Try.prog 132 ref1Mixed_con :=
  qh (env:=qhF) ((EnvOK.nil _)) mixed Try.func132 ref1Mixed_con qhd (by kernel_rfl) (fun h=>by first | rfl | cases h) (fun g hg x=>by
    cases hg
    exact qnf _) qmm
def qhh:Ann := .nil
noncomputable def law1Three_con:Con:=⟨[],true,[],(.st .str (.st Zt28 (.st Zt28 (.st (.osl 153 Zt9) (.st Zt26 (.st .bool (.st .bool (.st (.osl 155 Zt19) Zt21)))))))),fun x=>qgr,some fun x=>qn⟩
noncomputable def qgV:Env:=[]
theorem qmc (x:DL law1Three_con.ps):law1Three_con.φ x=denF Try.prog qgV qhh Try.f28 law1Three_con.ps law1Three_con.one law1Three_con.res law1Three_con.ρ x:=by kernel_rfl
theorem qoe:ConOK Try.prog 28 law1Three_con :=
  qh (env:=qgV) ((EnvOK.nil _)) mixed Try.func28 law1Three_con qhh (by kernel_rfl) (fun h=>by first | rfl | cases h) (fun g hg x=>by
    cases hg
    exact qmZ ) qmc
def qkc:Ann := .nil
noncomputable def law1Put_con:Con:=⟨[Zt28],true,[],Zt21,fun x=>qjF x.1,some fun x=>qd6 x.1⟩
noncomputable def qj4:Env:=[]
theorem qpg (x:DL law1Put_con.ps):law1Put_con.φ x=denF Try.prog qj4 qkc Try.f30 law1Put_con.ps law1Put_con.one law1Put_con.res law1Put_con.ρ x:=by kernel_rfl
theorem qqn:ConOK Try.prog 30 law1Put_con :=
  qh (env:=qj4) ((EnvOK.nil _)) mixed Try.func30 law1Put_con qkc (by kernel_rfl) (fun h=>by first | rfl | cases h) (fun g hg x=>by
    cases hg
    exact qre _) qpg
def qdk:Ann := .nil
noncomputable def slicesClone_int_con:Con:=⟨[Zt27],true,[],Zt26,fun x=>qaa x.1,none⟩
noncomputable def qdl:Env:=[]
theorem qgA (x:DL slicesClone_int_con.ps):slicesClone_int_con.φ x=denF Try.prog qdl qdk Try.f80 slicesClone_int_con.ps slicesClone_int_con.one slicesClone_int_con.res slicesClone_int_con.ρ x:=by kernel_rfl
theorem qgN:ConOK Try.prog 80 slicesClone_int_con :=
  qh (env:=qdl) ((EnvOK.nil _)) mixed Try.func80 slicesClone_int_con qdk (by kernel_rfl) (fun h=>by first | rfl | cases h) (fun g hg=>by cases hg) qgA
def qhv:Ann:=(.two .nil (.two .nil (.two (.join ⟨[1,2],[],[(0,some (.box Zt13)),(2,none)]⟩ (.any 887 0 (.ord 0 0 .nil (.ord 1 0 .nil (.ord 2 115 .nil (.ord 4 0 .nil (.ord 5 0 .nil (.alt (.ord 3 0 .nil (.ord 6 0 .nil (.ord 7 0 .nil (.ord 8 0 .nil (.ord 9 0 .nil (.ord 10 0 .nil .nil)))))) (.ord 6 0 .nil (.ord 3 0 .nil (.ord 7 0 .nil (.ord 8 0 .nil (.ord 9 0 .nil (.ord 10 0 .nil .nil)))))))))))))) .nil)))
noncomputable def placeCopy_con:Con:=⟨[Zt12],true,[],Zt11,fun x=>qhw x.1,none⟩
noncomputable def qhs:Env:=(80,.con slicesClone_int_con)::[]
theorem qmt (x:DL placeCopy_con.ps):placeCopy_con.φ x=denF Try.prog qhs qhv Try.f111 placeCopy_con.ps placeCopy_con.one placeCopy_con.res placeCopy_con.ρ x:=by kernel_rfl
theorem qnP:ConOK Try.prog 111 placeCopy_con :=
  qh (env:=qhs) ((EnvOK.cons (EnvOK.nil _) qgN)) mixed Try.func111 placeCopy_con qhv (by kernel_rfl) (fun h=>by first | rfl | cases h) (fun g hg=>by cases hg) qmt
def qhX:Ann:=(.two .nil (.two .nil (.two .nil (.two (.two .nil (.join ⟨[3,4,5,6,7,8],[],[(4,some (.arr 3 Zt28)),(5,some (.arr 3 Zt28)),(6,some (.arr 3 Zt28))]⟩ (.two .nil (.join ⟨[3,4,5,6,7,8],[],[(5,some (.arr 3 Zt28)),(6,some (.arr 3 Zt28))]⟩ (.tail 11 .nil))))) (.two .nil (.two (.two .nil (.join ⟨[4,5,6,7,8],[],[(5,some (.arr 3 Zt28)),(6,some (.arr 3 Zt28))]⟩ (.two (.two .nil (.join ⟨[4,5,6,7,8],[],[(5,some (.arr 3 Zt28)),(6,some (.arr 3 Zt28))]⟩ (.tail 17 .nil))) .nil))) (.two .nil (.two (.two .nil (.join ⟨[4,6,7],[],[(4,none),(5,none),(6,none),(7,some (.box Zt13))]⟩ .nil)) .nil))))))))
noncomputable def movesMake_con:Con:=⟨[Zt5,Zt12,Zt21],true,[],Zt11,fun x=>qcz x.1 x.2.1 x.2.2.1,none⟩
noncomputable def qgO:Env:=(111,.con placeCopy_con)::[]
theorem qmF (x:DL movesMake_con.ps):movesMake_con.φ x=denF Try.prog qgO qhX Try.f95 movesMake_con.ps movesMake_con.one movesMake_con.res movesMake_con.ρ x:=by kernel_rfl
theorem qiG:ConOK Try.prog 95 movesMake_con :=
  qh (env:=qgO) ((EnvOK.cons (EnvOK.nil _) qnP)) mixed Try.func95 movesMake_con qhX (by kernel_rfl) (fun h=>by first | rfl | cases h) (fun g hg=>by cases hg) qmF
end Go.Proofs.Ytcifaoaepbidoaa

