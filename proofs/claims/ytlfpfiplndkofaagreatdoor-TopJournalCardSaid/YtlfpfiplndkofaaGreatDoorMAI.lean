/- Several texts in one: CoreC, GameC, JournalC. -/
import Derived.Test.YtlfpfiplndkofaaGreatDoorMAA
import Derived.Test.YtlfpfiplndkofaaGreatDoorMAH
import Derived.Test.YtlfpfiplndkofaaGreatDoorMAD
import Derived.Test.YtlfpfiplndkofaaGreatDoorStrC
namespace Go.Proofs.YtlfpfiplndkofaaGreatDoor
open Go.Den
set_option linter.unusedVariables false
set_option maxRecDepth 100000
def qoZ:Ann:=(.two .nil (.two .nil (.two (.two .nil (.joinE ⟨[],[],[]⟩ (.two (.loop ⟨[3,4,9,19],[(20,Zt59)],[]⟩ (.two .nil (.two .nil (.two (.joinE ⟨[3,4,9,19,20],[],[]⟩ (.two (.two .nil (.two .nil (.joinE ⟨[3,4,9,19,20],[],[]⟩ (.two (.loop ⟨[3,4,9,10,19,20,27],[(28,Zt59)],[]⟩ (.two .nil (.two .nil (.two (.joinE ⟨[3,4,9,10,19,20,27,28],[],[]⟩ (.two (.two .nil (.two .nil (.two (.join ⟨[3,4,9,10,19,20,27,28],[(15,Zt59)],[]⟩ (.two (.loop ⟨[3,4,9,10,12,19,20,27,28],[(13,Zt59),(14,Zt59),(15,Zt59)],[]⟩ (.two (.two (.join ⟨[3,4,9,10,12,13,14,15,19,20,27,28],[(47,.bool)],[]⟩ .nil) .nil) .nil)) .nil)) .nil))) .nil)) .nil)))) .nil)))) .nil)) .nil)))) .nil))) .nil)))
noncomputable def endsLine_con:Con:=⟨[Zt13,Zt30,Zt59,Zt59],true,[],.bool,fun x=>qpE x.1 x.2.1 x.2.2.1 x.2.2.2.1,none⟩
noncomputable def qo3:Env:=(255,.body Tryz.f255)::(57,.ck 86)::[]
theorem qu1 (x:DL endsLine_con.ps):endsLine_con.φ x=denF Tryz.prog qo3 qoZ Tryz.f233 endsLine_con.ps endsLine_con.one endsLine_con.res endsLine_con.ρ x:=by kernel_rfl
theorem qv6:ConOK Tryz.prog 233 endsLine_con :=
  qa (env:=qo3) ((EnvOK.body (EnvOK.check (EnvOK.nil _) qc) Tryz.func255)) mixed Tryz.func233 endsLine_con qoZ (by kernel_rfl) (fun h=>by first | rfl | cases h) (fun g hg=>by cases hg) qu1
def qjg:Ann := .nil
noncomputable def rulesIsLast_con:Con:=⟨[Zt13,Zt59,Zt59],true,[],.bool,fun x=>qfC x.1 x.2.1 x.2.2.1,none⟩
noncomputable def qjV:Env:=[]
theorem qqu (x:DL rulesIsLast_con.ps):rulesIsLast_con.φ x=denF Tryz.prog qjV qjg Tryz.f207 rulesIsLast_con.ps rulesIsLast_con.one rulesIsLast_con.res rulesIsLast_con.ρ x:=by kernel_rfl
theorem qlu:ConOK Tryz.prog 207 rulesIsLast_con :=
  qa (env:=qjV) ((EnvOK.nil _)) mixed Tryz.func207 rulesIsLast_con qjg (by kernel_rfl) (fun h=>by first | rfl | cases h) (fun g hg=>by cases hg) qqu
def qnz:Ann:=(.two .nil (.two (.two .nil (.joinE ⟨[3,5,6],[],[]⟩ (.two (.two .nil (.two .nil (.two .nil (.two (.two (.two .nil (.joinE ⟨[3,5,6],[],[]⟩ (.two (.loop ⟨[3,4,5,6,27,28],[(29,Zt59)],[]⟩ .nil) .nil))) .nil) .nil)))) .nil))) (.two .nil (.two (.two .nil (.join ⟨[6],[(11,Zt59)],[]⟩ (.two (.loop ⟨[3,6,50,51],[(11,Zt59),(52,Zt59)],[]⟩ (.two .nil (.two .nil (.two (.two (.two .nil (.two .nil (.join ⟨[3,6,50,51,52],[(11,Zt59)],[]⟩ .nil))) .nil) .nil)))) .nil))) .nil))))
noncomputable def endsHolds_con:Con:=⟨[Zt13,Zt30,Zt42,Zt59],true,[],.bool,fun x=>qmA x.1 x.2.1 x.2.2.1 x.2.2.2.1,none⟩
noncomputable def qnJ:Env:=(207,.con rulesIsLast_con)::(233,.con endsLine_con)::[]
theorem qs1 (x:DL endsHolds_con.ps):endsHolds_con.φ x=denF Tryz.prog qnJ qnz Tryz.f193 endsHolds_con.ps endsHolds_con.one endsHolds_con.res endsHolds_con.ρ x:=by kernel_rfl
theorem quE:ConOK Tryz.prog 193 endsHolds_con :=
  qa (env:=qnJ) ((EnvOK.cons (EnvOK.cons (EnvOK.nil _) qv6) qlu)) mixed Tryz.func193 endsHolds_con qnz (by kernel_rfl) (fun h=>by first | rfl | cases h) (fun g hg=>by cases hg) qs1
def qo2:Ann := .nil
noncomputable def endsWins_con:Con:=⟨[Zt59],true,[],Zt59,fun x=>qnV x.1,some fun x=>qdm x.1⟩
noncomputable def qo5:Env:=[]
theorem qua (x:DL endsWins_con.ps):endsWins_con.φ x=denF Tryz.prog qo5 qo2 Tryz.f194 endsWins_con.ps endsWins_con.one endsWins_con.res endsWins_con.ρ x:=by kernel_rfl
theorem qwC:ConOK Tryz.prog 194 endsWins_con :=
  qa (env:=qo5) ((EnvOK.nil _)) mixed Tryz.func194 endsWins_con qo2 (by kernel_rfl) (fun h=>by first | rfl | cases h) (fun g hg x=>by
    cases hg
    exact qvQ _) qua
def qjz:Ann:=(.two .nil (.two (.two .nil (.joinE ⟨[],[],[]⟩ (.two (.loop ⟨[3,4],[(2,Zt59)],[]⟩ .nil) .nil))) .nil))
noncomputable def movesFilled_con:Con:=⟨[Zt13,Zt30,Zt59],true,[],.bool,fun x=>qhN x.1 x.2.1 x.2.2.1,none⟩
noncomputable def qje:Env:=[]
theorem qqE (x:DL movesFilled_con.ps):movesFilled_con.φ x=denF Tryz.prog qje qjz Tryz.f240 movesFilled_con.ps movesFilled_con.one movesFilled_con.res movesFilled_con.ρ x:=by kernel_rfl
theorem qrz:ConOK Tryz.prog 240 movesFilled_con :=
  qa (env:=qje) ((EnvOK.nil _)) mixed Tryz.func240 movesFilled_con qjz (by kernel_rfl) (fun h=>by first | rfl | cases h) (fun g hg=>by cases hg) qqE
def qmE:Ann:=(.two .nil (.two .nil (.two (.two .nil (.join ⟨[],[(5,Zt44)],[]⟩ (.two (.loop ⟨[2,3,11,12],[(5,Zt44),(13,Zt59)],[]⟩ (.two .nil (.two .nil (.two (.join ⟨[2,3,11,12,13],[(5,Zt44)],[(2,none)]⟩ (.two (.two .nil (.two .nil (.two .nil (.join ⟨[2,3,11,12,13],[(5,Zt44)],[(2,none)]⟩ (.two (.loop ⟨[2,3,6,11,12,13,41,42],[(5,Zt44),(43,Zt59)],[(2,none)]⟩ (.two .nil (.two .nil (.two (.two (.two .nil (.two .nil (.join ⟨[2,3,6,11,12,13,41,42,43],[(5,Zt44)],[(3,none)]⟩ .nil))) .nil) .nil)))) .nil))))) .nil)) .nil)))) .nil))) .nil)))
noncomputable def movesPuts_con:Con:=⟨[Zt13,Zt30],true,[],Zt44,fun x=>qmJ x.1 x.2.1,none⟩
noncomputable def qmi:Env:=(240,.con movesFilled_con)::[]
theorem qtT (x:DL movesPuts_con.ps):movesPuts_con.φ x=denF Tryz.prog qmi qmE Tryz.f205 movesPuts_con.ps movesPuts_con.one movesPuts_con.res movesPuts_con.ρ x:=by kernel_rfl
theorem quY:ConOK Tryz.prog 205 movesPuts_con :=
  qa (env:=qmi) ((EnvOK.cons (EnvOK.nil _) qrz)) mixed Tryz.func205 movesPuts_con qmE (by kernel_rfl) (fun h=>by first | rfl | cases h) (fun g hg=>by cases hg) qtT
def qoF:Ann:=(.two .nil (.two .nil (.two .nil (.two (.two .nil (.join ⟨[2,4,5,7,9],[(10,Zt59)],[]⟩ .nil)) (.two .nil (.two (.two .nil (.join ⟨[],[(9,Zt56)],[]⟩ (.two (.loop ⟨[4,5,7,10,31],[(9,Zt56),(11,Zt59),(12,Zt59),(32,Zt59)],[]⟩ (.two .nil (.two .nil (.two (.two (.two .nil (.two .nil (.two .nil (.two .nil (.two (.two .nil (.join ⟨[4,5,7,10,11,12,13,31,32],[(9,Zt56)],[(3,none)]⟩ .nil)) .nil))))) .nil) .nil)))) .nil))) .nil))))))
noncomputable def movesWay_con:Con:=⟨[Zt13,Zt30,Zt59,Zt40],true,[],Zt56,fun x=>qpx x.1 x.2.1 x.2.2.1 x.2.2.2.1,none⟩
noncomputable def qpa:Env:=[]
theorem qug (x:DL movesWay_con.ps):movesWay_con.φ x=denF Tryz.prog qpa qoF Tryz.f206 movesWay_con.ps movesWay_con.one movesWay_con.res movesWay_con.ρ x:=by kernel_rfl
theorem qwq:ConOK Tryz.prog 206 movesWay_con :=
  qa (env:=qpa) ((EnvOK.nil _)) mixed Tryz.func206 movesWay_con qoF (by kernel_rfl) (fun h=>by first | rfl | cases h) (fun g hg=>by cases hg) qug
def qnx:Ann:=(.two .nil (.two .nil (.two (.two .nil (.join ⟨[],[(5,Zt44)],[(2,none)]⟩ (.two (.loop ⟨[2,3,19,20],[(5,Zt44),(21,Zt59)],[(2,none)]⟩ (.two .nil (.two .nil (.two (.join ⟨[2,3,19,20,21],[(5,Zt44)],[(3,none)]⟩ (.two (.two .nil (.two .nil (.two .nil (.two .nil (.join ⟨[2,3,19,20,21],[(5,Zt44)],[(3,none)]⟩ (.two (.loop ⟨[2,3,6,8,19,20,21,44,45],[(5,Zt44),(46,Zt59)],[(3,none)]⟩ (.two .nil (.two .nil (.two (.join ⟨[2,3,6,8,19,20,21,44,45,46],[(5,Zt44)],[(4,none)]⟩ (.two (.two .nil (.two .nil (.join ⟨[2,3,6,8,19,20,21,44,45,46],[(5,Zt44)],[(4,none)]⟩ (.two (.loop ⟨[2,3,6,8,19,20,21,44,45,46,54,55],[(5,Zt44),(56,Zt59)],[(4,none)]⟩ (.two .nil (.two .nil (.two (.two (.two .nil (.two .nil (.two (.two .nil (.two .nil (.join ⟨[2,3,5,6,8,13,19,20,21,44,45,46,54,55,56],[],[(8,some (.box Zt47))]⟩ .nil))) .nil))) .nil) .nil)))) .nil)))) .nil)) .nil)))) .nil)))))) .nil)) .nil)))) .nil))) (.two .nil (.two (.join ⟨[],[(4,Zt44)],[(3,none)]⟩ (.two (.two .nil (.two .nil (.two (.two .nil (.joinE ⟨[0],[],[(3,some (.arr 48 Zt47))]⟩ (.two (.loop ⟨[0],[(3,Zt59)],[(3,some (.arr 48 Zt47))]⟩ (.two .nil (.two (.joinE ⟨[0],[(3,Zt59)],[(3,some (.arr 48 Zt47))]⟩ (.two (.two .nil (.two (.two (.own .nil) (.two (.two .nil (.join ⟨[0],[(3,Zt59)],[(3,some (.arr 48 Zt47))]⟩ (.two (.loop ⟨[0,4],[(3,Zt59),(5,Zt59)],[(3,some (.arr 48 Zt47))]⟩ (.two .nil (.two (.two (.two .nil (.join ⟨[0,4,5],[(3,Zt59)],[(3,some (.arr 48 Zt47))]⟩ .nil)) .nil) .nil))) .nil))) (.two (.own .nil) (.two (.own .nil) .nil)))) .nil)) .nil)) .nil))) .nil))) .nil))) .nil)) .nil)))))
noncomputable def movesList_con:Con:=⟨[Zt13,Zt30],true,[],Zt44,fun x=>qaG x.1 x.2.1,none⟩
noncomputable def qmy:Env:=(212,.body Tryz.f212)::(208,.srt qif)::(207,.con rulesIsLast_con)::(206,.con movesWay_con)::(57,.ck 86)::(205,.con movesPuts_con)::[]
theorem qtA (x:DL movesList_con.ps):movesList_con.φ x=denF Tryz.prog qmy qnx Tryz.f154 movesList_con.ps movesList_con.one movesList_con.res movesList_con.ρ x:=by kernel_rfl
theorem qgG:ConOK Tryz.prog 154 movesList_con :=
  qa (env:=qmy) ((EnvOK.body (EnvOK.sort (EnvOK.cons (EnvOK.cons (EnvOK.check (EnvOK.cons (EnvOK.nil _) quY) qc) qwq) qlu) qvp) Tryz.func212)) mixed Tryz.func154 movesList_con qnx (by kernel_rfl) (fun h=>by first | rfl | cases h) (fun g hg=>by cases hg) qtA
def qkR:Ann:=(.two .nil (.two .nil (.two (.two (.two (.two .nil (.two (.two .nil (.joinE ⟨[],[],[]⟩ (.two (.loop ⟨[0,1,7],[(8,Zt59)],[]⟩ .nil) .nil))) .nil)) .nil) .nil) .nil)))
noncomputable def endsResult_con:Con:=⟨[Zt13,Zt30],true,[],Zt59,fun x=>qfy x.1 x.2.1,none⟩
noncomputable def qkQ:Env:=(194,.con endsWins_con)::(154,.con movesList_con)::(193,.con endsHolds_con)::(192,.body Tryz.f192)::(191,.body Tryz.f191)::(57,.ck 86)::[]
theorem qrI (x:DL endsResult_con.ps):endsResult_con.φ x=denF Tryz.prog qkQ qkR Tryz.f137 endsResult_con.ps endsResult_con.one endsResult_con.res endsResult_con.ρ x:=by kernel_rfl
theorem qmo:ConOK Tryz.prog 137 endsResult_con :=
  qa (env:=qkQ) ((EnvOK.cons (EnvOK.cons (EnvOK.cons (EnvOK.body (EnvOK.body (EnvOK.check (EnvOK.nil _) qc) Tryz.func191) Tryz.func192) quE) qgG) qwC)) mixed Tryz.func137 endsResult_con qkR (by kernel_rfl) (fun h=>by first | rfl | cases h) (fun g hg=>by cases hg) qrI
def qnF:Ann := .nil
noncomputable def endsMoves_con:Con:=⟨[Zt13,Zt30],true,[],Zt44,fun x=>qhy x.1 x.2.1,none⟩
noncomputable def qnn:Env:=(154,.con movesList_con)::(137,.con endsResult_con)::[]
theorem qtl (x:DL endsMoves_con.ps):endsMoves_con.φ x=denF Tryz.prog qnn qnF Tryz.f124 endsMoves_con.ps endsMoves_con.one endsMoves_con.res endsMoves_con.ρ x:=by kernel_rfl
theorem qoY:ConOK Tryz.prog 124 endsMoves_con :=
  qa (env:=qnn) ((EnvOK.cons (EnvOK.cons (EnvOK.nil _) qmo) qgG)) mixed Tryz.func124 endsMoves_con qnF (by kernel_rfl) (fun h=>by first | rfl | cases h) (fun g hg=>by cases hg) qtl
def qnU:Ann:=(.two .nil (.two (.two .nil (.joinE ⟨[0],[],[]⟩ (.two (.loop ⟨[0,6],[(7,Zt59)],[]⟩ .nil) .nil))) .nil))
noncomputable def rulesName_con:Con:=⟨[.str],true,[],.bool,fun x=>qi8 x.1,none⟩
noncomputable def qmx:Env:=[]
theorem qtk (x:DL rulesName_con.ps):rulesName_con.φ x=denF Tryz.prog qmx qnU Tryz.f139 rulesName_con.ps rulesName_con.one rulesName_con.res rulesName_con.ρ x:=by kernel_rfl
theorem qo7:ConOK Tryz.prog 139 rulesName_con :=
  qa (env:=qmx) ((EnvOK.nil _)) mixed Tryz.func139 rulesName_con qnU (by kernel_rfl) (fun h=>by first | rfl | cases h) (fun g hg=>by cases hg) qtk
def qjA:Ann := .nil
noncomputable def rulesWithin_con:Con:=⟨[Zt59,Zt59,Zt59],true,[],.bool,fun x=>qid x.1 x.2.1 x.2.2.1,some fun x=>qd x.1 x.2.1 x.2.2.1⟩
noncomputable def qjl:Env:=[]
theorem qqY (x:DL rulesWithin_con.ps):rulesWithin_con.φ x=denF Tryz.prog qjl qjA Tryz.f140 rulesWithin_con.ps rulesWithin_con.one rulesWithin_con.res rulesWithin_con.ρ x:=by kernel_rfl
theorem qhb:ConOK Tryz.prog 140 rulesWithin_con :=
  qa (env:=qjl) ((EnvOK.nil _)) mixed Tryz.func140 rulesWithin_con qjA (by kernel_rfl) (fun h=>by first | rfl | cases h) (fun g hg x=>by
    cases hg
    exact qrG _ _ _) qqY
def qi6:Ann:=(.two .nil (.two .nil (.two .nil (.two (.two .nil (.joinE ⟨[],[],[]⟩ (.two (.loop ⟨[1,16,17],[(18,Zt59)],[]⟩ (.two .nil (.two .nil (.two (.joinE ⟨[1,16,17,18],[],[]⟩ (.two (.two .nil (.two (.two (.two .nil (.two .nil (.two (.two (.two .nil (.two (.two (.two .nil (.two (.two .nil (.joinE ⟨[],[],[]⟩ (.two (.loop ⟨[0,1,7],[(8,Zt59)],[]⟩ .nil) .nil))) .nil)) .nil) .nil)) .nil) .nil))) .nil) (.two .nil (.joinE ⟨[1,16,17,18],[],[]⟩ (.two (.loop ⟨[1,16,17,18,59,60],[(61,Zt59)],[]⟩ .nil) .nil))))) .nil)) .nil)))) .nil))) .nil))))
noncomputable def rulesPieces_con:Con:=⟨[Zt13],true,[],Zt59,fun x=>qhX x.1,none⟩
noncomputable def qjQ:Env:=(140,.con rulesWithin_con)::(196,.body Tryz.f196)::(234,.body Tryz.f234)::(195,.body Tryz.f195)::(57,.ck 86)::[]
theorem qq4 (x:DL rulesPieces_con.ps):rulesPieces_con.φ x=denF Tryz.prog qjQ qi6 Tryz.f141 rulesPieces_con.ps rulesPieces_con.one rulesPieces_con.res rulesPieces_con.ρ x:=by kernel_rfl
theorem qrC:ConOK Tryz.prog 141 rulesPieces_con :=
  qa (env:=qjQ) ((EnvOK.cons (EnvOK.body (EnvOK.body (EnvOK.body (EnvOK.check (EnvOK.nil _) qc) Tryz.func195) Tryz.func234) Tryz.func196) qhb)) mixed Tryz.func141 rulesPieces_con qi6 (by kernel_rfl) (fun h=>by first | rfl | cases h) (fun g hg=>by cases hg) qq4
def qf4:Ann:=(.two .nil (.two .nil (.two (.two .nil (.joinE ⟨[],[],[]⟩ (.two (.loop ⟨[1,12,13],[(14,Zt59)],[]⟩ (.two .nil (.two .nil (.two (.two (.two .nil (.two .nil (.two (.two .nil (.two (.two .nil (.joinE ⟨[1,12,13,14],[(5,.bool),(6,.bool)],[]⟩ (.two .nil (.two .nil (.joinE ⟨[1,6,12,13,14],[(5,.bool)],[]⟩ .nil))))) .nil)) .nil))) .nil) .nil)))) .nil))) .nil)))
noncomputable def rulesConditions_con:Con:=⟨[Zt13],true,[],Zt59,fun x=>qch x.1,none⟩
noncomputable def qfR:Env:=(140,.con rulesWithin_con)::(57,.ck 86)::[]
theorem qlS (x:DL rulesConditions_con.ps):rulesConditions_con.φ x=denF Tryz.prog qfR qf4 Tryz.f144 rulesConditions_con.ps rulesConditions_con.one rulesConditions_con.res rulesConditions_con.ρ x:=by kernel_rfl
theorem qnO:ConOK Tryz.prog 144 rulesConditions_con :=
  qa (env:=qfR) ((EnvOK.cons (EnvOK.check (EnvOK.nil _) qc) qhb)) mixed Tryz.func144 rulesConditions_con qf4 (by kernel_rfl) (fun h=>by first | rfl | cases h) (fun g hg=>by cases hg) qlS
def qlc:Ann:=(.two .nil (.two .nil (.two .nil (.two .nil (.two .nil (.two (.two (.two (.two .nil (.two (.two (.two .nil (.two (.two .nil (.joinE ⟨[],[],[]⟩ (.two (.loop ⟨[0,1,7],[(8,Zt59)],[]⟩ .nil) .nil))) .nil)) .nil) .nil)) .nil) .nil) .nil))))))
noncomputable def rulesCheck_con:Con:=⟨[Zt13],true,[],Zt59,fun x=>qfu x.1,none⟩
noncomputable def qk4:Env:=(144,.con rulesConditions_con)::(143,.body Tryz.f143)::(197,.body Tryz.f197)::(142,.body Tryz.f142)::(141,.con rulesPieces_con)::(140,.con rulesWithin_con)::(139,.con rulesName_con)::[]
theorem qrA (x:DL rulesCheck_con.ps):rulesCheck_con.φ x=denF Tryz.prog qk4 qlc Tryz.f88 rulesCheck_con.ps rulesCheck_con.one rulesCheck_con.res rulesCheck_con.ρ x:=by kernel_rfl
theorem qhS:ConOK Tryz.prog 88 rulesCheck_con :=
  qa (env:=qk4) ((EnvOK.cons (EnvOK.body (EnvOK.body (EnvOK.body (EnvOK.cons (EnvOK.cons (EnvOK.cons (EnvOK.nil _) qo7) qhb) qrC) Tryz.func142) Tryz.func197) Tryz.func143) qnO)) mixed Tryz.func88 rulesCheck_con qlc (by kernel_rfl) (fun h=>by first | rfl | cases h) (fun g hg=>by cases hg) qrA
def qfQ:Ann := .nil
noncomputable def slicesClone_int_con:Con:=⟨[Zt57],true,[],Zt56,fun x=>qJ x.1,none⟩
noncomputable def qfS:Env:=[]
theorem qlW (x:DL slicesClone_int_con.ps):slicesClone_int_con.φ x=denF Tryz.prog qfS qfQ Tryz.f84 slicesClone_int_con.ps slicesClone_int_con.one slicesClone_int_con.res slicesClone_int_con.ρ x:=by kernel_rfl
theorem qdx:ConOK Tryz.prog 84 slicesClone_int_con :=
  qa (env:=qfS) ((EnvOK.nil _)) mixed Tryz.func84 slicesClone_int_con qfQ (by kernel_rfl) (fun h=>by first | rfl | cases h) (fun g hg=>by cases hg) qlW
def qT:Ann:=(.ord 13 0 .nil (.ord 16 0 .nil (.ord 18 0 .nil (.ord 19 0 .nil .nil))))
def qdQ:Ann:=(.alt (.ord 6 0 .nil (.ord 15 0 .nil (.ord 12 0 .nil qT))) (.ord 12 0 .nil (.ord 6 0 .nil (.ord 15 0 .nil qT))))
def qj5:Ann:=(.alt (.ord 6 0 .nil (.ord 9 155135 .nil (.ord 15 0 .nil (.ord 12 0 .nil qT)))) (.alt (.ord 9 0 .nil qdQ) (.ord 12 0 .nil (.alt (.ord 6 0 .nil (.ord 9 0 .nil (.ord 15 0 .nil qT))) (.ord 9 0 .nil (.ord 6 0 .nil (.ord 15 0 .nil qT)))))))
def qfM:Ann:=(.ord 11 182271 .nil (.ord 15 0 .nil (.ord 12 0 .nil qT)))
def qjE:Ann:=(.alt (.ord 5 0 .nil qdQ) (.ord 12 0 .nil (.ord 5 0 .nil (.ord 6 0 .nil (.ord 15 0 .nil qT)))))
def qkN:Ann:=(.two .nil (.two .nil (.two .nil (.two (.two .nil (.join ⟨[2,5],[],[(2,none),(3,some (.box Zt31))]⟩ (.two (.loop ⟨[2,5,19,20],[(21,Zt59)],[(2,none),(3,some (.box Zt31))]⟩ (.two .nil (.two .nil (.two (.two (.two .nil (.join ⟨[2,5,19,20,21],[],[(3,some (.box Zt31)),(4,none),(5,none),(6,none)]⟩ (.any 446367 4128 (.ord 0 0 .nil (.ord 1 0 .nil (.ord 2 155579 .nil (.ord 3 0 .nil (.ord 4 155535 .nil (.ord 7 0 .nil (.ord 8 0 .nil (.ord 10 0 .nil (.ord 14 0 .nil (.ord 17 0 .nil (.alt (.ord 5 0 .nil (.alt (.ord 6 0 .nil (.ord 9 155135 .nil qfM)) (.alt (.ord 9 0 .nil (.alt (.ord 6 0 .nil qfM) (.ord 11 0 .nil qdQ))) (.ord 11 0 .nil qj5)))) (.alt (.ord 9 0 .nil (.alt (.ord 5 0 .nil (.alt (.ord 6 0 .nil qfM) (.ord 11 0 .nil qdQ))) (.ord 11 0 .nil qjE))) (.ord 11 0 .nil (.alt (.ord 5 0 .nil qj5) (.alt (.ord 9 0 .nil qjE) (.ord 12 0 .nil (.alt (.ord 5 0 .nil (.alt (.ord 6 0 .nil (.ord 9 0 .nil (.ord 15 0 .nil qT))) (.ord 9 0 .nil (.ord 6 0 .nil (.ord 15 0 .nil qT))))) (.ord 9 0 .nil (.ord 5 0 .nil (.ord 6 0 .nil (.ord 15 0 .nil qT)))))))))))))))))))))))) .nil) .nil)))) .nil))) .nil))))
noncomputable def placeBegin_con:Con:=⟨[Zt13],false,[Zt27,Zt59],(.st Zt27 Zt55),fun x=>qct x.1,none⟩
noncomputable def qlm:Env:=(84,.con slicesClone_int_con)::(88,.con rulesCheck_con)::(57,.ck 86)::[]
theorem qrv (x:DL placeBegin_con.ps):placeBegin_con.φ x=denF Tryz.prog qlm qkN Tryz.f50 placeBegin_con.ps placeBegin_con.one placeBegin_con.res placeBegin_con.ρ x:=by kernel_rfl
theorem qfr:ConOK Tryz.prog 50 placeBegin_con :=
  qa (env:=qlm) ((EnvOK.cons (EnvOK.cons (EnvOK.check (EnvOK.nil _) qc) qhS) qdx)) mixed Tryz.func50 placeBegin_con qkN (by kernel_rfl) (fun h=>by first | rfl | cases h) (fun g hg=>by cases hg) qrv
def qeY:Ann:=(.two .nil (.two .nil (.two (.two .nil (.join ⟨[0],[(3,Zt59)],[]⟩ (.two (.loop ⟨[0,9,10],[(3,Zt59),(11,Zt59)],[]⟩ .nil) .nil))) (.two (.two (.two .nil (.two .nil (.two (.two .nil (.two .nil (.join ⟨[],[(0,Zt56)],[]⟩ (.two (.own (.own .nil)) .nil)))) .nil))) .nil) (.two (.two .nil (.join ⟨[],[(6,Zt56)],[(0,none)]⟩ (.two (.loop ⟨[25,26],[(6,Zt56),(27,Zt59)],[(0,none)]⟩ .nil) .nil))) .nil)))))
noncomputable def slicesConcat_int_con:Con:=⟨[(.sl Zt57)],true,[],Zt56,fun x=>qcQ x.1,none⟩
noncomputable def qe6:Env:=(274,.body Tryz.f274)::[]
theorem qkH (x:DL slicesConcat_int_con.ps):slicesConcat_int_con.φ x=denF Tryz.prog qe6 qeY Tryz.f267 slicesConcat_int_con.ps slicesConcat_int_con.one slicesConcat_int_con.res slicesConcat_int_con.ρ x:=by kernel_rfl
theorem qlP:ConOK Tryz.prog 267 slicesConcat_int_con :=
  qa (env:=qe6) ((EnvOK.body (EnvOK.nil _) Tryz.func274)) mixed Tryz.func267 slicesConcat_int_con qeY (by kernel_rfl) (fun h=>by first | rfl | cases h) (fun g hg=>by cases hg) qkH
def qjf:Ann:=(.ord 6 0 (.two .nil (.two (.two (.two .nil (.two (.two .nil (.joinE ⟨[],[],[]⟩ (.two (.loop ⟨[0,1,7],[(8,Zt59)],[]⟩ .nil) .nil))) .nil)) .nil) .nil)) (.ord 7 0 .nil (.ord 8 0 .nil (.ord 9 0 .nil (.ord 10 0 .nil (.ord 11 0 (.two .nil (.two (.two (.two .nil (.two (.two .nil (.joinE ⟨[],[],[]⟩ (.two (.loop ⟨[0,1,7],[(8,Zt59)],[]⟩ .nil) .nil))) .nil)) .nil) .nil)) (.ord 12 0 .nil (.ord 13 0 .nil (.ord 14 0 .nil (.ord 15 0 .nil (.ord 16 0 .nil (.ord 17 0 .nil (.ord 18 0 .nil (.ord 19 0 .nil (.ord 20 0 .nil (.ord 21 0 .nil (.ord 22 0 .nil (.ord 23 0 .nil (.ord 24 0 .nil (.ord 25 0 .nil (.ord 26 0 .nil (.ord 27 0 .nil (.ord 28 0 .nil (.ord 29 0 .nil (.ord 30 0 .nil (.ord 31 0 .nil (.ord 32 0 .nil .nil)))))))))))))))))))))))))))
def qk7:Ann:=(.two .nil (.two .nil (.two .nil (.two .nil (.two .nil (.two (.two (.join ⟨[],[(76,.bool)],[]⟩ (.any 8589931423 0 (.ord 0 0 .nil (.ord 2 0 .nil (.ord 3 0 .nil (.ord 4 0 .nil (.alt (.ord 1 0 .nil (.ord 5 0 .nil qjf)) (.ord 5 0 .nil (.ord 1 0 .nil qjf))))))))) .nil) .nil))))))
noncomputable def placeSound_con:Con:=⟨[Zt13,Zt30],true,[],Zt59,fun x=>qkd x.1 x.2.1,none⟩
noncomputable def qlo:Env:=(266,.body Tryz.f266)::(197,.body Tryz.f197)::(142,.body Tryz.f142)::(265,.body Tryz.f265)::(267,.con slicesConcat_int_con)::[]
theorem qrn (x:DL placeSound_con.ps):placeSound_con.φ x=denF Tryz.prog qlo qk7 Tryz.f245 placeSound_con.ps placeSound_con.one placeSound_con.res placeSound_con.ρ x:=by kernel_rfl
theorem qtu:ConOK Tryz.prog 245 placeSound_con :=
  qa (env:=qlo) ((EnvOK.body (EnvOK.body (EnvOK.body (EnvOK.body (EnvOK.cons (EnvOK.nil _) qlP) Tryz.func265) Tryz.func142) Tryz.func197) Tryz.func266)) mixed Tryz.func245 placeSound_con qk7 (by kernel_rfl) (fun h=>by first | rfl | cases h) (fun g hg=>by cases hg) qrn
def qle:Ann := .nil
noncomputable def placeCheck_con:Con:=⟨[Zt13,Zt30],true,[],Zt59,fun x=>qhf x.1 x.2.1,none⟩
noncomputable def qkM:Env:=(245,.con placeSound_con)::(88,.con rulesCheck_con)::[]
theorem qrK (x:DL placeCheck_con.ps):placeCheck_con.φ x=denF Tryz.prog qkM qle Tryz.f222 placeCheck_con.ps placeCheck_con.one placeCheck_con.res placeCheck_con.ρ x:=by kernel_rfl
theorem qmP:ConOK Tryz.prog 222 placeCheck_con :=
  qa (env:=qkM) ((EnvOK.cons (EnvOK.cons (EnvOK.nil _) qhS) qtu)) mixed Tryz.func222 placeCheck_con qle (by kernel_rfl) (fun h=>by first | rfl | cases h) (fun g hg=>by cases hg) qrK
def qf3:Ann:=(.two .nil (.two .nil (.two (.two .nil (.joinE ⟨[],[],[]⟩ (.two (.loop ⟨[0,1,12],[(13,Zt59)],[]⟩ .nil) .nil))) .nil)))
noncomputable def slicesEqual_int_con:Con:=⟨[Zt57,Zt57],true,[],.bool,fun x=>qbb x.1 x.2.1,none⟩
noncomputable def qfI:Env:=[]
theorem ql6 (x:DL slicesEqual_int_con.ps):slicesEqual_int_con.φ x=denF Tryz.prog qfI qf3 Tryz.f41 slicesEqual_int_con.ps slicesEqual_int_con.one slicesEqual_int_con.res slicesEqual_int_con.ρ x:=by kernel_rfl
theorem qno:ConOK Tryz.prog 41 slicesEqual_int_con :=
  qa (env:=qfI) ((EnvOK.nil _)) mixed Tryz.func41 slicesEqual_int_con qf3 (by kernel_rfl) (fun h=>by first | rfl | cases h) (fun g hg=>by cases hg) ql6
def qmO:Ann := .nil
noncomputable def placeSame_con:Con:=⟨[Zt30,Zt30],true,[],.bool,fun x=>qhH x.1 x.2.1,none⟩
noncomputable def qna:Env:=(41,.con slicesEqual_int_con)::[]
theorem qsU (x:DL placeSame_con.ps):placeSame_con.φ x=denF Tryz.prog qna qmO Tryz.f14 placeSame_con.ps placeSame_con.one placeSame_con.res placeSame_con.ρ x:=by kernel_rfl
theorem qpb:ConOK Tryz.prog 14 placeSame_con :=
  qa (env:=qna) ((EnvOK.cons (EnvOK.nil _) qno)) mixed Tryz.func14 placeSame_con qmO (by kernel_rfl) (fun h=>by first | rfl | cases h) (fun g hg=>by cases hg) qsU
def qnP:Ann:=(.two .nil (.two .nil (.two (.join ⟨[1,2],[],[(0,some (.box Zt31)),(2,none)]⟩ (.any 887 0 (.ord 0 0 .nil (.ord 1 0 .nil (.ord 2 115 .nil (.ord 4 0 .nil (.ord 5 0 .nil (.alt (.ord 3 0 .nil (.ord 6 0 .nil (.ord 7 0 .nil (.ord 8 0 .nil (.ord 9 0 .nil (.ord 10 0 .nil .nil)))))) (.ord 6 0 .nil (.ord 3 0 .nil (.ord 7 0 .nil (.ord 8 0 .nil (.ord 9 0 .nil (.ord 10 0 .nil .nil)))))))))))))) .nil)))
noncomputable def placeCopy_con:Con:=⟨[Zt30],true,[],Zt27,fun x=>qfK x.1,none⟩
noncomputable def qnq:Env:=(84,.con slicesClone_int_con)::(57,.ck 86)::[]
theorem qtY (x:DL placeCopy_con.ps):placeCopy_con.φ x=denF Tryz.prog qnq qnP Tryz.f80 placeCopy_con.ps placeCopy_con.one placeCopy_con.res placeCopy_con.ρ x:=by kernel_rfl
theorem qoQ:ConOK Tryz.prog 80 placeCopy_con :=
  qa (env:=qnq) ((EnvOK.cons (EnvOK.check (EnvOK.nil _) qc) qdx)) mixed Tryz.func80 placeCopy_con qnP (by kernel_rfl) (fun h=>by first | rfl | cases h) (fun g hg=>by cases hg) qtY
def qmW:Ann:=(.two .nil (.two .nil (.two .nil (.two (.two .nil (.join ⟨[3,4,5,6,7,8],[],[(4,some (.arr 3 Zt59)),(5,some (.arr 3 Zt59)),(6,some (.arr 3 Zt59))]⟩ (.two .nil (.join ⟨[3,4,5,6,7,8],[],[(5,some (.arr 3 Zt59)),(6,some (.arr 3 Zt59))]⟩ (.tail 11 .nil))))) (.two .nil (.two (.two .nil (.join ⟨[4,5,6,7,8],[],[(5,some (.arr 3 Zt59)),(6,some (.arr 3 Zt59))]⟩ (.two (.two .nil (.join ⟨[4,5,6,7,8],[],[(5,some (.arr 3 Zt59)),(6,some (.arr 3 Zt59))]⟩ (.tail 17 .nil))) .nil))) (.two .nil (.two (.two .nil (.join ⟨[4,6,7],[],[(4,none),(5,none),(6,none),(7,some (.box Zt31))]⟩ .nil)) .nil))))))))
noncomputable def movesMake_con:Con:=⟨[Zt13,Zt30,Zt47],true,[],Zt27,fun x=>qD x.1 x.2.1 x.2.2.1,none⟩
noncomputable def qmR:Env:=(80,.con placeCopy_con)::(57,.ck 86)::[]
theorem qtW (x:DL movesMake_con.ps):movesMake_con.φ x=denF Tryz.prog qmR qmW Tryz.f94 movesMake_con.ps movesMake_con.one movesMake_con.res movesMake_con.ρ x:=by kernel_rfl
theorem qoP:ConOK Tryz.prog 94 movesMake_con :=
  qa (env:=qmR) ((EnvOK.cons (EnvOK.check (EnvOK.nil _) qc) qoQ)) mixed Tryz.func94 movesMake_con qmW (by kernel_rfl) (fun h=>by first | rfl | cases h) (fun g hg=>by cases hg) qtW
def qdk:Ann := .nil
noncomputable def slicesClone_RuleWay_con:Con:=⟨[Zt38],true,[],(.osl 174 Zt40),fun x=>qbt x.1,none⟩
noncomputable def qdf:Env:=[]
theorem qij (x:DL slicesClone_RuleWay_con.ps):slicesClone_RuleWay_con.φ x=denF Tryz.prog qdf qdk Tryz.f83 slicesClone_RuleWay_con.ps slicesClone_RuleWay_con.one slicesClone_RuleWay_con.res slicesClone_RuleWay_con.ρ x:=by kernel_rfl
theorem qiU:ConOK Tryz.prog 83 slicesClone_RuleWay_con :=
  qa (env:=qdf) ((EnvOK.nil _)) mixed Tryz.func83 slicesClone_RuleWay_con qdk (by kernel_rfl) (fun h=>by first | rfl | cases h) (fun g hg=>by cases hg) qij
def qdA:Ann := .nil
noncomputable def slicesClone_RuleEnd_con:Con:=⟨[Zt41],true,[],Zt39,fun x=>qaD x.1,none⟩
noncomputable def qdJ:Env:=[]
theorem qil (x:DL slicesClone_RuleEnd_con.ps):slicesClone_RuleEnd_con.φ x=denF Tryz.prog qdJ qdA Tryz.f85 slicesClone_RuleEnd_con.ps slicesClone_RuleEnd_con.one slicesClone_RuleEnd_con.res slicesClone_RuleEnd_con.ρ x:=by kernel_rfl
theorem qiR:ConOK Tryz.prog 85 slicesClone_RuleEnd_con :=
  qa (env:=qdJ) ((EnvOK.nil _)) mixed Tryz.func85 slicesClone_RuleEnd_con qdA (by kernel_rfl) (fun h=>by first | rfl | cases h) (fun g hg=>by cases hg) qil
def qnw:Ann:=(.two .nil (.two .nil (.two .nil (.two (.two .nil (.join ⟨[1,2,3],[],[(2,some (.box Zt12))]⟩ (.two (.loop ⟨[1,2,3,9,10],[(11,Zt59)],[(2,some (.box Zt12))]⟩ .nil) .nil))) (.two (.join ⟨[2,3],[],[(2,some (.box Zt11)),(3,none)]⟩ (.any 347 0 (.ord 0 0 .nil (.ord 1 25 .nil (.ord 3 0 .nil (.alt (.ord 2 0 .nil (.ord 4 79 .nil (.ord 6 0 .nil (.ord 5 0 .nil (.ord 7 0 .nil (.ord 8 0 .nil (.ord 9 0 .nil .nil))))))) (.ord 4 0 .nil (.ord 2 0 .nil (.ord 6 0 .nil (.ord 5 0 .nil (.ord 7 0 .nil (.ord 8 0 .nil (.ord 9 0 .nil .nil))))))))))))) .nil)))))
noncomputable def rulesCopy_con:Con:=⟨[Zt13],true,[],Zt13,fun x=>qH x.1,none⟩
noncomputable def qmU:Env:=(85,.con slicesClone_RuleEnd_con)::(84,.con slicesClone_int_con)::(83,.con slicesClone_RuleWay_con)::(57,.ck 86)::[]
theorem qtX (x:DL rulesCopy_con.ps):rulesCopy_con.φ x=denF Tryz.prog qmU qnw Tryz.f45 rulesCopy_con.ps rulesCopy_con.one rulesCopy_con.res rulesCopy_con.ρ x:=by kernel_rfl
theorem qjT:ConOK Tryz.prog 45 rulesCopy_con :=
  qa (env:=qmU) ((EnvOK.cons (EnvOK.cons (EnvOK.cons (EnvOK.check (EnvOK.nil _) qc) qiU) qdx) qiR)) mixed Tryz.func45 rulesCopy_con qnw (by kernel_rfl) (fun h=>by first | rfl | cases h) (fun g hg=>by cases hg) qtX
def qe7:Ann:=(.two .nil (.two (.two .nil (.joinE ⟨[],[],[]⟩ (.two (.loop ⟨[0,3,7],[(8,Zt59)],[]⟩ .nil) .nil))) .nil))
noncomputable def slicesIndex_Move_con:Con:=⟨[Zt46,Zt47],true,[],Zt59,fun x=>qeU x.1 x.2.1,none⟩
noncomputable def qeZ:Env:=[]
theorem qkG (x:DL slicesIndex_Move_con.ps):slicesIndex_Move_con.φ x=denF Tryz.prog qeZ qe7 Tryz.f179 slicesIndex_Move_con.ps slicesIndex_Move_con.one slicesIndex_Move_con.res slicesIndex_Move_con.ρ x:=by kernel_rfl
theorem qlG:ConOK Tryz.prog 179 slicesIndex_Move_con :=
  qa (env:=qeZ) ((EnvOK.nil _)) mixed Tryz.func179 slicesIndex_Move_con qe7 (by kernel_rfl) (fun h=>by first | rfl | cases h) (fun g hg=>by cases hg) qkG
def qdM:Ann := .nil
noncomputable def slicesContains_Move_con:Con:=⟨[Zt46,Zt47],true,[],.bool,fun x=>qw x.1 x.2.1,none⟩
noncomputable def qdh:Env:=(179,.con slicesIndex_Move_con)::[]
theorem qhW (x:DL slicesContains_Move_con.ps):slicesContains_Move_con.φ x=denF Tryz.prog qdh qdM Tryz.f123 slicesContains_Move_con.ps slicesContains_Move_con.one slicesContains_Move_con.res slicesContains_Move_con.ρ x:=by kernel_rfl
theorem qbJ:ConOK Tryz.prog 123 slicesContains_Move_con :=
  qa (env:=qdh) ((EnvOK.cons (EnvOK.nil _) qlG)) mixed Tryz.func123 slicesContains_Move_con qdM (by kernel_rfl) (fun h=>by first | rfl | cases h) (fun g hg=>by cases hg) qhW
def qgO:Ann:=(.two .nil (.two .nil (.two (.two .nil (.join ⟨[],[(3,Zt59)],[]⟩ (.two (.loop ⟨[0,9,10],[(3,Zt59),(11,Zt59)],[]⟩ (.two .nil (.two .nil (.two (.two (.two .nil (.two (.join ⟨[0,3,9,10,11],[(18,.bool)],[]⟩ (.any 3 0 (.ord 1 0 .nil (.alt (.ord 0 0 .nil (.ord 2 0 (.two .nil (.two (.tail 12 .nil) .nil)) (.ord 3 0 .nil .nil))) (.ord 2 0 (.two .nil (.two (.tail 12 .nil) .nil)) (.ord 0 0 .nil (.ord 3 0 .nil .nil))))))) (.join ⟨[0,9,10,11],[(3,Zt59)],[]⟩ .nil))) .nil) .nil)))) .nil))) .nil)))
noncomputable def plainGameCount_con:Con:=⟨[Zt6],true,[],Zt59,fun x=>qcF x.1,none⟩
noncomputable def qgT:Env:=(14,.con placeSame_con)::(81,.body Tryz.f81)::(57,.ck 86)::[]
theorem qmZ (x:DL plainGameCount_con.ps):plainGameCount_con.φ x=denB Tryz.prog qgT qgO Tryz.f135 true plainGameCount_con.ps plainGameCount_con.one plainGameCount_con.res plainGameCount_con.ρ x:=by kernel_rfl
theorem qhi:qsp Tryz.prog 135 plainGameCount_con :=
  qmh (env:=qgT) ((EnvOK.cons (EnvOK.body (EnvOK.check (EnvOK.nil _) qc) Tryz.func81) qpb)) mixed Tryz.func135 plainGameCount_con qgO (by kernel_rfl) (fun h=>by first | rfl | cases h) (fun g hg=>by cases hg) qmZ
def qf6:Ann:=(.two .nil (.two (.join ⟨[0],[(3,Zt59)],[]⟩ (.any 159 0 (.ord 0 0 .nil (.ord 1 0 .nil (.ord 2 0 .nil (.ord 4 0 .nil (.alt (.ord 3 0 .nil (.ord 5 0 (.two .nil (.two (.tail 12 .nil) .nil)) (.ord 6 0 .nil (.ord 7 0 .nil .nil)))) (.ord 5 0 (.two .nil (.two (.tail 12 .nil) .nil)) (.ord 3 0 .nil (.ord 6 0 .nil (.ord 7 0 .nil .nil))))))))))) .nil))
noncomputable def plainGameResult_con:Con:=⟨[Zt6],true,[],Zt59,fun x=>qac x.1,none⟩
noncomputable def qfX:Env:=(135,.rd plainGameCount_con)::(137,.con endsResult_con)::(57,.ck 86)::(81,.body Tryz.f81)::[]
theorem ql0 (x:DL plainGameResult_con.ps):plainGameResult_con.φ x=denB Tryz.prog qfX qf6 Tryz.f78 true plainGameResult_con.ps plainGameResult_con.one plainGameResult_con.res plainGameResult_con.ρ x:=by kernel_rfl
theorem qbY:qsp Tryz.prog 78 plainGameResult_con :=
  qmh (env:=qfX) ((EnvOK.readonly (EnvOK.cons (EnvOK.check (EnvOK.body (EnvOK.nil _) Tryz.func81) qc) qmo) qhi)) mixed Tryz.func78 plainGameResult_con qf6 (by kernel_rfl) (fun h=>by first | rfl | cases h) (fun g hg=>by cases hg) ql0
def qas:Ann:=(.ord 13 0 .nil (.ord 14 0 .nil (.ord 15 0 .nil (.ord 16 0 .nil (.ord 17 0 .nil .nil)))))
def qaT:Ann:=(.alt (.ord 4 0 .nil (.ord 12 0 .nil qas)) (.ord 12 0 .nil (.ord 4 16367 .nil qas)))
def qb3:Ann:=(.ord 10 0 (.two .nil (.two (.tail 12 .nil) .nil)) (.ord 12 0 .nil qas))
def qQ:Ann:=(.ord 8 0 .nil (.ord 9 0 .nil (.ord 10 0 .nil .nil)))
def qgb:Ann:=(.alt (.ord 10 0 (.two .nil (.two (.tail 12 .nil) .nil)) (.ord 11 0 .nil (.ord 12 0 .nil qas))) (.ord 11 0 .nil qb3))
def qgC:Ann:=(.alt (.ord 8 0 .nil qb3) (.ord 10 0 (.two .nil (.two (.tail 12 .nil) .nil)) (.ord 8 0 .nil (.ord 12 0 .nil qas))))
def qhE:Ann:=(.two .nil (.two (.two (.two .nil (.two .nil (.two (.join ⟨[0,3],[(9,.bool)],[]⟩ (.any 1695 0 (.ord 0 0 .nil (.ord 1 0 .nil (.ord 2 0 .nil (.ord 4 0 .nil (.alt (.ord 3 0 .nil (.alt (.ord 5 0 (.two .nil (.two (.tail 12 .nil) .nil)) (.alt (.ord 6 0 .nil (.ord 7 0 .nil qQ)) (.ord 7 0 .nil (.ord 6 0 .nil qQ)))) (.ord 7 0 .nil (.ord 5 0 (.two .nil (.two (.tail 12 .nil) .nil)) (.ord 6 0 .nil qQ))))) (.alt (.ord 5 0 (.two .nil (.two (.tail 12 .nil) .nil)) (.ord 3 183 .nil (.alt (.ord 6 0 .nil (.ord 7 0 .nil qQ)) (.ord 7 0 .nil (.ord 6 0 .nil qQ))))) (.ord 7 0 .nil (.alt (.ord 3 0 .nil (.ord 5 0 (.two .nil (.two (.tail 12 .nil) .nil)) (.ord 6 0 .nil qQ))) (.ord 5 0 (.two .nil (.two (.tail 12 .nil) .nil)) (.ord 3 0 .nil (.ord 6 0 .nil qQ))))))))))))) .nil))) .nil) (.two (.join ⟨[0,3],[],[(0,some (.box Zt7)),(1,none),(2,none)]⟩ (.any 101375 8192 (.ord 0 0 .nil (.ord 1 0 .nil (.ord 2 0 .nil (.ord 3 0 .nil (.ord 5 0 .nil (.ord 6 0 .nil (.ord 7 0 .nil (.ord 9 0 .nil (.alt (.ord 4 0 .nil (.alt (.ord 8 0 .nil qgb) (.alt (.ord 10 0 (.two .nil (.two (.tail 12 .nil) .nil)) (.ord 8 3839 .nil (.ord 11 0 .nil (.ord 12 0 .nil qas)))) (.ord 11 0 .nil qgC)))) (.alt (.ord 8 0 .nil (.alt (.ord 4 0 .nil qgb) (.alt (.ord 10 0 (.two .nil (.two (.tail 12 .nil) .nil)) (.ord 11 2047 .nil qaT)) (.ord 11 0 .nil (.alt (.ord 4 0 .nil qb3) (.ord 10 0 (.two .nil (.two (.tail 12 .nil) .nil)) qaT)))))) (.alt (.ord 10 0 (.two .nil (.two (.tail 12 .nil) .nil)) (.ord 8 3839 .nil (.ord 11 2047 .nil qaT))) (.ord 11 0 .nil (.alt (.ord 4 0 .nil qgC) (.alt (.ord 8 0 .nil (.alt (.ord 4 0 .nil qb3) (.ord 10 0 (.two .nil (.two (.tail 12 .nil) .nil)) qaT))) (.ord 10 0 (.two .nil (.two (.tail 12 .nil) .nil)) (.ord 8 3839 .nil qaT)))))))))))))))))) (.two (.any 831 64 (.ord 0 0 .nil (.ord 1 0 .nil (.ord 2 0 .nil (.ord 3 0 .nil (.ord 4 111 .nil (.ord 5 0 .nil (.ord 6 0 .nil (.ord 7 0 .nil qQ))))))))) .nil))))
noncomputable def plainGamePlay_con:Ioc:=⟨Zt4,[Zt47],true,[],Zt59,fun x=>qcv x.1 x.2.1⟩
noncomputable def qhh:Env:=(94,.con movesMake_con)::(123,.con slicesContains_Move_con)::(154,.con movesList_con)::(57,.ck 86)::(81,.body Tryz.f81)::(78,.rd plainGameResult_con)::[]
theorem qn9 (x:DL (Zt4::[Zt47])):plainGamePlay_con.φ x=denIO Tryz.prog qhh qhE Tryz.f180 Zt4 [Zt47] true [] Zt59 x:=by kernel_rfl
theorem qin:IocOK Tryz.prog 180 plainGamePlay_con :=
  qaC (env:=qhh) ((EnvOK.cons (EnvOK.cons (EnvOK.cons (EnvOK.check (EnvOK.body (EnvOK.readonly (EnvOK.nil _) qbY) Tryz.func81) qc) qgG) qbJ) qoP)) mixed Tryz.func180 plainGamePlay_con qhE (by kernel_rfl) (fun h=>by first | rfl | cases h) qn9
def qet:Ann:=(.two .nil (.two (.two (.two .nil (.two (.tail 12 .nil) .nil)) .nil) .nil))
noncomputable def plainGamePosition_con:Con:=⟨[Zt6],true,[],Zt27,fun x=>qn x.1,none⟩
noncomputable def qez:Env:=(81,.body Tryz.f81)::(80,.con placeCopy_con)::(57,.ck 86)::[]
theorem qjX (x:DL plainGamePosition_con.ps):plainGamePosition_con.φ x=denB Tryz.prog qez qet Tryz.f42 true plainGamePosition_con.ps plainGamePosition_con.one plainGamePosition_con.res plainGamePosition_con.ρ x:=by kernel_rfl
theorem qP:qsp Tryz.prog 42 plainGamePosition_con :=
  qmh (env:=qez) ((EnvOK.body (EnvOK.cons (EnvOK.check (EnvOK.nil _) qc) qoQ) Tryz.func81)) mixed Tryz.func42 plainGamePosition_con qet (by kernel_rfl) (fun h=>by first | rfl | cases h) (fun g hg=>by cases hg) qjX
def qoS:Ann:=(.two .nil (.two (.two (.two .nil (.two .nil (.two .nil (.two (.frz [3,4,5] (.join ⟨[],[(2,Zt3),(3,Zt59)],[]⟩ (.any 213 40 (.ord 0 12 .nil (.alt (.ord 1 0 .nil (.ord 2 0 .nil (.ord 3 0 .nil (.ord 4 0 .nil (.ord 5 0 .nil (.ord 6 0 .nil (.ord 7 0 .nil .nil))))))) (.ord 2 0 .nil (.alt (.ord 1 0 .nil (.ord 3 0 .nil (.ord 4 0 .nil (.ord 5 0 .nil (.ord 6 0 .nil (.ord 7 0 .nil .nil)))))) (.ord 3 0 .nil (.ord 1 0 .nil (.ord 4 0 .nil (.ord 5 0 .nil (.ord 6 0 .nil (.ord 7 0 .nil .nil))))))))))))) .nil)))) .nil) (.sel 7 1000013 (.two .nil (.two (.two .nil (.joinE ⟨[4,7],[],[(1,some (.box Zt31)),(7,some (.box Zt7)),(8,none),(9,none)]⟩ (.two (.loop ⟨[4,7,21,22],[(23,Zt59)],[(1,some (.box Zt31)),(7,some (.box Zt7)),(8,none),(9,none)]⟩ .nil) .nil))) .nil)) (.two .nil (.two (.two .nil (.joinE ⟨[4,7],[],[]⟩ (.two (.loop ⟨[4,7,21,22],[(23,Zt59)],[]⟩ .nil) .nil))) .nil)))))
noncomputable def plainRun_con:Con:=⟨[Zt13,Zt46],false,[Zt27,Zt59,Zt59],(.st Zt27 Zt50),fun x=>qaK x.1 x.2.1,none⟩
noncomputable def qoO:Env:=(78,.rd plainGameResult_con)::(42,.rd plainGamePosition_con)::(180,.io plainGamePlay_con)::(45,.con rulesCopy_con)::(50,.con placeBegin_con)::(43,.body Tryz.f43)::(57,.ck 86)::[]
theorem qvF (x:DL plainRun_con.ps):plainRun_con.φ x=denF Tryz.prog qoO qoS Tryz.f151 plainRun_con.ps plainRun_con.one plainRun_con.res plainRun_con.ρ x:=by kernel_rfl
theorem qwg:ConOK Tryz.prog 151 plainRun_con :=
  qa (env:=qoO) ((EnvOK.readonly (EnvOK.readonly (EnvOK.inout (EnvOK.cons (EnvOK.cons (EnvOK.body (EnvOK.check (EnvOK.nil _) qc) Tryz.func43) qfr) qjT) qin) qP) qbY)) mixed Tryz.func151 plainRun_con qoS (by kernel_rfl) (fun h=>by first | rfl | cases h) (fun g hg=>by cases hg) qvF
def qi1:Ann := .nil
noncomputable def journalLast_con:Con:=⟨[Zt51],true,[],Zt60,fun x=>qcV x.1,none⟩
noncomputable def qi2:Env:=[]
theorem qqS (x:DL journalLast_con.ps):journalLast_con.φ x=denF Tryz.prog qi2 qi1 Tryz.f29 journalLast_con.ps journalLast_con.one journalLast_con.res journalLast_con.ρ x:=by kernel_rfl
theorem qed:ConOK Tryz.prog 29 journalLast_con :=
  qa (env:=qi2) ((EnvOK.nil _)) mixed Tryz.func29 journalLast_con qi1 (by kernel_rfl) (fun h=>by first | rfl | cases h) (fun g hg=>by cases hg) qqS
def qlv:Ann:=(.two .nil (.two .nil (.two (.two .nil (.join ⟨[1],[(5,Zt60)],[]⟩ (.two (.loop ⟨[1,10],[(5,Zt60),(11,Zt59)],[]⟩ .nil) .nil))) .nil)))
noncomputable def journalSum_con:Con:=⟨[Zt60,.str],true,[],Zt60,fun x=>qc1 x.1 x.2.1,none⟩
noncomputable def qlw:Env:=[]
theorem qrc (x:DL journalSum_con.ps):journalSum_con.φ x=denF Tryz.prog qlw qlv Tryz.f66 journalSum_con.ps journalSum_con.one journalSum_con.res journalSum_con.ρ x:=by kernel_rfl
theorem qnj:ConOK Tryz.prog 66 journalSum_con :=
  qa (env:=qlw) ((EnvOK.nil _)) mixed Tryz.func66 journalSum_con qlv (by kernel_rfl) (fun h=>by first | rfl | cases h) (fun g hg=>by cases hg) qrc
def qiI:Ann := .nil
noncomputable def journalWrong_con:Con:=⟨[Zt60,Zt52],true,[],Zt59,fun x=>qbl x.1 x.2.1,none⟩
noncomputable def qiG:Env:=(66,.con journalSum_con)::(65,.con qfE)::[]
theorem qpm (x:DL journalWrong_con.ps):journalWrong_con.φ x=denF Tryz.prog qiG qiI Tryz.f28 journalWrong_con.ps journalWrong_con.one journalWrong_con.res journalWrong_con.ρ x:=by kernel_rfl
theorem qfD:ConOK Tryz.prog 28 journalWrong_con :=
  qa (env:=qiG) ((EnvOK.cons (EnvOK.cons (EnvOK.nil _) qlA) qnj)) mixed Tryz.func28 journalWrong_con qiI (by kernel_rfl) (fun h=>by first | rfl | cases h) (fun g hg=>by cases hg) qpm
def qj2:Ann:=(.two .nil (.two (.two .nil (.joinE ⟨[0],[],[]⟩ (.two (.loop ⟨[0,5,6],[(7,Zt59)],[]⟩ .nil) .nil))) .nil))
noncomputable def journalGood_con:Con:=⟨[Zt51],true,[],Zt59,fun x=>qh1 x.1,none⟩
noncomputable def qi3:Env:=(28,.con journalWrong_con)::(29,.con journalLast_con)::(57,.ck 86)::[]
theorem qpX (x:DL journalGood_con.ps):journalGood_con.φ x=denF Tryz.prog qi3 qj2 Tryz.f55 journalGood_con.ps journalGood_con.one journalGood_con.res journalGood_con.ρ x:=by kernel_rfl
theorem qrm:ConOK Tryz.prog 55 journalGood_con :=
  qa (env:=qi3) ((EnvOK.cons (EnvOK.cons (EnvOK.check (EnvOK.nil _) qc) qed) qfD)) mixed Tryz.func55 journalGood_con qj2 (by kernel_rfl) (fun h=>by first | rfl | cases h) (fun g hg=>by cases hg) qpX
def qiM:Ann := .nil
noncomputable def journalCheck_con:Con:=⟨[Zt51],true,[],Zt59,fun x=>qcd x.1,none⟩
noncomputable def qiu:Env:=(28,.con journalWrong_con)::(29,.con journalLast_con)::(55,.con journalGood_con)::[]
theorem qpl (x:DL journalCheck_con.ps):journalCheck_con.φ x=denF Tryz.prog qiu qiM Tryz.f20 journalCheck_con.ps journalCheck_con.one journalCheck_con.res journalCheck_con.ρ x:=by kernel_rfl
theorem qfW:ConOK Tryz.prog 20 journalCheck_con :=
  qa (env:=qiu) ((EnvOK.cons (EnvOK.cons (EnvOK.cons (EnvOK.nil _) qrm) qed) qfD)) mixed Tryz.func20 journalCheck_con qiM (by kernel_rfl) (fun h=>by first | rfl | cases h) (fun g hg=>by cases hg) qpl
def qbS:Ann := .nil
noncomputable def slicesClone_JournalEntry_con:Con:=⟨[Zt51],true,[],Zt49,fun x=>qg x.1,none⟩
noncomputable def qb1:Env:=[]
theorem qfe (x:DL slicesClone_JournalEntry_con.ps):slicesClone_JournalEntry_con.φ x=denF Tryz.prog qb1 qbS Tryz.f25 slicesClone_JournalEntry_con.ps slicesClone_JournalEntry_con.one slicesClone_JournalEntry_con.res slicesClone_JournalEntry_con.ρ x:=by kernel_rfl
theorem qcq:ConOK Tryz.prog 25 slicesClone_JournalEntry_con :=
  qa (env:=qb1) ((EnvOK.nil _)) mixed Tryz.func25 slicesClone_JournalEntry_con qbS (by kernel_rfl) (fun h=>by first | rfl | cases h) (fun g hg=>by cases hg) qfe
def qhF:Ann := .nil
noncomputable def journalAppend_con:Con:=⟨[Zt51,.str],false,[Zt49,Zt59],(.st Zt49 Zt55),fun x=>qM x.1 x.2.1,none⟩
noncomputable def qhz:Env:=(66,.con journalSum_con)::(29,.con journalLast_con)::(25,.con slicesClone_JournalEntry_con)::(65,.con qfE)::(20,.con journalCheck_con)::[]
theorem qol (x:DL journalAppend_con.ps):journalAppend_con.φ x=denF Tryz.prog qhz qhF Tryz.f35 journalAppend_con.ps journalAppend_con.one journalAppend_con.res journalAppend_con.ρ x:=by kernel_rfl
theorem qeW:ConOK Tryz.prog 35 journalAppend_con :=
  qa (env:=qhz) ((EnvOK.cons (EnvOK.cons (EnvOK.cons (EnvOK.cons (EnvOK.cons (EnvOK.nil _) qfW) qlA) qcq) qed) qnj)) mixed Tryz.func35 journalAppend_con qhF (by kernel_rfl) (fun h=>by first | rfl | cases h) (fun g hg=>by cases hg) qol
def qiJ:Ann:=(.two .nil (.two .nil (.two .nil (.two (.two .nil (.join ⟨[5],[],[(0,some (.bld 86 5))]⟩ (.two (.loop ⟨[5,14,15],[(16,Zt59)],[(0,some (.bld 86 5))]⟩ (.two .nil (.two .nil (.two (.two (.two .nil (.two .nil (.tail 11 .nil))) .nil) .nil)))) .nil))) .nil))))
noncomputable def journalWrite_con:Con:=⟨[Zt51],false,[.str,Zt59],(.st .str Zt55),fun x=>qgQ x.1,none⟩
noncomputable def qiw:Env:=(24,.bs 86 5)::(22,.body Tryz.f22)::(23,.con qqQ)::(21,.con qsl)::(57,.ck 86)::(20,.con journalCheck_con)::[]
theorem qpk (x:DL journalWrite_con.ps):journalWrite_con.φ x=denF Tryz.prog qiw qiJ Tryz.f6 journalWrite_con.ps journalWrite_con.one journalWrite_con.res journalWrite_con.ρ x:=by kernel_rfl
theorem qq0:ConOK Tryz.prog 6 journalWrite_con :=
  qa (env:=qiw) ((EnvOK.string (EnvOK.body (EnvOK.cons (EnvOK.cons (EnvOK.check (EnvOK.cons (EnvOK.nil _) qfW) qc) fmt16S_ok) qyG) Tryz.func22) qiF)) mixed Tryz.func6 journalWrite_con qiJ (by kernel_rfl) (fun h=>by first | rfl | cases h) (fun g hg=>by cases hg) qpk
def qcz:Ann := .nil
noncomputable def internalstringsliteCut_con:Con:=⟨[.str,.str],false,[.str,.str,.bool],(.st .str Zt54),fun x=>qaM x.1 x.2.1,none⟩
noncomputable def qcA:Env:=(105,.con qvr)::[]
theorem qf8 (x:DL internalstringsliteCut_con.ps):internalstringsliteCut_con.φ x=denF Tryz.prog qcA qcz Tryz.f61 internalstringsliteCut_con.ps internalstringsliteCut_con.one internalstringsliteCut_con.res internalstringsliteCut_con.ρ x:=by kernel_rfl
theorem qg9:ConOK Tryz.prog 61 internalstringsliteCut_con :=
  qa (env:=qcA) ((EnvOK.cons (EnvOK.nil _) idx1S_ok)) mixed Tryz.func61 internalstringsliteCut_con qcz (by kernel_rfl) (fun h=>by first | rfl | cases h) (fun g hg=>by cases hg) qf8
def qkP:Ann := .nil
noncomputable def stringsCut_con:Con:=⟨[.str,.str],false,[.str,.str,.bool],(.st .str Zt54),fun x=>qfz x.1 x.2.1,none⟩
noncomputable def qln:Env:=(61,.con internalstringsliteCut_con)::[]
theorem qrB (x:DL stringsCut_con.ps):stringsCut_con.φ x=denF Tryz.prog qln qkP Tryz.f26 stringsCut_con.ps stringsCut_con.one stringsCut_con.res stringsCut_con.ρ x:=by kernel_rfl
theorem qsY:ConOK Tryz.prog 26 stringsCut_con :=
  qa (env:=qln) ((EnvOK.cons (EnvOK.nil _) qg9)) mixed Tryz.func26 stringsCut_con qkP (by kernel_rfl) (fun h=>by first | rfl | cases h) (fun g hg=>by cases hg) qrB
def qc5:Ann := .nil
noncomputable def internalstrconvLower_con:Con:=⟨[(.int .u8)],true,[],(.int .u8),fun x=>qbQ x.1,some fun x=>qi x.1⟩
noncomputable def qc2:Env:=[]
theorem qhD (x:DL internalstrconvLower_con.ps):internalstrconvLower_con.φ x=denF Tryz.prog qc2 qc5 Tryz.f169 internalstrconvLower_con.ps internalstrconvLower_con.one internalstrconvLower_con.res internalstrconvLower_con.ρ x:=by kernel_rfl
theorem qdF:ConOK Tryz.prog 169 internalstrconvLower_con :=
  qa (env:=qc2) ((EnvOK.nil _)) mixed Tryz.func169 internalstrconvLower_con qc5 (by kernel_rfl) (fun h=>by first | rfl | cases h) (fun g hg x=>by
    cases hg
    exact qh3 _) qhD
def qa7:Ann:=(.two .nil (.two .nil (.two .nil (.two (.two .nil (.join ⟨[3,4],[(0,.str)],[]⟩ .nil)) (.two .nil (.two (.two .nil (.join ⟨[0],[(3,(.int .i32)),(4,Zt59),(5,.bool)],[]⟩ .nil)) (.two (.joinE ⟨[],[(3,(.int .i32))],[]⟩ (.two (.loop ⟨[0,5],[(3,(.int .i32)),(4,Zt59)],[]⟩ (.two .nil (.two (.joinE ⟨[0,4,5],[(3,(.int .i32))],[]⟩ .nil) .nil))) .nil)) .nil)))))))
noncomputable def internalstrconvUnderscoreOK_con:Con:=⟨[.str],true,[],.bool,fun x=>qb7 x.1,none⟩
noncomputable def qbc:Env:=(169,.con internalstrconvLower_con)::[]
theorem qd4 (x:DL internalstrconvUnderscoreOK_con.ps):internalstrconvUnderscoreOK_con.φ x=denF Tryz.prog qbc qa7 Tryz.f170 internalstrconvUnderscoreOK_con.ps internalstrconvUnderscoreOK_con.one internalstrconvUnderscoreOK_con.res internalstrconvUnderscoreOK_con.ρ x:=by kernel_rfl
theorem qey:ConOK Tryz.prog 170 internalstrconvUnderscoreOK_con :=
  qa (env:=qbc) ((EnvOK.cons (EnvOK.nil _) qdF)) mixed Tryz.func170 internalstrconvUnderscoreOK_con qa7 (by kernel_rfl) (fun h=>by first | rfl | cases h) (fun g hg=>by cases hg) qd4
def qb0:Ann:=(.two .nil (.two .nil (.two .nil (.two .nil (.two (.two (.two .nil (.joinE ⟨[2,8,9],[(0,.str),(1,Zt59)],[]⟩ (.two .nil (.two .nil (.two (.two .nil (.two .nil (.join ⟨[2,8,9],[(0,.str),(1,Zt59)],[]⟩ (.two (.two (.two .nil (.join ⟨[2,8,9],[(0,.str),(1,Zt59)],[]⟩ (.two .nil (.two .nil (.join ⟨[2,8,9],[(0,.str),(1,Zt59)],[]⟩ (.two .nil (.two .nil (.join ⟨[2,8,9],[(0,.str),(1,Zt59)],[]⟩ .nil)))))))) .nil) .nil)))) .nil))))) .nil) (.two (.two .nil (.joinE ⟨[0,1,8,9],[(2,Zt59)],[]⟩ .nil)) (.two .nil (.two (.two .nil (.two (.two .nil (.join ⟨[0,1,2,8,9],[(10,Zt60)],[]⟩ (.two .nil (.two .nil (.join ⟨[0,1,2,8,9],[(10,Zt60)],[]⟩ .nil))))) .nil)) (.two .nil (.two .nil (.two .nil (.two (.two .nil (.joinE ⟨[9],[(12,.bool),(13,Zt60)],[]⟩ (.two (.loop ⟨[1,8,9,10,11,99,100],[(12,.bool),(13,Zt60),(101,Zt59)],[]⟩ (.two .nil (.two .nil (.two (.joinE ⟨[1,8,9,10,11,99,100,101],[(12,.bool),(13,Zt60)],[]⟩ (.two (.two .nil (.two .nil (.two (.two (.two .nil (.two .nil (.two .nil (.joinE ⟨[1,8,9,10,11,12,13,99,100,101],[(16,(.int .u8))],[]⟩ .nil)))) .nil) .nil))) .nil)) .nil)))) .nil))) .nil))))))))))))
noncomputable def internalstrconvParseUint_con:Con:=⟨[.str,Zt59,Zt59],false,[Zt60,.err],(.st Zt60 (.st .err .nil)),fun x=>qaq x.1 x.2.1 x.2.2.1,none⟩
noncomputable def qbV:Env:=(170,.con internalstrconvUnderscoreOK_con)::(169,.con internalstrconvLower_con)::[]
theorem qfj (x:DL internalstrconvParseUint_con.ps):internalstrconvParseUint_con.φ x=denF Tryz.prog qbV qb0 Tryz.f113 internalstrconvParseUint_con.ps internalstrconvParseUint_con.one internalstrconvParseUint_con.res internalstrconvParseUint_con.ρ x:=by kernel_rfl
theorem qf1:ConOK Tryz.prog 113 internalstrconvParseUint_con :=
  qa (env:=qbV) ((EnvOK.cons (EnvOK.cons (EnvOK.nil _) qdF) qey)) mixed Tryz.func113 internalstrconvParseUint_con qb0 (by kernel_rfl) (fun h=>by first | rfl | cases h) (fun g hg=>by cases hg) qfj
def qgN:Ann := .nil
noncomputable def strconvToError_con:Con:=⟨[.str,.str,Zt59,Zt59,.err],true,[],.err,fun x=>qk6 x.1 x.2.1 x.2.2.1 x.2.2.2.1 x.2.2.2.2.1,none⟩
noncomputable def qgV:Env:=[]
theorem qnt (x:DL strconvToError_con.ps):strconvToError_con.φ x=denF Tryz.prog qgV qgN Tryz.f114 strconvToError_con.ps strconvToError_con.one strconvToError_con.res strconvToError_con.ρ x:=by kernel_rfl
theorem qon:ConOK Tryz.prog 114 strconvToError_con :=
  qa (env:=qgV) ((EnvOK.nil _)) mixed Tryz.func114 strconvToError_con qgN (by kernel_rfl) (fun h=>by first | rfl | cases h) (fun g hg=>by cases hg) qnt
def qe4:Ann := .nil
noncomputable def strconvParseUint_con:Con:=⟨[.str,Zt59,Zt59],false,[Zt60,.err],(.st Zt60 (.st .err .nil)),fun x=>qcT x.1 x.2.1 x.2.2.1,none⟩
noncomputable def qe0:Env:=(114,.con strconvToError_con)::(113,.con internalstrconvParseUint_con)::[]
theorem qkA (x:DL strconvParseUint_con.ps):strconvParseUint_con.φ x=denF Tryz.prog qe0 qe4 Tryz.f63 strconvParseUint_con.ps strconvParseUint_con.one strconvParseUint_con.res strconvParseUint_con.ρ x:=by kernel_rfl
theorem ql8:ConOK Tryz.prog 63 strconvParseUint_con :=
  qa (env:=qe0) ((EnvOK.cons (EnvOK.cons (EnvOK.nil _) qf1) qon)) mixed Tryz.func63 strconvParseUint_con qe4 (by kernel_rfl) (fun h=>by first | rfl | cases h) (fun g hg=>by cases hg) qkA
def qiL:Ann := .nil
noncomputable def stringsClone_con:Con:=⟨[.str],true,[],.str,fun x=>qgr x.1,none⟩
noncomputable def qis:Env:=(115,.con qsm)::[]
theorem qpp (x:DL stringsClone_con.ps):stringsClone_con.φ x=denF Tryz.prog qis qiL Tryz.f64 stringsClone_con.ps stringsClone_con.one stringsClone_con.res stringsClone_con.ρ x:=by kernel_rfl
theorem qqm:ConOK Tryz.prog 64 stringsClone_con :=
  qa (env:=qis) ((EnvOK.cons (EnvOK.nil _) cloneS_ok)) mixed Tryz.func64 stringsClone_con qiL (by kernel_rfl) (fun h=>by first | rfl | cases h) (fun g hg=>by cases hg) qpp
def qj0:Ann:=(.two .nil (.two .nil (.two .nil (.two (.any 379 0 (.ord 0 0 .nil (.ord 1 0 .nil (.ord 3 0 .nil (.ord 5 0 .nil (.ord 6 0 .nil (.ord 2 0 .nil (.ord 4 0 .nil (.ord 7 0 .nil (.ord 8 0 .nil .nil)))))))))) .nil))))
noncomputable def journalLine_con:Con:=⟨[.str],false,[Zt52,.bool],(.st Zt52 (.st .bool .nil)),fun x=>qfV x.1,none⟩
noncomputable def qjr:Env:=(64,.con stringsClone_con)::(63,.con strconvParseUint_con)::(62,.con qvb)::(57,.ck 86)::[]
theorem qqG (x:DL journalLine_con.ps):journalLine_con.φ x=denF Tryz.prog qjr qj0 Tryz.f27 journalLine_con.ps journalLine_con.one journalLine_con.res journalLine_con.ρ x:=by kernel_rfl
theorem qrE:ConOK Tryz.prog 27 journalLine_con :=
  qa (env:=qjr) ((EnvOK.cons (EnvOK.cons (EnvOK.cons (EnvOK.check (EnvOK.nil _) qc) trimS_ok) ql8) qqm)) mixed Tryz.func27 journalLine_con qj0 (by kernel_rfl) (fun h=>by first | rfl | cases h) (fun g hg=>by cases hg) qqG
def qgg:Ann:=(.two .nil (.two .nil (.two (.join ⟨[],[(0,.str),(4,Zt49)],[]⟩ (.two (.loop ⟨[],[(0,.str),(4,Zt49)],[]⟩ .nil) .nil)) .nil)))
noncomputable def journalRecover_con:Con:=⟨[.str],false,[Zt49,.str],(.st Zt49 (.st .str .nil)),fun x=>qem x.1,none⟩
noncomputable def qgB:Env:=(28,.con journalWrong_con)::(29,.con journalLast_con)::(57,.ck 86)::(27,.con journalLine_con)::(26,.con stringsCut_con)::[]
theorem qme (x:DL journalRecover_con.ps):journalRecover_con.φ x=denF Tryz.prog qgB qgg Tryz.f8 journalRecover_con.ps journalRecover_con.one journalRecover_con.res journalRecover_con.ρ x:=by kernel_rfl
theorem qob:ConOK Tryz.prog 8 journalRecover_con :=
  qa (env:=qgB) ((EnvOK.cons (EnvOK.cons (EnvOK.check (EnvOK.cons (EnvOK.cons (EnvOK.nil _) qsY) qrE) qc) qed) qfD)) mixed Tryz.func8 journalRecover_con qgg (by kernel_rfl) (fun h=>by first | rfl | cases h) (fun g hg=>by cases hg) qme
end Go.Proofs.YtlfpfiplndkofaaGreatDoor
