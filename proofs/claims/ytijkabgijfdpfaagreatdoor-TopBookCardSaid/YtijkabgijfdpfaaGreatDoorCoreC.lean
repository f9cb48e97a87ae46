/- Contracts: Core. No condition of its own. -/
import Derived.Test.YtijkabgijfdpfaaGreatDoorMAA
import Derived.Test.YtijkabgijfdpfaaGreatDoorMAH
import Derived.Test.YtijkabgijfdpfaaGreatDoorMAD
namespace Go.Proofs.YtijkabgijfdpfaaGreatDoor
open Go.Den
set_option linter.unusedVariables false
set_option maxRecDepth 100000
def qmo:Ann:=(.two .nil (.two (.two .nil (.joinE ⟨[0],[],[]⟩ (.two (.loop ⟨[0,6],[(7,Zt62)],[]⟩ .nil) .nil))) .nil))
noncomputable def rulesName_con:Con:=⟨[.str],true,[],.bool,fun x=>qi4 x.1,none⟩
noncomputable def qmV:Env:=[]
theorem qtv (x:DL rulesName_con.ps):rulesName_con.φ x=denF Tryz.prog qmV qmo Tryz.f130 rulesName_con.ps rulesName_con.one rulesName_con.res rulesName_con.ρ x:=by kernel_rfl
theorem qoP:ConOK Tryz.prog 130 rulesName_con :=
  qa (env:=qmV) ((EnvOK.nil _)) mixed Tryz.func130 rulesName_con qmo (by kernel_rfl) (fun h=>by first | rfl | cases h) (fun g hg=>by cases hg) qtv
def qjs:Ann := .nil
noncomputable def rulesWithin_con:Con:=⟨[Zt62,Zt62,Zt62],true,[],.bool,fun x=>qhk x.1 x.2.1 x.2.2.1,some fun x=>qd x.1 x.2.1 x.2.2.1⟩
noncomputable def qiy:Env:=[]
theorem qqj (x:DL rulesWithin_con.ps):rulesWithin_con.φ x=denF Tryz.prog qiy qjs Tryz.f131 rulesWithin_con.ps rulesWithin_con.one rulesWithin_con.res rulesWithin_con.ρ x:=by kernel_rfl
theorem qgs:ConOK Tryz.prog 131 rulesWithin_con :=
  qa (env:=qiy) ((EnvOK.nil _)) mixed Tryz.func131 rulesWithin_con qjs (by kernel_rfl) (fun h=>by first | rfl | cases h) (fun g hg x=>by
    cases hg
    exact qqV _ _ _) qqj
def qjx:Ann:=(.two .nil (.two .nil (.two .nil (.two (.two .nil (.joinE ⟨[],[],[]⟩ (.two (.loop ⟨[1,16,17],[(18,Zt62)],[]⟩ (.two .nil (.two .nil (.two (.joinE ⟨[1,16,17,18],[],[]⟩ (.two (.two .nil (.two (.two (.two .nil (.two .nil (.two (.two (.two .nil (.two (.two (.two .nil (.two (.two .nil (.joinE ⟨[],[],[]⟩ (.two (.loop ⟨[0,1,7],[(8,Zt62)],[]⟩ .nil) .nil))) .nil)) .nil) .nil)) .nil) .nil))) .nil) (.two .nil (.joinE ⟨[1,16,17,18],[],[]⟩ (.two (.loop ⟨[1,16,17,18,59,60],[(61,Zt62)],[]⟩ .nil) .nil))))) .nil)) .nil)))) .nil))) .nil))))
noncomputable def rulesPieces_con:Con:=⟨[Zt12],true,[],Zt62,fun x=>qhe x.1,none⟩
noncomputable def qi0:Env:=(131,.con rulesWithin_con)::(186,.body Tryz.f186)::(227,.body Tryz.f227)::(185,.body Tryz.f185)::(159,.ck 197)::[]
theorem qp4 (x:DL rulesPieces_con.ps):rulesPieces_con.φ x=denF Tryz.prog qi0 qjx Tryz.f132 rulesPieces_con.ps rulesPieces_con.one rulesPieces_con.res rulesPieces_con.ρ x:=by kernel_rfl
theorem qq0:ConOK Tryz.prog 132 rulesPieces_con :=
  qa (env:=qi0) ((EnvOK.cons (EnvOK.body (EnvOK.body (EnvOK.body (EnvOK.check (EnvOK.nil _) qb) Tryz.func185) Tryz.func227) Tryz.func186) qgs)) mixed Tryz.func132 rulesPieces_con qjx (by kernel_rfl) (fun h=>by first | rfl | cases h) (fun g hg=>by cases hg) qp4
def qfc:Ann:=(.two .nil (.two .nil (.two (.two .nil (.joinE ⟨[],[],[]⟩ (.two (.loop ⟨[1,12,13],[(14,Zt62)],[]⟩ (.two .nil (.two .nil (.two (.two (.two .nil (.two .nil (.two (.two .nil (.two (.two .nil (.joinE ⟨[1,12,13,14],[(5,.bool),(6,.bool)],[]⟩ (.two .nil (.two .nil (.joinE ⟨[1,6,12,13,14],[(5,.bool)],[]⟩ .nil))))) .nil)) .nil))) .nil) .nil)))) .nil))) .nil)))
noncomputable def rulesConditions_con:Con:=⟨[Zt12],true,[],Zt62,fun x=>qbK x.1,none⟩
noncomputable def qe5:Env:=(131,.con rulesWithin_con)::(159,.ck 197)::[]
theorem qlr (x:DL rulesConditions_con.ps):rulesConditions_con.φ x=denF Tryz.prog qe5 qfc Tryz.f135 rulesConditions_con.ps rulesConditions_con.one rulesConditions_con.res rulesConditions_con.ρ x:=by kernel_rfl
theorem qnn:ConOK Tryz.prog 135 rulesConditions_con :=
  qa (env:=qe5) ((EnvOK.cons (EnvOK.check (EnvOK.nil _) qb) qgs)) mixed Tryz.func135 rulesConditions_con qfc (by kernel_rfl) (fun h=>by first | rfl | cases h) (fun g hg=>by cases hg) qlr
def qki:Ann:=(.two .nil (.two .nil (.two .nil (.two .nil (.two .nil (.two (.two (.two (.two .nil (.two (.two (.two .nil (.two (.two .nil (.joinE ⟨[],[],[]⟩ (.two (.loop ⟨[0,1,7],[(8,Zt62)],[]⟩ .nil) .nil))) .nil)) .nil) .nil)) .nil) .nil) .nil))))))
noncomputable def rulesCheck_con:Con:=⟨[Zt12],true,[],Zt62,fun x=>qe2 x.1,none⟩
noncomputable def qkB:Env:=(135,.con rulesConditions_con)::(134,.body Tryz.f134)::(187,.body Tryz.f187)::(133,.body Tryz.f133)::(132,.con rulesPieces_con)::(131,.con rulesWithin_con)::(130,.con rulesName_con)::[]
theorem qrl (x:DL rulesCheck_con.ps):rulesCheck_con.φ x=denF Tryz.prog qkB qki Tryz.f67 rulesCheck_con.ps rulesCheck_con.one rulesCheck_con.res rulesCheck_con.ρ x:=by kernel_rfl
theorem qhq:ConOK Tryz.prog 67 rulesCheck_con :=
  qa (env:=qkB) ((EnvOK.cons (EnvOK.body (EnvOK.body (EnvOK.body (EnvOK.cons (EnvOK.cons (EnvOK.cons (EnvOK.nil _) qoP) qgs) qq0) Tryz.func133) Tryz.func187) Tryz.func134) qnn)) mixed Tryz.func67 rulesCheck_con qki (by kernel_rfl) (fun h=>by first | rfl | cases h) (fun g hg=>by cases hg) qrl
def qew:Ann:=(.two .nil (.two .nil (.two (.two .nil (.join ⟨[0],[(3,Zt62)],[]⟩ (.two (.loop ⟨[0,9,10],[(3,Zt62),(11,Zt62)],[]⟩ .nil) .nil))) (.two (.two (.two .nil (.two .nil (.two (.two .nil (.two .nil (.join ⟨[],[(0,Zt59)],[]⟩ (.two (.own (.own .nil)) .nil)))) .nil))) .nil) (.two (.two .nil (.join ⟨[],[(6,Zt59)],[(0,none)]⟩ (.two (.loop ⟨[25,26],[(6,Zt59),(27,Zt62)],[(0,none)]⟩ .nil) .nil))) .nil)))))
noncomputable def slicesConcat_int_con:Con:=⟨[(.sl Zt60)],true,[],Zt59,fun x=>qcm x.1,none⟩
noncomputable def qeC:Env:=(232,.body Tryz.f232)::[]
theorem qkc (x:DL slicesConcat_int_con.ps):slicesConcat_int_con.φ x=denF Tryz.prog qeC qew Tryz.f200 slicesConcat_int_con.ps slicesConcat_int_con.one slicesConcat_int_con.res slicesConcat_int_con.ρ x:=by kernel_rfl
theorem qlB:ConOK Tryz.prog 200 slicesConcat_int_con :=
  qa (env:=qeC) ((EnvOK.body (EnvOK.nil _) Tryz.func232)) mixed Tryz.func200 slicesConcat_int_con qew (by kernel_rfl) (fun h=>by first | rfl | cases h) (fun g hg=>by cases hg) qkc
def qjj:Ann:=(.ord 6 0 (.two .nil (.two (.two (.two .nil (.two (.two .nil (.joinE ⟨[],[],[]⟩ (.two (.loop ⟨[0,1,7],[(8,Zt62)],[]⟩ .nil) .nil))) .nil)) .nil) .nil)) (.ord 7 0 .nil (.ord 8 0 .nil (.ord 9 0 .nil (.ord 10 0 .nil (.ord 11 0 (.two .nil (.two (.two (.two .nil (.two (.two .nil (.joinE ⟨[],[],[]⟩ (.two (.loop ⟨[0,1,7],[(8,Zt62)],[]⟩ .nil) .nil))) .nil)) .nil) .nil)) (.ord 12 0 .nil (.ord 13 0 .nil (.ord 14 0 .nil (.ord 15 0 .nil (.ord 16 0 .nil (.ord 17 0 .nil (.ord 18 0 .nil (.ord 19 0 .nil (.ord 20 0 .nil (.ord 21 0 .nil (.ord 22 0 .nil (.ord 23 0 .nil (.ord 24 0 .nil (.ord 25 0 .nil (.ord 26 0 .nil (.ord 27 0 .nil (.ord 28 0 .nil (.ord 29 0 .nil (.ord 30 0 .nil (.ord 31 0 .nil (.ord 32 0 .nil .nil)))))))))))))))))))))))))))
def qke:Ann:=(.two .nil (.two .nil (.two .nil (.two .nil (.two .nil (.two (.two (.join ⟨[],[(76,.bool)],[]⟩ (.any 8589931423 0 (.ord 0 0 .nil (.ord 2 0 .nil (.ord 3 0 .nil (.ord 4 0 .nil (.alt (.ord 1 0 .nil (.ord 5 0 .nil qjj)) (.ord 5 0 .nil (.ord 1 0 .nil qjj))))))))) .nil) .nil))))))
noncomputable def placeSound_con:Con:=⟨[Zt12,Zt29],true,[],Zt62,fun x=>qjU x.1 x.2.1,none⟩
noncomputable def qkX:Env:=(199,.body Tryz.f199)::(187,.body Tryz.f187)::(133,.body Tryz.f133)::(198,.body Tryz.f198)::(200,.con slicesConcat_int_con)::[]
theorem qrg (x:DL placeSound_con.ps):placeSound_con.φ x=denF Tryz.prog qkX qke Tryz.f141 placeSound_con.ps placeSound_con.one placeSound_con.res placeSound_con.ρ x:=by kernel_rfl
theorem qtB:ConOK Tryz.prog 141 placeSound_con :=
  qa (env:=qkX) ((EnvOK.body (EnvOK.body (EnvOK.body (EnvOK.body (EnvOK.cons (EnvOK.nil _) qlB) Tryz.func198) Tryz.func133) Tryz.func187) Tryz.func199)) mixed Tryz.func141 placeSound_con qke (by kernel_rfl) (fun h=>by first | rfl | cases h) (fun g hg=>by cases hg) qrg
def qkg:Ann := .nil
noncomputable def placeCheck_con:Con:=⟨[Zt12,Zt29],true,[],Zt62,fun x=>qeX x.1 x.2.1,none⟩
noncomputable def qkn:Env:=(141,.con placeSound_con)::(67,.con rulesCheck_con)::[]
theorem qrh (x:DL placeCheck_con.ps):placeCheck_con.φ x=denF Tryz.prog qkn qkg Tryz.f74 placeCheck_con.ps placeCheck_con.one placeCheck_con.res placeCheck_con.ρ x:=by kernel_rfl
theorem qhK:ConOK Tryz.prog 74 placeCheck_con :=
  qa (env:=qkn) ((EnvOK.cons (EnvOK.cons (EnvOK.nil _) qhq) qtB)) mixed Tryz.func74 placeCheck_con qkg (by kernel_rfl) (fun h=>by first | rfl | cases h) (fun g hg=>by cases hg) qrh
def qoN:Ann:=(.two .nil (.two .nil (.two (.two .nil (.joinE ⟨[],[],[]⟩ (.two (.loop ⟨[3,4,9,19],[(20,Zt62)],[]⟩ (.two .nil (.two .nil (.two (.joinE ⟨[3,4,9,19,20],[],[]⟩ (.two (.two .nil (.two .nil (.joinE ⟨[3,4,9,19,20],[],[]⟩ (.two (.loop ⟨[3,4,9,10,19,20,27],[(28,Zt62)],[]⟩ (.two .nil (.two .nil (.two (.joinE ⟨[3,4,9,10,19,20,27,28],[],[]⟩ (.two (.two .nil (.two .nil (.two (.join ⟨[3,4,9,10,19,20,27,28],[(15,Zt62)],[]⟩ (.two (.loop ⟨[3,4,9,10,12,19,20,27,28],[(13,Zt62),(14,Zt62),(15,Zt62)],[]⟩ (.two (.two (.join ⟨[3,4,9,10,12,13,14,15,19,20,27,28],[(47,.bool)],[]⟩ .nil) .nil) .nil)) .nil)) .nil))) .nil)) .nil)))) .nil)))) .nil)) .nil)))) .nil))) .nil)))
noncomputable def endsLine_con:Con:=⟨[Zt12,Zt29,Zt62,Zt62],true,[],.bool,fun x=>qpm x.1 x.2.1 x.2.2.1 x.2.2.2.1,none⟩
noncomputable def qoo:Env:=(272,.body Tryz.f272)::(159,.ck 197)::[]
theorem qvx (x:DL endsLine_con.ps):endsLine_con.φ x=denF Tryz.prog qoo qoN Tryz.f231 endsLine_con.ps endsLine_con.one endsLine_con.res endsLine_con.ρ x:=by kernel_rfl
theorem qwd:ConOK Tryz.prog 231 endsLine_con :=
  qa (env:=qoo) ((EnvOK.body (EnvOK.check (EnvOK.nil _) qb) Tryz.func272)) mixed Tryz.func231 endsLine_con qoN (by kernel_rfl) (fun h=>by first | rfl | cases h) (fun g hg=>by cases hg) qvx
def qiF:Ann := .nil
noncomputable def rulesIsLast_con:Con:=⟨[Zt12,Zt62,Zt62],true,[],.bool,fun x=>qfo x.1 x.2.1 x.2.2.1,none⟩
noncomputable def qiN:Env:=[]
theorem qp5 (x:DL rulesIsLast_con.ps):rulesIsLast_con.φ x=denF Tryz.prog qiN qiF Tryz.f190 rulesIsLast_con.ps rulesIsLast_con.one rulesIsLast_con.res rulesIsLast_con.ρ x:=by kernel_rfl
theorem qkH:ConOK Tryz.prog 190 rulesIsLast_con :=
  qa (env:=qiN) ((EnvOK.nil _)) mixed Tryz.func190 rulesIsLast_con qiF (by kernel_rfl) (fun h=>by first | rfl | cases h) (fun g hg=>by cases hg) qp5
def qmY:Ann:=(.two .nil (.two (.two .nil (.joinE ⟨[3,5,6],[],[]⟩ (.two (.two .nil (.two .nil (.two .nil (.two (.two (.two .nil (.joinE ⟨[3,5,6],[],[]⟩ (.two (.loop ⟨[3,4,5,6,27,28],[(29,Zt62)],[]⟩ .nil) .nil))) .nil) .nil)))) .nil))) (.two .nil (.two (.two .nil (.join ⟨[6],[(11,Zt62)],[]⟩ (.two (.loop ⟨[3,6,50,51],[(11,Zt62),(52,Zt62)],[]⟩ (.two .nil (.two .nil (.two (.two (.two .nil (.two .nil (.join ⟨[3,6,50,51,52],[(11,Zt62)],[]⟩ .nil))) .nil) .nil)))) .nil))) .nil))))
noncomputable def endsHolds_con:Con:=⟨[Zt12,Zt29,Zt46,Zt62],true,[],.bool,fun x=>qma x.1 x.2.1 x.2.2.1 x.2.2.2.1,none⟩
noncomputable def qnc:Env:=(190,.con rulesIsLast_con)::(231,.con endsLine_con)::[]
theorem qtk (x:DL endsHolds_con.ps):endsHolds_con.φ x=denF Tryz.prog qnc qmY Tryz.f196 endsHolds_con.ps endsHolds_con.one endsHolds_con.res endsHolds_con.ρ x:=by kernel_rfl
theorem qus:ConOK Tryz.prog 196 endsHolds_con :=
  qa (env:=qnc) ((EnvOK.cons (EnvOK.cons (EnvOK.nil _) qwd) qkH)) mixed Tryz.func196 endsHolds_con qmY (by kernel_rfl) (fun h=>by first | rfl | cases h) (fun g hg=>by cases hg) qtk
def qos:Ann := .nil
noncomputable def endsWins_con:Con:=⟨[Zt62],true,[],Zt62,fun x=>qnz x.1,some fun x=>qdd x.1⟩
noncomputable def qof:Env:=[]
theorem quA (x:DL endsWins_con.ps):endsWins_con.φ x=denF Tryz.prog qof qos Tryz.f197 endsWins_con.ps endsWins_con.one endsWins_con.res endsWins_con.ρ x:=by kernel_rfl
theorem qv2:ConOK Tryz.prog 197 endsWins_con :=
  qa (env:=qof) ((EnvOK.nil _)) mixed Tryz.func197 endsWins_con qos (by kernel_rfl) (fun h=>by first | rfl | cases h) (fun g hg x=>by
    cases hg
    exact qwz _) quA
def qiI:Ann:=(.two .nil (.two (.two .nil (.joinE ⟨[],[],[]⟩ (.two (.loop ⟨[3,4],[(2,Zt62)],[]⟩ .nil) .nil))) .nil))
noncomputable def movesFilled_con:Con:=⟨[Zt12,Zt29,Zt62],true,[],.bool,fun x=>qhz x.1 x.2.1 x.2.2.1,none⟩
noncomputable def qiE:Env:=[]
theorem qqJ (x:DL movesFilled_con.ps):movesFilled_con.φ x=denF Tryz.prog qiE qiI Tryz.f228 movesFilled_con.ps movesFilled_con.one movesFilled_con.res movesFilled_con.ρ x:=by kernel_rfl
theorem qrk:ConOK Tryz.prog 228 movesFilled_con :=
  qa (env:=qiE) ((EnvOK.nil _)) mixed Tryz.func228 movesFilled_con qiI (by kernel_rfl) (fun h=>by first | rfl | cases h) (fun g hg=>by cases hg) qqJ
def qnp:Ann:=(.two .nil (.two .nil (.two (.two .nil (.join ⟨[],[(5,Zt48)],[]⟩ (.two (.loop ⟨[2,3,11,12],[(5,Zt48),(13,Zt62)],[]⟩ (.two .nil (.two .nil (.two (.join ⟨[2,3,11,12,13],[(5,Zt48)],[(2,none)]⟩ (.two (.two .nil (.two .nil (.two .nil (.join ⟨[2,3,11,12,13],[(5,Zt48)],[(2,none)]⟩ (.two (.loop ⟨[2,3,6,11,12,13,41,42],[(5,Zt48),(43,Zt62)],[(2,none)]⟩ (.two .nil (.two .nil (.two (.two (.two .nil (.two .nil (.join ⟨[2,3,6,11,12,13,41,42,43],[(5,Zt48)],[(3,none)]⟩ .nil))) .nil) .nil)))) .nil))))) .nil)) .nil)))) .nil))) .nil)))
noncomputable def movesPuts_con:Con:=⟨[Zt12,Zt29],true,[],Zt48,fun x=>qmD x.1 x.2.1,none⟩
noncomputable def qlP:Env:=(228,.con movesFilled_con)::[]
theorem qto (x:DL movesPuts_con.ps):movesPuts_con.φ x=denF Tryz.prog qlP qnp Tryz.f188 movesPuts_con.ps movesPuts_con.one movesPuts_con.res movesPuts_con.ρ x:=by kernel_rfl
theorem qvc:ConOK Tryz.prog 188 movesPuts_con :=
  qa (env:=qlP) ((EnvOK.cons (EnvOK.nil _) qrk)) mixed Tryz.func188 movesPuts_con qnp (by kernel_rfl) (fun h=>by first | rfl | cases h) (fun g hg=>by cases hg) qto
def qog:Ann:=(.two .nil (.two .nil (.two .nil (.two (.two .nil (.join ⟨[2,4,5,7,9],[(10,Zt62)],[]⟩ .nil)) (.two .nil (.two (.two .nil (.join ⟨[],[(9,Zt59)],[]⟩ (.two (.loop ⟨[4,5,7,10,31],[(9,Zt59),(11,Zt62),(12,Zt62),(32,Zt62)],[]⟩ (.two .nil (.two .nil (.two (.two (.two .nil (.two .nil (.two .nil (.two .nil (.two (.two .nil (.join ⟨[4,5,7,10,11,12,13,31,32],[(9,Zt59)],[(3,none)]⟩ .nil)) .nil))))) .nil) .nil)))) .nil))) .nil))))))
noncomputable def movesWay_con:Con:=⟨[Zt12,Zt29,Zt62,Zt43],true,[],Zt59,fun x=>qpr x.1 x.2.1 x.2.2.1 x.2.2.2.1,none⟩
noncomputable def qoK:Env:=[]
theorem qu4 (x:DL movesWay_con.ps):movesWay_con.φ x=denF Tryz.prog qoK qog Tryz.f189 movesWay_con.ps movesWay_con.one movesWay_con.res movesWay_con.ρ x:=by kernel_rfl
theorem qwe:ConOK Tryz.prog 189 movesWay_con :=
  qa (env:=qoK) ((EnvOK.nil _)) mixed Tryz.func189 movesWay_con qog (by kernel_rfl) (fun h=>by first | rfl | cases h) (fun g hg=>by cases hg) qu4
def qnh:Ann:=(.two .nil (.two .nil (.two (.two .nil (.join ⟨[],[(5,Zt48)],[(2,none)]⟩ (.two (.loop ⟨[2,3,19,20],[(5,Zt48),(21,Zt62)],[(2,none)]⟩ (.two .nil (.two .nil (.two (.join ⟨[2,3,19,20,21],[(5,Zt48)],[(3,none)]⟩ (.two (.two .nil (.two .nil (.two .nil (.two .nil (.join ⟨[2,3,19,20,21],[(5,Zt48)],[(3,none)]⟩ (.two (.loop ⟨[2,3,6,8,19,20,21,44,45],[(5,Zt48),(46,Zt62)],[(3,none)]⟩ (.two .nil (.two .nil (.two (.join ⟨[2,3,6,8,19,20,21,44,45,46],[(5,Zt48)],[(4,none)]⟩ (.two (.two .nil (.two .nil (.join ⟨[2,3,6,8,19,20,21,44,45,46],[(5,Zt48)],[(4,none)]⟩ (.two (.loop ⟨[2,3,6,8,19,20,21,44,45,46,54,55],[(5,Zt48),(56,Zt62)],[(4,none)]⟩ (.two .nil (.two .nil (.two (.two (.two .nil (.two .nil (.two (.two .nil (.two .nil (.join ⟨[2,3,5,6,8,13,19,20,21,44,45,46,54,55,56],[],[(8,some (.box Zt51))]⟩ .nil))) .nil))) .nil) .nil)))) .nil)))) .nil)) .nil)))) .nil)))))) .nil)) .nil)))) .nil))) (.two .nil (.two (.join ⟨[],[(4,Zt48)],[(3,none)]⟩ (.two (.two .nil (.two .nil (.two (.two .nil (.joinE ⟨[0],[],[(3,some (.arr 41 Zt51))]⟩ (.two (.loop ⟨[0],[(3,Zt62)],[(3,some (.arr 41 Zt51))]⟩ (.two .nil (.two (.joinE ⟨[0],[(3,Zt62)],[(3,some (.arr 41 Zt51))]⟩ (.two (.two .nil (.two (.two (.own .nil) (.two (.two .nil (.join ⟨[0],[(3,Zt62)],[(3,some (.arr 41 Zt51))]⟩ (.two (.loop ⟨[0,4],[(3,Zt62),(5,Zt62)],[(3,some (.arr 41 Zt51))]⟩ (.two .nil (.two (.two (.two .nil (.join ⟨[0,4,5],[(3,Zt62)],[(3,some (.arr 41 Zt51))]⟩ .nil)) .nil) .nil))) .nil))) (.two (.own .nil) (.two (.own .nil) .nil)))) .nil)) .nil)) .nil))) .nil))) .nil))) .nil)) .nil)))))
noncomputable def movesList_con:Con:=⟨[Zt12,Zt29],true,[],Zt48,fun x=>qap x.1 x.2.1,none⟩
noncomputable def qmG:Env:=(193,.body Tryz.f193)::(191,.srt qhH)::(190,.con rulesIsLast_con)::(189,.con movesWay_con)::(159,.ck 197)::(188,.con movesPuts_con)::[]
theorem qtN (x:DL movesList_con.ps):movesList_con.φ x=denF Tryz.prog qmG qnh Tryz.f137 movesList_con.ps movesList_con.one movesList_con.res movesList_con.ρ x:=by kernel_rfl
theorem qdZ:ConOK Tryz.prog 137 movesList_con :=
  qa (env:=qmG) ((EnvOK.body (EnvOK.sort (EnvOK.cons (EnvOK.cons (EnvOK.check (EnvOK.cons (EnvOK.nil _) qvc) qb) qwe) qkH) quJ) Tryz.func193)) mixed Tryz.func137 movesList_con qnh (by kernel_rfl) (fun h=>by first | rfl | cases h) (fun g hg=>by cases hg) qtN
def qkG:Ann:=(.two .nil (.two .nil (.two (.two (.two (.two .nil (.two (.two .nil (.joinE ⟨[],[],[]⟩ (.two (.loop ⟨[0,1,7],[(8,Zt62)],[]⟩ .nil) .nil))) .nil)) .nil) .nil) .nil)))
noncomputable def endsResult_con:Con:=⟨[Zt12,Zt29],true,[],Zt62,fun x=>qeW x.1 x.2.1,none⟩
noncomputable def qkf:Env:=(197,.con endsWins_con)::(137,.con movesList_con)::(196,.con endsHolds_con)::(195,.body Tryz.f195)::(194,.body Tryz.f194)::(159,.ck 197)::[]
theorem qrp (x:DL endsResult_con.ps):endsResult_con.φ x=denF Tryz.prog qkf qkG Tryz.f139 endsResult_con.ps endsResult_con.one endsResult_con.res endsResult_con.ρ x:=by kernel_rfl
theorem qmW:ConOK Tryz.prog 139 endsResult_con :=
  qa (env:=qkf) ((EnvOK.cons (EnvOK.cons (EnvOK.cons (EnvOK.body (EnvOK.body (EnvOK.check (EnvOK.nil _) qb) Tryz.func194) Tryz.func195) qus) qdZ) qv2)) mixed Tryz.func139 endsResult_con qkG (by kernel_rfl) (fun h=>by first | rfl | cases h) (fun g hg=>by cases hg) qrp
def qni:Ann := .nil
noncomputable def endsMoves_con:Con:=⟨[Zt12,Zt29],true,[],Zt48,fun x=>qgI x.1 x.2.1,none⟩
noncomputable def qne:Env:=(137,.con movesList_con)::(139,.con endsResult_con)::[]
theorem qsV (x:DL endsMoves_con.ps):endsMoves_con.φ x=denF Tryz.prog qne qni Tryz.f168 endsMoves_con.ps endsMoves_con.one endsMoves_con.res endsMoves_con.ρ x:=by kernel_rfl
theorem qow:ConOK Tryz.prog 168 endsMoves_con :=
  qa (env:=qne) ((EnvOK.cons (EnvOK.cons (EnvOK.nil _) qmW) qdZ)) mixed Tryz.func168 endsMoves_con qni (by kernel_rfl) (fun h=>by first | rfl | cases h) (fun g hg=>by cases hg) qsV
def qeu:Ann:=(.two .nil (.two (.two .nil (.joinE ⟨[],[],[]⟩ (.two (.loop ⟨[0,3,7],[(8,Zt62)],[]⟩ .nil) .nil))) .nil))
noncomputable def slicesIndex_Move_con:Con:=⟨[Zt50,Zt51],true,[],Zt62,fun x=>qeo x.1 x.2.1,none⟩
noncomputable def qeA:Env:=[]
theorem qj6 (x:DL slicesIndex_Move_con.ps):slicesIndex_Move_con.φ x=denF Tryz.prog qeA qeu Tryz.f158 slicesIndex_Move_con.ps slicesIndex_Move_con.one slicesIndex_Move_con.res slicesIndex_Move_con.ρ x:=by kernel_rfl
theorem qll:ConOK Tryz.prog 158 slicesIndex_Move_con :=
  qa (env:=qeA) ((EnvOK.nil _)) mixed Tryz.func158 slicesIndex_Move_con qeu (by kernel_rfl) (fun h=>by first | rfl | cases h) (fun g hg=>by cases hg) qj6
def qcQ:Ann := .nil
noncomputable def slicesContains_Move_con:Con:=⟨[Zt50,Zt51],true,[],.bool,fun x=>qs x.1 x.2.1,none⟩
noncomputable def qc1:Env:=(158,.con slicesIndex_Move_con)::[]
theorem qhF (x:DL slicesContains_Move_con.ps):slicesContains_Move_con.φ x=denF Tryz.prog qc1 qcQ Tryz.f98 slicesContains_Move_con.ps slicesContains_Move_con.one slicesContains_Move_con.res slicesContains_Move_con.ρ x:=by kernel_rfl
theorem qaB:ConOK Tryz.prog 98 slicesContains_Move_con :=
  qa (env:=qc1) ((EnvOK.cons (EnvOK.nil _) qll)) mixed Tryz.func98 slicesContains_Move_con qcQ (by kernel_rfl) (fun h=>by first | rfl | cases h) (fun g hg=>by cases hg) qhF
def qfy:Ann := .nil
noncomputable def slicesClone_int_con:Con:=⟨[Zt60],true,[],Zt59,fun x=>qG x.1,none⟩
noncomputable def qff:Env:=[]
theorem qlv (x:DL slicesClone_int_con.ps):slicesClone_int_con.φ x=denF Tryz.prog qff qfy Tryz.f68 slicesClone_int_con.ps slicesClone_int_con.one slicesClone_int_con.res slicesClone_int_con.ρ x:=by kernel_rfl
theorem qdg:ConOK Tryz.prog 68 slicesClone_int_con :=
  qa (env:=qff) ((EnvOK.nil _)) mixed Tryz.func68 slicesClone_int_con qfy (by kernel_rfl) (fun h=>by first | rfl | cases h) (fun g hg=>by cases hg) qlv
def ql4:Ann:=(.two .nil (.two .nil (.two (.join ⟨[1,2],[],[(0,some (.box Zt30)),(2,none)]⟩ (.any 887 0 (.ord 0 0 .nil (.ord 1 0 .nil (.ord 2 115 .nil (.ord 4 0 .nil (.ord 5 0 .nil (.alt (.ord 3 0 .nil (.ord 6 0 .nil (.ord 7 0 .nil (.ord 8 0 .nil (.ord 9 0 .nil (.ord 10 0 .nil .nil)))))) (.ord 6 0 .nil (.ord 3 0 .nil (.ord 7 0 .nil (.ord 8 0 .nil (.ord 9 0 .nil (.ord 10 0 .nil .nil)))))))))))))) .nil)))
noncomputable def placeCopy_con:Con:=⟨[Zt29],true,[],Zt27,fun x=>qfn x.1,none⟩
noncomputable def qlQ:Env:=(68,.con slicesClone_int_con)::(159,.ck 197)::[]
theorem qtA (x:DL placeCopy_con.ps):placeCopy_con.φ x=denF Tryz.prog qlQ ql4 Tryz.f126 placeCopy_con.ps placeCopy_con.one placeCopy_con.res placeCopy_con.ρ x:=by kernel_rfl
theorem qoc:ConOK Tryz.prog 126 placeCopy_con :=
  qa (env:=qlQ) ((EnvOK.cons (EnvOK.check (EnvOK.nil _) qb) qdg)) mixed Tryz.func126 placeCopy_con ql4 (by kernel_rfl) (fun h=>by first | rfl | cases h) (fun g hg=>by cases hg) qtA
def ql9:Ann:=(.two .nil (.two .nil (.two .nil (.two (.two .nil (.join ⟨[3,4,5,6,7,8],[],[(4,some (.arr 3 Zt62)),(5,some (.arr 3 Zt62)),(6,some (.arr 3 Zt62))]⟩ (.two .nil (.join ⟨[3,4,5,6,7,8],[],[(5,some (.arr 3 Zt62)),(6,some (.arr 3 Zt62))]⟩ (.tail 11 .nil))))) (.two .nil (.two (.two .nil (.join ⟨[4,5,6,7,8],[],[(5,some (.arr 3 Zt62)),(6,some (.arr 3 Zt62))]⟩ (.two (.two .nil (.join ⟨[4,5,6,7,8],[],[(5,some (.arr 3 Zt62)),(6,some (.arr 3 Zt62))]⟩ (.tail 17 .nil))) .nil))) (.two .nil (.two (.two .nil (.join ⟨[4,6,7],[],[(4,none),(5,none),(6,none),(7,some (.box Zt30))]⟩ .nil)) .nil))))))))
noncomputable def movesMake_con:Con:=⟨[Zt12,Zt29,Zt51],true,[],Zt27,fun x=>qv x.1 x.2.1 x.2.2.1,none⟩
noncomputable def qnu:Env:=(126,.con placeCopy_con)::(159,.ck 197)::[]
theorem qtn (x:DL movesMake_con.ps):movesMake_con.φ x=denF Tryz.prog qnu ql9 Tryz.f63 movesMake_con.ps movesMake_con.one movesMake_con.res movesMake_con.ρ x:=by kernel_rfl
theorem qgj:ConOK Tryz.prog 63 movesMake_con :=
  qa (env:=qnu) ((EnvOK.cons (EnvOK.check (EnvOK.nil _) qb) qoc)) mixed Tryz.func63 movesMake_con ql9 (by kernel_rfl) (fun h=>by first | rfl | cases h) (fun g hg=>by cases hg) qtn
def qrw:Ann := .nil
noncomputable def zobMix_con:Con:=⟨[Zt62],true,[],Zt63,fun x=>qtz x.1,some fun x=>qm5 x.1⟩
noncomputable def qrI:Env:=[]
theorem qyy (x:DL zobMix_con.ps):zobMix_con.φ x=denF Tryz.prog qrI qrw Tryz.f125 zobMix_con.ps zobMix_con.one zobMix_con.res zobMix_con.ρ x:=by kernel_rfl
theorem zobMix_ok:ConOK Tryz.prog 125 zobMix_con :=
  qa (env:=qrI) ((EnvOK.nil _)) mixed Tryz.func125 zobMix_con qrw (by kernel_rfl) (fun h=>by first | rfl | cases h) (fun g hg x=>by
    cases hg
    exact zobMix_eq _) qyy
def quB:Ann:=(.two .nil (.two .nil (.two (.two .nil (.join ⟨[1],[(3,Zt63)],[]⟩ (.two (.loop ⟨[1,11,12],[(3,Zt63),(13,Zt62)],[]⟩ (.two .nil (.two .nil (.two (.two (.two .nil (.two .nil (.join ⟨[1,11,12,13],[(3,Zt63)],[]⟩ .nil))) .nil) .nil)))) .nil))) (.two (.two .nil (.join ⟨[1],[(3,Zt63)],[]⟩ (.two (.loop ⟨[1,29],[(3,Zt63),(30,Zt62)],[]⟩ (.two .nil (.two .nil (.two (.join ⟨[1,29,30],[(3,Zt63)],[]⟩ (.two (.two .nil (.two .nil (.join ⟨[1,29,30],[(3,Zt63)],[]⟩ (.two (.loop ⟨[1,6,29,30,34,35],[(3,Zt63),(36,Zt62)],[]⟩ .nil) .nil)))) .nil)) .nil)))) .nil))) (.two (.two .nil (.join ⟨[],[(3,Zt63)],[]⟩ .nil)) .nil)))))
noncomputable def zobOf_con:Con:=⟨[Zt29],true,[],Zt63,fun x=>zobOf x.1,none⟩
noncomputable def qua:Env:=(125,.con zobMix_con)::[]
theorem zobOf_den (x:DL zobOf_con.ps):zobOf_con.φ x=denF Tryz.prog qua quB Tryz.f62 zobOf_con.ps zobOf_con.one zobOf_con.res zobOf_con.ρ x:=by kernel_rfl
theorem qpp:ConOK Tryz.prog 62 zobOf_con :=
  qa (env:=qua) ((EnvOK.cons (EnvOK.nil _) zobMix_ok)) mixed Tryz.func62 zobOf_con quB (by kernel_rfl) (fun h=>by first | rfl | cases h) (fun g hg=>by cases hg) zobOf_den
def qsr:Ann := .nil
noncomputable def zobKey_con:Con:=⟨[Zt12,Zt29],false,[Zt63,Zt62],(.st Zt63 Zt58),fun x=>qrZ x.1 x.2.1,none⟩
noncomputable def qsk:Env:=(62,.con zobOf_con)::(74,.con placeCheck_con)::[]
theorem qyw (x:DL zobKey_con.ps):zobKey_con.φ x=denF Tryz.prog qsk qsr Tryz.f21 zobKey_con.ps zobKey_con.one zobKey_con.res zobKey_con.ρ x:=by kernel_rfl
theorem qvd:ConOK Tryz.prog 21 zobKey_con :=
  qa (env:=qsk) ((EnvOK.cons (EnvOK.cons (EnvOK.nil _) qhK) qpp)) mixed Tryz.func21 zobKey_con qsr (by kernel_rfl) (fun h=>by first | rfl | cases h) (fun g hg=>by cases hg) qyw
def qN:Ann:=(.ord 13 0 .nil (.ord 16 0 .nil (.ord 18 0 .nil (.ord 19 0 .nil .nil))))
def qdh:Ann:=(.alt (.ord 6 0 .nil (.ord 15 0 .nil (.ord 12 0 .nil qN))) (.ord 12 0 .nil (.ord 6 0 .nil (.ord 15 0 .nil qN))))
def qiz:Ann:=(.alt (.ord 6 0 .nil (.ord 9 155135 .nil (.ord 15 0 .nil (.ord 12 0 .nil qN)))) (.alt (.ord 9 0 .nil qdh) (.ord 12 0 .nil (.alt (.ord 6 0 .nil (.ord 9 0 .nil (.ord 15 0 .nil qN))) (.ord 9 0 .nil (.ord 6 0 .nil (.ord 15 0 .nil qN)))))))
def qft:Ann:=(.ord 11 182271 .nil (.ord 15 0 .nil (.ord 12 0 .nil qN)))
def qjk:Ann:=(.alt (.ord 5 0 .nil qdh) (.ord 12 0 .nil (.ord 5 0 .nil (.ord 6 0 .nil (.ord 15 0 .nil qN)))))
def qkr:Ann:=(.two .nil (.two .nil (.two .nil (.two (.two .nil (.join ⟨[2,5],[],[(2,none),(3,some (.box Zt30))]⟩ (.two (.loop ⟨[2,5,19,20],[(21,Zt62)],[(2,none),(3,some (.box Zt30))]⟩ (.two .nil (.two .nil (.two (.two (.two .nil (.join ⟨[2,5,19,20,21],[],[(3,some (.box Zt30)),(4,none),(5,none),(6,none)]⟩ (.any 446367 4128 (.ord 0 0 .nil (.ord 1 0 .nil (.ord 2 155579 .nil (.ord 3 0 .nil (.ord 4 155535 .nil (.ord 7 0 .nil (.ord 8 0 .nil (.ord 10 0 .nil (.ord 14 0 .nil (.ord 17 0 .nil (.alt (.ord 5 0 .nil (.alt (.ord 6 0 .nil (.ord 9 155135 .nil qft)) (.alt (.ord 9 0 .nil (.alt (.ord 6 0 .nil qft) (.ord 11 0 .nil qdh))) (.ord 11 0 .nil qiz)))) (.alt (.ord 9 0 .nil (.alt (.ord 5 0 .nil (.alt (.ord 6 0 .nil qft) (.ord 11 0 .nil qdh))) (.ord 11 0 .nil qjk))) (.ord 11 0 .nil (.alt (.ord 5 0 .nil qiz) (.alt (.ord 9 0 .nil qjk) (.ord 12 0 .nil (.alt (.ord 5 0 .nil (.alt (.ord 6 0 .nil (.ord 9 0 .nil (.ord 15 0 .nil qN))) (.ord 9 0 .nil (.ord 6 0 .nil (.ord 15 0 .nil qN))))) (.ord 9 0 .nil (.ord 5 0 .nil (.ord 6 0 .nil (.ord 15 0 .nil qN)))))))))))))))))))))))) .nil) .nil)))) .nil))) .nil))))
noncomputable def placeBegin_con:Con:=⟨[Zt12],false,[Zt27,Zt62],(.st Zt27 Zt58),fun x=>qb5 x.1,none⟩
noncomputable def qkd:Env:=(68,.con slicesClone_int_con)::(67,.con rulesCheck_con)::(159,.ck 197)::[]
theorem qrj (x:DL placeBegin_con.ps):placeBegin_con.φ x=denF Tryz.prog qkd qkr Tryz.f17 placeBegin_con.ps placeBegin_con.one placeBegin_con.res placeBegin_con.ρ x:=by kernel_rfl
theorem qbY:ConOK Tryz.prog 17 placeBegin_con :=
  qa (env:=qkd) ((EnvOK.cons (EnvOK.cons (EnvOK.check (EnvOK.nil _) qb) qhq) qdg)) mixed Tryz.func17 placeBegin_con qkr (by kernel_rfl) (fun h=>by first | rfl | cases h) (fun g hg=>by cases hg) qrj
def qfs:Ann:=(.two .nil (.two .nil (.two (.two .nil (.joinE ⟨[],[],[]⟩ (.two (.loop ⟨[0,1,12],[(13,Zt62)],[]⟩ .nil) .nil))) .nil)))
noncomputable def slicesEqual_int_con:Con:=⟨[Zt60,Zt60],true,[],.bool,fun x=>qa0 x.1 x.2.1,none⟩
noncomputable def qfi:Env:=[]
theorem qlh (x:DL slicesEqual_int_con.ps):slicesEqual_int_con.φ x=denF Tryz.prog qfi qfs Tryz.f92 slicesEqual_int_con.ps slicesEqual_int_con.one slicesEqual_int_con.res slicesEqual_int_con.ρ x:=by kernel_rfl
theorem qmO:ConOK Tryz.prog 92 slicesEqual_int_con :=
  qa (env:=qfi) ((EnvOK.nil _)) mixed Tryz.func92 slicesEqual_int_con qfs (by kernel_rfl) (fun h=>by first | rfl | cases h) (fun g hg=>by cases hg) qlh
def qmA:Ann := .nil
noncomputable def placeSame_con:Con:=⟨[Zt29,Zt29],true,[],.bool,fun x=>qi7 x.1 x.2.1,none⟩
noncomputable def qmZ:Env:=(92,.con slicesEqual_int_con)::[]
theorem qsG (x:DL placeSame_con.ps):placeSame_con.φ x=denF Tryz.prog qmZ qmA Tryz.f31 placeSame_con.ps placeSame_con.one placeSame_con.res placeSame_con.ρ x:=by kernel_rfl
theorem qvo:ConOK Tryz.prog 31 placeSame_con :=
  qa (env:=qmZ) ((EnvOK.cons (EnvOK.nil _) qmO)) mixed Tryz.func31 placeSame_con qmA (by kernel_rfl) (fun h=>by first | rfl | cases h) (fun g hg=>by cases hg) qsG
def qcN:Ann := .nil
noncomputable def slicesClone_RuleWay_con:Con:=⟨[Zt41],true,[],(.osl 215 Zt43),fun x=>qbj x.1,none⟩
noncomputable def qdl:Env:=[]
theorem qhr (x:DL slicesClone_RuleWay_con.ps):slicesClone_RuleWay_con.φ x=denF Tryz.prog qdl qcN Tryz.f106 slicesClone_RuleWay_con.ps slicesClone_RuleWay_con.one slicesClone_RuleWay_con.res slicesClone_RuleWay_con.ρ x:=by kernel_rfl
theorem qih:ConOK Tryz.prog 106 slicesClone_RuleWay_con :=
  qa (env:=qdl) ((EnvOK.nil _)) mixed Tryz.func106 slicesClone_RuleWay_con qcN (by kernel_rfl) (fun h=>by first | rfl | cases h) (fun g hg=>by cases hg) qhr
def qc4:Ann := .nil
noncomputable def slicesClone_RuleEnd_con:Con:=⟨[Zt44],true,[],Zt42,fun x=>qaz x.1,none⟩
noncomputable def qcU:Env:=[]
theorem qhB (x:DL slicesClone_RuleEnd_con.ps):slicesClone_RuleEnd_con.φ x=denF Tryz.prog qcU qc4 Tryz.f107 slicesClone_RuleEnd_con.ps slicesClone_RuleEnd_con.one slicesClone_RuleEnd_con.res slicesClone_RuleEnd_con.ρ x:=by kernel_rfl
theorem qig:ConOK Tryz.prog 107 slicesClone_RuleEnd_con :=
  qa (env:=qcU) ((EnvOK.nil _)) mixed Tryz.func107 slicesClone_RuleEnd_con qc4 (by kernel_rfl) (fun h=>by first | rfl | cases h) (fun g hg=>by cases hg) qhB
def qmX:Ann:=(.two .nil (.two .nil (.two .nil (.two (.two .nil (.join ⟨[1,2,3],[],[(2,some (.box Zt11))]⟩ (.two (.loop ⟨[1,2,3,9,10],[(11,Zt62)],[(2,some (.box Zt11))]⟩ .nil) .nil))) (.two (.join ⟨[2,3],[],[(2,some (.box Zt10)),(3,none)]⟩ (.any 347 0 (.ord 0 0 .nil (.ord 1 25 .nil (.ord 3 0 .nil (.alt (.ord 2 0 .nil (.ord 4 79 .nil (.ord 6 0 .nil (.ord 5 0 .nil (.ord 7 0 .nil (.ord 8 0 .nil (.ord 9 0 .nil .nil))))))) (.ord 4 0 .nil (.ord 2 0 .nil (.ord 6 0 .nil (.ord 5 0 .nil (.ord 7 0 .nil (.ord 8 0 .nil (.ord 9 0 .nil .nil))))))))))))) .nil)))))
noncomputable def rulesCopy_con:Con:=⟨[Zt12],true,[],Zt12,fun x=>qbL x.1,none⟩
noncomputable def qmj:Env:=(107,.con slicesClone_RuleEnd_con)::(68,.con slicesClone_int_con)::(106,.con slicesClone_RuleWay_con)::(159,.ck 197)::[]
theorem qtl (x:DL rulesCopy_con.ps):rulesCopy_con.φ x=denF Tryz.prog qmj qmX Tryz.f45 rulesCopy_con.ps rulesCopy_con.one rulesCopy_con.res rulesCopy_con.ρ x:=by kernel_rfl
theorem qoR:ConOK Tryz.prog 45 rulesCopy_con :=
  qa (env:=qmj) ((EnvOK.cons (EnvOK.cons (EnvOK.cons (EnvOK.check (EnvOK.nil _) qb) qih) qdg) qig)) mixed Tryz.func45 rulesCopy_con qmX (by kernel_rfl) (fun h=>by first | rfl | cases h) (fun g hg=>by cases hg) qtl
end Go.Proofs.YtijkabgijfdpfaaGreatDoor

