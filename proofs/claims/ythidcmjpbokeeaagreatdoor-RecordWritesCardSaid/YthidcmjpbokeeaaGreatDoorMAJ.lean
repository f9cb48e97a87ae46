/- Several texts in one: GameC, TextC, RecordC, RecordWritesC. -/
import Derived.Test.YthidcmjpbokeeaaGreatDoorMAA
import Derived.Test.YthidcmjpbokeeaaGreatDoorMAI
import Derived.Test.YthidcmjpbokeeaaGreatDoorMAE
import Derived.Test.YthidcmjpbokeeaaGreatDoorCoreC
import Derived.Test.YthidcmjpbokeeaaGreatDoorMAF
namespace Go.Proofs.YthidcmjpbokeeaaGreatDoor
open Go.Den
set_option linter.unusedVariables false
set_option maxRecDepth 100000
def qe8:Ann:=(.two .nil (.two .nil (.two (.two .nil (.join ⟨[],[(3,Zt44)],[]⟩ (.two (.loop ⟨[0,9,10],[(3,Zt44),(11,Zt44)],[]⟩ (.two .nil (.two .nil (.two (.two (.two .nil (.two (.join ⟨[0,3,9,10,11],[(18,.bool)],[]⟩ (.any 3 0 (.ord 1 0 .nil (.alt (.ord 0 0 .nil (.ord 2 0 (.two .nil (.two (.tail 12 .nil) .nil)) (.ord 3 0 .nil .nil))) (.ord 2 0 (.two .nil (.two (.tail 12 .nil) .nil)) (.ord 0 0 .nil (.ord 3 0 .nil .nil))))))) (.join ⟨[0,9,10,11],[(3,Zt44)],[]⟩ .nil))) .nil) .nil)))) .nil))) .nil)))
noncomputable def plainGameCount_con:Con:=⟨[Zt5],true,[],Zt44,fun x=>qdf x.1,none⟩
noncomputable def qfe:Env:=(18,.con placeSame_con)::(94,.body Tryz.f94)::(58,.ck 64)::[]
theorem qkP (x:DL plainGameCount_con.ps):plainGameCount_con.φ x=denB Tryz.prog qfe qe8 Tryz.f97 true plainGameCount_con.ps plainGameCount_con.one plainGameCount_con.res plainGameCount_con.ρ x:=by kernel_rfl
theorem qk3:qqU Tryz.prog 97 plainGameCount_con :=
  qnF (env:=qfe) ((EnvOK.cons (EnvOK.body (EnvOK.check (EnvOK.nil _) qd) Tryz.func94) ql0)) mixed Tryz.func97 plainGameCount_con qe8 (by kernel_rfl) (fun h=>by first | rfl | cases h) (fun g hg=>by cases hg) qkP
def qeK:Ann:=(.two .nil (.two (.join ⟨[0],[(3,Zt44)],[]⟩ (.any 159 0 (.ord 0 0 .nil (.ord 1 0 .nil (.ord 2 0 .nil (.ord 4 0 .nil (.alt (.ord 3 0 .nil (.ord 5 0 (.two .nil (.two (.tail 12 .nil) .nil)) (.ord 6 0 .nil (.ord 7 0 .nil .nil)))) (.ord 5 0 (.two .nil (.two (.tail 12 .nil) .nil)) (.ord 3 0 .nil (.ord 6 0 .nil (.ord 7 0 .nil .nil))))))))))) .nil))
noncomputable def plainGameResult_con:Con:=⟨[Zt5],true,[],Zt44,fun x=>qa4 x.1,none⟩
noncomputable def qeF:Env:=(97,.rd plainGameCount_con)::(96,.con endsResult_con)::(58,.ck 64)::(94,.body Tryz.f94)::[]
theorem qjp (x:DL plainGameResult_con.ps):plainGameResult_con.φ x=denB Tryz.prog qeF qeK Tryz.f46 true plainGameResult_con.ps plainGameResult_con.one plainGameResult_con.res plainGameResult_con.ρ x:=by kernel_rfl
theorem qfb:qqU Tryz.prog 46 plainGameResult_con :=
  qnF (env:=qeF) ((EnvOK.readonly (EnvOK.cons (EnvOK.check (EnvOK.body (EnvOK.nil _) Tryz.func94) qd) qgi) qk3)) mixed Tryz.func46 plainGameResult_con qeK (by kernel_rfl) (fun h=>by first | rfl | cases h) (fun g hg=>by cases hg) qjp
def qar:Ann:=(.ord 13 0 .nil (.ord 14 0 .nil (.ord 15 0 .nil (.ord 16 0 .nil (.ord 17 0 .nil .nil)))))
def qaO:Ann:=(.alt (.ord 4 0 .nil (.ord 12 0 .nil qar)) (.ord 12 0 .nil (.ord 4 16367 .nil qar)))
def qbp:Ann:=(.ord 10 0 (.two .nil (.two (.tail 12 .nil) .nil)) (.ord 12 0 .nil qar))
def qV:Ann:=(.ord 8 0 .nil (.ord 9 0 .nil (.ord 10 0 .nil .nil)))
def qft:Ann:=(.alt (.ord 10 0 (.two .nil (.two (.tail 12 .nil) .nil)) (.ord 11 0 .nil (.ord 12 0 .nil qar))) (.ord 11 0 .nil qbp))
def qfn:Ann:=(.alt (.ord 8 0 .nil qbp) (.ord 10 0 (.two .nil (.two (.tail 12 .nil) .nil)) (.ord 8 0 .nil (.ord 12 0 .nil qar))))
def qgb:Ann:=(.two .nil (.two (.two (.two .nil (.two .nil (.two (.join ⟨[0,3],[(9,.bool)],[]⟩ (.any 1695 0 (.ord 0 0 .nil (.ord 1 0 .nil (.ord 2 0 .nil (.ord 4 0 .nil (.alt (.ord 3 0 .nil (.alt (.ord 5 0 (.two .nil (.two (.tail 12 .nil) .nil)) (.alt (.ord 6 0 .nil (.ord 7 0 .nil qV)) (.ord 7 0 .nil (.ord 6 0 .nil qV)))) (.ord 7 0 .nil (.ord 5 0 (.two .nil (.two (.tail 12 .nil) .nil)) (.ord 6 0 .nil qV))))) (.alt (.ord 5 0 (.two .nil (.two (.tail 12 .nil) .nil)) (.ord 3 183 .nil (.alt (.ord 6 0 .nil (.ord 7 0 .nil qV)) (.ord 7 0 .nil (.ord 6 0 .nil qV))))) (.ord 7 0 .nil (.alt (.ord 3 0 .nil (.ord 5 0 (.two .nil (.two (.tail 12 .nil) .nil)) (.ord 6 0 .nil qV))) (.ord 5 0 (.two .nil (.two (.tail 12 .nil) .nil)) (.ord 3 0 .nil (.ord 6 0 .nil qV))))))))))))) .nil))) .nil) (.two (.join ⟨[0,3],[],[(0,some (.box Zt6)),(1,none),(2,none)]⟩ (.any 101375 8192 (.ord 0 0 .nil (.ord 1 0 .nil (.ord 2 0 .nil (.ord 3 0 .nil (.ord 5 0 .nil (.ord 6 0 .nil (.ord 7 0 .nil (.ord 9 0 .nil (.alt (.ord 4 0 .nil (.alt (.ord 8 0 .nil qft) (.alt (.ord 10 0 (.two .nil (.two (.tail 12 .nil) .nil)) (.ord 8 3839 .nil (.ord 11 0 .nil (.ord 12 0 .nil qar)))) (.ord 11 0 .nil qfn)))) (.alt (.ord 8 0 .nil (.alt (.ord 4 0 .nil qft) (.alt (.ord 10 0 (.two .nil (.two (.tail 12 .nil) .nil)) (.ord 11 2047 .nil qaO)) (.ord 11 0 .nil (.alt (.ord 4 0 .nil qbp) (.ord 10 0 (.two .nil (.two (.tail 12 .nil) .nil)) qaO)))))) (.alt (.ord 10 0 (.two .nil (.two (.tail 12 .nil) .nil)) (.ord 8 3839 .nil (.ord 11 2047 .nil qaO))) (.ord 11 0 .nil (.alt (.ord 4 0 .nil qfn) (.alt (.ord 8 0 .nil (.alt (.ord 4 0 .nil qbp) (.ord 10 0 (.two .nil (.two (.tail 12 .nil) .nil)) qaO))) (.ord 10 0 (.two .nil (.two (.tail 12 .nil) .nil)) (.ord 8 3839 .nil qaO)))))))))))))))))) (.two (.any 831 64 (.ord 0 0 .nil (.ord 1 0 .nil (.ord 2 0 .nil (.ord 3 0 .nil (.ord 4 111 .nil (.ord 5 0 .nil (.ord 6 0 .nil (.ord 7 0 .nil qV))))))))) .nil))))
noncomputable def plainGamePlay_con:Ioc:=⟨Zt2,[Zt37],true,[],Zt44,fun x=>qcC x.1 x.2.1⟩
noncomputable def qfM:Env:=(50,.con movesMake_con)::(93,.con slicesContains_Move_con)::(49,.con movesList_con)::(58,.ck 64)::(94,.body Tryz.f94)::(46,.rd plainGameResult_con)::[]
theorem qk9 (x:DL (Zt2::[Zt37])):plainGamePlay_con.φ x=denIO Tryz.prog qfM qgb Tryz.f44 Zt2 [Zt37] true [] Zt44 x:=by kernel_rfl
theorem qmf:IocOK Tryz.prog 44 plainGamePlay_con :=
  qce (env:=qfM) ((EnvOK.cons (EnvOK.cons (EnvOK.cons (EnvOK.check (EnvOK.body (EnvOK.readonly (EnvOK.nil _) qfb) Tryz.func94) qd) qfq) qcX) qfj)) mixed Tryz.func44 plainGamePlay_con qgb (by kernel_rfl) (fun h=>by first | rfl | cases h) qk9
def qdG:Ann:=(.two .nil (.two (.two (.two .nil (.two (.tail 12 .nil) .nil)) .nil) .nil))
noncomputable def plainGamePosition_con:Con:=⟨[Zt5],true,[],Zt22,fun x=>qaZ x.1,none⟩
noncomputable def qdn:Env:=(94,.body Tryz.f94)::(95,.con placeCopy_con)::(58,.ck 64)::[]
theorem qhK (x:DL plainGamePosition_con.ps):plainGamePosition_con.φ x=denB Tryz.prog qdn qdG Tryz.f45 true plainGamePosition_con.ps plainGamePosition_con.one plainGamePosition_con.res plainGamePosition_con.ρ x:=by kernel_rfl
theorem qig:qqU Tryz.prog 45 plainGamePosition_con :=
  qnF (env:=qdn) ((EnvOK.body (EnvOK.cons (EnvOK.check (EnvOK.nil _) qd) qlJ) Tryz.func94)) mixed Tryz.func45 plainGamePosition_con qdG (by kernel_rfl) (fun h=>by first | rfl | cases h) (fun g hg=>by cases hg) qhK
def qly:Ann:=(.two .nil (.two (.two (.two .nil (.two .nil (.two .nil (.two (.frz [3,4,5] (.join ⟨[],[(2,(.obx Zt2)),(3,Zt44)],[]⟩ (.any 213 40 (.ord 0 12 .nil (.alt (.ord 1 0 .nil (.ord 2 0 .nil (.ord 3 0 .nil (.ord 4 0 .nil (.ord 5 0 .nil (.ord 6 0 .nil (.ord 7 0 .nil .nil))))))) (.ord 2 0 .nil (.alt (.ord 1 0 .nil (.ord 3 0 .nil (.ord 4 0 .nil (.ord 5 0 .nil (.ord 6 0 .nil (.ord 7 0 .nil .nil)))))) (.ord 3 0 .nil (.ord 1 0 .nil (.ord 4 0 .nil (.ord 5 0 .nil (.ord 6 0 .nil (.ord 7 0 .nil .nil))))))))))))) .nil)))) .nil) (.sel 7 1000013 (.two .nil (.two (.two .nil (.joinE ⟨[4,7],[],[(1,some (.box Zt25)),(7,some (.box Zt6)),(8,none),(9,none)]⟩ (.two (.loop ⟨[4,7,21,22],[(23,Zt44)],[(1,some (.box Zt25)),(7,some (.box Zt6)),(8,none),(9,none)]⟩ .nil) .nil))) .nil)) (.two .nil (.two (.two .nil (.joinE ⟨[4,7],[],[]⟩ (.two (.loop ⟨[4,7,21,22],[(23,Zt44)],[]⟩ .nil) .nil))) .nil)))))
noncomputable def plainRun_con:Con:=⟨[Zt12,Zt36],false,[Zt22,Zt44,Zt44],(.st Zt22 Zt38),fun x=>qaG x.1 x.2.1,none⟩
noncomputable def ql7:Env:=(46,.rd plainGameResult_con)::(45,.rd plainGamePosition_con)::(44,.io plainGamePlay_con)::(83,.con rulesCopy_con)::(23,.con placeBegin_con)::(43,.body Tryz.f43)::(58,.ck 64)::[]
theorem qq6 (x:DL plainRun_con.ps):plainRun_con.φ x=denF Tryz.prog ql7 qly Tryz.f13 plainRun_con.ps plainRun_con.one plainRun_con.res plainRun_con.ρ x:=by kernel_rfl
theorem qsC:ConOK Tryz.prog 13 plainRun_con :=
  qc (env:=ql7) ((EnvOK.readonly (EnvOK.readonly (EnvOK.inout (EnvOK.cons (EnvOK.cons (EnvOK.body (EnvOK.check (EnvOK.nil _) qd) Tryz.func43) qej) qrJ) qmf) qig) qfb)) mixed Tryz.func13 plainRun_con qly (by kernel_rfl) (fun h=>by first | rfl | cases h) (fun g hg=>by cases hg) qq6
def qjY:Ann:=(.two .nil (.two .nil (.two (.two .nil (.join ⟨[],[(3,Zt44)],[]⟩ (.two (.loop ⟨[0,6,7],[(3,Zt44),(8,Zt44)],[]⟩ (.two .nil (.two .nil (.two (.two (.two .nil (.two .nil (.join ⟨[0,6,7,8],[(3,Zt44)],[]⟩ .nil))) .nil) .nil)))) .nil))) .nil)))
noncomputable def ref3Times_con:Con:=⟨[Zt23],true,[],Zt44,fun x=>qkq x.1,none⟩
noncomputable def qjL:Env:=(18,.con placeSame_con)::(58,.ck 64)::[]
theorem qqq (x:DL ref3Times_con.ps):ref3Times_con.φ x=denF Tryz.prog qjL qjY Tryz.f124 ref3Times_con.ps ref3Times_con.one ref3Times_con.res ref3Times_con.ρ x:=by kernel_rfl
theorem qre:ConOK Tryz.prog 124 ref3Times_con :=
  qc (env:=qjL) ((EnvOK.cons (EnvOK.check (EnvOK.nil _) qd) ql0)) mixed Tryz.func124 ref3Times_con qjY (by kernel_rfl) (fun h=>by first | rfl | cases h) (fun g hg=>by cases hg) qqq
def qiK:Ann := .nil
noncomputable def ref3Result_con:Con:=⟨[Zt12,Zt23],true,[],Zt44,fun x=>qge x.1 x.2.1,none⟩
noncomputable def qis:Env:=(124,.con ref3Times_con)::(123,.con endsOf_con)::[]
theorem qov (x:DL ref3Result_con.ps):ref3Result_con.φ x=denF Tryz.prog qis qiK Tryz.f64 ref3Result_con.ps ref3Result_con.one ref3Result_con.res ref3Result_con.ρ x:=by kernel_rfl
theorem qpt:ConOK Tryz.prog 64 ref3Result_con :=
  qc (env:=qis) ((EnvOK.cons (EnvOK.cons (EnvOK.nil _) endsOf_ok) qre)) mixed Tryz.func64 ref3Result_con qiK (by kernel_rfl) (fun h=>by first | rfl | cases h) (fun g hg=>by cases hg) qov
def qiH:Ann:=(.two .nil (.two .nil (.two .nil (.two .nil (.two (.two .nil (.joinE ⟨[],[(8,Zt21)],[(5,none)]⟩ (.two (.loop ⟨[2,23,24],[(8,Zt21),(25,Zt44)],[(5,none)]⟩ (.two .nil (.two .nil (.two (.two (.two .nil (.two .nil (.two (.join ⟨[2,8,23,24,25],[(11,(.obx Zt22)),(12,Zt44)],[]⟩ (.any 20223 4096 (.ord 0 4350 .nil (.ord 1 0 .nil (.ord 2 0 .nil (.ord 3 0 .nil (.ord 4 0 .nil (.ord 5 0 .nil (.ord 6 4287 .nil (.ord 7 4223 .nil (.alt (.ord 8 0 .nil (.ord 9 0 .nil (.ord 10 0 .nil (.ord 11 0 .nil (.ord 12 0 .nil (.ord 13 0 .nil (.ord 14 0 .nil .nil))))))) (.ord 12 0 .nil (.ord 8 0 .nil (.ord 9 0 .nil (.ord 10 0 .nil (.ord 11 0 .nil (.ord 13 0 .nil (.ord 14 0 .nil .nil)))))))))))))))))) .nil))) .nil) .nil)))) .nil))) .nil)))))
noncomputable def ref3Places_con:Con:=⟨[Zt12,Zt36],false,[Zt21,Zt44],(.st Zt21 Zt40),fun x=>qek x.1 x.2.1,none⟩
noncomputable def qir:Env:=(65,.con movesAfter_con)::(64,.con ref3Result_con)::(58,.ck 64)::(23,.con placeBegin_con)::[]
theorem qon (x:DL ref3Places_con.ps):ref3Places_con.φ x=denF Tryz.prog qir qiH Tryz.f29 ref3Places_con.ps ref3Places_con.one ref3Places_con.res ref3Places_con.ρ x:=by kernel_rfl
theorem qj6:ConOK Tryz.prog 29 ref3Places_con :=
  qc (env:=qir) ((EnvOK.cons (EnvOK.cons (EnvOK.check (EnvOK.cons (EnvOK.nil _) qej) qd) qpt) qpx)) mixed Tryz.func29 ref3Places_con qiH (by kernel_rfl) (fun h=>by first | rfl | cases h) (fun g hg=>by cases hg) qon
def qnb:Ann := .nil
noncomputable def law3Tic_con:Con:=⟨[],true,[],Zt10,fun x=>qnN,some fun x=>qT⟩
noncomputable def qmO:Env:=(58,.ck 64)::[]
theorem qsA (x:DL law3Tic_con.ps):law3Tic_con.φ x=denF Tryz.prog qmO qnb Tryz.f19 law3Tic_con.ps law3Tic_con.one law3Tic_con.res law3Tic_con.ρ x:=by kernel_rfl
theorem quE:ConOK Tryz.prog 19 law3Tic_con :=
  qc (env:=qmO) ((EnvOK.check (EnvOK.nil _) qd)) mixed Tryz.func19 law3Tic_con qnb (by kernel_rfl) (fun h=>by first | rfl | cases h) (fun g hg x=>by
    cases hg
    exact quC ) qsA
def qlO:Ann := .nil
noncomputable def law3Drop_con:Con:=⟨[Zt44],true,[],Zt37,fun x=>qk4 x.1,some fun x=>qkU x.1⟩
noncomputable def qlG:Env:=(58,.ck 64)::[]
theorem qqO (x:DL law3Drop_con.ps):law3Drop_con.φ x=denF Tryz.prog qlG qlO Tryz.f20 law3Drop_con.ps law3Drop_con.one law3Drop_con.res law3Drop_con.ρ x:=by kernel_rfl
theorem qs5:ConOK Tryz.prog 20 law3Drop_con :=
  qc (env:=qlG) ((EnvOK.check (EnvOK.nil _) qd)) mixed Tryz.func20 law3Drop_con qlO (by kernel_rfl) (fun h=>by first | rfl | cases h) (fun g hg x=>by
    cases hg
    exact qsO _) qqO
def qkt:Ann := .nil
noncomputable def law3Great_con:Con:=⟨[Zt12],true,[],.bool,fun x=>qje x.1,some fun x=>qhv x.1⟩
noncomputable def qkg:Env:=[]
theorem qpX (x:DL law3Great_con.ps):law3Great_con.φ x=denF Tryz.prog qkg qkt Tryz.f7 law3Great_con.ps law3Great_con.one law3Great_con.res law3Great_con.ρ x:=by kernel_rfl
theorem qrL:ConOK Tryz.prog 7 law3Great_con :=
  qc (env:=qkg) ((EnvOK.nil _)) mixed Tryz.func7 law3Great_con qkt (by kernel_rfl) (fun h=>by first | rfl | cases h) (fun g hg x=>by
    cases hg
    exact qrA _) qpX
def qfd:Ann := .nil
noncomputable def movetextLetter_con:Con:=⟨[Zt12,Zt44],true,[],.str,fun x=>qbh x.1 x.2.1,none⟩
noncomputable def qe3:Env:=[]
theorem qkh (x:DL movetextLetter_con.ps):movetextLetter_con.φ x=denF Tryz.prog qe3 qfd Tryz.f98 movetextLetter_con.ps movetextLetter_con.one movetextLetter_con.res movetextLetter_con.ρ x:=by kernel_rfl
theorem qlk:ConOK Tryz.prog 98 movetextLetter_con :=
  qc (env:=qe3) ((EnvOK.nil _)) mixed Tryz.func98 movetextLetter_con qfd (by kernel_rfl) (fun h=>by first | rfl | cases h) (fun g hg=>by cases hg) qkh
def qfh:Ann := .nil
noncomputable def movetextColumn_con:Con:=⟨[Zt12,Zt44],true,[],.str,fun x=>qaR x.1 x.2.1,none⟩
noncomputable def qfv:Env:=[]
theorem qjT (x:DL movetextColumn_con.ps):movetextColumn_con.φ x=denF Tryz.prog qfv qfh Tryz.f160 movetextColumn_con.ps movetextColumn_con.one movetextColumn_con.res movetextColumn_con.ρ x:=by kernel_rfl
theorem qfV:ConOK Tryz.prog 160 movetextColumn_con :=
  qc (env:=qfv) ((EnvOK.nil _)) mixed Tryz.func160 movetextColumn_con qfh (by kernel_rfl) (fun h=>by first | rfl | cases h) (fun g hg=>by cases hg) qjT
def qhF:Ann := .nil
noncomputable def movetextRow_con:Con:=⟨[Zt12,Zt44],true,[],.str,fun x=>qbv x.1 x.2.1,none⟩
noncomputable def qhL:Env:=[]
theorem qn8 (x:DL movetextRow_con.ps):movetextRow_con.φ x=denF Tryz.prog qhL qhF Tryz.f161 movetextRow_con.ps movetextRow_con.one movetextRow_con.res movetextRow_con.ρ x:=by kernel_rfl
theorem qim:ConOK Tryz.prog 161 movetextRow_con :=
  qc (env:=qhL) ((EnvOK.nil _)) mixed Tryz.func161 movetextRow_con qhF (by kernel_rfl) (fun h=>by first | rfl | cases h) (fun g hg=>by cases hg) qn8
def qfp:Ann := .nil
noncomputable def movetextSquare_con:Con:=⟨[Zt12,Zt44],true,[],.str,fun x=>qaU x.1 x.2.1,none⟩
noncomputable def qfu:Env:=(161,.con movetextRow_con)::(160,.con movetextColumn_con)::[]
theorem qki (x:DL movetextSquare_con.ps):movetextSquare_con.φ x=denF Tryz.prog qfu qfp Tryz.f99 movetextSquare_con.ps movetextSquare_con.one movetextSquare_con.res movetextSquare_con.ρ x:=by kernel_rfl
theorem qf1:ConOK Tryz.prog 99 movetextSquare_con :=
  qc (env:=qfu) ((EnvOK.cons (EnvOK.cons (EnvOK.nil _) qfV) qim)) mixed Tryz.func99 movetextSquare_con qfp (by kernel_rfl) (fun h=>by first | rfl | cases h) (fun g hg=>by cases hg) qki
def qgO:Ann:=(.two .nil (.two .nil (.two (.two .nil (.join ⟨[4,7,9],[],[(3,some (.box Zt39))]⟩ (.two (.loop ⟨[4,5,7,9,13,14],[(15,Zt44)],[(3,some (.box Zt39))]⟩ (.two .nil (.two .nil (.two (.two (.two .nil (.two .nil (.join ⟨[4,5,7,9,13,14,15],[],[(3,some (.box Zt39)),(4,none)]⟩ .nil))) .nil) .nil)))) .nil))) (.two .nil (.two (.two (.two .nil (.two .nil (.two (.two (.two .nil (.two (.two (.two .nil (.two (.two (.two .nil (.two (.two .nil (.joinE ⟨[],[],[]⟩ (.two (.loop ⟨[0,1,7],[(8,Zt44)],[]⟩ .nil) .nil))) .nil)) .nil) .nil)) .nil) .nil)) .nil) (.two .nil (.two (.two (.two .nil (.two (.two (.two .nil (.two (.two (.two .nil (.two (.two .nil (.joinE ⟨[],[],[]⟩ (.two (.loop ⟨[0,1,7],[(8,Zt44)],[]⟩ .nil) .nil))) .nil)) .nil) .nil)) .nil) .nil)) .nil) .nil))))) .nil) .nil)))))
noncomputable def movetextMark_con:Con:=⟨[Zt12,Zt24,Zt36,Zt37],true,[],.str,fun x=>qfk x.1 x.2.1 x.2.2.1 x.2.2.2.1,none⟩
noncomputable def qgQ:Env:=(99,.con movetextSquare_con)::(161,.con movetextRow_con)::(164,.body Tryz.f164)::(160,.con movetextColumn_con)::(163,.body Tryz.f163)::(129,.body Tryz.f129)::(70,.body Tryz.f70)::(162,.body Tryz.f162)::(58,.ck 64)::[]
theorem qmk (x:DL movetextMark_con.ps):movetextMark_con.φ x=denF Tryz.prog qgQ qgO Tryz.f100 movetextMark_con.ps movetextMark_con.one movetextMark_con.res movetextMark_con.ρ x:=by kernel_rfl
theorem qn5:ConOK Tryz.prog 100 movetextMark_con :=
  qc (env:=qgQ) ((EnvOK.cons (EnvOK.cons (EnvOK.body (EnvOK.cons (EnvOK.body (EnvOK.body (EnvOK.body (EnvOK.body (EnvOK.check (EnvOK.nil _) qd) Tryz.func162) Tryz.func70) Tryz.func129) Tryz.func163) qfV) Tryz.func164) qim) qf1)) mixed Tryz.func100 movetextMark_con qgO (by kernel_rfl) (fun h=>by first | rfl | cases h) (fun g hg=>by cases hg) qmk
def qiD:Ann:=(.two .nil (.two .nil (.two .nil (.two .nil (.two (.two .nil (.join ⟨[4,7,9],[(10,.str)],[]⟩ .nil)) (.two .nil (.two (.two .nil (.join ⟨[],[(10,.str)],[]⟩ .nil)) .nil)))))))
noncomputable def movetextOf_con:Con:=⟨[Zt12,Zt24,Zt36,Zt37],true,[],.str,fun x=>qc1 x.1 x.2.1 x.2.2.1 x.2.2.2.1,none⟩
noncomputable def qin:Env:=(100,.con movetextMark_con)::(99,.con movetextSquare_con)::(98,.con movetextLetter_con)::[]
theorem qoz (x:DL movetextOf_con.ps):movetextOf_con.φ x=denF Tryz.prog qin qiD Tryz.f48 movetextOf_con.ps movetextOf_con.one movetextOf_con.res movetextOf_con.ρ x:=by kernel_rfl
theorem qjZ:ConOK Tryz.prog 48 movetextOf_con :=
  qc (env:=qin) ((EnvOK.cons (EnvOK.cons (EnvOK.cons (EnvOK.nil _) qlk) qf1) qn5)) mixed Tryz.func48 movetextOf_con qiD (by kernel_rfl) (fun h=>by first | rfl | cases h) (fun g hg=>by cases hg) qoz
def qgM:Ann:=(.two .nil (.two .nil (.two .nil (.two (.two (.two .nil (.two (.two .nil (.joinE ⟨[],[],[]⟩ (.two (.loop ⟨[0,1,7],[(8,Zt44)],[]⟩ .nil) .nil))) .nil)) .nil) .nil))))
noncomputable def movetextRead_con:Con:=⟨[Zt12,Zt24,.str],false,[Zt37,Zt44],(.st Zt37 Zt40),fun x=>qdD x.1 x.2.1 x.2.2.1,none⟩
noncomputable def qgY:Env:=(48,.con movetextOf_con)::(112,.body Tryz.f112)::(111,.body Tryz.f111)::(110,.con movesAll_con)::(58,.ck 64)::[]
theorem qmj (x:DL movetextRead_con.ps):movetextRead_con.φ x=denF Tryz.prog qgY qgM Tryz.f52 movetextRead_con.ps movetextRead_con.one movetextRead_con.res movetextRead_con.ρ x:=by kernel_rfl
theorem qn4:ConOK Tryz.prog 52 movetextRead_con :=
  qc (env:=qgY) ((EnvOK.cons (EnvOK.body (EnvOK.body (EnvOK.cons (EnvOK.check (EnvOK.nil _) qd) qjd) Tryz.func111) Tryz.func112) qjZ)) mixed Tryz.func52 movetextRead_con qgM (by kernel_rfl) (fun h=>by first | rfl | cases h) (fun g hg=>by cases hg) qmj
def qiU:Ann := .nil
noncomputable def ref3Square_con:Con:=⟨[Zt44,Zt44],true,[],.str,fun x=>qbM x.1 x.2.1,none⟩
noncomputable def qiz:Env:=[]
theorem qou (x:DL ref3Square_con.ps):ref3Square_con.φ x=denF Tryz.prog qiz qiU Tryz.f178 ref3Square_con.ps ref3Square_con.one ref3Square_con.res ref3Square_con.ρ x:=by kernel_rfl
theorem qpz:ConOK Tryz.prog 178 ref3Square_con :=
  qc (env:=qiz) ((EnvOK.nil _)) mixed Tryz.func178 ref3Square_con qiU (by kernel_rfl) (fun h=>by first | rfl | cases h) (fun g hg=>by cases hg) qou
def qgH:Ann:=(.two .nil (.two .nil (.two .nil (.two .nil (.two .nil (.two .nil (.two (.two (.any 223 32 (.ord 0 0 .nil (.ord 1 0 .nil (.ord 2 0 .nil (.ord 3 0 .nil (.ord 4 0 .nil (.ord 7 0 .nil (.ord 5 0 .nil (.ord 6 0 .nil .nil))))))))) (.joinE ⟨[],[],[]⟩ (.two (.loop ⟨[3,4,5,7,8,9,11,60,61],[(62,Zt44)],[]⟩ (.two .nil (.two .nil (.two (.joinE ⟨[3,4,5,7,8,9,11,60,61,62],[],[]⟩ (.two (.two .nil (.two .nil (.two (.two .nil (.join ⟨[3,4,5,7,8,9,11,13,60,61,62],[(14,.bool)],[]⟩ (.two (.loop ⟨[3,4,5,7,8,9,11,13,60,61,62,66,67],[(14,.bool),(68,Zt44)],[]⟩ (.two .nil (.two .nil (.two (.join ⟨[3,4,5,7,8,9,11,13,60,61,62,66,67,68],[(14,.bool)],[]⟩ (.two (.two .nil (.two .nil (.two .nil (.two .nil (.join ⟨[3,4,5,7,8,9,11,13,60,61,62,66,67,68],[(14,.bool)],[]⟩ .nil))))) .nil)) .nil)))) .nil))) (.two .nil (.two .nil (.two (.two .nil (.join ⟨[3,4,5,7,8,9,11,60,61,62],[(18,.str)],[]⟩ .nil)) (.two .nil (.two (.two .nil (.join ⟨[3,4,5,7,8,9,11,60,61,62],[(18,.str)],[]⟩ .nil)) .nil)))))))) .nil)) .nil)))) .nil))) .nil)))))))
noncomputable def ref3MoveText_con:Con:=⟨[Zt12,Zt24,Zt37],true,[],.str,fun x=>qfi x.1 x.2.1 x.2.2.1,none⟩
noncomputable def qgV:Env:=(58,.ck 64)::(110,.con movesAll_con)::(178,.con ref3Square_con)::[]
theorem qme (x:DL ref3MoveText_con.ps):ref3MoveText_con.φ x=denF Tryz.prog qgV qgH Tryz.f126 ref3MoveText_con.ps ref3MoveText_con.one ref3MoveText_con.res ref3MoveText_con.ρ x:=by kernel_rfl
theorem qnP:ConOK Tryz.prog 126 ref3MoveText_con :=
  qc (env:=qgV) ((EnvOK.check (EnvOK.cons (EnvOK.cons (EnvOK.nil _) qpz) qjd) qd)) mixed Tryz.func126 ref3MoveText_con qgH (by kernel_rfl) (fun h=>by first | rfl | cases h) (fun g hg=>by cases hg) qme
def qeW:Ann:=(.two .nil (.two (.two .nil (.joinE ⟨[],[],[]⟩ (.two (.loop ⟨[0,1,7],[(8,Zt44)],[]⟩ .nil) .nil))) .nil))
noncomputable def recordPrintable_con:Con:=⟨[.str,.str],true,[],.bool,fun x=>qbC x.1 x.2.1,none⟩
noncomputable def qex:Env:=(173,.con qiv)::[]
theorem qjb (x:DL recordPrintable_con.ps):recordPrintable_con.φ x=denF Tryz.prog qex qeW Tryz.f114 recordPrintable_con.ps recordPrintable_con.one recordPrintable_con.res recordPrintable_con.ρ x:=by kernel_rfl
theorem qfs:ConOK Tryz.prog 114 recordPrintable_con :=
  qc (env:=qex) ((EnvOK.cons (EnvOK.nil _) qpv)) mixed Tryz.func114 recordPrintable_con qeW (by kernel_rfl) (fun h=>by first | rfl | cases h) (fun g hg=>by cases hg) qjb
def qiT:Ann:=(.two .nil (.two (.two .nil (.joinE ⟨[],[],[]⟩ (.two (.loop ⟨[1,6,7],[(8,Zt44)],[]⟩ (.two .nil (.two .nil (.two (.two (.two .nil (.two (.two .nil (.two .nil (.two .nil (.two .nil (.two .nil (.two .nil (.two (.two (.two .nil (.two (.two (.two .nil (.two (.two .nil (.joinE ⟨[],[],[]⟩ (.two (.loop ⟨[0,1,7],[(8,Zt44)],[]⟩ .nil) .nil))) .nil)) .nil) .nil)) .nil) .nil))))))) .nil)) .nil) .nil)))) .nil))) .nil))
noncomputable def recordTags_con:Con:=⟨[Zt16],true,[],Zt44,fun x=>qh5 x.1,none⟩
noncomputable def qiG:Env:=(116,.body Tryz.f116)::(174,.body Tryz.f174)::(115,.body Tryz.f115)::(114,.con recordPrintable_con)::(67,.con rulesName_con)::(58,.ck 64)::[]
theorem qom (x:DL recordTags_con.ps):recordTags_con.φ x=denF Tryz.prog qiG qiT Tryz.f55 recordTags_con.ps recordTags_con.one recordTags_con.res recordTags_con.ρ x:=by kernel_rfl
theorem qqb:ConOK Tryz.prog 55 recordTags_con :=
  qc (env:=qiG) ((EnvOK.body (EnvOK.body (EnvOK.body (EnvOK.cons (EnvOK.cons (EnvOK.check (EnvOK.nil _) qd) qlU) qfs) Tryz.func115) Tryz.func174) Tryz.func116)) mixed Tryz.func55 recordTags_con qiT (by kernel_rfl) (fun h=>by first | rfl | cases h) (fun g hg=>by cases hg) qom
def qf3:Ann := .nil
noncomputable def recordComment_con:Con:=⟨[.str],true,[],Zt44,fun x=>qcH x.1,none⟩
noncomputable def qfQ:Env:=(114,.con recordPrintable_con)::[]
theorem qld (x:DL recordComment_con.ps):recordComment_con.φ x=denF Tryz.prog qfQ qf3 Tryz.f56 recordComment_con.ps recordComment_con.one recordComment_con.res recordComment_con.ρ x:=by kernel_rfl
theorem qgJ:ConOK Tryz.prog 56 recordComment_con :=
  qc (env:=qfQ) ((EnvOK.cons (EnvOK.nil _) qfs)) mixed Tryz.func56 recordComment_con qf3 (by kernel_rfl) (fun h=>by first | rfl | cases h) (fun g hg=>by cases hg) qld
def ql2:Ann:=(.two .nil (.two (.two .nil (.joinE ⟨[1],[],[]⟩ (.two (.loop ⟨[1,3],[(7,Zt44)],[]⟩ .nil) .nil))) .nil))
noncomputable def recordOn_con:Con:=⟨[Zt16,Zt44,Zt44],true,[],.bool,fun x=>qks x.1 x.2.1 x.2.2.1,none⟩
noncomputable def qlZ:Env:=[]
theorem qqY (x:DL recordOn_con.ps):recordOn_con.φ x=denF Tryz.prog qlZ ql2 Tryz.f117 recordOn_con.ps recordOn_con.one recordOn_con.res recordOn_con.ρ x:=by kernel_rfl
theorem qsW:ConOK Tryz.prog 117 recordOn_con :=
  qc (env:=qlZ) ((EnvOK.nil _)) mixed Tryz.func117 recordOn_con ql2 (by kernel_rfl) (fun h=>by first | rfl | cases h) (fun g hg=>by cases hg) qqY
def qkk:Ann:=(.two .nil (.two .nil (.two (.two .nil (.join ⟨[],[(5,Zt35)],[]⟩ (.two (.loop ⟨[2],[(5,Zt35),(6,Zt44)],[]⟩ .nil) .nil))) (.two (.two (.two .nil (.join ⟨[],[],[(1,some (.arr 49 Zt37))]⟩ (.two (.loop ⟨[0],[(2,Zt44),(3,Zt44)],[(1,some (.arr 49 Zt37))]⟩ (.two .nil (.two (.two (.any 24575 0 (.ord 0 0 .nil (.ord 1 0 .nil (.ord 2 0 .nil (.ord 3 0 .nil (.ord 4 0 .nil (.ord 5 0 .nil (.ord 6 0 .nil (.ord 7 3967 .nil (.ord 8 0 .nil (.ord 9 0 .nil (.ord 10 0 .nil (.ord 11 0 .nil (.ord 12 0 .nil (.ord 13 0 .nil (.ord 14 0 .nil (.ord 15 0 .nil .nil))))))))))))))))) .nil) .nil))) .nil))) .nil) .nil))))
noncomputable def recordWay_con:Con:=⟨[Zt16,Zt44],true,[],Zt35,fun x=>qaC x.1 x.2.1,none⟩
noncomputable def qkK:Env:=(176,.body Tryz.f176)::[]
theorem qpw (x:DL recordWay_con.ps):recordWay_con.φ x=denF Tryz.prog qkK qkk Tryz.f120 recordWay_con.ps recordWay_con.one recordWay_con.res recordWay_con.ρ x:=by kernel_rfl
theorem qrk:ConOK Tryz.prog 120 recordWay_con :=
  qc (env:=qkK) ((EnvOK.body (EnvOK.nil _) Tryz.func176)) mixed Tryz.func120 recordWay_con qkk (by kernel_rfl) (fun h=>by first | rfl | cases h) (fun g hg=>by cases hg) qpw
def qcB:Ann:=(.ord 4 0 .nil (.ord 5 0 .nil (.ord 6 0 .nil (.ord 7 0 .nil (.ord 8 0 .nil (.ord 10 0 .nil (.ord 11 0 .nil (.ord 12 0 .nil .nil))))))))
def qhc:Ann:=(.alt (.ord 4 0 .nil (.ord 5 0 .nil (.ord 6 0 .nil (.ord 7 0 .nil (.ord 8 0 .nil (.ord 9 0 .nil (.ord 10 0 .nil (.ord 11 0 .nil (.ord 12 0 .nil .nil))))))))) (.ord 9 0 .nil qcB))
def qiZ:Ann:=(.two .nil (.two .nil (.two .nil (.two .nil (.two (.two .nil (.join ⟨[2,3,4,5,9],[],[(0,some (.arr 3 Zt44))]⟩ .nil)) (.two (.two .nil (.joinE ⟨[2,3,4,5,9],[],[]⟩ (.two (.loop ⟨[2,3,4,5,9,54,55],[(56,Zt44)],[]⟩ (.two .nil (.two .nil (.two (.joinE ⟨[2,3,4,5,9,54,55,56],[],[]⟩ .nil) .nil)))) .nil))) (.two (.two (.two (.two .nil (.two (.two (.two .nil (.two (.two .nil (.joinE ⟨[],[],[]⟩ (.two (.loop ⟨[0,1,7],[(8,Zt44)],[]⟩ .nil) .nil))) .nil)) .nil) .nil)) .nil) (.sel 4 1000005 (.join ⟨[2,3,4,5],[],[(0,some (.arr 3 Zt44))]⟩ .nil) .nil)) (.two (.two (.join ⟨[2,3],[(15,Zt44)],[]⟩ (.any 6631 512 (.ord 1 517 .nil (.ord 2 0 .nil (.alt (.ord 0 0 .nil (.alt (.ord 3 0 .nil qhc) (.ord 9 0 .nil (.ord 3 0 .nil qcB)))) (.alt (.ord 3 0 .nil (.ord 0 526 .nil qhc)) (.ord 9 0 .nil (.alt (.ord 0 0 .nil (.ord 3 0 .nil qcB)) (.ord 3 0 .nil (.ord 0 0 .nil qcB)))))))))) .nil) .nil))))))))
noncomputable def recordNode_con:Roc:=⟨3,3,Zt44,[Zt12,Zt16,Zt44],true,[],Zt44,fun x=>qhV x.1 x.2.1 x.2.2.1 x.2.2.2.1⟩
noncomputable def qit:Env:=(13,.con plainRun_con)::(120,.con recordWay_con)::(119,.body Tryz.f119)::(175,.body Tryz.f175)::(118,.body Tryz.f118)::(117,.con recordOn_con)::(56,.con recordComment_con)::(58,.ck 64)::[]
theorem qor (x:DL (Zt41::[Zt12,Zt16,Zt44])):recordNode_con.φ x=denRO Tryz.prog qit qiZ Tryz.f57 3 3 Zt44 [Zt12,Zt16,Zt44] true [] Zt44 x:=by kernel_rfl
theorem qpO:RocOK Tryz.prog 57 recordNode_con :=
  qu4 (env:=qit) ((EnvOK.cons (EnvOK.cons (EnvOK.body (EnvOK.body (EnvOK.body (EnvOK.cons (EnvOK.cons (EnvOK.check (EnvOK.nil _) qd) qgJ) qsW) Tryz.func118) Tryz.func175) Tryz.func119) qrk) qsC)) mixed Tryz.func57 recordNode_con qiZ (by kernel_rfl) (fun h=>by first | rfl | cases h) qor
def qg2:Ann:=(.two .nil (.two .nil (.two .nil (.two .nil (.two .nil (.two .nil (.two .nil (.two (.two .nil (.joinE ⟨[],[],[(2,some (.arr 3 Zt44))]⟩ (.two (.loop ⟨[2,3,8,51],[(52,Zt44)],[(2,some (.arr 3 Zt44))]⟩ .nil) .nil))) .nil))))))))
noncomputable def recordCheck_con:Con:=⟨[Zt12,Zt16],true,[],Zt44,fun x=>qa7 x.1 x.2.1,none⟩
noncomputable def qhd:Env:=(57,.ro recordNode_con)::(56,.con recordComment_con)::(55,.con recordTags_con)::(36,.con rulesCheck_con)::[]
theorem qmP (x:DL recordCheck_con.ps):recordCheck_con.φ x=denF Tryz.prog qhd qg2 Tryz.f21 recordCheck_con.ps recordCheck_con.one recordCheck_con.res recordCheck_con.ρ x:=by kernel_rfl
theorem qiS:ConOK Tryz.prog 21 recordCheck_con :=
  qc (env:=qhd) ((EnvOK.rowio (EnvOK.cons (EnvOK.cons (EnvOK.cons (EnvOK.nil _) qeg) qqb) qgJ) qpO)) mixed Tryz.func21 recordCheck_con qg2 (by kernel_rfl) (fun h=>by first | rfl | cases h) (fun g hg=>by cases hg) qmP
def qiJ:Ann:=(.two .nil (.two .nil (.two (.two .nil (.join ⟨[],[(5,Zt41)],[]⟩ (.two (.loop ⟨[1,9,10],[(5,Zt41),(11,Zt44)],[]⟩ (.two .nil (.two .nil (.two (.two (.two .nil (.two .nil (.join ⟨[1,9,10,11],[(5,Zt41)],[(1,none)]⟩ .nil))) .nil) .nil)))) .nil))) .nil)))
noncomputable def recordKids_con:Con:=⟨[Zt16,Zt44],true,[],Zt41,fun x=>qh1 x.1 x.2.1,none⟩
noncomputable def qiF:Env:=(58,.ck 64)::[]
theorem qoy (x:DL recordKids_con.ps):recordKids_con.φ x=denF Tryz.prog qiF qiJ Tryz.f60 recordKids_con.ps recordKids_con.one recordKids_con.res recordKids_con.ρ x:=by kernel_rfl
theorem qpB:ConOK Tryz.prog 60 recordKids_con :=
  qc (env:=qiF) ((EnvOK.check (EnvOK.nil _) qd)) mixed Tryz.func60 recordKids_con qiJ (by kernel_rfl) (fun h=>by first | rfl | cases h) (fun g hg=>by cases hg) qoy
def qlW:Ann:=(.two .nil (.two .nil (.two (.two .nil (.joinE ⟨[],[],[]⟩ (.two (.loop ⟨[23,24],[(25,Zt44)],[]⟩ .nil) .nil))) .nil)))
noncomputable def ref3Name_con:Con:=⟨[.str],true,[],.bool,fun x=>qmA x.1,none⟩
noncomputable def qlM:Env:=[]
theorem qri (x:DL ref3Name_con.ps):ref3Name_con.φ x=denF Tryz.prog qlM qlW Tryz.f30 ref3Name_con.ps ref3Name_con.one ref3Name_con.res ref3Name_con.ρ x:=by kernel_rfl
theorem qtk:ConOK Tryz.prog 30 ref3Name_con :=
  qc (env:=qlM) ((EnvOK.nil _)) mixed Tryz.func30 ref3Name_con qlW (by kernel_rfl) (fun h=>by first | rfl | cases h) (fun g hg=>by cases hg) qri
def qlx:Ann:=(.two .nil (.two (.two .nil (.joinE ⟨[],[],[]⟩ (.two (.loop ⟨[1,10,11],[(12,Zt44)],[]⟩ (.two .nil (.two .nil (.two (.joinE ⟨[1,10,11,12],[],[]⟩ (.two (.two .nil (.two (.two .nil (.joinE ⟨[1,6,10,11,12],[],[]⟩ (.two (.loop ⟨[1,6,10,11,12,17,18],[(19,Zt44)],[]⟩ .nil) .nil))) .nil)) .nil)) .nil)))) .nil))) .nil))
noncomputable def ref3Fine_con:Con:=⟨[.str,.str],true,[],.bool,fun x=>qhZ x.1 x.2.1,none⟩
noncomputable def ql5:Env:=[]
theorem qqL (x:DL ref3Fine_con.ps):ref3Fine_con.φ x=denF Tryz.prog ql5 qlx Tryz.f31 ref3Fine_con.ps ref3Fine_con.one ref3Fine_con.res ref3Fine_con.ρ x:=by kernel_rfl
theorem qsY:ConOK Tryz.prog 31 ref3Fine_con :=
  qc (env:=ql5) ((EnvOK.nil _)) mixed Tryz.func31 ref3Fine_con qlx (by kernel_rfl) (fun h=>by first | rfl | cases h) (fun g hg=>by cases hg) qqL
def qj2:Ann:=(.two .nil (.two (.join ⟨[1],[(2,Zt44)],[]⟩ (.two (.loop ⟨[0,1],[(2,Zt44)],[]⟩ .nil) .nil)) .nil))
noncomputable def ref3Above_con:Con:=⟨[Zt26,Zt44,Zt44],true,[],.bool,fun x=>qhM x.1 x.2.1 x.2.2.1,none⟩
noncomputable def qkp:Env:=[]
theorem qqA (x:DL ref3Above_con.ps):ref3Above_con.φ x=denF Tryz.prog qkp qj2 Tryz.f32 ref3Above_con.ps ref3Above_con.one ref3Above_con.res ref3Above_con.ρ x:=by kernel_rfl
theorem qr0:ConOK Tryz.prog 32 ref3Above_con :=
  qc (env:=qkp) ((EnvOK.nil _)) mixed Tryz.func32 ref3Above_con qj2 (by kernel_rfl) (fun h=>by first | rfl | cases h) (fun g hg=>by cases hg) qqA
def qmN:Ann := .nil
noncomputable def ref3Way_con:Con:=⟨[Zt26,Zt44],false,[Zt35,.bool],Zt28,fun x=>qpV x.1 x.2.1,none⟩
noncomputable def qnq (φ:DL [Zt26,Zt44]→Option (D Zt28)):Env:=(33,.con ⟨[Zt26,Zt44],false,[Zt35,.bool],Zt28,φ,none⟩)::[]
theorem qtg (φ:DL [Zt26,Zt44]→Option (D Zt28)) (x:DL [Zt26,Zt44]):qdm φ x=denF Tryz.prog (qnq φ) qmN Tryz.f33 ref3Way_con.ps ref3Way_con.one ref3Way_con.res ref3Way_con.ρ x:=by kernel_rfl
theorem qpk:ConOK Tryz.prog 33 ref3Way_con :=
  con_fix (ps:=[Zt26,Zt44]) (ρ:=Zt28) (G:=qdm) (by kernel_rfl) (fun h=>by first | rfl | cases h) fun φ hφ =>
  qc (env:=qnq φ) ((EnvOK.cons (EnvOK.nil _) hφ)) mixed Tryz.func33 ⟨[Zt26,Zt44],false,[Zt35,.bool],Zt28,qdm φ,none⟩ qmN (by kernel_rfl) (fun h=>by first | rfl | cases h) (fun g hg=>by cases hg) (qtg φ)
def qiV:Ann:=(.two .nil (.two .nil (.two (.join ⟨[],[(5,Zt44)],[]⟩ (.two (.loop ⟨[0],[(1,Zt44),(5,Zt44)],[]⟩ (.two .nil (.two (.join ⟨[0,1],[(5,Zt44)],[]⟩ (.two (.two .nil (.join ⟨[0,1],[(5,Zt44)],[]⟩ (.two (.loop ⟨[0,1,14],[(5,Zt44),(15,Zt44)],[]⟩ .nil) .nil))) .nil)) .nil))) .nil)) .nil)))
noncomputable def ref3Within_con:Con:=⟨[Zt26,Zt44],true,[],Zt44,fun x=>qh9 x.1 x.2.1,none⟩
noncomputable def qio:Env:=[]
theorem qoA (x:DL ref3Within_con.ps):ref3Within_con.φ x=denF Tryz.prog qio qiV Tryz.f34 ref3Within_con.ps ref3Within_con.one ref3Within_con.res ref3Within_con.ρ x:=by kernel_rfl
theorem qqu:ConOK Tryz.prog 34 ref3Within_con :=
  qc (env:=qio) ((EnvOK.nil _)) mixed Tryz.func34 ref3Within_con qiV (by kernel_rfl) (fun h=>by first | rfl | cases h) (fun g hg=>by cases hg) qoA
def qeo:Ann:=(.two .nil (.two .nil (.two .nil (.two (.two .nil (.joinE ⟨[2,3],[],[]⟩ (.two (.loop ⟨[2,3,37,38],[(39,Zt44)],[]⟩ (.two .nil (.two .nil (.two (.joinE ⟨[2,3,37,38,39],[],[]⟩ (.two (.two .nil (.two .nil (.two .nil (.joinE ⟨[2,3,37,38,39],[],[]⟩ (.two (.loop ⟨[2,3,8,37,38,39,59],[(60,Zt44)],[]⟩ .nil) .nil))))) .nil)) .nil)))) .nil))) (.two .nil (.two (.two .nil (.joinE ⟨[3],[],[]⟩ (.two (.loop ⟨[2,3,94,95],[(96,Zt44)],[]⟩ (.two .nil (.two .nil (.two (.joinE ⟨[2,3,94,95,96],[],[]⟩ (.two (.two .nil (.two .nil (.two .nil (.two .nil (.two (.two .nil (.joinE ⟨[2,3,10,94,95,96],[],[]⟩ (.two (.loop ⟨[2,3,10,11,94,95,96,146],[(147,Zt44)],[]⟩ .nil) .nil))) .nil))))) .nil)) .nil)))) .nil))) (.two (.two .nil (.joinE ⟨[],[],[]⟩ (.two (.loop ⟨[3,190],[(191,Zt44)],[]⟩ .nil) .nil))) .nil)))))))
noncomputable def ref3RecordFault_con:Con:=⟨[Zt12,Zt16],true,[],Zt44,fun x=>qa2 x.1 x.2.1,none⟩
noncomputable def qeS:Env:=(34,.con ref3Within_con)::(33,.con ref3Way_con)::(32,.con ref3Above_con)::(31,.con ref3Fine_con)::(30,.con ref3Name_con)::(58,.ck 64)::(29,.con ref3Places_con)::[]
theorem qjF (x:DL ref3RecordFault_con.ps):ref3RecordFault_con.φ x=denF Tryz.prog qeS qeo Tryz.f9 ref3RecordFault_con.ps ref3RecordFault_con.one ref3RecordFault_con.res ref3RecordFault_con.ρ x:=by kernel_rfl
theorem qka:ConOK Tryz.prog 9 ref3RecordFault_con :=
  qc (env:=qeS) ((EnvOK.cons (EnvOK.cons (EnvOK.cons (EnvOK.cons (EnvOK.cons (EnvOK.check (EnvOK.cons (EnvOK.nil _) qj6) qd) qtk) qsY) qr0) qpk) qqu)) mixed Tryz.func9 ref3RecordFault_con qeo (by kernel_rfl) (fun h=>by first | rfl | cases h) (fun g hg=>by cases hg) qjF
def qko:Ann := .nil
noncomputable def law3Short_con:Con:=⟨[Zt16],true,[],Zt16,fun x=>qg5 x.1,none⟩
noncomputable def qke:Env:=(58,.ck 64)::[]
theorem qqp (x:DL law3Short_con.ps):law3Short_con.φ x=denF Tryz.prog qke qko Tryz.f6 law3Short_con.ps law3Short_con.one law3Short_con.res law3Short_con.ρ x:=by kernel_rfl
theorem qrP:ConOK Tryz.prog 6 law3Short_con :=
  qc (env:=qke) ((EnvOK.check (EnvOK.nil _) qd)) mixed Tryz.func6 law3Short_con qko (by kernel_rfl) (fun h=>by first | rfl | cases h) (fun g hg=>by cases hg) qqp
def qeT:Ann:=(.two .nil (.two (.any 6290431 2098176 (.ord 0 0 .nil (.ord 1 0 .nil (.ord 2 0 .nil (.ord 3 1048567 .nil (.ord 4 1048559 .nil (.ord 5 0 .nil (.ord 6 0 .nil (.ord 7 0 .nil (.ord 8 1047295 .nil (.ord 9 1047039 .nil (.ord 11 0 .nil (.ord 12 0 .nil (.ord 13 0 .nil (.ord 14 0 .nil (.ord 15 98303 .nil (.ord 16 0 .nil (.ord 17 0 .nil (.ord 18 0 .nil (.ord 19 524287 .nil (.ord 10 0 .nil (.ord 20 0 .nil (.ord 21 0 .nil (.ord 22 0 .nil .nil)))))))))))))))))))))))) (.two (.two .nil (.two .nil (.join ⟨[],[(7,Zt43)],[(3,none)]⟩ .nil))) .nil)))
noncomputable def recordWriterOne_con:Ioc:=⟨Zt7,[Zt24,Zt44],true,[],Zt43,fun x=>qan x.1 x.2.1 x.2.2.1⟩
noncomputable def qeU:Env:=(48,.con movetextOf_con)::(49,.con movesList_con)::[]
theorem qja (x:DL (Zt7::[Zt24,Zt44])):recordWriterOne_con.φ x=denIO Tryz.prog qeU qeT Tryz.f62 Zt7 [Zt24,Zt44] true [] Zt43 x:=by kernel_rfl
theorem qkb:IocOK Tryz.prog 62 recordWriterOne_con :=
  qce (env:=qeU) ((EnvOK.cons (EnvOK.cons (EnvOK.nil _) qfq) qjZ)) mixed Tryz.func62 recordWriterOne_con qeT (by kernel_rfl) (fun h=>by first | rfl | cases h) qja
def qaj:Ann:=(.ord 10 0 .nil (.ord 11 0 .nil (.ord 12 0 .nil .nil)))
def qdt:Ann:=(.two .nil (.two .nil (.two .nil (.two .nil (.two (.tail 5 .nil) (.two (.two .nil (.join ⟨[3,7,8],[(9,Zt43)],[(0,some (.box Zt9)),(4,none)]⟩ (.two (.loop ⟨[3,4,7,8,30,31],[(9,Zt43),(32,Zt44)],[(0,some (.box Zt9)),(4,none)]⟩ (.two .nil (.two .nil (.two (.two (.two .nil (.two (.join ⟨[3,4,7,8,9,30,31,32],[(12,Zt43)],[(0,some (.box Zt9))]⟩ (.any 2423 0 (.ord 0 374 .nil (.ord 1 373 .nil (.ord 2 0 .nil (.ord 5 0 .nil (.ord 6 0 .nil (.ord 8 0 .nil (.alt (.ord 3 0 .nil (.alt (.ord 4 0 .nil (.ord 7 0 (.two .nil (.two (.tail 14 .nil) .nil)) (.ord 9 0 .nil (.ord 10 0 .nil (.ord 11 0 .nil .nil))))) (.ord 7 0 (.two .nil (.two (.tail 14 .nil) .nil)) (.ord 4 0 .nil (.ord 9 0 .nil (.ord 10 0 .nil (.ord 11 0 .nil .nil))))))) (.ord 4 0 .nil (.ord 3 0 .nil (.ord 7 0 (.two .nil (.two (.tail 14 .nil) .nil)) (.ord 9 0 .nil (.ord 10 0 .nil (.ord 11 0 .nil .nil))))))))))))))) .nil)) .nil) .nil)))) .nil))) (.two (.join ⟨[],[(6,Zt43)],[(0,some (.box Zt9)),(5,none)]⟩ (.any 5055 0 (.ord 0 0 .nil (.ord 2 0 .nil (.ord 3 0 .nil (.ord 4 0 .nil (.ord 5 927 .nil (.ord 7 0 .nil (.ord 8 0 .nil (.alt (.ord 1 0 .nil (.alt (.ord 6 0 (.two .nil (.two (.tail 14 .nil) .nil)) (.ord 9 0 .nil qaj)) (.ord 9 0 .nil (.ord 6 0 (.two .nil (.two (.tail 14 .nil) .nil)) qaj)))) (.alt (.ord 6 0 (.two .nil (.two (.tail 14 .nil) .nil)) (.ord 1 1021 .nil (.ord 9 0 .nil qaj))) (.ord 9 0 .nil (.alt (.ord 1 0 .nil (.ord 6 0 (.two .nil (.two (.tail 14 .nil) .nil)) qaj)) (.ord 6 0 (.two .nil (.two (.tail 14 .nil) .nil)) (.ord 1 0 .nil qaj))))))))))))))) .nil)))))))
noncomputable def qds:Ioc:=⟨Zt7,[Zt24,Zt44],true,[],Zt43,fun x=>qbN x.1 x.2.1 x.2.2.1⟩
noncomputable def qdB (φ:DL (Zt7::[Zt24,Zt44])→Option (D Zt3)):Env:=(25,.con qkv)::(24,.io ⟨Zt7,[Zt24,Zt44],true,[],Zt43,φ⟩)::(50,.con movesMake_con)::(58,.ck 64)::(61,.body Tryz.f61)::(62,.io recordWriterOne_con)::(60,.con recordKids_con)::[]
theorem qhC (φ:DL (Zt7::[Zt24,Zt44])→Option (D Zt3)) (x:DL (Zt7::[Zt24,Zt44])):qI φ x=denIO Tryz.prog (qdB φ) qdt Tryz.f24 Zt7 [Zt24,Zt44] true [] Zt43 x:=by kernel_rfl
theorem qic:IocOK Tryz.prog 24 qds :=
  ioc_fix (bx:=Zt7) (ps:=[Zt24,Zt44]) (ρ:=Zt43) (G:=qI) (by kernel_rfl) (fun h=>by first | rfl | cases h) fun φ hφ =>
  qce (env:=qdB φ) ((EnvOK.cons (EnvOK.inout (EnvOK.cons (EnvOK.check (EnvOK.body (EnvOK.inout (EnvOK.cons (EnvOK.nil _) qpB) qkb) Tryz.func61) qd) qfj) hφ) qtl)) mixed Tryz.func24 ⟨Zt7,[Zt24,Zt44],true,[],Zt43,qI φ⟩ qdt (by kernel_rfl) (fun h=>by first | rfl | cases h) (qhC φ)
def qfP:Ann := .nil
noncomputable def recordResults_con:Con:=⟨[],true,[],(.st .str (.st .str (.st .str (.st .str .nil)))),fun x=>qet,some fun x=>qv⟩
noncomputable def qf2:Env:=(58,.ck 64)::[]
theorem qlj (x:DL recordResults_con.ps):recordResults_con.φ x=denF Tryz.prog qf2 qfP Tryz.f26 recordResults_con.ps recordResults_con.one recordResults_con.res recordResults_con.ρ x:=by kernel_rfl
theorem qgX:ConOK Tryz.prog 26 recordResults_con :=
  qc (env:=qf2) ((EnvOK.check (EnvOK.nil _) qd)) mixed Tryz.func26 recordResults_con qfP (by kernel_rfl) (fun h=>by first | rfl | cases h) (fun g hg x=>by
    cases hg
    exact qml ) qlj
def qiP:Ann:=(.two .nil (.two .nil (.two .nil (.two (.two .nil (.join ⟨[2,3,7],[],[(2,some (.bld 64 5))]⟩ (.two (.loop ⟨[2,3,7,20,21],[(22,Zt44)],[(2,some (.bld 64 5))]⟩ .nil) .nil))) (.two .nil (.two (.two .nil (.join ⟨[2,3,7],[(10,Zt43)],[]⟩ .nil)) (.two .nil (.two .nil (.two (.any 415 32 (.ord 0 0 .nil (.ord 1 13 .nil (.ord 2 0 .nil (.ord 3 0 .nil (.ord 4 0 .nil (.ord 5 0 .nil (.ord 6 0 .nil (.ord 7 0 .nil (.ord 8 0 .nil (.ord 9 0 .nil .nil))))))))))) .nil)))))))))
noncomputable def recordText_con:Con:=⟨[Zt12,Zt16],false,[.str,Zt44],(.st .str Zt40),fun x=>qbT x.1 x.2.1,none⟩
noncomputable def qiM:Env:=(28,.bs 64 5)::(27,.body Tryz.f27)::(25,.con qkv)::(26,.con recordResults_con)::(24,.io qds)::(23,.con placeBegin_con)::(22,.body Tryz.f22)::(58,.ck 64)::(21,.con recordCheck_con)::[]
theorem qof (x:DL recordText_con.ps):recordText_con.φ x=denF Tryz.prog qiM qiP Tryz.f8 recordText_con.ps recordText_con.one recordText_con.res recordText_con.ρ x:=by kernel_rfl
theorem qkc:ConOK Tryz.prog 8 recordText_con :=
  qc (env:=qiM) ((EnvOK.string (EnvOK.body (EnvOK.cons (EnvOK.cons (EnvOK.inout (EnvOK.cons (EnvOK.body (EnvOK.check (EnvOK.cons (EnvOK.nil _) qiS) qd) Tryz.func22) qej) qic) qgX) qtl) Tryz.func27) qmc)) mixed Tryz.func8 recordText_con qiP (by kernel_rfl) (fun h=>by first | rfl | cases h) (fun g hg=>by cases hg) qof
def qhf:Ann := .nil
noncomputable def law3Records_con:Con:=⟨[],true,[],.bool,fun x=>qgy,none⟩
noncomputable def qho:Env:=(8,.con recordText_con)::(20,.con law3Drop_con)::(19,.con law3Tic_con)::[]
theorem qm5 (x:DL law3Records_con.ps):law3Records_con.φ x=denF Tryz.prog qho qhf Tryz.f5 law3Records_con.ps law3Records_con.one law3Records_con.res law3Records_con.ρ x:=by kernel_rfl
theorem qod:ConOK Tryz.prog 5 law3Records_con :=
  qc (env:=qho) ((EnvOK.cons (EnvOK.cons (EnvOK.cons (EnvOK.nil _) quE) qs5) qkc)) mixed Tryz.func5 law3Records_con qhf (by kernel_rfl) (fun h=>by first | rfl | cases h) (fun g hg=>by cases hg) qm5
def qe9:Ann:=(.two .nil (.two .nil (.two .nil (.two .nil (.two (.two .nil (.join ⟨[],[(11,.str)],[]⟩ .nil)) .nil)))))
noncomputable def ref3MoveText_i_con:Con:=⟨[Zt12,Zt26,Zt44],true,[],.str,fun x=>qbZ x.1 x.2.1 x.2.2.1,none⟩
noncomputable def qfw:Env:=(126,.con ref3MoveText_con)::(29,.con ref3Places_con)::(33,.con ref3Way_con)::[]
theorem qkO (x:DL ref3MoveText_i_con.ps):ref3MoveText_i_con.φ x=denF Tryz.prog qfw qe9 Tryz.f66 ref3MoveText_i_con.ps ref3MoveText_i_con.one ref3MoveText_i_con.res ref3MoveText_i_con.ρ x:=by kernel_rfl
theorem qlq:ConOK Tryz.prog 66 ref3MoveText_i_con :=
  qc (env:=qfw) ((EnvOK.cons (EnvOK.cons (EnvOK.cons (EnvOK.nil _) qpk) qj6) qnP)) mixed Tryz.func66 ref3MoveText_i_con qe9 (by kernel_rfl) (fun h=>by first | rfl | cases h) (fun g hg=>by cases hg) qkO
def qgI:Ann:=(.two .nil (.two .nil (.two (.two .nil (.join ⟨[1,3],[(7,Zt44),(8,.str)],[]⟩ (.two (.loop ⟨[1,2,3,12,13],[(7,Zt44),(8,.str),(14,Zt44)],[]⟩ (.two .nil (.two .nil (.two (.join ⟨[1,2,3,12,13,14],[(7,Zt44),(8,.str)],[]⟩ .nil) .nil)))) .nil))) .nil)))
noncomputable def ref3LineText_con:Con:=⟨[Zt12,Zt26,Zt44],true,[],.str,fun x=>qhH x.1 x.2.1 x.2.2.1,none⟩
noncomputable def qgR (φ:DL [Zt12,Zt26,Zt44]→Option (D .str)):Env:=(35,.con ⟨[Zt12,Zt26,Zt44],true,[],.str,φ,none⟩)::(66,.con ref3MoveText_i_con)::(58,.ck 64)::[]
theorem qmb (φ:DL [Zt12,Zt26,Zt44]→Option (D .str)) (x:DL [Zt12,Zt26,Zt44]):qal φ x=denF Tryz.prog (qgR φ) qgI Tryz.f35 ref3LineText_con.ps ref3LineText_con.one ref3LineText_con.res ref3LineText_con.ρ x:=by kernel_rfl
theorem qnM:ConOK Tryz.prog 35 ref3LineText_con :=
  con_fix (ps:=[Zt12,Zt26,Zt44]) (ρ := .str) (G:=qal) (by kernel_rfl) (fun h=>by first | rfl | cases h) fun φ hφ =>
  qc (env:=qgR φ) ((EnvOK.cons (EnvOK.cons (EnvOK.check (EnvOK.nil _) qd) qlq) hφ)) mixed Tryz.func35 ⟨[Zt12,Zt26,Zt44],true,[],.str,qal φ,none⟩ qgI (by kernel_rfl) (fun h=>by first | rfl | cases h) (fun g hg=>by cases hg) (qmb φ)
def qfg:Ann:=(.two .nil (.two .nil (.two (.two .nil (.join ⟨[2,3],[(5,.str)],[]⟩ (.two (.loop ⟨[2,3,9,10],[(5,.str),(11,Zt44)],[]⟩ .nil) .nil))) (.two (.two .nil (.join ⟨[2,3],[(5,.str)],[]⟩ .nil)) .nil))))
noncomputable def ref3RecordText_con:Con:=⟨[Zt12,Zt16],true,[],.str,fun x=>qb1 x.1 x.2.1,none⟩
noncomputable def qfc:Env:=(35,.con ref3LineText_con)::(58,.ck 64)::[]
theorem qkV (x:DL ref3RecordText_con.ps):ref3RecordText_con.φ x=denF Tryz.prog qfc qfg Tryz.f10 ref3RecordText_con.ps ref3RecordText_con.one ref3RecordText_con.res ref3RecordText_con.ρ x:=by kernel_rfl
theorem qk6:ConOK Tryz.prog 10 ref3RecordText_con :=
  qc (env:=qfc) ((EnvOK.cons (EnvOK.check (EnvOK.nil _) qd) qnM)) mixed Tryz.func10 ref3RecordText_con qfg (by kernel_rfl) (fun h=>by first | rfl | cases h) (fun g hg=>by cases hg) qkV
def qdo:Ann := .nil
noncomputable def recordReaderBlank_con:Ioc:=⟨Zt4,[],false,[],.nil,fun x=>qK x.1⟩
noncomputable def qdy:Env:=(136,.con qoU)::[]
theorem qhx (x:DL (Zt4::[])):recordReaderBlank_con.φ x=denIO Tryz.prog qdy qdo Tryz.f80 Zt4 [] false [] .nil x:=by kernel_rfl
theorem qbW:IocOK Tryz.prog 80 recordReaderBlank_con :=
  qce (env:=qdy) ((EnvOK.cons (EnvOK.nil _) trimLS_ok)) mixed Tryz.func80 recordReaderBlank_con qdo (by kernel_rfl) (fun h=>by first | rfl | cases h) qhx
def qey:Ann := .nil
noncomputable def recordReaderGot_con:Ioc:=⟨Zt4,[(.int .u8)],true,[],.bool,fun x=>qt x.1 x.2.1⟩
noncomputable def qeN:Env:=(80,.io recordReaderBlank_con)::[]
theorem qjt (x:DL (Zt4::[(.int .u8)])):recordReaderGot_con.φ x=denIO Tryz.prog qeN qey Tryz.f74 Zt4 [(.int .u8)] true [] .bool x:=by kernel_rfl
theorem qcs:IocOK Tryz.prog 74 recordReaderGot_con :=
  qce (env:=qeN) ((EnvOK.inout (EnvOK.nil _) qbW)) mixed Tryz.func74 recordReaderGot_con qey (by kernel_rfl) (fun h=>by first | rfl | cases h) qjt
def qgU:Ann := .nil
noncomputable def stringsClone_con:Con:=⟨[.str],true,[],.str,fun x=>qe2 x.1,none⟩
noncomputable def qgW:Env:=(181,.con qoT)::[]
theorem ql9 (x:DL stringsClone_con.ps):stringsClone_con.φ x=denF Tryz.prog qgW qgU Tryz.f132 stringsClone_con.ps stringsClone_con.one stringsClone_con.res stringsClone_con.ρ x:=by kernel_rfl
theorem qnl:ConOK Tryz.prog 132 stringsClone_con :=
  qc (env:=qgW) ((EnvOK.cons (EnvOK.nil _) cloneS_ok)) mixed Tryz.func132 stringsClone_con qgU (by kernel_rfl) (fun h=>by first | rfl | cases h) (fun g hg=>by cases hg) ql9
def qdS:Ann := .nil
noncomputable def recordReaderUpTo_con:Ioc:=⟨Zt4,[.str],true,[],.str,fun x=>qZ x.1 x.2.1⟩
noncomputable def qd3:Env:=(132,.con stringsClone_con)::(131,.body Tryz.f131)::(130,.con qtr)::[]
theorem qib (x:DL (Zt4::[.str])):recordReaderUpTo_con.φ x=denIO Tryz.prog qd3 qdS Tryz.f75 Zt4 [.str] true [] .str x:=by kernel_rfl
theorem qeO:IocOK Tryz.prog 75 recordReaderUpTo_con :=
  qce (env:=qd3) ((EnvOK.cons (EnvOK.body (EnvOK.cons (EnvOK.nil _) cutS_ok) Tryz.func131) qnl)) mixed Tryz.func75 recordReaderUpTo_con qdS (by kernel_rfl) (fun h=>by first | rfl | cases h) qib
def qcL:Ann := .nil
noncomputable def recordReaderComment_con:Ioc:=⟨Zt4,[],true,[],.str,fun x=>qr x.1⟩
noncomputable def qcm:Env:=(131,.body Tryz.f131)::(75,.io recordReaderUpTo_con)::(74,.io recordReaderGot_con)::[]
theorem qgg (x:DL (Zt4::[])):recordReaderComment_con.φ x=denIO Tryz.prog qcm qcL Tryz.f76 Zt4 [] true [] .str x:=by kernel_rfl
theorem qcU:IocOK Tryz.prog 76 recordReaderComment_con :=
  qce (env:=qcm) ((EnvOK.body (EnvOK.inout (EnvOK.inout (EnvOK.nil _) qcs) qeO) Tryz.func131)) mixed Tryz.func76 recordReaderComment_con qcL (by kernel_rfl) (fun h=>by first | rfl | cases h) qgg
def qd0:Ann:=(.two .nil (.two .nil (.two .nil (.two (.two .nil (.join ⟨[0],[(3,Zt44)],[]⟩ .nil)) .nil))))
noncomputable def recordReaderWord_con:Ioc:=⟨Zt4,[],true,[],.str,fun x=>qJ x.1⟩
noncomputable def qdP:Env:=(135,.con qkA)::(80,.io recordReaderBlank_con)::[]
theorem qif (x:DL (Zt4::[])):recordReaderWord_con.φ x=denIO Tryz.prog qdP qd0 Tryz.f78 Zt4 [] true [] .str x:=by kernel_rfl
theorem qcc:IocOK Tryz.prog 78 recordReaderWord_con :=
  qce (env:=qdP) ((EnvOK.cons (EnvOK.inout (EnvOK.nil _) qbW) qrE)) mixed Tryz.func78 recordReaderWord_con qd0 (by kernel_rfl) (fun h=>by first | rfl | cases h) qif
def qcW:Ann:=(.two .nil (.two (.two .nil (.joinE ⟨[],[],[]⟩ (.two (.loop ⟨[0,1,7],[(8,Zt44)],[]⟩ .nil) .nil))) .nil))
noncomputable def slicesIndex_string_con:Con:=⟨[(.sl .str),.str],true,[],Zt44,fun x=>qP x.1 x.2.1,none⟩
noncomputable def qcR:Env:=[]
theorem qgZ (x:DL slicesIndex_string_con.ps):slicesIndex_string_con.φ x=denF Tryz.prog qcR qcW Tryz.f79 slicesIndex_string_con.ps slicesIndex_string_con.one slicesIndex_string_con.res slicesIndex_string_con.ρ x:=by kernel_rfl
theorem qdA:ConOK Tryz.prog 79 slicesIndex_string_con :=
  qc (env:=qcR) ((EnvOK.nil _)) mixed Tryz.func79 slicesIndex_string_con qcW (by kernel_rfl) (fun h=>by first | rfl | cases h) (fun g hg=>by cases hg) qgZ
def qb0:Ann := .nil
noncomputable def slicesContains_string_con:Con:=⟨[(.sl .str),.str],true,[],.bool,fun x=>qH x.1 x.2.1,none⟩
noncomputable def qb2:Env:=(79,.con slicesIndex_string_con)::[]
theorem qfL (x:DL slicesContains_string_con.ps):slicesContains_string_con.φ x=denF Tryz.prog qb2 qb0 Tryz.f133 slicesContains_string_con.ps slicesContains_string_con.one slicesContains_string_con.res slicesContains_string_con.ρ x:=by kernel_rfl
theorem qgd:ConOK Tryz.prog 133 slicesContains_string_con :=
  qc (env:=qb2) ((EnvOK.cons (EnvOK.nil _) qdA)) mixed Tryz.func133 slicesContains_string_con qb0 (by kernel_rfl) (fun h=>by first | rfl | cases h) (fun g hg=>by cases hg) qfL
def qdW:Ann:=(.two .nil (.two .nil (.two .nil (.two .nil (.two (.any 5119 1024 (.ord 0 0 .nil (.ord 1 0 .nil (.ord 2 0 .nil (.ord 3 1079 .nil (.ord 4 1071 .nil (.ord 5 0 .nil (.ord 6 1087 .nil (.ord 7 0 .nil (.ord 8 0 .nil (.ord 9 0 .nil (.ord 10 0 .nil (.ord 11 0 .nil (.ord 12 0 .nil .nil)))))))))))))) (.two .nil (.two .nil (.two (.join ⟨[],[(4,.ref)],[(0,some (.box Zt8)),(3,some (.ar 220 Zt31 (some 217))),(5,none),(6,none)]⟩ (.any 43 16 (.ord 1 0 .nil (.alt (.ord 0 0 .nil (.ord 2 0 .nil (.ord 3 0 .nil (.ord 4 0 .nil (.ord 5 0 .nil .nil))))) (.ord 2 0 .nil (.ord 0 0 .nil (.ord 3 0 .nil (.ord 4 0 .nil (.ord 5 0 .nil .nil))))))))) .nil))))))))
noncomputable def recordReaderMove_con:Goc:=⟨Zt1,.nil,[Zt24],[0,2],(some (220,Zt31,some 217)),none,true,[],.ref,fun x=>qas x.1 x.2.2.1 x.2.2.2.1⟩
noncomputable def qdZ:Env:=(76,.io recordReaderComment_con)::(58,.ck 64)::(52,.con movetextRead_con)::(96,.con endsResult_con)::(131,.body Tryz.f131)::(78,.io recordReaderWord_con)::[]
theorem qie (x:DL (Zt1 :: .nil::arT (some (220,Zt31,some 217))::[Zt24])):recordReaderMove_con.φ x=denGO Tryz.prog qdZ qdW Tryz.f134 Zt1 .nil [Zt24] [0,2] (some (220,Zt31,some 217)) none true [] .ref x:=by kernel_rfl
theorem qjf:GocOK Tryz.prog 134 recordReaderMove_con :=
  qmS (env:=qdZ) ((EnvOK.inout (EnvOK.check (EnvOK.cons (EnvOK.cons (EnvOK.body (EnvOK.inout (EnvOK.nil _) qcc) Tryz.func131) qgi) qn4) qd) qcU)) mixed Tryz.func134 recordReaderMove_con qdW (by kernel_rfl) (fun h=>by first | rfl | cases h) qie
def qdw:Ann:=(.two .nil (.two .nil (.two (.two (.join ⟨[0,3],[(17,.bool)],[]⟩ .nil) .nil) (.two .nil (.two .nil (.two (.join ⟨[0,3,6],[(7,(.osl 217 .ref))],[(0,some (.box Zt8)),(7,none),(8,none),(9,some (.ar 220 Zt31 (some 217))),(10,none)]⟩ (.two (.loop ⟨[0,3,6],[(7,(.osl 217 .ref))],[(0,some (.box Zt8)),(7,none),(8,none),(9,some (.ar 220 Zt31 (some 217))),(10,none)]⟩ (.two .nil (.two (.two .nil (.two (.any 26623 2048 (.ord 0 0 .nil (.ord 1 0 .nil (.ord 2 0 .nil (.ord 3 0 .nil (.ord 4 0 .nil (.ord 5 2015 .nil (.ord 6 1983 .nil (.ord 7 0 .nil (.ord 8 0 .nil (.ord 9 0 .nil (.ord 10 0 .nil (.ord 11 0 .nil (.ord 12 0 .nil (.ord 13 0 .nil (.ord 14 0 .nil (.ord 15 0 .nil .nil))))))))))))))))) .nil)) .nil))) .nil)) (.two (.any 26623 2048 (.ord 0 0 .nil (.ord 1 0 .nil (.ord 2 0 .nil (.ord 3 0 .nil (.ord 4 0 .nil (.ord 5 2015 .nil (.ord 6 1983 .nil (.ord 7 0 .nil (.ord 8 0 .nil (.ord 9 0 .nil (.ord 10 0 .nil (.ord 11 0 .nil (.ord 12 0 .nil (.ord 13 0 .nil (.ord 14 0 .nil (.ord 15 0 .nil .nil))))))))))))))))) .nil)))))))
noncomputable def qdu:Goc:=⟨Zt1,.nil,[Zt24],[0,2],(some (220,Zt31,some 217)),none,true,[],(.osl 217 .ref),fun x=>qbU x.1 x.2.2.1 x.2.2.2.1⟩
noncomputable def qdr (φ:DL (Zt1 :: .nil::arT (some (220,Zt31,some 217))::[Zt24])→Option (D (.st Zt1 (.st (arT (some (220,Zt31,some 217))) (.osl 217 .ref))))):Env:=(131,.body Tryz.f131)::(77,.go ⟨Zt1,.nil,[Zt24],[0,2],(some (220,Zt31,some 217)),none,true,[],(.osl 217 .ref),φ⟩)::(50,.con movesMake_con)::(74,.io recordReaderGot_con)::(134,.go recordReaderMove_con)::(133,.con slicesContains_string_con)::(78,.io recordReaderWord_con)::[]
theorem qhE (φ:DL (Zt1 :: .nil::arT (some (220,Zt31,some 217))::[Zt24])→Option (D (.st Zt1 (.st (arT (some (220,Zt31,some 217))) (.osl 217 .ref))))) (x:DL (Zt1 :: .nil::arT (some (220,Zt31,some 217))::[Zt24])):qC φ x=denGO Tryz.prog (qdr φ) qdw Tryz.f77 Zt1 .nil [Zt24] [0,2] (some (220,Zt31,some 217)) none true [] (.osl 217 .ref) x:=by kernel_rfl
theorem qih:GocOK Tryz.prog 77 qdu :=
  go_fix (tp:=Zt1) (mv := .nil) (ps:=[Zt24]) (sg:=[0,2]) (ar:=(some (220,Zt31,some 217))) (cl:=none) (ρ:=(.osl 217 .ref)) (G:=qC) (by kernel_rfl) (by kernel_rfl) (fun h=>by first | rfl | cases h) fun φ hφ =>
  qmS (env:=qdr φ) ((EnvOK.body (EnvOK.general (EnvOK.cons (EnvOK.inout (EnvOK.general (EnvOK.cons (EnvOK.inout (EnvOK.nil _) qcc) qgd) qjf) qcs) qfj) hφ) Tryz.func131)) mixed Tryz.func77 ⟨Zt1,.nil,[Zt24],[0,2],(some (220,Zt31,some 217)),none,true,[],(.osl 217 .ref),qC φ⟩ qdw (by kernel_rfl) (fun h=>by first | rfl | cases h) (qhE φ)
def qdY:Ann:=(.two .nil (.join ⟨[],[],[(0,some (.box Zt8)),(1,none),(2,none),(3,some (.ar 220 (.st Zt37 (.st .str (.st (.sl .ref) .nil))) none))]⟩ (.two (.loop ⟨[0,2,9,10],[(11,Zt44)],[(0,some (.box Zt8)),(1,none),(2,none),(3,some (.ar 220 (.st Zt37 (.st .str (.st (.sl .ref) .nil))) none))]⟩ (.two .nil (.two .nil (.two (.two (.two .nil (.two .nil (.two (.any 1900543 65536 (.ord 0 0 .nil (.ord 1 0 .nil (.ord 2 0 .nil (.ord 3 0 .nil (.ord 4 0 .nil (.ord 5 131039 .nil (.ord 6 0 .nil (.ord 7 0 .nil (.ord 8 0 .nil (.ord 9 0 .nil (.ord 10 31743 .nil (.ord 11 0 .nil (.ord 12 0 .nil (.ord 13 0 .nil (.ord 14 0 .nil (.ord 15 0 .nil (.ord 16 0 .nil (.ord 17 0 .nil (.ord 18 0 .nil (.ord 19 0 .nil (.ord 20 0 .nil (.ord 21 0 .nil .nil))))))))))))))))))))))) .nil))) .nil) .nil)))) .nil)))
noncomputable def qdR:Goc:=⟨Zt1,.nil,[(.sl .ref),Zt44],[0,2,2],(some (220,(.st Zt37 (.st .str (.st (.sl .ref) .nil))),none)),none,false,[],.nil,fun x=>qb7 x.1 x.2.2.1 x.2.2.2.1 x.2.2.2.2.1⟩
noncomputable def qdV (φ:DL (Zt1 :: .nil::arT (some (220,(.st Zt37 (.st .str (.st (.sl .ref) .nil))),none))::[(.sl .ref),Zt44])→Option (D (.st Zt1 (.st (arT (some (220,(.st Zt37 (.st .str (.st (.sl .ref) .nil))),none))) .nil)))):Env:=(81,.go ⟨Zt1,.nil,[(.sl .ref),Zt44],[0,2,2],(some (220,(.st Zt37 (.st .str (.st (.sl .ref) .nil))),none)),none,false,[],.nil,φ⟩)::[]
theorem qij (φ:DL (Zt1 :: .nil::arT (some (220,(.st Zt37 (.st .str (.st (.sl .ref) .nil))),none))::[(.sl .ref),Zt44])→Option (D (.st Zt1 (.st (arT (some (220,(.st Zt37 (.st .str (.st (.sl .ref) .nil))),none))) .nil)))) (x:DL (Zt1 :: .nil::arT (some (220,(.st Zt37 (.st .str (.st (.sl .ref) .nil))),none))::[(.sl .ref),Zt44])):qQ φ x=denGO Tryz.prog (qdV φ) qdY Tryz.f81 Zt1 .nil [(.sl .ref),Zt44] [0,2,2] (some (220,(.st Zt37 (.st .str (.st (.sl .ref) .nil))),none)) none false [] .nil x:=by kernel_rfl
theorem qi5:GocOK Tryz.prog 81 qdR :=
  go_fix (tp:=Zt1) (mv := .nil) (ps:=[(.sl .ref),Zt44]) (sg:=[0,2,2]) (ar:=(some (220,(.st Zt37 (.st .str (.st (.sl .ref) .nil))),none))) (cl:=none) (ρ := .nil) (G:=qQ) (by kernel_rfl) (by kernel_rfl) (fun h=>by first | rfl | cases h) fun φ hφ =>
  qmS (env:=qdV φ) ((EnvOK.general (EnvOK.nil _) hφ)) mixed Tryz.func81 ⟨Zt1,.nil,[(.sl .ref),Zt44],[0,2,2],(some (220,(.st Zt37 (.st .str (.st (.sl .ref) .nil))),none)),none,false,[],.nil,qQ φ⟩ qdY (by kernel_rfl) (fun h=>by first | rfl | cases h) (qij φ)
def qiB:Ann:=(.two .nil (.two .nil (.two .nil (.two .nil (.two (.two (.two (.two .nil (.two .nil (.two (.join ⟨[0,2],[],[(3,some (.box Zt8))]⟩ (.two (.loop ⟨[0,2],[],[(3,some (.box Zt8))]⟩ (.two .nil (.two (.two .nil (.two .nil (.any 3711 128 (.ord 0 0 .nil (.ord 1 0 .nil (.ord 2 0 .nil (.ord 3 0 .nil (.ord 4 0 .nil (.ord 5 223 .nil (.ord 6 0 .nil (.ord 7 0 .nil (.ord 8 0 .nil (.ord 9 0 .nil (.ord 10 0 .nil (.ord 11 0 .nil (.ord 12 0 .nil .nil)))))))))))))))) .nil))) .nil)) (.two .nil (.two .nil (.two .nil (.two .nil (.two .nil (.two .nil (.two .nil (.two .nil (.two .nil (.two (.fra .nil) .nil))))))))))))) .nil) .nil) .nil)))))
noncomputable def recordRead_con:Con:=⟨[Zt12,.str],false,[Zt14,Zt44],(.st Zt14 Zt40),fun x=>qhR x.1 x.2.1,none⟩
noncomputable def qiA:Env:=(21,.con recordCheck_con)::(81,.go qdR)::(80,.io recordReaderBlank_con)::(79,.con slicesIndex_string_con)::(26,.con recordResults_con)::(78,.io recordReaderWord_con)::(77,.go qdu)::(23,.con placeBegin_con)::(76,.io recordReaderComment_con)::(75,.io recordReaderUpTo_con)::(74,.io recordReaderGot_con)::(37,.body Tryz.f37)::(36,.con rulesCheck_con)::(58,.ck 64)::[]
theorem qoq (x:DL recordRead_con.ps):recordRead_con.φ x=denA Tryz.prog qiA qiB Tryz.f11 (220,Zt31,some 217) recordRead_con.ps recordRead_con.one recordRead_con.res recordRead_con.ρ x:=by kernel_rfl
theorem qqa:ConOK Tryz.prog 11 recordRead_con :=
  qsI (env:=qiA) ((EnvOK.cons (EnvOK.general (EnvOK.inout (EnvOK.cons (EnvOK.cons (EnvOK.inout (EnvOK.general (EnvOK.cons (EnvOK.inout (EnvOK.inout (EnvOK.inout (EnvOK.body (EnvOK.cons (EnvOK.check (EnvOK.nil _) qd) qeg) Tryz.func37) qcs) qeO) qcU) qej) qih) qcc) qgX) qdA) qbW) qi5) qiS)) mixed Tryz.func11 recordRead_con (220,Zt31,some 217) qiB (by kernel_rfl) (fun h=>by first | rfl | cases h) (fun g hg=>by cases hg) qoq
def qdQ:Ann := .nil
noncomputable def law3RecordWrites_con:Con:=⟨[Zt12,Zt16],true,[],.bool,fun x=>qdJ x.1 x.2.1,none⟩
noncomputable def qd5:Env:=(58,.ck 64)::(11,.con recordRead_con)::(10,.con ref3RecordText_con)::(9,.con ref3RecordFault_con)::(8,.con recordText_con)::(7,.con law3Great_con)::(6,.con law3Short_con)::(5,.con law3Records_con)::[]
theorem qik (x:DL law3RecordWrites_con.ps):law3RecordWrites_con.φ x=denF Tryz.prog qd5 qdQ Tryz.f3 law3RecordWrites_con.ps law3RecordWrites_con.one law3RecordWrites_con.res law3RecordWrites_con.ρ x:=by kernel_rfl
theorem law3RecordWrites_ok:ConOK Tryz.prog 3 law3RecordWrites_con :=
  qc (env:=qd5) ((EnvOK.check (EnvOK.cons (EnvOK.cons (EnvOK.cons (EnvOK.cons (EnvOK.cons (EnvOK.cons (EnvOK.cons (EnvOK.nil _) qod) qrP) qrL) qkc) qka) qk6) qqa) qd)) mixed Tryz.func3 law3RecordWrites_con qdQ (by kernel_rfl) (fun h=>by first | rfl | cases h) (fun g hg=>by cases hg) qik
end Go.Proofs.YthidcmjpbokeeaaGreatDoor
