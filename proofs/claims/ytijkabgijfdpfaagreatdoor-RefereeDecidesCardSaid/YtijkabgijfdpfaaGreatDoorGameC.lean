/- Contracts: Game. No condition of its own. -/
import Derived.Test.YtijkabgijfdpfaaGreatDoorMAA
import Derived.Test.YtijkabgijfdpfaaGreatDoorMAI
import Derived.Test.YtijkabgijfdpfaaGreatDoorMAD
import Derived.Test.YtijkabgijfdpfaaGreatDoorCoreC
namespace Go.Proofs.YtijkabgijfdpfaaGreatDoor
open Go.Den
set_option linter.unusedVariables false
set_option maxRecDepth 100000
def qf4:Ann:=(.two .nil (.two .nil (.two (.two .nil (.join ⟨[],[(3,Zt68)],[]⟩ (.two (.loop ⟨[0,9,10],[(3,Zt68),(11,Zt68)],[]⟩ (.two .nil (.two .nil (.two (.two (.two .nil (.two (.join ⟨[0,3,9,10,11],[(18,.bool)],[]⟩ (.any 3 0 (.ord 1 0 .nil (.alt (.ord 0 0 .nil (.ord 2 0 (.two .nil (.two (.tail 12 .nil) .nil)) (.ord 3 0 .nil .nil))) (.ord 2 0 (.two .nil (.two (.tail 12 .nil) .nil)) (.ord 0 0 .nil (.ord 3 0 .nil .nil))))))) (.join ⟨[0,9,10,11],[(3,Zt68)],[]⟩ .nil))) .nil) .nil)))) .nil))) .nil)))
noncomputable def plainGameCount_con:Con:=⟨[Zt13],true,[],Zt68,fun x=>qcA x.1,none⟩
noncomputable def qgG:Env:=(31,.con placeSame_con)::(138,.body Tryz.f138)::(159,.ck 197)::[]
theorem qmA (x:DL plainGameCount_con.ps):plainGameCount_con.φ x=denB Tryz.prog qgG qf4 Tryz.f140 true plainGameCount_con.ps plainGameCount_con.one plainGameCount_con.res plainGameCount_con.ρ x:=by kernel_rfl
theorem qgZ:qrH Tryz.prog 140 plainGameCount_con :=
  qmD (env:=qgG) ((EnvOK.cons (EnvOK.body (EnvOK.check (EnvOK.nil _) qd) Tryz.func138) qox)) mixed Tryz.func140 plainGameCount_con qf4 (by kernel_rfl) (fun h=>by first | rfl | cases h) (fun g hg=>by cases hg) qmA
def qfx:Ann:=(.two .nil (.two (.join ⟨[0],[(3,Zt68)],[]⟩ (.any 159 0 (.ord 0 0 .nil (.ord 1 0 .nil (.ord 2 0 .nil (.ord 4 0 .nil (.alt (.ord 3 0 .nil (.ord 5 0 (.two .nil (.two (.tail 12 .nil) .nil)) (.ord 6 0 .nil (.ord 7 0 .nil .nil)))) (.ord 5 0 (.two .nil (.two (.tail 12 .nil) .nil)) (.ord 3 0 .nil (.ord 6 0 .nil (.ord 7 0 .nil .nil))))))))))) .nil))
noncomputable def plainGameResult_con:Con:=⟨[Zt13],true,[],Zt68,fun x=>qaT x.1,none⟩
noncomputable def qfu:Env:=(140,.rd plainGameCount_con)::(139,.con endsResult_con)::(159,.ck 197)::(138,.body Tryz.f138)::[]
theorem qln (x:DL plainGameResult_con.ps):plainGameResult_con.φ x=denB Tryz.prog qfu qfx Tryz.f73 true plainGameResult_con.ps plainGameResult_con.one plainGameResult_con.res plainGameResult_con.ρ x:=by kernel_rfl
theorem qc2:qrH Tryz.prog 73 plainGameResult_con :=
  qmD (env:=qfu) ((EnvOK.readonly (EnvOK.cons (EnvOK.check (EnvOK.body (EnvOK.nil _) Tryz.func138) qd) qhM) qgZ)) mixed Tryz.func73 plainGameResult_con qfx (by kernel_rfl) (fun h=>by first | rfl | cases h) (fun g hg=>by cases hg) qln
def qay:Ann:=(.ord 13 0 .nil (.ord 14 0 .nil (.ord 15 0 .nil (.ord 16 0 .nil (.ord 17 0 .nil .nil)))))
def qa6:Ann:=(.alt (.ord 4 0 .nil (.ord 12 0 .nil qay)) (.ord 12 0 .nil (.ord 4 16367 .nil qay)))
def qbZ:Ann:=(.ord 10 0 (.two .nil (.two (.tail 12 .nil) .nil)) (.ord 12 0 .nil qay))
def qW:Ann:=(.ord 8 0 .nil (.ord 9 0 .nil (.ord 10 0 .nil .nil)))
def qfU:Ann:=(.alt (.ord 10 0 (.two .nil (.two (.tail 12 .nil) .nil)) (.ord 11 0 .nil (.ord 12 0 .nil qay))) (.ord 11 0 .nil qbZ))
def qgD:Ann:=(.alt (.ord 8 0 .nil qbZ) (.ord 10 0 (.two .nil (.two (.tail 12 .nil) .nil)) (.ord 8 0 .nil (.ord 12 0 .nil qay))))
def qg4:Ann:=(.two .nil (.two (.two (.two .nil (.two .nil (.two (.join ⟨[0,3],[(9,.bool)],[]⟩ (.any 1695 0 (.ord 0 0 .nil (.ord 1 0 .nil (.ord 2 0 .nil (.ord 4 0 .nil (.alt (.ord 3 0 .nil (.alt (.ord 5 0 (.two .nil (.two (.tail 12 .nil) .nil)) (.alt (.ord 6 0 .nil (.ord 7 0 .nil qW)) (.ord 7 0 .nil (.ord 6 0 .nil qW)))) (.ord 7 0 .nil (.ord 5 0 (.two .nil (.two (.tail 12 .nil) .nil)) (.ord 6 0 .nil qW))))) (.alt (.ord 5 0 (.two .nil (.two (.tail 12 .nil) .nil)) (.ord 3 183 .nil (.alt (.ord 6 0 .nil (.ord 7 0 .nil qW)) (.ord 7 0 .nil (.ord 6 0 .nil qW))))) (.ord 7 0 .nil (.alt (.ord 3 0 .nil (.ord 5 0 (.two .nil (.two (.tail 12 .nil) .nil)) (.ord 6 0 .nil qW))) (.ord 5 0 (.two .nil (.two (.tail 12 .nil) .nil)) (.ord 3 0 .nil (.ord 6 0 .nil qW))))))))))))) .nil))) .nil) (.two (.join ⟨[0,3],[],[(0,some (.box Zt14)),(1,none),(2,none)]⟩ (.any 101375 8192 (.ord 0 0 .nil (.ord 1 0 .nil (.ord 2 0 .nil (.ord 3 0 .nil (.ord 5 0 .nil (.ord 6 0 .nil (.ord 7 0 .nil (.ord 9 0 .nil (.alt (.ord 4 0 .nil (.alt (.ord 8 0 .nil qfU) (.alt (.ord 10 0 (.two .nil (.two (.tail 12 .nil) .nil)) (.ord 8 3839 .nil (.ord 11 0 .nil (.ord 12 0 .nil qay)))) (.ord 11 0 .nil qgD)))) (.alt (.ord 8 0 .nil (.alt (.ord 4 0 .nil qfU) (.alt (.ord 10 0 (.two .nil (.two (.tail 12 .nil) .nil)) (.ord 11 2047 .nil qa6)) (.ord 11 0 .nil (.alt (.ord 4 0 .nil qbZ) (.ord 10 0 (.two .nil (.two (.tail 12 .nil) .nil)) qa6)))))) (.alt (.ord 10 0 (.two .nil (.two (.tail 12 .nil) .nil)) (.ord 8 3839 .nil (.ord 11 2047 .nil qa6))) (.ord 11 0 .nil (.alt (.ord 4 0 .nil qgD) (.alt (.ord 8 0 .nil (.alt (.ord 4 0 .nil qbZ) (.ord 10 0 (.two .nil (.two (.tail 12 .nil) .nil)) qa6))) (.ord 10 0 (.two .nil (.two (.tail 12 .nil) .nil)) (.ord 8 3839 .nil qa6)))))))))))))))))) (.two (.any 831 64 (.ord 0 0 .nil (.ord 1 0 .nil (.ord 2 0 .nil (.ord 3 0 .nil (.ord 4 111 .nil (.ord 5 0 .nil (.ord 6 0 .nil (.ord 7 0 .nil qW))))))))) .nil))))
noncomputable def plainGamePlay_con:Ioc:=⟨Zt12,[Zt58],true,[],Zt68,fun x=>qfa x.1 x.2.1⟩
noncomputable def qgV:Env:=(63,.con movesMake_con)::(98,.con slicesContains_Move_con)::(137,.con movesList_con)::(159,.ck 197)::(138,.body Tryz.f138)::(73,.rd plainGameResult_con)::[]
theorem qnD (x:DL (Zt12::[Zt58])):plainGamePlay_con.φ x=denIO Tryz.prog qgV qg4 Tryz.f71 Zt12 [Zt58] true [] Zt68 x:=by kernel_rfl
theorem qoX:IocOK Tryz.prog 71 plainGamePlay_con :=
  qac (env:=qgV) ((EnvOK.cons (EnvOK.cons (EnvOK.cons (EnvOK.check (EnvOK.body (EnvOK.readonly (EnvOK.nil _) qc2) Tryz.func138) qd) qeA) qah) qoj)) mixed Tryz.func71 plainGamePlay_con qg4 (by kernel_rfl) (fun h=>by first | rfl | cases h) qnD
def qeI:Ann:=(.two .nil (.two (.two (.two .nil (.two (.tail 12 .nil) .nil)) .nil) .nil))
noncomputable def plainGamePosition_con:Con:=⟨[Zt13],true,[],Zt36,fun x=>ql x.1,none⟩
noncomputable def qez:Env:=(138,.body Tryz.f138)::(126,.con placeCopy_con)::(159,.ck 197)::[]
theorem qju (x:DL plainGamePosition_con.ps):plainGamePosition_con.φ x=denB Tryz.prog qez qeI Tryz.f72 true plainGamePosition_con.ps plainGamePosition_con.one plainGamePosition_con.res plainGamePosition_con.ρ x:=by kernel_rfl
theorem qag:qrH Tryz.prog 72 plainGamePosition_con :=
  qmD (env:=qez) ((EnvOK.body (EnvOK.cons (EnvOK.check (EnvOK.nil _) qd) qof) Tryz.func138)) mixed Tryz.func72 plainGamePosition_con qeI (by kernel_rfl) (fun h=>by first | rfl | cases h) (fun g hg=>by cases hg) qju
def qmy:Ann:=(.two .nil (.two .nil (.two (.two .nil (.join ⟨[],[(3,Zt68)],[]⟩ (.two (.loop ⟨[0,6,7],[(3,Zt68),(8,Zt68)],[]⟩ (.two .nil (.two .nil (.two (.two (.two .nil (.two .nil (.join ⟨[0,6,7,8],[(3,Zt68)],[]⟩ .nil))) .nil) .nil)))) .nil))) .nil)))
noncomputable def ref3Times_con:Con:=⟨[Zt38],true,[],Zt68,fun x=>qiE x.1,none⟩
noncomputable def qlV:Env:=(31,.con placeSame_con)::(159,.ck 197)::[]
theorem qsP (x:DL ref3Times_con.ps):ref3Times_con.φ x=denF Tryz.prog qlV qmy Tryz.f144 ref3Times_con.ps ref3Times_con.one ref3Times_con.res ref3Times_con.ρ x:=by kernel_rfl
theorem qoc:ConOK Tryz.prog 144 ref3Times_con :=
  qc (env:=qlV) ((EnvOK.cons (EnvOK.check (EnvOK.nil _) qd) qox)) mixed Tryz.func144 ref3Times_con qmy (by kernel_rfl) (fun h=>by first | rfl | cases h) (fun g hg=>by cases hg) qsP
def qkw:Ann := .nil
noncomputable def ref3Result_con:Con:=⟨[Zt21,Zt38],true,[],Zt68,fun x=>qP x.1 x.2.1,none⟩
noncomputable def qk2:Env:=(144,.con ref3Times_con)::(143,.con endsOf_con)::[]
theorem qq3 (x:DL ref3Result_con.ps):ref3Result_con.φ x=denF Tryz.prog qk2 qkw Tryz.f79 ref3Result_con.ps ref3Result_con.one ref3Result_con.res ref3Result_con.ρ x:=by kernel_rfl
theorem qdt:ConOK Tryz.prog 79 ref3Result_con :=
  qc (env:=qk2) ((EnvOK.cons (EnvOK.cons (EnvOK.nil _) endsOf_ok) qoc)) mixed Tryz.func79 ref3Result_con qkw (by kernel_rfl) (fun h=>by first | rfl | cases h) (fun g hg=>by cases hg) qq3
def qkD:Ann:=(.two .nil (.two .nil (.two .nil (.two .nil (.two (.two .nil (.joinE ⟨[],[(8,Zt35)],[(5,none)]⟩ (.two (.loop ⟨[2,23,24],[(8,Zt35),(25,Zt68)],[(5,none)]⟩ (.two .nil (.two .nil (.two (.two (.two .nil (.two .nil (.two (.join ⟨[2,8,23,24,25],[(11,(.obx Zt36)),(12,Zt68)],[]⟩ (.any 20223 4096 (.ord 0 4350 .nil (.ord 1 0 .nil (.ord 2 0 .nil (.ord 3 0 .nil (.ord 4 0 .nil (.ord 5 0 .nil (.ord 6 4287 .nil (.ord 7 4223 .nil (.alt (.ord 8 0 .nil (.ord 9 0 .nil (.ord 10 0 .nil (.ord 11 0 .nil (.ord 12 0 .nil (.ord 13 0 .nil (.ord 14 0 .nil .nil))))))) (.ord 12 0 .nil (.ord 8 0 .nil (.ord 9 0 .nil (.ord 10 0 .nil (.ord 11 0 .nil (.ord 13 0 .nil (.ord 14 0 .nil .nil)))))))))))))))))) .nil))) .nil) .nil)))) .nil))) .nil)))))
noncomputable def ref3Places_con:Con:=⟨[Zt21,Zt57],false,[Zt35,Zt68],(.st Zt35 Zt65),fun x=>qR x.1 x.2.1,none⟩
noncomputable def qkS:Env:=(142,.con movesAfter_con)::(79,.con ref3Result_con)::(159,.ck 197)::(17,.con placeBegin_con)::[]
theorem qqT (x:DL ref3Places_con.ps):ref3Places_con.φ x=denF Tryz.prog qkS qkD Tryz.f77 ref3Places_con.ps ref3Places_con.one ref3Places_con.res ref3Places_con.ρ x:=by kernel_rfl
theorem qdm:ConOK Tryz.prog 77 ref3Places_con :=
  qc (env:=qkS) ((EnvOK.cons (EnvOK.cons (EnvOK.check (EnvOK.cons (EnvOK.nil _) qe5) qd) qdt) qsp)) mixed Tryz.func77 ref3Places_con qkD (by kernel_rfl) (fun h=>by first | rfl | cases h) (fun g hg=>by cases hg) qqT
def qh7:Ann:=(.two .nil (.two .nil (.two (.two .nil (.joinE ⟨[],[],[]⟩ (.two (.loop ⟨[0,1,12],[(13,Zt68)],[]⟩ .nil) .nil))) .nil)))
noncomputable def ref3SameLine_con:Con:=⟨[Zt57,Zt57],true,[],.bool,fun x=>qfR x.1 x.2.1,none⟩
noncomputable def qif:Env:=[]
theorem qo4 (x:DL ref3SameLine_con.ps):ref3SameLine_con.φ x=denF Tryz.prog qif qh7 Tryz.f80 ref3SameLine_con.ps ref3SameLine_con.one ref3SameLine_con.res ref3SameLine_con.ρ x:=by kernel_rfl
theorem qpR:ConOK Tryz.prog 80 ref3SameLine_con :=
  qc (env:=qif) ((EnvOK.nil _)) mixed Tryz.func80 ref3SameLine_con qh7 (by kernel_rfl) (fun h=>by first | rfl | cases h) (fun g hg=>by cases hg) qo4
def qqy:Ann := .nil
noncomputable def law3Tic_con:Con:=⟨[],true,[],Zt19,fun x=>qqr,some fun x=>qa⟩
noncomputable def qql:Env:=(159,.ck 197)::[]
theorem qwq (x:DL law3Tic_con.ps):law3Tic_con.φ x=denF Tryz.prog qql qqy Tryz.f38 law3Tic_con.ps law3Tic_con.one law3Tic_con.res law3Tic_con.ρ x:=by kernel_rfl
theorem qrS:ConOK Tryz.prog 38 law3Tic_con :=
  qc (env:=qql) ((EnvOK.check (EnvOK.nil _) qd)) mixed Tryz.func38 law3Tic_con qqy (by kernel_rfl) (fun h=>by first | rfl | cases h) (fun g hg x=>by
    cases hg
    exact qxL ) qwq
def qoA:Ann := .nil
noncomputable def law3Drop_con:Con:=⟨[Zt68],true,[],Zt58,fun x=>qnm x.1,some fun x=>qf5 x.1⟩
noncomputable def qom:Env:=(159,.ck 197)::[]
theorem qtX (x:DL law3Drop_con.ps):law3Drop_con.φ x=denF Tryz.prog qom qoA Tryz.f76 law3Drop_con.ps law3Drop_con.one law3Drop_con.res law3Drop_con.ρ x:=by kernel_rfl
theorem qvn:ConOK Tryz.prog 76 law3Drop_con :=
  qc (env:=qom) ((EnvOK.check (EnvOK.nil _) qd)) mixed Tryz.func76 law3Drop_con qoA (by kernel_rfl) (fun h=>by first | rfl | cases h) (fun g hg x=>by
    cases hg
    exact qwe _) qtX
end Go.Proofs.YtijkabgijfdpfaaGreatDoor

