/- Contracts: Game. No condition of its own. -/
import Derived.Test.YtijkabgijfdpfaaGreatDoorMAA
import Derived.Test.YtijkabgijfdpfaaGreatDoorMAI
import Derived.Test.YtijkabgijfdpfaaGreatDoorMAD
import Derived.Test.YtijkabgijfdpfaaGreatDoorCoreC
namespace Go.Proofs.YtijkabgijfdpfaaGreatDoor
open Go.Den
set_option linter.unusedVariables false
set_option maxRecDepth 100000
def qgz:Ann:=(.two .nil (.two .nil (.two (.two .nil (.join ⟨[],[(3,Zt68)],[]⟩ (.two (.loop ⟨[0,9,10],[(3,Zt68),(11,Zt68)],[]⟩ (.two .nil (.two .nil (.two (.two (.two .nil (.two (.join ⟨[0,3,9,10,11],[(18,.bool)],[]⟩ (.any 3 0 (.ord 1 0 .nil (.alt (.ord 0 0 .nil (.ord 2 0 (.two .nil (.two (.tail 12 .nil) .nil)) (.ord 3 0 .nil .nil))) (.ord 2 0 (.two .nil (.two (.tail 12 .nil) .nil)) (.ord 0 0 .nil (.ord 3 0 .nil .nil))))))) (.join ⟨[0,9,10,11],[(3,Zt68)],[]⟩ .nil))) .nil) .nil)))) .nil))) .nil)))
noncomputable def plainGameCount_con:Con:=⟨[Zt13],true,[],Zt68,fun x=>qcv x.1,none⟩
noncomputable def qga:Env:=(31,.con placeSame_con)::(138,.body Tryz.f138)::(159,.ck 197)::[]
theorem qm3 (x:DL plainGameCount_con.ps):plainGameCount_con.φ x=denB Tryz.prog qga qgz Tryz.f140 true plainGameCount_con.ps plainGameCount_con.one plainGameCount_con.res plainGameCount_con.ρ x:=by kernel_rfl
theorem qgQ:qrD Tryz.prog 140 plainGameCount_con :=
  qnh (env:=qga) ((EnvOK.cons (EnvOK.body (EnvOK.check (EnvOK.nil _) qd) Tryz.func138) qol)) mixed Tryz.func140 plainGameCount_con qgz (by kernel_rfl) (fun h=>by first | rfl | cases h) (fun g hg=>by cases hg) qm3
def qfx:Ann:=(.two .nil (.two (.join ⟨[0],[(3,Zt68)],[]⟩ (.any 159 0 (.ord 0 0 .nil (.ord 1 0 .nil (.ord 2 0 .nil (.ord 4 0 .nil (.alt (.ord 3 0 .nil (.ord 5 0 (.two .nil (.two (.tail 12 .nil) .nil)) (.ord 6 0 .nil (.ord 7 0 .nil .nil)))) (.ord 5 0 (.two .nil (.two (.tail 12 .nil) .nil)) (.ord 3 0 .nil (.ord 6 0 .nil (.ord 7 0 .nil .nil))))))))))) .nil))
noncomputable def plainGameResult_con:Con:=⟨[Zt13],true,[],Zt68,fun x=>qaS x.1,none⟩
noncomputable def qfz:Env:=(140,.rd plainGameCount_con)::(139,.con endsResult_con)::(159,.ck 197)::(138,.body Tryz.f138)::[]
theorem qlA (x:DL plainGameResult_con.ps):plainGameResult_con.φ x=denB Tryz.prog qfz qfx Tryz.f73 true plainGameResult_con.ps plainGameResult_con.one plainGameResult_con.res plainGameResult_con.ρ x:=by kernel_rfl
theorem qc7:qrD Tryz.prog 73 plainGameResult_con :=
  qnh (env:=qfz) ((EnvOK.readonly (EnvOK.cons (EnvOK.check (EnvOK.body (EnvOK.nil _) Tryz.func138) qd) qhL) qgQ)) mixed Tryz.func73 plainGameResult_con qfx (by kernel_rfl) (fun h=>by first | rfl | cases h) (fun g hg=>by cases hg) qlA
def qaz:Ann:=(.ord 13 0 .nil (.ord 14 0 .nil (.ord 15 0 .nil (.ord 16 0 .nil (.ord 17 0 .nil .nil)))))
def qa3:Ann:=(.alt (.ord 4 0 .nil (.ord 12 0 .nil qaz)) (.ord 12 0 .nil (.ord 4 16367 .nil qaz)))
def qb1:Ann:=(.ord 10 0 (.two .nil (.two (.tail 12 .nil) .nil)) (.ord 12 0 .nil qaz))
def qW:Ann:=(.ord 8 0 .nil (.ord 9 0 .nil (.ord 10 0 .nil .nil)))
def qgB:Ann:=(.alt (.ord 10 0 (.two .nil (.two (.tail 12 .nil) .nil)) (.ord 11 0 .nil (.ord 12 0 .nil qaz))) (.ord 11 0 .nil qb1))
def qgq:Ann:=(.alt (.ord 8 0 .nil qb1) (.ord 10 0 (.two .nil (.two (.tail 12 .nil) .nil)) (.ord 8 0 .nil (.ord 12 0 .nil qaz))))
def qgT:Ann:=(.two .nil (.two (.two (.two .nil (.two .nil (.two (.join ⟨[0,3],[(9,.bool)],[]⟩ (.any 1695 0 (.ord 0 0 .nil (.ord 1 0 .nil (.ord 2 0 .nil (.ord 4 0 .nil (.alt (.ord 3 0 .nil (.alt (.ord 5 0 (.two .nil (.two (.tail 12 .nil) .nil)) (.alt (.ord 6 0 .nil (.ord 7 0 .nil qW)) (.ord 7 0 .nil (.ord 6 0 .nil qW)))) (.ord 7 0 .nil (.ord 5 0 (.two .nil (.two (.tail 12 .nil) .nil)) (.ord 6 0 .nil qW))))) (.alt (.ord 5 0 (.two .nil (.two (.tail 12 .nil) .nil)) (.ord 3 183 .nil (.alt (.ord 6 0 .nil (.ord 7 0 .nil qW)) (.ord 7 0 .nil (.ord 6 0 .nil qW))))) (.ord 7 0 .nil (.alt (.ord 3 0 .nil (.ord 5 0 (.two .nil (.two (.tail 12 .nil) .nil)) (.ord 6 0 .nil qW))) (.ord 5 0 (.two .nil (.two (.tail 12 .nil) .nil)) (.ord 3 0 .nil (.ord 6 0 .nil qW))))))))))))) .nil))) .nil) (.two (.join ⟨[0,3],[],[(0,some (.box Zt14)),(1,none),(2,none)]⟩ (.any 101375 8192 (.ord 0 0 .nil (.ord 1 0 .nil (.ord 2 0 .nil (.ord 3 0 .nil (.ord 5 0 .nil (.ord 6 0 .nil (.ord 7 0 .nil (.ord 9 0 .nil (.alt (.ord 4 0 .nil (.alt (.ord 8 0 .nil qgB) (.alt (.ord 10 0 (.two .nil (.two (.tail 12 .nil) .nil)) (.ord 8 3839 .nil (.ord 11 0 .nil (.ord 12 0 .nil qaz)))) (.ord 11 0 .nil qgq)))) (.alt (.ord 8 0 .nil (.alt (.ord 4 0 .nil qgB) (.alt (.ord 10 0 (.two .nil (.two (.tail 12 .nil) .nil)) (.ord 11 2047 .nil qa3)) (.ord 11 0 .nil (.alt (.ord 4 0 .nil qb1) (.ord 10 0 (.two .nil (.two (.tail 12 .nil) .nil)) qa3)))))) (.alt (.ord 10 0 (.two .nil (.two (.tail 12 .nil) .nil)) (.ord 8 3839 .nil (.ord 11 2047 .nil qa3))) (.ord 11 0 .nil (.alt (.ord 4 0 .nil qgq) (.alt (.ord 8 0 .nil (.alt (.ord 4 0 .nil qb1) (.ord 10 0 (.two .nil (.two (.tail 12 .nil) .nil)) qa3))) (.ord 10 0 (.two .nil (.two (.tail 12 .nil) .nil)) (.ord 8 3839 .nil qa3)))))))))))))))))) (.two (.any 831 64 (.ord 0 0 .nil (.ord 1 0 .nil (.ord 2 0 .nil (.ord 3 0 .nil (.ord 4 111 .nil (.ord 5 0 .nil (.ord 6 0 .nil (.ord 7 0 .nil qW))))))))) .nil))))
noncomputable def plainGamePlay_con:Ioc:=⟨Zt12,[Zt58],true,[],Zt68,fun x=>qfb x.1 x.2.1⟩
noncomputable def qgO:Env:=(63,.con movesMake_con)::(98,.con slicesContains_Move_con)::(137,.con movesList_con)::(159,.ck 197)::(138,.body Tryz.f138)::(73,.rd plainGameResult_con)::[]
theorem qn3 (x:DL (Zt12::[Zt58])):plainGamePlay_con.φ x=denIO Tryz.prog qgO qgT Tryz.f71 Zt12 [Zt58] true [] Zt68 x:=by kernel_rfl
theorem qoP:IocOK Tryz.prog 71 plainGamePlay_con :=
  qad (env:=qgO) ((EnvOK.cons (EnvOK.cons (EnvOK.cons (EnvOK.check (EnvOK.body (EnvOK.readonly (EnvOK.nil _) qc7) Tryz.func138) qd) qeo) qai) qoA)) mixed Tryz.func71 plainGamePlay_con qgT (by kernel_rfl) (fun h=>by first | rfl | cases h) qn3
def qeJ:Ann:=(.two .nil (.two (.two (.two .nil (.two (.tail 12 .nil) .nil)) .nil) .nil))
noncomputable def plainGamePosition_con:Con:=⟨[Zt13],true,[],Zt36,fun x=>ql x.1,none⟩
noncomputable def qeG:Env:=(138,.body Tryz.f138)::(126,.con placeCopy_con)::(159,.ck 197)::[]
theorem qjh (x:DL plainGamePosition_con.ps):plainGamePosition_con.φ x=denB Tryz.prog qeG qeJ Tryz.f72 true plainGamePosition_con.ps plainGamePosition_con.one plainGamePosition_con.res plainGamePosition_con.ρ x:=by kernel_rfl
theorem qag:qrD Tryz.prog 72 plainGamePosition_con :=
  qnh (env:=qeG) ((EnvOK.body (EnvOK.cons (EnvOK.check (EnvOK.nil _) qd) qoh) Tryz.func138)) mixed Tryz.func72 plainGamePosition_con qeJ (by kernel_rfl) (fun h=>by first | rfl | cases h) (fun g hg=>by cases hg) qjh
def qlN:Ann:=(.two .nil (.two .nil (.two (.two .nil (.join ⟨[],[(3,Zt68)],[]⟩ (.two (.loop ⟨[0,6,7],[(3,Zt68),(8,Zt68)],[]⟩ (.two .nil (.two .nil (.two (.two (.two .nil (.two .nil (.join ⟨[0,6,7,8],[(3,Zt68)],[]⟩ .nil))) .nil) .nil)))) .nil))) .nil)))
noncomputable def ref3Times_con:Con:=⟨[Zt38],true,[],Zt68,fun x=>qiS x.1,none⟩
noncomputable def ql5:Env:=(31,.con placeSame_con)::(159,.ck 197)::[]
theorem qsx (x:DL ref3Times_con.ps):ref3Times_con.φ x=denF Tryz.prog ql5 qlN Tryz.f144 ref3Times_con.ps ref3Times_con.one ref3Times_con.res ref3Times_con.ρ x:=by kernel_rfl
theorem qoC:ConOK Tryz.prog 144 ref3Times_con :=
  qc (env:=ql5) ((EnvOK.cons (EnvOK.check (EnvOK.nil _) qd) qol)) mixed Tryz.func144 ref3Times_con qlN (by kernel_rfl) (fun h=>by first | rfl | cases h) (fun g hg=>by cases hg) qsx
def qkm:Ann := .nil
noncomputable def ref3Result_con:Con:=⟨[Zt21,Zt38],true,[],Zt68,fun x=>qT x.1 x.2.1,none⟩
noncomputable def qkr:Env:=(144,.con ref3Times_con)::(143,.con endsOf_con)::[]
theorem qqP (x:DL ref3Result_con.ps):ref3Result_con.φ x=denF Tryz.prog qkr qkm Tryz.f79 ref3Result_con.ps ref3Result_con.one ref3Result_con.res ref3Result_con.ρ x:=by kernel_rfl
theorem qdd:ConOK Tryz.prog 79 ref3Result_con :=
  qc (env:=qkr) ((EnvOK.cons (EnvOK.cons (EnvOK.nil _) endsOf_ok) qoC)) mixed Tryz.func79 ref3Result_con qkm (by kernel_rfl) (fun h=>by first | rfl | cases h) (fun g hg=>by cases hg) qqP
def qkw:Ann:=(.two .nil (.two .nil (.two .nil (.two .nil (.two (.two .nil (.joinE ⟨[],[(8,Zt35)],[(5,none)]⟩ (.two (.loop ⟨[2,23,24],[(8,Zt35),(25,Zt68)],[(5,none)]⟩ (.two .nil (.two .nil (.two (.two (.two .nil (.two .nil (.two (.join ⟨[2,8,23,24,25],[(11,(.obx Zt36)),(12,Zt68)],[]⟩ (.any 20223 4096 (.ord 0 4350 .nil (.ord 1 0 .nil (.ord 2 0 .nil (.ord 3 0 .nil (.ord 4 0 .nil (.ord 5 0 .nil (.ord 6 4287 .nil (.ord 7 4223 .nil (.alt (.ord 8 0 .nil (.ord 9 0 .nil (.ord 10 0 .nil (.ord 11 0 .nil (.ord 12 0 .nil (.ord 13 0 .nil (.ord 14 0 .nil .nil))))))) (.ord 12 0 .nil (.ord 8 0 .nil (.ord 9 0 .nil (.ord 10 0 .nil (.ord 11 0 .nil (.ord 13 0 .nil (.ord 14 0 .nil .nil)))))))))))))))))) .nil))) .nil) .nil)))) .nil))) .nil)))))
noncomputable def ref3Places_con:Con:=⟨[Zt21,Zt57],false,[Zt35,Zt68],(.st Zt35 Zt65),fun x=>qU x.1 x.2.1,none⟩
noncomputable def qkz:Env:=(142,.con movesAfter_con)::(79,.con ref3Result_con)::(159,.ck 197)::(17,.con placeBegin_con)::[]
theorem qq2 (x:DL ref3Places_con.ps):ref3Places_con.φ x=denF Tryz.prog qkz qkw Tryz.f77 ref3Places_con.ps ref3Places_con.one ref3Places_con.res ref3Places_con.ρ x:=by kernel_rfl
theorem qc2:ConOK Tryz.prog 77 ref3Places_con :=
  qc (env:=qkz) ((EnvOK.cons (EnvOK.cons (EnvOK.check (EnvOK.cons (EnvOK.nil _) qe6) qd) qdd) qtf)) mixed Tryz.func77 ref3Places_con qkw (by kernel_rfl) (fun h=>by first | rfl | cases h) (fun g hg=>by cases hg) qq2
def qh6:Ann:=(.two .nil (.two .nil (.two (.two .nil (.joinE ⟨[],[],[]⟩ (.two (.loop ⟨[0,1,12],[(13,Zt68)],[]⟩ .nil) .nil))) .nil)))
noncomputable def ref3SameLine_con:Con:=⟨[Zt57,Zt57],true,[],.bool,fun x=>qf3 x.1 x.2.1,none⟩
noncomputable def qil:Env:=[]
theorem qo1 (x:DL ref3SameLine_con.ps):ref3SameLine_con.φ x=denF Tryz.prog qil qh6 Tryz.f80 ref3SameLine_con.ps ref3SameLine_con.one ref3SameLine_con.res ref3SameLine_con.ρ x:=by kernel_rfl
theorem qpS:ConOK Tryz.prog 80 ref3SameLine_con :=
  qc (env:=qil) ((EnvOK.nil _)) mixed Tryz.func80 ref3SameLine_con qh6 (by kernel_rfl) (fun h=>by first | rfl | cases h) (fun g hg=>by cases hg) qo1
def qpK:Ann := .nil
noncomputable def law3Tic_con:Con:=⟨[],true,[],Zt19,fun x=>qpv,some fun x=>qa⟩
noncomputable def qps:Env:=(159,.ck 197)::[]
theorem qvr (x:DL law3Tic_con.ps):law3Tic_con.φ x=denF Tryz.prog qps qpK Tryz.f38 law3Tic_con.ps law3Tic_con.one law3Tic_con.res law3Tic_con.ρ x:=by kernel_rfl
theorem qsa:ConOK Tryz.prog 38 law3Tic_con :=
  qc (env:=qps) ((EnvOK.check (EnvOK.nil _) qd)) mixed Tryz.func38 law3Tic_con qpK (by kernel_rfl) (fun h=>by first | rfl | cases h) (fun g hg x=>by
    cases hg
    exact qxS ) qvr
def qoe:Ann := .nil
noncomputable def law3Drop_con:Con:=⟨[Zt68],true,[],Zt58,fun x=>qnR x.1,some fun x=>qgb x.1⟩
noncomputable def qoK:Env:=(159,.ck 197)::[]
theorem quv (x:DL law3Drop_con.ps):law3Drop_con.φ x=denF Tryz.prog qoK qoe Tryz.f76 law3Drop_con.ps law3Drop_con.one law3Drop_con.res law3Drop_con.ρ x:=by kernel_rfl
theorem qwn:ConOK Tryz.prog 76 law3Drop_con :=
  qc (env:=qoK) ((EnvOK.check (EnvOK.nil _) qd)) mixed Tryz.func76 law3Drop_con qoe (by kernel_rfl) (fun h=>by first | rfl | cases h) (fun g hg x=>by
    cases hg
    exact qvV _) quv
end Go.Proofs.YtijkabgijfdpfaaGreatDoor

