/- Contracts: Game. No condition of its own. -/
import Derived.Test.YtijkabgijfdpfaaGreatDoorMAA
import Derived.Test.YtijkabgijfdpfaaGreatDoorMAH
import Derived.Test.YtijkabgijfdpfaaGreatDoorMAD
import Derived.Test.YtijkabgijfdpfaaGreatDoorCoreC
namespace Go.Proofs.YtijkabgijfdpfaaGreatDoor
open Go.Den
set_option linter.unusedVariables false
set_option maxRecDepth 100000
def qfW:Ann:=(.two .nil (.two .nil (.two (.two .nil (.join ⟨[],[(3,Zt62)],[]⟩ (.two (.loop ⟨[0,9,10],[(3,Zt62),(11,Zt62)],[]⟩ (.two .nil (.two .nil (.two (.two (.two .nil (.two (.join ⟨[0,3,9,10,11],[(18,.bool)],[]⟩ (.any 3 0 (.ord 1 0 .nil (.alt (.ord 0 0 .nil (.ord 2 0 (.two .nil (.two (.tail 12 .nil) .nil)) (.ord 3 0 .nil .nil))) (.ord 2 0 (.two .nil (.two (.tail 12 .nil) .nil)) (.ord 0 0 .nil (.ord 3 0 .nil .nil))))))) (.join ⟨[0,9,10,11],[(3,Zt62)],[]⟩ .nil))) .nil) .nil)))) .nil))) .nil)))
noncomputable def plainGameCount_con:Con:=⟨[Zt6],true,[],Zt62,fun x=>qcb x.1,none⟩
noncomputable def qge:Env:=(31,.con placeSame_con)::(138,.body Tryz.f138)::(159,.ck 197)::[]
theorem qlM (x:DL plainGameCount_con.ps):plainGameCount_con.φ x=denB Tryz.prog qge qfW Tryz.f140 true plainGameCount_con.ps plainGameCount_con.one plainGameCount_con.res plainGameCount_con.ρ x:=by kernel_rfl
theorem qg6:qsp Tryz.prog 140 plainGameCount_con :=
  qlW (env:=qge) ((EnvOK.cons (EnvOK.body (EnvOK.check (EnvOK.nil _) qb) Tryz.func138) qvo)) mixed Tryz.func140 plainGameCount_con qfW (by kernel_rfl) (fun h=>by first | rfl | cases h) (fun g hg=>by cases hg) qlM
def qe4:Ann:=(.two .nil (.two (.join ⟨[0],[(3,Zt62)],[]⟩ (.any 159 0 (.ord 0 0 .nil (.ord 1 0 .nil (.ord 2 0 .nil (.ord 4 0 .nil (.alt (.ord 3 0 .nil (.ord 5 0 (.two .nil (.two (.tail 12 .nil) .nil)) (.ord 6 0 .nil (.ord 7 0 .nil .nil)))) (.ord 5 0 (.two .nil (.two (.tail 12 .nil) .nil)) (.ord 3 0 .nil (.ord 6 0 .nil (.ord 7 0 .nil .nil))))))))))) .nil))
noncomputable def plainGameResult_con:Con:=⟨[Zt6],true,[],Zt62,fun x=>qS x.1,none⟩
noncomputable def qfq:Env:=(140,.rd plainGameCount_con)::(139,.con endsResult_con)::(159,.ck 197)::(138,.body Tryz.f138)::[]
theorem qk8 (x:DL plainGameResult_con.ps):plainGameResult_con.φ x=denB Tryz.prog qfq qe4 Tryz.f73 true plainGameResult_con.ps plainGameResult_con.one plainGameResult_con.res plainGameResult_con.ρ x:=by kernel_rfl
theorem qbC:qsp Tryz.prog 73 plainGameResult_con :=
  qlW (env:=qfq) ((EnvOK.readonly (EnvOK.cons (EnvOK.check (EnvOK.body (EnvOK.nil _) Tryz.func138) qb) qmW) qg6)) mixed Tryz.func73 plainGameResult_con qe4 (by kernel_rfl) (fun h=>by first | rfl | cases h) (fun g hg=>by cases hg) qk8
def qak:Ann:=(.ord 13 0 .nil (.ord 14 0 .nil (.ord 15 0 .nil (.ord 16 0 .nil (.ord 17 0 .nil .nil)))))
def qaN:Ann:=(.alt (.ord 4 0 .nil (.ord 12 0 .nil qak)) (.ord 12 0 .nil (.ord 4 16367 .nil qak)))
def qbB:Ann:=(.ord 10 0 (.two .nil (.two (.tail 12 .nil) .nil)) (.ord 12 0 .nil qak))
def qK:Ann:=(.ord 8 0 .nil (.ord 9 0 .nil (.ord 10 0 .nil .nil)))
def qfY:Ann:=(.alt (.ord 10 0 (.two .nil (.two (.tail 12 .nil) .nil)) (.ord 11 0 .nil (.ord 12 0 .nil qak))) (.ord 11 0 .nil qbB))
def qgk:Ann:=(.alt (.ord 8 0 .nil qbB) (.ord 10 0 (.two .nil (.two (.tail 12 .nil) .nil)) (.ord 8 0 .nil (.ord 12 0 .nil qak))))
def qhb:Ann:=(.two .nil (.two (.two (.two .nil (.two .nil (.two (.join ⟨[0,3],[(9,.bool)],[]⟩ (.any 1695 0 (.ord 0 0 .nil (.ord 1 0 .nil (.ord 2 0 .nil (.ord 4 0 .nil (.alt (.ord 3 0 .nil (.alt (.ord 5 0 (.two .nil (.two (.tail 12 .nil) .nil)) (.alt (.ord 6 0 .nil (.ord 7 0 .nil qK)) (.ord 7 0 .nil (.ord 6 0 .nil qK)))) (.ord 7 0 .nil (.ord 5 0 (.two .nil (.two (.tail 12 .nil) .nil)) (.ord 6 0 .nil qK))))) (.alt (.ord 5 0 (.two .nil (.two (.tail 12 .nil) .nil)) (.ord 3 183 .nil (.alt (.ord 6 0 .nil (.ord 7 0 .nil qK)) (.ord 7 0 .nil (.ord 6 0 .nil qK))))) (.ord 7 0 .nil (.alt (.ord 3 0 .nil (.ord 5 0 (.two .nil (.two (.tail 12 .nil) .nil)) (.ord 6 0 .nil qK))) (.ord 5 0 (.two .nil (.two (.tail 12 .nil) .nil)) (.ord 3 0 .nil (.ord 6 0 .nil qK))))))))))))) .nil))) .nil) (.two (.join ⟨[0,3],[],[(0,some (.box Zt7)),(1,none),(2,none)]⟩ (.any 101375 8192 (.ord 0 0 .nil (.ord 1 0 .nil (.ord 2 0 .nil (.ord 3 0 .nil (.ord 5 0 .nil (.ord 6 0 .nil (.ord 7 0 .nil (.ord 9 0 .nil (.alt (.ord 4 0 .nil (.alt (.ord 8 0 .nil qfY) (.alt (.ord 10 0 (.two .nil (.two (.tail 12 .nil) .nil)) (.ord 8 3839 .nil (.ord 11 0 .nil (.ord 12 0 .nil qak)))) (.ord 11 0 .nil qgk)))) (.alt (.ord 8 0 .nil (.alt (.ord 4 0 .nil qfY) (.alt (.ord 10 0 (.two .nil (.two (.tail 12 .nil) .nil)) (.ord 11 2047 .nil qaN)) (.ord 11 0 .nil (.alt (.ord 4 0 .nil qbB) (.ord 10 0 (.two .nil (.two (.tail 12 .nil) .nil)) qaN)))))) (.alt (.ord 10 0 (.two .nil (.two (.tail 12 .nil) .nil)) (.ord 8 3839 .nil (.ord 11 2047 .nil qaN))) (.ord 11 0 .nil (.alt (.ord 4 0 .nil qgk) (.alt (.ord 8 0 .nil (.alt (.ord 4 0 .nil qbB) (.ord 10 0 (.two .nil (.two (.tail 12 .nil) .nil)) qaN))) (.ord 10 0 (.two .nil (.two (.tail 12 .nil) .nil)) (.ord 8 3839 .nil qaN)))))))))))))))))) (.two (.any 831 64 (.ord 0 0 .nil (.ord 1 0 .nil (.ord 2 0 .nil (.ord 3 0 .nil (.ord 4 111 .nil (.ord 5 0 .nil (.ord 6 0 .nil (.ord 7 0 .nil qK))))))))) .nil))))
noncomputable def plainGamePlay_con:Ioc:=⟨Zt4,[Zt51],true,[],Zt62,fun x=>qb0 x.1 x.2.1⟩
noncomputable def qgZ:Env:=(63,.con movesMake_con)::(98,.con slicesContains_Move_con)::(137,.con movesList_con)::(159,.ck 197)::(138,.body Tryz.f138)::(73,.rd plainGameResult_con)::[]
theorem qnF (x:DL (Zt4::[Zt51])):plainGamePlay_con.φ x=denIO Tryz.prog qgZ qhb Tryz.f71 Zt4 [Zt51] true [] Zt62 x:=by kernel_rfl
theorem qhV:IocOK Tryz.prog 71 plainGamePlay_con :=
  qau (env:=qgZ) ((EnvOK.cons (EnvOK.cons (EnvOK.cons (EnvOK.check (EnvOK.body (EnvOK.readonly (EnvOK.nil _) qbC) Tryz.func138) qb) qdZ) qaB) qgj)) mixed Tryz.func71 plainGamePlay_con qhb (by kernel_rfl) (fun h=>by first | rfl | cases h) qnF
def qek:Ann:=(.two .nil (.two (.two (.two .nil (.two (.tail 12 .nil) .nil)) .nil) .nil))
noncomputable def plainGamePosition_con:Con:=⟨[Zt6],true,[],Zt27,fun x=>qk x.1,none⟩
noncomputable def qel:Env:=(138,.body Tryz.f138)::(126,.con placeCopy_con)::(159,.ck 197)::[]
theorem qiO (x:DL plainGamePosition_con.ps):plainGamePosition_con.φ x=denB Tryz.prog qel qek Tryz.f72 true plainGamePosition_con.ps plainGamePosition_con.one plainGamePosition_con.res plainGamePosition_con.ρ x:=by kernel_rfl
theorem qV:qsp Tryz.prog 72 plainGamePosition_con :=
  qlW (env:=qel) ((EnvOK.body (EnvOK.cons (EnvOK.check (EnvOK.nil _) qb) qoc) Tryz.func138)) mixed Tryz.func72 plainGamePosition_con qek (by kernel_rfl) (fun h=>by first | rfl | cases h) (fun g hg=>by cases hg) qiO
def qoL:Ann:=(.two .nil (.two (.two (.two .nil (.two .nil (.two .nil (.two (.frz [3,4,5] (.join ⟨[],[(2,Zt3),(3,Zt62)],[]⟩ (.any 213 40 (.ord 0 12 .nil (.alt (.ord 1 0 .nil (.ord 2 0 .nil (.ord 3 0 .nil (.ord 4 0 .nil (.ord 5 0 .nil (.ord 6 0 .nil (.ord 7 0 .nil .nil))))))) (.ord 2 0 .nil (.alt (.ord 1 0 .nil (.ord 3 0 .nil (.ord 4 0 .nil (.ord 5 0 .nil (.ord 6 0 .nil (.ord 7 0 .nil .nil)))))) (.ord 3 0 .nil (.ord 1 0 .nil (.ord 4 0 .nil (.ord 5 0 .nil (.ord 6 0 .nil (.ord 7 0 .nil .nil))))))))))))) .nil)))) .nil) (.sel 7 1000013 (.two .nil (.two (.two .nil (.joinE ⟨[4,7],[],[(1,some (.box Zt30)),(7,some (.box Zt7)),(8,none),(9,none)]⟩ (.two (.loop ⟨[4,7,21,22],[(23,Zt62)],[(1,some (.box Zt30)),(7,some (.box Zt7)),(8,none),(9,none)]⟩ .nil) .nil))) .nil)) (.two .nil (.two (.two .nil (.joinE ⟨[4,7],[],[]⟩ (.two (.loop ⟨[4,7,21,22],[(23,Zt62)],[]⟩ .nil) .nil))) .nil)))))
noncomputable def plainRun_con:Con:=⟨[Zt12,Zt50],false,[Zt27,Zt62,Zt62],(.st Zt27 Zt54),fun x=>qW x.1 x.2.1,none⟩
noncomputable def qoh:Env:=(73,.rd plainGameResult_con)::(72,.rd plainGamePosition_con)::(71,.io plainGamePlay_con)::(45,.con rulesCopy_con)::(17,.con placeBegin_con)::(43,.body Tryz.f43)::(159,.ck 197)::[]
theorem quM (x:DL plainRun_con.ps):plainRun_con.φ x=denF Tryz.prog qoh qoL Tryz.f20 plainRun_con.ps plainRun_con.one plainRun_con.res plainRun_con.ρ x:=by kernel_rfl
theorem qhR:ConOK Tryz.prog 20 plainRun_con :=
  qa (env:=qoh) ((EnvOK.readonly (EnvOK.readonly (EnvOK.inout (EnvOK.cons (EnvOK.cons (EnvOK.body (EnvOK.check (EnvOK.nil _) qb) Tryz.func43) qbY) qoR) qhV) qV) qbC)) mixed Tryz.func20 plainRun_con qoL (by kernel_rfl) (fun h=>by first | rfl | cases h) (fun g hg=>by cases hg) quM
end Go.Proofs.YtijkabgijfdpfaaGreatDoor

