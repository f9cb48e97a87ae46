/- Contracts: Game. No condition of its own. -/
import Derived.Test.YtijkabgijfdpfaaGreatDoorMAA
import Derived.Test.YtijkabgijfdpfaaGreatDoorMAH
import Derived.Test.YtijkabgijfdpfaaGreatDoorMAD
import Derived.Test.YtijkabgijfdpfaaGreatDoorCoreC
namespace Go.Proofs.YtijkabgijfdpfaaGreatDoor
open Go.Den
set_option linter.unusedVariables false
set_option maxRecDepth 100000
def qe5 : Ann := (.two .nil (.two .nil (.two (.two .nil (.join ⟨[], [(3, Zt56)], []⟩ (.two (.loop ⟨[0, 9, 10], [(3, Zt56), (11, Zt56)], []⟩ (.two .nil (.two .nil (.two (.two (.two .nil (.two (.join ⟨[0, 3, 9, 10, 11], [(18, .bool)], []⟩ (.any 3 0 (.ord 1 0 .nil (.alt (.ord 0 0 .nil (.ord 2 0 (.two .nil (.two (.tail 12 .nil) .nil)) (.ord 3 0 .nil .nil))) (.ord 2 0 (.two .nil (.two (.tail 12 .nil) .nil)) (.ord 0 0 .nil (.ord 3 0 .nil .nil))))))) (.join ⟨[0, 9, 10, 11], [(3, Zt56)], []⟩ .nil))) .nil) .nil)))) .nil))) .nil)))
noncomputable def plainGameCount_con : Con := ⟨[Zt6], true, [], Zt56, fun x => qb4 x.1, none⟩
noncomputable def qe3 : Env := (31, .con placeSame_con) :: (138, .body Tryz.f138) :: (159, .ck 197) :: []
theorem qlV (x : DL plainGameCount_con.ps) : plainGameCount_con.φ x = denB Tryz.prog qe3 qe5 Tryz.f140 true plainGameCount_con.ps plainGameCount_con.one plainGameCount_con.res plainGameCount_con.ρ x := by kernel_rfl
theorem qf7 : qpW Tryz.prog 140 plainGameCount_con :=
  qlw (env := qe3) ((EnvOK.cons (EnvOK.body (EnvOK.check (EnvOK.nil _) qb) Tryz.func138) qti)) mixed Tryz.func140 plainGameCount_con qe5 (by kernel_rfl) (fun h => by first | rfl | cases h) (fun g hg => by cases hg) qlV
def qeL : Ann := (.two .nil (.two (.join ⟨[0], [(3, Zt56)], []⟩ (.any 159 0 (.ord 0 0 .nil (.ord 1 0 .nil (.ord 2 0 .nil (.ord 4 0 .nil (.alt (.ord 3 0 .nil (.ord 5 0 (.two .nil (.two (.tail 12 .nil) .nil)) (.ord 6 0 .nil (.ord 7 0 .nil .nil)))) (.ord 5 0 (.two .nil (.two (.tail 12 .nil) .nil)) (.ord 3 0 .nil (.ord 6 0 .nil (.ord 7 0 .nil .nil))))))))))) .nil))
noncomputable def plainGameResult_con : Con := ⟨[Zt6], true, [], Zt56, fun x => qN x.1, none⟩
noncomputable def qeY : Env := (140, .rd plainGameCount_con) :: (139, .con endsResult_con) :: (159, .ck 197) :: (138, .body Tryz.f138) :: []
theorem qkk (x : DL plainGameResult_con.ps) : plainGameResult_con.φ x = denB Tryz.prog qeY qeL Tryz.f73 true plainGameResult_con.ps plainGameResult_con.one plainGameResult_con.res plainGameResult_con.ρ x := by kernel_rfl
theorem qbu : qpW Tryz.prog 73 plainGameResult_con :=
  qlw (env := qeY) ((EnvOK.readonly (EnvOK.cons (EnvOK.check (EnvOK.body (EnvOK.nil _) Tryz.func138) qb) qle) qf7)) mixed Tryz.func73 plainGameResult_con qeL (by kernel_rfl) (fun h => by first | rfl | cases h) (fun g hg => by cases hg) qkk
def qac : Ann := (.ord 13 0 .nil (.ord 14 0 .nil (.ord 15 0 .nil (.ord 16 0 .nil (.ord 17 0 .nil .nil)))))
def qaC : Ann := (.alt (.ord 4 0 .nil (.ord 12 0 .nil qac)) (.ord 12 0 .nil (.ord 4 16367 .nil qac)))
def qbr : Ann := (.ord 10 0 (.two .nil (.two (.tail 12 .nil) .nil)) (.ord 12 0 .nil qac))
def qG : Ann := (.ord 8 0 .nil (.ord 9 0 .nil (.ord 10 0 .nil .nil)))
def qfe : Ann := (.alt (.ord 10 0 (.two .nil (.two (.tail 12 .nil) .nil)) (.ord 11 0 .nil (.ord 12 0 .nil qac))) (.ord 11 0 .nil qbr))
def qfH : Ann := (.alt (.ord 8 0 .nil qbr) (.ord 10 0 (.two .nil (.two (.tail 12 .nil) .nil)) (.ord 8 0 .nil (.ord 12 0 .nil qac))))
def qgq : Ann := (.two .nil (.two (.two (.two .nil (.two .nil (.two (.join ⟨[0, 3], [(9, .bool)], []⟩ (.any 1695 0 (.ord 0 0 .nil (.ord 1 0 .nil (.ord 2 0 .nil (.ord 4 0 .nil (.alt (.ord 3 0 .nil (.alt (.ord 5 0 (.two .nil (.two (.tail 12 .nil) .nil)) (.alt (.ord 6 0 .nil (.ord 7 0 .nil qG)) (.ord 7 0 .nil (.ord 6 0 .nil qG)))) (.ord 7 0 .nil (.ord 5 0 (.two .nil (.two (.tail 12 .nil) .nil)) (.ord 6 0 .nil qG))))) (.alt (.ord 5 0 (.two .nil (.two (.tail 12 .nil) .nil)) (.ord 3 183 .nil (.alt (.ord 6 0 .nil (.ord 7 0 .nil qG)) (.ord 7 0 .nil (.ord 6 0 .nil qG))))) (.ord 7 0 .nil (.alt (.ord 3 0 .nil (.ord 5 0 (.two .nil (.two (.tail 12 .nil) .nil)) (.ord 6 0 .nil qG))) (.ord 5 0 (.two .nil (.two (.tail 12 .nil) .nil)) (.ord 3 0 .nil (.ord 6 0 .nil qG))))))))))))) .nil))) .nil) (.two (.join ⟨[0, 3], [], [(0, some (.box Zt7)), (1, none), (2, none)]⟩ (.any 101375 8192 (.ord 0 0 .nil (.ord 1 0 .nil (.ord 2 0 .nil (.ord 3 0 .nil (.ord 5 0 .nil (.ord 6 0 .nil (.ord 7 0 .nil (.ord 9 0 .nil (.alt (.ord 4 0 .nil (.alt (.ord 8 0 .nil qfe) (.alt (.ord 10 0 (.two .nil (.two (.tail 12 .nil) .nil)) (.ord 8 3839 .nil (.ord 11 0 .nil (.ord 12 0 .nil qac)))) (.ord 11 0 .nil qfH)))) (.alt (.ord 8 0 .nil (.alt (.ord 4 0 .nil qfe) (.alt (.ord 10 0 (.two .nil (.two (.tail 12 .nil) .nil)) (.ord 11 2047 .nil qaC)) (.ord 11 0 .nil (.alt (.ord 4 0 .nil qbr) (.ord 10 0 (.two .nil (.two (.tail 12 .nil) .nil)) qaC)))))) (.alt (.ord 10 0 (.two .nil (.two (.tail 12 .nil) .nil)) (.ord 8 3839 .nil (.ord 11 2047 .nil qaC))) (.ord 11 0 .nil (.alt (.ord 4 0 .nil qfH) (.alt (.ord 8 0 .nil (.alt (.ord 4 0 .nil qbr) (.ord 10 0 (.two .nil (.two (.tail 12 .nil) .nil)) qaC))) (.ord 10 0 (.two .nil (.two (.tail 12 .nil) .nil)) (.ord 8 3839 .nil qaC)))))))))))))))))) (.two (.any 831 64 (.ord 0 0 .nil (.ord 1 0 .nil (.ord 2 0 .nil (.ord 3 0 .nil (.ord 4 111 .nil (.ord 5 0 .nil (.ord 6 0 .nil (.ord 7 0 .nil qG))))))))) .nil))))
noncomputable def plainGamePlay_con : Ioc := ⟨Zt4, [Zt45], true, [], Zt56, fun x => qbT x.1 x.2.1⟩
noncomputable def qgk : Env := (63, .con movesMake_con) :: (98, .con slicesContains_Move_con) :: (137, .con movesList_con) :: (159, .ck 197) :: (138, .body Tryz.f138) :: (73, .rd plainGameResult_con) :: []
theorem qmy (x : DL (Zt4 :: [Zt45])) : plainGamePlay_con.φ x = denIO Tryz.prog qgk qgq Tryz.f71 Zt4 [Zt45] true [] Zt56 x := by kernel_rfl
theorem qhq : IocOK Tryz.prog 71 plainGamePlay_con :=
  qap (env := qgk) ((EnvOK.cons (EnvOK.cons (EnvOK.cons (EnvOK.check (EnvOK.body (EnvOK.readonly (EnvOK.nil _) qbu) Tryz.func138) qb) qfM) qbh) qmQ)) mixed Tryz.func71 plainGamePlay_con qgq (by kernel_rfl) (fun h => by first | rfl | cases h) qmy
def qdS : Ann := (.two .nil (.two (.two (.two .nil (.two (.tail 12 .nil) .nil)) .nil) .nil))
noncomputable def plainGamePosition_con : Con := ⟨[Zt6], true, [], Zt26, fun x => qk x.1, none⟩
noncomputable def qdP : Env := (138, .body Tryz.f138) :: (126, .con placeCopy_con) :: (159, .ck 197) :: []
theorem qhJ (x : DL plainGamePosition_con.ps) : plainGamePosition_con.φ x = denB Tryz.prog qdP qdS Tryz.f72 true plainGamePosition_con.ps plainGamePosition_con.one plainGamePosition_con.res plainGamePosition_con.ρ x := by kernel_rfl
theorem qP : qpW Tryz.prog 72 plainGamePosition_con :=
  qlw (env := qdP) ((EnvOK.body (EnvOK.cons (EnvOK.check (EnvOK.nil _) qb) qnf) Tryz.func138)) mixed Tryz.func72 plainGamePosition_con qdS (by kernel_rfl) (fun h => by first | rfl | cases h) (fun g hg => by cases hg) qhJ
def qm4 : Ann := (.two .nil (.two (.two (.two .nil (.two .nil (.two .nil (.two (.frz [3, 4, 5] (.join ⟨[], [(2, Zt3), (3, Zt56)], []⟩ (.any 213 40 (.ord 0 12 .nil (.alt (.ord 1 0 .nil (.ord 2 0 .nil (.ord 3 0 .nil (.ord 4 0 .nil (.ord 5 0 .nil (.ord 6 0 .nil (.ord 7 0 .nil .nil))))))) (.ord 2 0 .nil (.alt (.ord 1 0 .nil (.ord 3 0 .nil (.ord 4 0 .nil (.ord 5 0 .nil (.ord 6 0 .nil (.ord 7 0 .nil .nil)))))) (.ord 3 0 .nil (.ord 1 0 .nil (.ord 4 0 .nil (.ord 5 0 .nil (.ord 6 0 .nil (.ord 7 0 .nil .nil))))))))))))) .nil)))) .nil) (.sel 7 1000013 (.two .nil (.two (.two .nil (.joinE ⟨[4, 7], [], [(1, some (.box Zt29)), (7, some (.box Zt7)), (8, none), (9, none)]⟩ (.two (.loop ⟨[4, 7, 21, 22], [(23, Zt56)], [(1, some (.box Zt29)), (7, some (.box Zt7)), (8, none), (9, none)]⟩ .nil) .nil))) .nil)) (.two .nil (.two (.two .nil (.joinE ⟨[4, 7], [], []⟩ (.two (.loop ⟨[4, 7, 21, 22], [(23, Zt56)], []⟩ .nil) .nil))) .nil)))))
noncomputable def plainRun_con : Con := ⟨[Zt12, Zt44], false, [Zt26, Zt56, Zt56], (.st Zt26 Zt48), fun x => qay x.1 x.2.1, none⟩
noncomputable def qnn : Env := (73, .rd plainGameResult_con) :: (72, .rd plainGamePosition_con) :: (71, .io plainGamePlay_con) :: (45, .con rulesCopy_con) :: (17, .con placeBegin_con) :: (43, .body Tryz.f43) :: (159, .ck 197) :: []
theorem qsr (x : DL plainRun_con.ps) : plainRun_con.φ x = denF Tryz.prog qnn qm4 Tryz.f20 plainRun_con.ps plainRun_con.one plainRun_con.res plainRun_con.ρ x := by kernel_rfl
theorem qtO : ConOK Tryz.prog 20 plainRun_con :=
  qa (env := qnn) ((EnvOK.readonly (EnvOK.readonly (EnvOK.inout (EnvOK.cons (EnvOK.cons (EnvOK.body (EnvOK.check (EnvOK.nil _) qb) Tryz.func43) qeg) qiy) qhq) qP) qbu)) mixed Tryz.func20 plainRun_con qm4 (by kernel_rfl) (fun h => by first | rfl | cases h) (fun g hg => by cases hg) qsr
end Go.Proofs.YtijkabgijfdpfaaGreatDoor

