/- Contracts: Game. No condition of its own. -/
import Derived.Test.YtijkabgijfdpfaaGreatDoorMAA
import Derived.Test.YtijkabgijfdpfaaGreatDoorMAH
import Derived.Test.YtijkabgijfdpfaaGreatDoorMAD
import Derived.Test.YtijkabgijfdpfaaGreatDoorCoreC
namespace Go.Proofs.YtijkabgijfdpfaaGreatDoor
open Go.Den
set_option linter.unusedVariables false
set_option maxRecDepth 100000
def qfe : Ann := (.two .nil (.two .nil (.two (.two .nil (.join ⟨[], [(3, Zt64)], []⟩ (.two (.loop ⟨[0, 9, 10], [(3, Zt64), (11, Zt64)], []⟩ (.two .nil (.two .nil (.two (.two (.two .nil (.two (.join ⟨[0, 3, 9, 10, 11], [(18, .bool)], []⟩ (.any 3 0 (.ord 1 0 .nil (.alt (.ord 0 0 .nil (.ord 2 0 (.two .nil (.two (.tail 12 .nil) .nil)) (.ord 3 0 .nil .nil))) (.ord 2 0 (.two .nil (.two (.tail 12 .nil) .nil)) (.ord 0 0 .nil (.ord 3 0 .nil .nil))))))) (.join ⟨[0, 9, 10, 11], [(3, Zt64)], []⟩ .nil))) .nil) .nil)))) .nil))) .nil)))
noncomputable def plainGameCount_con : Con := ⟨[Zt10], true, [], Zt64, fun x => qb8 x.1, none⟩
noncomputable def qfY : Env := (31, .con placeSame_con) :: (138, .body Tryz.f138) :: (159, .ck 197) :: []
theorem qk3 (x : DL plainGameCount_con.ps) : plainGameCount_con.φ x = denB Tryz.prog qfY qfe Tryz.f140 true plainGameCount_con.ps plainGameCount_con.one plainGameCount_con.res plainGameCount_con.ρ x := by kernel_rfl
theorem qgd : qq2 Tryz.prog 140 plainGameCount_con :=
  qkP (env := qfY) ((EnvOK.cons (EnvOK.body (EnvOK.check (EnvOK.nil _) qc) Tryz.func138) qh3)) mixed Tryz.func140 plainGameCount_con qfe (by kernel_rfl) (fun h => by first | rfl | cases h) (fun g hg => by cases hg) qk3
def qe2 : Ann := (.two .nil (.two (.join ⟨[0], [(3, Zt64)], []⟩ (.any 159 0 (.ord 0 0 .nil (.ord 1 0 .nil (.ord 2 0 .nil (.ord 4 0 .nil (.alt (.ord 3 0 .nil (.ord 5 0 (.two .nil (.two (.tail 12 .nil) .nil)) (.ord 6 0 .nil (.ord 7 0 .nil .nil)))) (.ord 5 0 (.two .nil (.two (.tail 12 .nil) .nil)) (.ord 3 0 .nil (.ord 6 0 .nil (.ord 7 0 .nil .nil))))))))))) .nil))
noncomputable def plainGameResult_con : Con := ⟨[Zt10], true, [], Zt64, fun x => qaz x.1, none⟩
noncomputable def qe6 : Env := (140, .rd plainGameCount_con) :: (139, .con endsResult_con) :: (159, .ck 197) :: (138, .body Tryz.f138) :: []
theorem qj5 (x : DL plainGameResult_con.ps) : plainGameResult_con.φ x = denB Tryz.prog qe6 qe2 Tryz.f73 true plainGameResult_con.ps plainGameResult_con.one plainGameResult_con.res plainGameResult_con.ρ x := by kernel_rfl
theorem qcL : qq2 Tryz.prog 73 plainGameResult_con :=
  qkP (env := qe6) ((EnvOK.readonly (EnvOK.cons (EnvOK.check (EnvOK.body (EnvOK.nil _) Tryz.func138) qc) qgL) qgd)) mixed Tryz.func73 plainGameResult_con qe2 (by kernel_rfl) (fun h => by first | rfl | cases h) (fun g hg => by cases hg) qj5
def qai : Ann := (.ord 13 0 .nil (.ord 14 0 .nil (.ord 15 0 .nil (.ord 16 0 .nil (.ord 17 0 .nil .nil)))))
def qaL : Ann := (.alt (.ord 4 0 .nil (.ord 12 0 .nil qai)) (.ord 12 0 .nil (.ord 4 16367 .nil qai)))
def qbC : Ann := (.ord 10 0 (.two .nil (.two (.tail 12 .nil) .nil)) (.ord 12 0 .nil qai))
def qM : Ann := (.ord 8 0 .nil (.ord 9 0 .nil (.ord 10 0 .nil .nil)))
def qfG : Ann := (.alt (.ord 10 0 (.two .nil (.two (.tail 12 .nil) .nil)) (.ord 11 0 .nil (.ord 12 0 .nil qai))) (.ord 11 0 .nil qbC))
def qfr : Ann := (.alt (.ord 8 0 .nil qbC) (.ord 10 0 (.two .nil (.two (.tail 12 .nil) .nil)) (.ord 8 0 .nil (.ord 12 0 .nil qai))))
def qgq : Ann := (.two .nil (.two (.two (.two .nil (.two .nil (.two (.join ⟨[0, 3], [(9, .bool)], []⟩ (.any 1695 0 (.ord 0 0 .nil (.ord 1 0 .nil (.ord 2 0 .nil (.ord 4 0 .nil (.alt (.ord 3 0 .nil (.alt (.ord 5 0 (.two .nil (.two (.tail 12 .nil) .nil)) (.alt (.ord 6 0 .nil (.ord 7 0 .nil qM)) (.ord 7 0 .nil (.ord 6 0 .nil qM)))) (.ord 7 0 .nil (.ord 5 0 (.two .nil (.two (.tail 12 .nil) .nil)) (.ord 6 0 .nil qM))))) (.alt (.ord 5 0 (.two .nil (.two (.tail 12 .nil) .nil)) (.ord 3 183 .nil (.alt (.ord 6 0 .nil (.ord 7 0 .nil qM)) (.ord 7 0 .nil (.ord 6 0 .nil qM))))) (.ord 7 0 .nil (.alt (.ord 3 0 .nil (.ord 5 0 (.two .nil (.two (.tail 12 .nil) .nil)) (.ord 6 0 .nil qM))) (.ord 5 0 (.two .nil (.two (.tail 12 .nil) .nil)) (.ord 3 0 .nil (.ord 6 0 .nil qM))))))))))))) .nil))) .nil) (.two (.join ⟨[0, 3], [], [(0, some (.box Zt11)), (1, none), (2, none)]⟩ (.any 101375 8192 (.ord 0 0 .nil (.ord 1 0 .nil (.ord 2 0 .nil (.ord 3 0 .nil (.ord 5 0 .nil (.ord 6 0 .nil (.ord 7 0 .nil (.ord 9 0 .nil (.alt (.ord 4 0 .nil (.alt (.ord 8 0 .nil qfG) (.alt (.ord 10 0 (.two .nil (.two (.tail 12 .nil) .nil)) (.ord 8 3839 .nil (.ord 11 0 .nil (.ord 12 0 .nil qai)))) (.ord 11 0 .nil qfr)))) (.alt (.ord 8 0 .nil (.alt (.ord 4 0 .nil qfG) (.alt (.ord 10 0 (.two .nil (.two (.tail 12 .nil) .nil)) (.ord 11 2047 .nil qaL)) (.ord 11 0 .nil (.alt (.ord 4 0 .nil qbC) (.ord 10 0 (.two .nil (.two (.tail 12 .nil) .nil)) qaL)))))) (.alt (.ord 10 0 (.two .nil (.two (.tail 12 .nil) .nil)) (.ord 8 3839 .nil (.ord 11 2047 .nil qaL))) (.ord 11 0 .nil (.alt (.ord 4 0 .nil qfr) (.alt (.ord 8 0 .nil (.alt (.ord 4 0 .nil qbC) (.ord 10 0 (.two .nil (.two (.tail 12 .nil) .nil)) qaL))) (.ord 10 0 (.two .nil (.two (.tail 12 .nil) .nil)) (.ord 8 3839 .nil qaL)))))))))))))))))) (.two (.any 831 64 (.ord 0 0 .nil (.ord 1 0 .nil (.ord 2 0 .nil (.ord 3 0 .nil (.ord 4 111 .nil (.ord 5 0 .nil (.ord 6 0 .nil (.ord 7 0 .nil qM))))))))) .nil))))
noncomputable def plainGamePlay_con : Ioc := ⟨Zt9, [Zt54], true, [], Zt64, fun x => qew x.1 x.2.1⟩
noncomputable def qgs : Env := (63, .con movesMake_con) :: (98, .con slicesContains_Move_con) :: (137, .con movesList_con) :: (159, .ck 197) :: (138, .body Tryz.f138) :: (73, .rd plainGameResult_con) :: []
theorem qmV (x : DL (Zt9 :: [Zt54])) : plainGamePlay_con.φ x = denIO Tryz.prog qgs qgq Tryz.f71 Zt9 [Zt54] true [] Zt64 x := by kernel_rfl
theorem qnX : IocOK Tryz.prog 71 plainGamePlay_con :=
  qT (env := qgs) ((EnvOK.cons (EnvOK.cons (EnvOK.cons (EnvOK.check (EnvOK.body (EnvOK.readonly (EnvOK.nil _) qcL) Tryz.func138) qc) qfn) qaE) qnJ)) mixed Tryz.func71 plainGamePlay_con qgq (by kernel_rfl) (fun h => by first | rfl | cases h) qmV
def qdO : Ann := (.two .nil (.two (.two (.two .nil (.two (.tail 12 .nil) .nil)) .nil) .nil))
noncomputable def plainGamePosition_con : Con := ⟨[Zt10], true, [], Zt32, fun x => ql x.1, none⟩
noncomputable def qd8 : Env := (138, .body Tryz.f138) :: (126, .con placeCopy_con) :: (159, .ck 197) :: []
theorem qhT (x : DL plainGamePosition_con.ps) : plainGamePosition_con.φ x = denB Tryz.prog qd8 qdO Tryz.f72 true plainGamePosition_con.ps plainGamePosition_con.one plainGamePosition_con.res plainGamePosition_con.ρ x := by kernel_rfl
theorem qX : qq2 Tryz.prog 72 plainGamePosition_con :=
  qkP (env := qd8) ((EnvOK.body (EnvOK.cons (EnvOK.check (EnvOK.nil _) qc) qnl) Tryz.func138)) mixed Tryz.func72 plainGamePosition_con qdO (by kernel_rfl) (fun h => by first | rfl | cases h) (fun g hg => by cases hg) qhT
def qlu : Ann := (.two .nil (.two .nil (.two (.two .nil (.join ⟨[], [(3, Zt64)], []⟩ (.two (.loop ⟨[0, 6, 7], [(3, Zt64), (8, Zt64)], []⟩ (.two .nil (.two .nil (.two (.two (.two .nil (.two .nil (.join ⟨[0, 6, 7, 8], [(3, Zt64)], []⟩ .nil))) .nil) .nil)))) .nil))) .nil)))
noncomputable def ref3Times_con : Con := ⟨[Zt34], true, [], Zt64, fun x => qiw x.1, none⟩
noncomputable def qlS : Env := (31, .con placeSame_con) :: (159, .ck 197) :: []
theorem qsk (x : DL ref3Times_con.ps) : ref3Times_con.φ x = denF Tryz.prog qlS qlu Tryz.f144 ref3Times_con.ps ref3Times_con.one ref3Times_con.res ref3Times_con.ρ x := by kernel_rfl
theorem qns : ConOK Tryz.prog 144 ref3Times_con :=
  qa (env := qlS) ((EnvOK.cons (EnvOK.check (EnvOK.nil _) qc) qh3)) mixed Tryz.func144 ref3Times_con qlu (by kernel_rfl) (fun h => by first | rfl | cases h) (fun g hg => by cases hg) qsk
def qjN : Ann := .nil
noncomputable def ref3Result_con : Con := ⟨[Zt17, Zt34], true, [], Zt64, fun x => qK x.1 x.2.1, none⟩
noncomputable def qjI : Env := (144, .con ref3Times_con) :: (143, .con endsOf_con) :: []
theorem qpV (x : DL ref3Result_con.ps) : ref3Result_con.φ x = denF Tryz.prog qjI qjN Tryz.f79 ref3Result_con.ps ref3Result_con.one ref3Result_con.res ref3Result_con.ρ x := by kernel_rfl
theorem qc5 : ConOK Tryz.prog 79 ref3Result_con :=
  qa (env := qjI) ((EnvOK.cons (EnvOK.cons (EnvOK.nil _) endsOf_ok) qns)) mixed Tryz.func79 ref3Result_con qjN (by kernel_rfl) (fun h => by first | rfl | cases h) (fun g hg => by cases hg) qpV
def qjj : Ann := (.two .nil (.two .nil (.two .nil (.two .nil (.two (.two .nil (.joinE ⟨[], [(8, Zt31)], [(5, none)]⟩ (.two (.loop ⟨[2, 23, 24], [(8, Zt31), (25, Zt64)], [(5, none)]⟩ (.two .nil (.two .nil (.two (.two (.two .nil (.two .nil (.two (.join ⟨[2, 8, 23, 24, 25], [(11, (.obx Zt32)), (12, Zt64)], []⟩ (.any 20223 4096 (.ord 0 4350 .nil (.ord 1 0 .nil (.ord 2 0 .nil (.ord 3 0 .nil (.ord 4 0 .nil (.ord 5 0 .nil (.ord 6 4287 .nil (.ord 7 4223 .nil (.alt (.ord 8 0 .nil (.ord 9 0 .nil (.ord 10 0 .nil (.ord 11 0 .nil (.ord 12 0 .nil (.ord 13 0 .nil (.ord 14 0 .nil .nil))))))) (.ord 12 0 .nil (.ord 8 0 .nil (.ord 9 0 .nil (.ord 10 0 .nil (.ord 11 0 .nil (.ord 13 0 .nil (.ord 14 0 .nil .nil)))))))))))))))))) .nil))) .nil) .nil)))) .nil))) .nil)))))
noncomputable def ref3Places_con : Con := ⟨[Zt17, Zt53], false, [Zt31, Zt64], (.st Zt31 Zt61), fun x => qF x.1 x.2.1, none⟩
noncomputable def qjY : Env := (142, .con movesAfter_con) :: (79, .con ref3Result_con) :: (159, .ck 197) :: (17, .con placeBegin_con) :: []
theorem qpO (x : DL ref3Places_con.ps) : ref3Places_con.φ x = denF Tryz.prog qjY qjj Tryz.f77 ref3Places_con.ps ref3Places_con.one ref3Places_con.res ref3Places_con.ρ x := by kernel_rfl
theorem qc9 : ConOK Tryz.prog 77 ref3Places_con :=
  qa (env := qjY) ((EnvOK.cons (EnvOK.cons (EnvOK.check (EnvOK.cons (EnvOK.nil _) qgB) qc) qc5) qsB)) mixed Tryz.func77 ref3Places_con qjj (by kernel_rfl) (fun h => by first | rfl | cases h) (fun g hg => by cases hg) qpO
def qha : Ann := (.two .nil (.two .nil (.two (.two .nil (.joinE ⟨[], [], []⟩ (.two (.loop ⟨[0, 1, 12], [(13, Zt64)], []⟩ .nil) .nil))) .nil)))
noncomputable def ref3SameLine_con : Con := ⟨[Zt53, Zt53], true, [], .bool, fun x => qfo x.1 x.2.1, none⟩
noncomputable def qhi : Env := []
theorem qn0 (x : DL ref3SameLine_con.ps) : ref3SameLine_con.φ x = denF Tryz.prog qhi qha Tryz.f80 ref3SameLine_con.ps ref3SameLine_con.one ref3SameLine_con.res ref3SameLine_con.ρ x := by kernel_rfl
theorem qoM : ConOK Tryz.prog 80 ref3SameLine_con :=
  qa (env := qhi) ((EnvOK.nil _)) mixed Tryz.func80 ref3SameLine_con qha (by kernel_rfl) (fun h => by first | rfl | cases h) (fun g hg => by cases hg) qn0
def qoB : Ann := .nil
noncomputable def law3Tic_con : Con := ⟨[], true, [], Zt15, fun x => qpD, some fun x => qj⟩
noncomputable def qpb : Env := (159, .ck 197) :: []
theorem qun (x : DL law3Tic_con.ps) : law3Tic_con.φ x = denF Tryz.prog qpb qoB Tryz.f38 law3Tic_con.ps law3Tic_con.one law3Tic_con.res law3Tic_con.ρ x := by kernel_rfl
theorem qw6 : ConOK Tryz.prog 38 law3Tic_con :=
  qa (env := qpb) ((EnvOK.check (EnvOK.nil _) qc)) mixed Tryz.func38 law3Tic_con qoB (by kernel_rfl) (fun h => by first | rfl | cases h) (fun g hg x => by
    cases hg
    exact qwS ) qun
def qnF : Ann := .nil
noncomputable def law3Drop_con : Con := ⟨[Zt64], true, [], Zt54, fun x => qm9 x.1, some fun x => qlw x.1⟩
noncomputable def qne : Env := (159, .ck 197) :: []
theorem qs0 (x : DL law3Drop_con.ps) : law3Drop_con.φ x = denF Tryz.prog qne qnF Tryz.f76 law3Drop_con.ps law3Drop_con.one law3Drop_con.res law3Drop_con.ρ x := by kernel_rfl
theorem quZ : ConOK Tryz.prog 76 law3Drop_con :=
  qa (env := qne) ((EnvOK.check (EnvOK.nil _) qc)) mixed Tryz.func76 law3Drop_con qnF (by kernel_rfl) (fun h => by first | rfl | cases h) (fun g hg x => by
    cases hg
    exact quS _) qs0
def ql2 : Ann := .nil
noncomputable def law3Great_con : Con := ⟨[Zt17], true, [], .bool, fun x => qku x.1, some fun x => qhD x.1⟩
noncomputable def qln : Env := []
theorem qso (x : DL law3Great_con.ps) : law3Great_con.φ x = denF Tryz.prog qln ql2 Tryz.f23 law3Great_con.ps law3Great_con.one law3Great_con.res law3Great_con.ρ x := by kernel_rfl
theorem qs5 : ConOK Tryz.prog 23 law3Great_con :=
  qa (env := qln) ((EnvOK.nil _)) mixed Tryz.func23 law3Great_con ql2 (by kernel_rfl) (fun h => by first | rfl | cases h) (fun g hg x => by
    cases hg
    exact qtv _) qso
end Go.Proofs.YtijkabgijfdpfaaGreatDoor

