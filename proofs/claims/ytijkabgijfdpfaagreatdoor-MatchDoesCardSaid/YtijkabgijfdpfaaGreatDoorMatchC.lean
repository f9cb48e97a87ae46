/- Contracts: Match. No condition of its own. -/
import Derived.Test.YtijkabgijfdpfaaGreatDoorMAA
import Derived.Test.YtijkabgijfdpfaaGreatDoorMAH
import Derived.Test.YtijkabgijfdpfaaGreatDoorMAE
import Derived.Test.YtijkabgijfdpfaaGreatDoorGameC
namespace Go.Proofs.YtijkabgijfdpfaaGreatDoor
open Go.Den
set_option linter.unusedVariables false
set_option maxRecDepth 100000
def qjV : Ann := (.two .nil (.two .nil (.two (.two .nil (.join ⟨[], [(3, (.osl 9 .str))], []⟩ (.two (.loop ⟨[23], [(3, (.osl 9 .str)), (24, Zt64)], []⟩ .nil) .nil))) .nil)))
noncomputable def matchEntry_con : Con := ⟨[Zt30], true, [], .str, fun x => qgi x.1, none⟩
noncomputable def qjZ : Env := (90, .con qpz) :: (49, .con qiJ) :: []
theorem qqg (x : DL matchEntry_con.ps) : matchEntry_con.φ x = denF Tryz.prog qjZ qjV Tryz.f28 matchEntry_con.ps matchEntry_con.one matchEntry_con.res matchEntry_con.ρ x := by kernel_rfl
theorem ql3 : ConOK Tryz.prog 28 matchEntry_con :=
  qa (env := qjZ) ((EnvOK.cons (EnvOK.cons (EnvOK.nil _) qn9) joinS_ok)) mixed Tryz.func28 matchEntry_con qjV (by kernel_rfl) (fun h => by first | rfl | cases h) (fun g hg => by cases hg) qqg
def qiK : Ann := .nil
noncomputable def clockWithin_con : Con := ⟨[Zt64, Zt64, Zt64], true, [], .bool, fun x => qg8 x.1 x.2.1 x.2.2.1, some fun x => qe x.1 x.2.1 x.2.2.1⟩
noncomputable def qiB : Env := []
theorem qpn (x : DL clockWithin_con.ps) : clockWithin_con.φ x = denF Tryz.prog qiB qiK Tryz.f54 clockWithin_con.ps clockWithin_con.one clockWithin_con.res clockWithin_con.ρ x := by kernel_rfl
theorem qdH : ConOK Tryz.prog 54 clockWithin_con :=
  qa (env := qiB) ((EnvOK.nil _)) mixed Tryz.func54 clockWithin_con qiK (by kernel_rfl) (fun h => by first | rfl | cases h) (fun g hg x => by
    cases hg
    exact qql _ _ _) qpn
def qjy : Ann := (.two .nil (.two .nil (.two .nil (.two (.two .nil (.joinE ⟨[], [], []⟩ (.two (.loop ⟨[1, 21, 22], [(23, Zt64)], []⟩ .nil) .nil))) .nil))))
noncomputable def clockCheck_con : Con := ⟨[Zt41], true, [], Zt64, fun x => qdp x.1, none⟩
noncomputable def qjW : Env := (159, .ck 197) :: (54, .con clockWithin_con) :: []
theorem qp0 (x : DL clockCheck_con.ps) : clockCheck_con.φ x = denF Tryz.prog qjW qjy Tryz.f105 clockCheck_con.ps clockCheck_con.one clockCheck_con.res clockCheck_con.ρ x := by kernel_rfl
theorem qlL : ConOK Tryz.prog 105 clockCheck_con :=
  qa (env := qjW) ((EnvOK.check (EnvOK.cons (EnvOK.nil _) qdH) qc)) mixed Tryz.func105 clockCheck_con qjy (by kernel_rfl) (fun h => by first | rfl | cases h) (fun g hg => by cases hg) qp0
def qjk : Ann := (.two .nil (.two .nil (.two .nil (.two (.two .nil (.join ⟨[], [(6, .bool)], []⟩ (.two (.loop ⟨[2, 3], [(6, .bool), (26, Zt64)], []⟩ .nil) .nil))) .nil))))
noncomputable def clockValid_con : Con := ⟨[Zt41, Zt20], true, [], Zt64, fun x => qi6 x.1 x.2.1, none⟩
noncomputable def qjz : Env := (54, .con clockWithin_con) :: (105, .con clockCheck_con) :: []
theorem qpP (x : DL clockValid_con.ps) : clockValid_con.φ x = denF Tryz.prog qjz qjk Tryz.f99 clockValid_con.ps clockValid_con.one clockValid_con.res clockValid_con.ρ x := by kernel_rfl
theorem qsa : ConOK Tryz.prog 99 clockValid_con :=
  qa (env := qjz) ((EnvOK.cons (EnvOK.cons (EnvOK.nil _) qlL) qdH)) mixed Tryz.func99 clockValid_con qjk (by kernel_rfl) (fun h => by first | rfl | cases h) (fun g hg => by cases hg) qpP
def ql0 : Ann := .nil
noncomputable def clockUsed_con : Con := ⟨[Zt41, Zt20, Zt64], true, [], Zt64, fun x => qj3 x.1 x.2.1 x.2.2.1, some fun x => qz x.1 x.2.1 x.2.2.1⟩
noncomputable def qlH : Env := []
theorem qrD (x : DL clockUsed_con.ps) : clockUsed_con.φ x = denF Tryz.prog qlH ql0 Tryz.f55 clockUsed_con.ps clockUsed_con.one clockUsed_con.res clockUsed_con.ρ x := by kernel_rfl
theorem qnA : ConOK Tryz.prog 55 clockUsed_con :=
  qa (env := qlH) ((EnvOK.nil _)) mixed Tryz.func55 clockUsed_con ql0 (by kernel_rfl) (fun h => by first | rfl | cases h) (fun g hg x => by
    cases hg
    exact qtY _ _ _) qrD
def qkR : Ann := (.two .nil (.two .nil (.two .nil (.two (.two .nil (.join ⟨[4, 6], [], [(1, some (.box Zt23))]⟩ .nil)) .nil))))
noncomputable def clockLook_con : Con := ⟨[Zt41, Zt20, Zt64], false, [Zt20, Zt64], Zt18, fun x => qaJ x.1 x.2.1 x.2.2.1, none⟩
noncomputable def qkF : Env := (55, .con clockUsed_con) :: (54, .con clockWithin_con) :: (99, .con clockValid_con) :: (159, .ck 197) :: []
theorem qru (x : DL clockLook_con.ps) : clockLook_con.φ x = denF Tryz.prog qkF qkR Tryz.f40 clockLook_con.ps clockLook_con.one clockLook_con.res clockLook_con.ρ x := by kernel_rfl
theorem qfi : ConOK Tryz.prog 40 clockLook_con :=
  qa (env := qkF) ((EnvOK.cons (EnvOK.cons (EnvOK.cons (EnvOK.check (EnvOK.nil _) qc) qsa) qdH) qnA)) mixed Tryz.func40 clockLook_con qkR (by kernel_rfl) (fun h => by first | rfl | cases h) (fun g hg => by cases hg) qru
def qei : Ann := .nil
noncomputable def slicesClone_Move_con : Con := ⟨[Zt53], true, [], Zt51, fun x => qce x.1, none⟩
noncomputable def qel : Env := []
theorem qje (x : DL slicesClone_Move_con.ps) : slicesClone_Move_con.φ x = denF Tryz.prog qel qei Tryz.f119 slicesClone_Move_con.ps slicesClone_Move_con.one slicesClone_Move_con.res slicesClone_Move_con.ρ x := by kernel_rfl
theorem qj1 : ConOK Tryz.prog 119 slicesClone_Move_con :=
  qa (env := qel) ((EnvOK.nil _)) mixed Tryz.func119 slicesClone_Move_con qei (by kernel_rfl) (fun h => by first | rfl | cases h) (fun g hg => by cases hg) qje
def qfq : Ann := .nil
noncomputable def plainGameMoves_con : Con := ⟨[Zt10], true, [], Zt51, fun x => qr x.1, none⟩
noncomputable def qfP : Env := (119, .con slicesClone_Move_con) :: []
theorem qk1 (x : DL plainGameMoves_con.ps) : plainGameMoves_con.φ x = denB Tryz.prog qfP qfq Tryz.f52 true plainGameMoves_con.ps plainGameMoves_con.one plainGameMoves_con.res plainGameMoves_con.ρ x := by kernel_rfl
theorem qa1 : qq2 Tryz.prog 52 plainGameMoves_con :=
  qkP (env := qfP) ((EnvOK.cons (EnvOK.nil _) qj1)) mixed Tryz.func52 plainGameMoves_con qfq (by kernel_rfl) (fun h => by first | rfl | cases h) (fun g hg => by cases hg) qk1
def qjT : Ann := .nil
noncomputable def clockReady_con : Con := ⟨[Zt41, Zt20, Zt64, .bool], false, [Zt20, Zt64], Zt18, fun x => qiS x.1 x.2.1 x.2.2.1 x.2.2.2.1, none⟩
noncomputable def qjG : Env := (40, .con clockLook_con) :: (159, .ck 197) :: []
theorem qpT (x : DL clockReady_con.ps) : clockReady_con.φ x = denF Tryz.prog qjG qjT Tryz.f201 clockReady_con.ps clockReady_con.one clockReady_con.res clockReady_con.ρ x := by kernel_rfl
theorem qrv : ConOK Tryz.prog 201 clockReady_con :=
  qa (env := qjG) ((EnvOK.cons (EnvOK.check (EnvOK.nil _) qc) qfi)) mixed Tryz.func201 clockReady_con qjT (by kernel_rfl) (fun h => by first | rfl | cases h) (fun g hg => by cases hg) qpT
def qjm : Ann := (.two .nil (.two .nil (.two .nil (.two .nil (.two (.tail 16 .nil) (.two .nil (.two (.two .nil (.two .nil (.join ⟨[2, 4, 6, 9], [], [(1, some (.box Zt23))]⟩ (.two (.two .nil (.two .nil (.tail 18 .nil))) .nil)))) .nil)))))))
noncomputable def clockPress_con : Con := ⟨[Zt41, Zt20, Zt64], false, [Zt20, Zt64], Zt18, fun x => qgw x.1 x.2.1 x.2.2.1, none⟩
noncomputable def qjX : Env := (55, .con clockUsed_con) :: (201, .con clockReady_con) :: (159, .ck 197) :: []
theorem qqj (x : DL clockPress_con.ps) : clockPress_con.φ x = denF Tryz.prog qjX qjm Tryz.f145 clockPress_con.ps clockPress_con.one clockPress_con.res clockPress_con.ρ x := by kernel_rfl
theorem ql5 : ConOK Tryz.prog 145 clockPress_con :=
  qa (env := qjX) ((EnvOK.cons (EnvOK.cons (EnvOK.check (EnvOK.nil _) qc) qrv) qnA)) mixed Tryz.func145 clockPress_con qjm (by kernel_rfl) (fun h => by first | rfl | cases h) (fun g hg => by cases hg) qqj
def qjw : Ann := (.two .nil (.two (.two .nil (.joinE ⟨[], [], []⟩ (.two (.loop ⟨[1, 8], [(9, Zt64)], []⟩ (.two .nil (.two .nil (.two (.joinE ⟨[1, 8, 9], [], []⟩ (.two (.two .nil (.two (.two (.join ⟨[1, 3, 4, 8, 9], [(16, Zt57), (17, Zt64)], []⟩ .nil) (.joinE ⟨[1, 3, 4, 8, 9], [], []⟩ (.two (.loop ⟨[1, 3, 4, 8, 9, 16], [(17, Zt64)], []⟩ .nil) .nil))) (.two .nil (.two (.join ⟨[1, 8, 9], [(43, .bool)], []⟩ .nil) .nil)))) .nil)) .nil)))) .nil))) .nil))
noncomputable def offerCheck_con : Con := ⟨[Zt27], true, [], Zt64, fun x => qi0 x.1, none⟩
noncomputable def qjU : Env := []
theorem qqe (x : DL offerCheck_con.ps) : offerCheck_con.φ x = denF Tryz.prog qjU qjw Tryz.f202 offerCheck_con.ps offerCheck_con.one offerCheck_con.res offerCheck_con.ρ x := by kernel_rfl
theorem qsh : ConOK Tryz.prog 202 offerCheck_con :=
  qa (env := qjU) ((EnvOK.nil _)) mixed Tryz.func202 offerCheck_con qjw (by kernel_rfl) (fun h => by first | rfl | cases h) (fun g hg => by cases hg) qqe
def qhu : Ann := .nil
noncomputable def offerCheck_i_con : Con := ⟨[Zt27, Zt64, Zt64, Zt64], true, [], Zt64, fun x => qbO x.1 x.2.1 x.2.2.1 x.2.2.2.1, none⟩
noncomputable def qhf : Env := (202, .con offerCheck_con) :: []
theorem qn5 (x : DL offerCheck_i_con.ps) : offerCheck_i_con.φ x = denF Tryz.prog qhf qhu Tryz.f148 offerCheck_i_con.ps offerCheck_i_con.one offerCheck_i_con.res offerCheck_i_con.ρ x := by kernel_rfl
theorem qcM : ConOK Tryz.prog 148 offerCheck_i_con :=
  qa (env := qhf) ((EnvOK.cons (EnvOK.nil _) qsh)) mixed Tryz.func148 offerCheck_i_con qhu (by kernel_rfl) (fun h => by first | rfl | cases h) (fun g hg => by cases hg) qn5
def ql8 : Ann := (.two .nil (.two .nil (.two (.two .nil (.join ⟨[2, 4], [], [(0, some (.box Zt38))]⟩ .nil)) .nil)))
noncomputable def offerMove_con : Con := ⟨[Zt27, Zt64], false, [Zt27, Zt64], Zt22, fun x => qeE x.1 x.2.1, none⟩
noncomputable def qmm : Env := (148, .con offerCheck_i_con) :: (159, .ck 197) :: []
theorem qsi (x : DL offerMove_con.ps) : offerMove_con.φ x = denF Tryz.prog qmm ql8 Tryz.f146 offerMove_con.ps offerMove_con.one offerMove_con.res offerMove_con.ρ x := by kernel_rfl
theorem qnQ : ConOK Tryz.prog 146 offerMove_con :=
  qa (env := qmm) ((EnvOK.cons (EnvOK.check (EnvOK.nil _) qc) qcM)) mixed Tryz.func146 offerMove_con ql8 (by kernel_rfl) (fun h => by first | rfl | cases h) (fun g hg => by cases hg) qsi
def qfK : Ann := (.two .nil (.two .nil (.two (.tail 5 .nil) (.two (.any 262143 0 (.ord 0 0 .nil (.ord 1 0 .nil (.ord 2 0 .nil (.ord 3 0 .nil (.ord 4 2031 .nil (.ord 5 0 .nil (.ord 6 0 .nil (.ord 7 0 .nil (.ord 8 0 .nil (.ord 9 1535 .nil (.ord 10 0 .nil (.ord 11 0 .nil (.ord 12 0 .nil (.ord 13 0 .nil (.ord 14 0 .nil (.ord 15 0 .nil (.ord 16 0 .nil (.ord 17 0 .nil (.ord 18 0 .nil .nil)))))))))))))))))))) .nil))))
noncomputable def matchMatchMove_con : Ioc := ⟨Zt1, [Zt54, Zt64], false, [], .nil, fun x => qaq x.1 x.2.1 x.2.2.1⟩
noncomputable def qfI : Env := (146, .con offerMove_con) :: (145, .con clockPress_con) :: (71, .io plainGamePlay_con) :: (72, .rd plainGamePosition_con) :: (167, .body Tryz.f167) :: []
theorem qlh (x : DL (Zt1 :: [Zt54, Zt64])) : matchMatchMove_con.φ x = denIO Tryz.prog qfI qfK Tryz.f170 Zt1 [Zt54, Zt64] false [] .nil x := by kernel_rfl
theorem qm3 : IocOK Tryz.prog 170 matchMatchMove_con :=
  qT (env := qfI) ((EnvOK.cons (EnvOK.cons (EnvOK.inout (EnvOK.readonly (EnvOK.body (EnvOK.nil _) Tryz.func167) qX) qnX) ql5) qnQ)) mixed Tryz.func170 matchMatchMove_con qfK (by kernel_rfl) (fun h => by first | rfl | cases h) qlh
def qli : Ann := (.two .nil (.two .nil (.two (.two .nil (.join ⟨[], [(5, Zt51)], []⟩ (.two (.loop ⟨[1, 8, 9], [(5, Zt51), (10, Zt64)], []⟩ (.two .nil (.two .nil (.two (.two (.two .nil (.two .nil (.join ⟨[1, 8, 9, 10], [(5, Zt51)], [(0, none)]⟩ .nil))) .nil) .nil)))) .nil))) .nil)))
noncomputable def premoveOf_con : Con := ⟨[Zt42, Zt64], true, [], Zt51, fun x => qgh x.1 x.2.1, none⟩
noncomputable def qkQ : Env := (159, .ck 197) :: []
theorem qr4 (x : DL premoveOf_con.ps) : premoveOf_con.φ x = denF Tryz.prog qkQ qli Tryz.f222 premoveOf_con.ps premoveOf_con.one premoveOf_con.res premoveOf_con.ρ x := by kernel_rfl
theorem qny : ConOK Tryz.prog 222 premoveOf_con :=
  qa (env := qkQ) ((EnvOK.check (EnvOK.nil _) qc)) mixed Tryz.func222 premoveOf_con qli (by kernel_rfl) (fun h => by first | rfl | cases h) (fun g hg => by cases hg) qr4
def qht : Ann := (.two .nil (.two (.two (.join ⟨[0], [(12, .bool)], []⟩ .nil) .nil) (.two (.two (.two (.two .nil (.two (.two (.two .nil (.two (.two .nil (.joinE ⟨[], [], []⟩ (.two (.loop ⟨[0, 1, 7], [(8, Zt64)], []⟩ .nil) .nil))) .nil)) .nil) .nil)) .nil) .nil) .nil)))
noncomputable def premoveCheck_con : Con := ⟨[Zt42], true, [], Zt64, fun x => qdV x.1, none⟩
noncomputable def qhq : Env := (260, .body Tryz.f260) :: (252, .body Tryz.f252) :: (259, .body Tryz.f259) :: (222, .con premoveOf_con) :: []
theorem qn8 (x : DL premoveCheck_con.ps) : premoveCheck_con.φ x = denF Tryz.prog qhq qht Tryz.f221 premoveCheck_con.ps premoveCheck_con.one premoveCheck_con.res premoveCheck_con.ρ x := by kernel_rfl
theorem qim : ConOK Tryz.prog 221 premoveCheck_con :=
  qa (env := qhq) ((EnvOK.body (EnvOK.body (EnvOK.body (EnvOK.cons (EnvOK.nil _) qny) Tryz.func259) Tryz.func252) Tryz.func260)) mixed Tryz.func221 premoveCheck_con qht (by kernel_rfl) (fun h => by first | rfl | cases h) (fun g hg => by cases hg) qn8
def qfW : Ann := .nil
noncomputable def premoveCheck_i_con : Con := ⟨[Zt17, Zt36, Zt42], true, [], Zt64, fun x => qdI x.1 x.2.1 x.2.2.1, none⟩
noncomputable def qfS : Env := (221, .con premoveCheck_con) :: (74, .con placeCheck_con) :: []
theorem qkH (x : DL premoveCheck_i_con.ps) : premoveCheck_i_con.φ x = denF Tryz.prog qfS qfW Tryz.f218 premoveCheck_i_con.ps premoveCheck_i_con.one premoveCheck_i_con.res premoveCheck_i_con.ρ x := by kernel_rfl
theorem qmJ : ConOK Tryz.prog 218 premoveCheck_i_con :=
  qa (env := qfS) ((EnvOK.cons (EnvOK.cons (EnvOK.nil _) qev) qim)) mixed Tryz.func218 premoveCheck_i_con qfW (by kernel_rfl) (fun h => by first | rfl | cases h) (fun g hg => by cases hg) qkH
def qbM : Ann := .nil
noncomputable def slicesClone_PremoveMove_con : Con := ⟨[Zt42], true, [], Zt39, fun x => qq x.1, none⟩
noncomputable def qbQ : Env := []
theorem qeV (x : DL slicesClone_PremoveMove_con.ps) : slicesClone_PremoveMove_con.φ x = denF Tryz.prog qbQ qbM Tryz.f53 slicesClone_PremoveMove_con.ps slicesClone_PremoveMove_con.one slicesClone_PremoveMove_con.res slicesClone_PremoveMove_con.ρ x := by kernel_rfl
theorem qY : ConOK Tryz.prog 53 slicesClone_PremoveMove_con :=
  qa (env := qbQ) ((EnvOK.nil _)) mixed Tryz.func53 slicesClone_PremoveMove_con qbM (by kernel_rfl) (fun h => by first | rfl | cases h) (fun g hg => by cases hg) qeV
def qfj : Ann := (.two .nil (.two (.two (.two .nil (.two (.two (.two .nil (.two (.two .nil (.joinE ⟨[], [], []⟩ (.two (.loop ⟨[0, 1, 7], [(8, Zt64)], []⟩ .nil) .nil))) .nil)) .nil) (.sel 2 1000004 (.two .nil (.two (.two .nil (.join ⟨[0], [(5, Zt64)], [(1, some (.arr 139 Zt43))]⟩ (.two (.loop ⟨[0, 1], [(5, Zt64), (6, Zt64)], [(1, some (.arr 139 Zt43))]⟩ (.two .nil (.two (.two (.two .nil (.two .nil (.join ⟨[0, 1, 6], [(5, Zt64)], [(1, some (.arr 139 Zt43))]⟩ .nil))) .nil) .nil))) .nil))) (.two (.own .nil) (.two (.own .nil) .nil)))) .nil))) .nil) .nil))
noncomputable def premoveWithout_con : Con := ⟨[Zt42, Zt64], true, [], Zt39, fun x => qb6 x.1 x.2.1, none⟩
noncomputable def qfy : Env := (159, .ck 197) :: (289, .body Tryz.f289) :: (252, .body Tryz.f252) :: (288, .body Tryz.f288) :: (53, .con slicesClone_PremoveMove_con) :: []
theorem qkT (x : DL premoveWithout_con.ps) : premoveWithout_con.φ x = denF Tryz.prog qfy qfj Tryz.f254 premoveWithout_con.ps premoveWithout_con.one premoveWithout_con.res premoveWithout_con.ρ x := by kernel_rfl
theorem qna : ConOK Tryz.prog 254 premoveWithout_con :=
  qa (env := qfy) ((EnvOK.check (EnvOK.body (EnvOK.body (EnvOK.body (EnvOK.cons (EnvOK.nil _) qY) Tryz.func288) Tryz.func252) Tryz.func289) qc)) mixed Tryz.func254 premoveWithout_con qfj (by kernel_rfl) (fun h => by first | rfl | cases h) (fun g hg => by cases hg) qkT
def qbG : Ann := (.two .nil (.two .nil (.two (.two .nil (.join ⟨[0], [(3, Zt64)], []⟩ (.two (.loop ⟨[0, 9, 10], [(3, Zt64), (11, Zt64)], []⟩ .nil) .nil))) (.two (.two (.two .nil (.two .nil (.two (.two .nil (.two .nil (.join ⟨[], [(0, Zt39)], []⟩ (.two (.own (.own .nil)) .nil)))) .nil))) .nil) (.two (.two .nil (.join ⟨[], [(6, Zt39)], [(0, none)]⟩ (.two (.loop ⟨[25, 26], [(6, Zt39), (27, Zt64)], [(0, none)]⟩ .nil) .nil))) .nil)))))
noncomputable def slicesConcat_PremoveMove_con : Con := ⟨[(.sl Zt42)], true, [], Zt39, fun x => qaj x.1, none⟩
noncomputable def qbz : Env := (290, .body Tryz.f290) :: []
theorem qex (x : DL slicesConcat_PremoveMove_con.ps) : slicesConcat_PremoveMove_con.φ x = denF Tryz.prog qbz qbG Tryz.f255 slicesConcat_PremoveMove_con.ps slicesConcat_PremoveMove_con.one slicesConcat_PremoveMove_con.res slicesConcat_PremoveMove_con.ρ x := by kernel_rfl
theorem qeD : ConOK Tryz.prog 255 slicesConcat_PremoveMove_con :=
  qa (env := qbz) ((EnvOK.body (EnvOK.nil _) Tryz.func290)) mixed Tryz.func255 slicesConcat_PremoveMove_con qbG (by kernel_rfl) (fun h => by first | rfl | cases h) (fun g hg => by cases hg) qex
def qhZ : Ann := (.two .nil (.two (.two (.two .nil (.two (.two .nil (.joinE ⟨[], [], []⟩ (.two (.loop ⟨[0, 1, 7], [(8, Zt64)], []⟩ .nil) .nil))) .nil)) .nil) (.sel 3 1000004 (.two (.two (.join ⟨[2, 4, 6, 9], [(26, .bool)], []⟩ (.any 16351 32 (.ord 0 0 .nil (.ord 1 0 .nil (.ord 2 0 .nil (.ord 3 2007 .nil (.ord 4 1999 .nil (.ord 6 0 .nil (.ord 7 0 .nil (.ord 8 0 .nil (.ord 9 0 .nil (.ord 10 1023 .nil (.ord 5 0 .nil (.ord 11 0 .nil (.ord 12 0 .nil (.ord 13 0 .nil .nil)))))))))))))))) .nil) (.two (.any 102399 12288 (.ord 0 0 .nil (.ord 1 0 .nil (.ord 2 0 .nil (.ord 3 0 .nil (.ord 4 16367 .nil (.ord 5 0 .nil (.ord 6 0 .nil (.ord 7 0 .nil (.ord 8 0 .nil (.ord 9 0 .nil (.ord 10 0 .nil (.ord 11 0 .nil (.ord 12 0 .nil (.ord 13 0 .nil (.ord 14 0 .nil (.ord 15 0 .nil (.ord 16 0 .nil .nil)))))))))))))))))) .nil)) (.two (.two (.any 16351 32 (.ord 0 0 .nil (.ord 1 0 .nil (.ord 2 0 .nil (.ord 3 2007 .nil (.ord 4 1999 .nil (.ord 6 0 .nil (.ord 7 0 .nil (.ord 8 0 .nil (.ord 9 0 .nil (.ord 10 1023 .nil (.ord 5 0 .nil (.ord 11 0 .nil (.ord 12 0 .nil (.ord 13 0 .nil .nil))))))))))))))) .nil) .nil))))
noncomputable def premoveNext_con : Con := ⟨[Zt17, Zt36, Zt42], false, [Zt54, .bool, Zt39], (.st Zt54 (.st .bool (.st Zt39 .nil))), fun x => qgS x.1 x.2.1 x.2.2.1, none⟩
noncomputable def qhQ : Env := (255, .con slicesConcat_PremoveMove_con) :: (254, .con premoveWithout_con) :: (98, .con slicesContains_Move_con) :: (168, .con endsMoves_con) :: (253, .body Tryz.f253) :: (252, .body Tryz.f252) :: (159, .ck 197) :: []
theorem qo9 (x : DL premoveNext_con.ps) : premoveNext_con.φ x = denF Tryz.prog qhQ qhZ Tryz.f219 premoveNext_con.ps premoveNext_con.one premoveNext_con.res premoveNext_con.ρ x := by kernel_rfl
theorem qpQ : ConOK Tryz.prog 219 premoveNext_con :=
  qa (env := qhQ) ((EnvOK.cons (EnvOK.cons (EnvOK.cons (EnvOK.cons (EnvOK.body (EnvOK.body (EnvOK.check (EnvOK.nil _) qc) Tryz.func252) Tryz.func253) qnf) qaE) qna) qeD)) mixed Tryz.func219 premoveNext_con qhZ (by kernel_rfl) (fun h => by first | rfl | cases h) (fun g hg => by cases hg) qo9
def qf8 : Ann := .nil
noncomputable def premoveNext_i_con : Con := ⟨[Zt17, Zt36, Zt42], false, [Zt54, .bool, Zt39, Zt64], (.st Zt54 (.st .bool Zt35)), fun x => qbh x.1 x.2.1 x.2.2.1, none⟩
noncomputable def qgg : Env := (219, .con premoveNext_con) :: (218, .con premoveCheck_i_con) :: (159, .ck 197) :: []
theorem qmA (x : DL premoveNext_i_con.ps) : premoveNext_i_con.φ x = denF Tryz.prog qgg qf8 Tryz.f171 premoveNext_i_con.ps premoveNext_i_con.one premoveNext_i_con.res premoveNext_i_con.ρ x := by kernel_rfl
theorem qn2 : ConOK Tryz.prog 171 premoveNext_i_con :=
  qa (env := qgg) ((EnvOK.cons (EnvOK.cons (EnvOK.check (EnvOK.nil _) qc) qmJ) qpQ)) mixed Tryz.func171 premoveNext_i_con qf8 (by kernel_rfl) (fun h => by first | rfl | cases h) (fun g hg => by cases hg) qmA
def qdP : Ann := (.ord 14 0 .nil (.ord 15 0 .nil (.ord 16 0 .nil (.ord 17 0 .nil (.ord 18 0 .nil (.ord 19 0 .nil (.ord 21 0 .nil (.ord 22 0 .nil (.ord 23 0 .nil (.ord 24 0 .nil .nil))))))))))
def qeo : Ann := (.two .nil (.two (.two (.two (.join ⟨[0, 3], [(9, .bool)], []⟩ (.any 61 0 (.ord 0 0 .nil (.ord 2 0 .nil (.alt (.ord 1 0 .nil (.ord 3 0 .nil (.ord 4 0 .nil (.ord 5 0 .nil .nil)))) (.ord 3 0 .nil (.ord 1 0 .nil (.ord 4 0 .nil (.ord 5 0 .nil .nil))))))))) (.two .nil (.two (.any 31999 768 (.ord 0 0 .nil (.ord 1 0 .nil (.ord 2 0 .nil (.ord 3 3575 .nil (.ord 4 0 .nil (.ord 5 0 .nil (.ord 6 0 .nil (.ord 7 3199 .nil (.ord 10 0 .nil (.ord 11 2047 .nil (.ord 8 0 .nil (.ord 9 0 .nil (.ord 12 0 .nil (.ord 13 0 .nil (.ord 14 0 .nil .nil)))))))))))))))) .nil))) .nil) (.two .nil (.two (.join ⟨[], [], [(0, some (.box Zt2)), (10, none), (11, none), (12, none)]⟩ (.two (.loop ⟨[0, 3], [], [(0, some (.box Zt2)), (10, none), (11, none), (12, none)]⟩ (.two (.two (.join ⟨[0, 3], [(50, .bool)], []⟩ .nil) .nil) (.two (.two (.join ⟨[0, 3], [(5, (.obx Zt54)), (6, .bool), (7, Zt39)], []⟩ (.any 30392063 1065216 (.ord 0 0 .nil (.ord 1 0 .nil (.ord 2 0 .nil (.ord 3 1064951 .nil (.ord 4 0 .nil (.ord 5 0 .nil (.ord 6 0 .nil (.ord 7 1064575 .nil (.ord 9 0 .nil (.ord 10 0 .nil (.ord 11 0 .nil (.ord 12 0 .nil (.ord 13 1056767 .nil (.alt (.ord 8 0 .nil (.alt (.ord 14 0 .nil (.ord 15 0 .nil (.ord 16 0 .nil (.ord 17 0 .nil (.ord 18 0 .nil (.ord 19 0 .nil (.ord 20 0 .nil (.ord 21 0 .nil (.ord 22 0 .nil (.ord 23 0 .nil (.ord 24 0 .nil .nil))))))))))) (.ord 20 0 .nil qdP))) (.ord 20 0 .nil (.ord 8 0 .nil qdP)))))))))))))))))) .nil) .nil))) .nil)) .nil))))
noncomputable def matchMatchDoMove_con : Ioc := ⟨Zt1, [Zt30], true, [], Zt64, fun x => qaH x.1 x.2.1⟩
noncomputable def qem : Env := (159, .ck 197) :: (171, .con premoveNext_i_con) :: (73, .rd plainGameResult_con) :: (170, .io matchMatchMove_con) :: (52, .rd plainGameMoves_con) :: (169, .body Tryz.f169) :: (98, .con slicesContains_Move_con) :: (168, .con endsMoves_con) :: (72, .rd plainGamePosition_con) :: (167, .body Tryz.f167) :: []
theorem qja (x : DL (Zt1 :: [Zt30])) : matchMatchDoMove_con.φ x = denIO Tryz.prog qem qeo Tryz.f114 Zt1 [Zt30] true [] Zt64 x := by kernel_rfl
theorem qj2 : IocOK Tryz.prog 114 matchMatchDoMove_con :=
  qT (env := qem) ((EnvOK.check (EnvOK.cons (EnvOK.readonly (EnvOK.inout (EnvOK.readonly (EnvOK.body (EnvOK.cons (EnvOK.cons (EnvOK.readonly (EnvOK.body (EnvOK.nil _) Tryz.func167) qX) qnf) qaE) Tryz.func169) qa1) qm3) qcL) qn2) qc)) mixed Tryz.func114 matchMatchDoMove_con qeo (by kernel_rfl) (fun h => by first | rfl | cases h) qja
def qmi : Ann := .nil
noncomputable def offerTurn_con : Con := ⟨[Zt64], true, [], Zt64, fun x => qkj x.1, some fun x => qhX x.1⟩
noncomputable def qlr : Env := []
theorem qr9 (x : DL offerTurn_con.ps) : offerTurn_con.φ x = denF Tryz.prog qlr qmi Tryz.f203 offerTurn_con.ps offerTurn_con.one offerTurn_con.res offerTurn_con.ρ x := by kernel_rfl
theorem qte : ConOK Tryz.prog 203 offerTurn_con :=
  qa (env := qlr) ((EnvOK.nil _)) mixed Tryz.func203 offerTurn_con qmi (by kernel_rfl) (fun h => by first | rfl | cases h) (fun g hg x => by
    cases hg
    exact qsM _) qr9
def qjx : Ann := (.two .nil (.two .nil (.two (.two .nil (.join ⟨[0, 1], [(5, Zt64)], []⟩ .nil)) .nil)))
noncomputable def offerPlies_con : Con := ⟨[Zt64, Zt64], true, [], Zt64, fun x => qcn x.1 x.2.1, none⟩
noncomputable def qjD : Env := (203, .con offerTurn_con) :: []
theorem qqo (x : DL offerPlies_con.ps) : offerPlies_con.φ x = denF Tryz.prog qjD qjx Tryz.f149 offerPlies_con.ps offerPlies_con.one offerPlies_con.res offerPlies_con.ρ x := by kernel_rfl
theorem qgV : ConOK Tryz.prog 149 offerPlies_con :=
  qa (env := qjD) ((EnvOK.cons (EnvOK.nil _) qte)) mixed Tryz.func149 offerPlies_con qjx (by kernel_rfl) (fun h => by first | rfl | cases h) (fun g hg => by cases hg) qqo
def qlm : Ann := (.two .nil (.two .nil (.two (.two (.two .nil (.two .nil (.two .nil (.two .nil (.two (.join ⟨[1, 2, 3, 4, 8], [(28, .bool)], []⟩ .nil) .nil))))) .nil) (.two (.join ⟨[4, 8], [], [(0, some (.box Zt38))]⟩ (.any 1919 0 (.ord 0 0 .nil (.ord 1 0 .nil (.ord 2 0 .nil (.ord 3 0 .nil (.ord 4 0 .nil (.ord 5 0 .nil (.ord 6 0 .nil (.ord 8 0 .nil (.ord 9 0 .nil (.ord 7 0 .nil (.ord 10 0 .nil (.ord 11 0 .nil .nil)))))))))))))) .nil))))
noncomputable def offerMake_con : Con := ⟨[Zt27, Zt64, Zt64, Zt64], false, [Zt27, Zt64], Zt22, fun x => qcb x.1 x.2.1 x.2.2.1 x.2.2.2.1, none⟩
noncomputable def qlQ : Env := (149, .con offerPlies_con) :: (148, .con offerCheck_i_con) :: (159, .ck 197) :: []
theorem qrQ (x : DL offerMake_con.ps) : offerMake_con.φ x = denF Tryz.prog qlQ qlm Tryz.f83 offerMake_con.ps offerMake_con.one offerMake_con.res offerMake_con.ρ x := by kernel_rfl
theorem qnD : ConOK Tryz.prog 83 offerMake_con :=
  qa (env := qlQ) ((EnvOK.cons (EnvOK.cons (EnvOK.check (EnvOK.nil _) qc) qcM) qgV)) mixed Tryz.func83 offerMake_con qlm (by kernel_rfl) (fun h => by first | rfl | cases h) (fun g hg => by cases hg) qrQ
def qkZ : Ann := .nil
noncomputable def offerOpen_con : Con := ⟨[Zt27, Zt64, Zt64, Zt64], true, [], Zt64, fun x => qhS x.1 x.2.1 x.2.2.1 x.2.2.2.1, none⟩
noncomputable def qlq : Env := (148, .con offerCheck_i_con) :: []
theorem qrE (x : DL offerOpen_con.ps) : offerOpen_con.φ x = denF Tryz.prog qlq qkZ Tryz.f152 offerOpen_con.ps offerOpen_con.one offerOpen_con.res offerOpen_con.ρ x := by kernel_rfl
theorem qnq : ConOK Tryz.prog 152 offerOpen_con :=
  qa (env := qlq) ((EnvOK.cons (EnvOK.nil _) qcM)) mixed Tryz.func152 offerOpen_con qkZ (by kernel_rfl) (fun h => by first | rfl | cases h) (fun g hg => by cases hg) qrE
def qhc : Ann := .nil
noncomputable def offerDecline_con : Con := ⟨[Zt27, Zt64, Zt64, Zt64], false, [Zt27, Zt64], Zt22, fun x => qau x.1 x.2.1 x.2.2.1 x.2.2.2.1, none⟩
noncomputable def qhm : Env := (152, .con offerOpen_con) :: (159, .ck 197) :: []
theorem qn3 (x : DL offerDecline_con.ps) : offerDecline_con.φ x = denF Tryz.prog qhm qhc Tryz.f85 offerDecline_con.ps offerDecline_con.one offerDecline_con.res offerDecline_con.ρ x := by kernel_rfl
theorem qid : ConOK Tryz.prog 85 offerDecline_con :=
  qa (env := qhm) ((EnvOK.cons (EnvOK.check (EnvOK.nil _) qc) qnq)) mixed Tryz.func85 offerDecline_con qhc (by kernel_rfl) (fun h => by first | rfl | cases h) (fun g hg => by cases hg) qn3
def qu : Ann := (.ord 12 0 .nil (.ord 13 0 .nil (.ord 14 0 .nil (.ord 15 0 .nil (.ord 17 0 .nil (.ord 18 0 .nil .nil))))))
def qE : Ann := (.alt (.ord 12 0 .nil (.ord 13 0 .nil (.ord 14 0 .nil (.ord 15 0 .nil (.ord 16 0 .nil (.ord 17 0 .nil (.ord 18 0 .nil .nil))))))) (.ord 16 0 .nil qu))
def qbv : Ann := (.alt (.ord 9 0 .nil (.ord 11 0 .nil qu)) (.ord 11 0 .nil (.ord 9 0 .nil qu)))
def qbu : Ann := (.alt (.ord 7 0 .nil (.ord 11 0 .nil qu)) (.ord 11 0 .nil (.ord 7 0 .nil qu)))
def qbt : Ann := (.alt (.ord 5 0 .nil (.ord 11 0 .nil qu)) (.ord 11 0 .nil (.ord 5 0 .nil qu)))
def qbw : Ann := (.alt (.ord 11 0 .nil qE) (.ord 16 0 .nil (.ord 11 0 .nil qu)))
def qdh : Ann := (.alt (.ord 7 0 .nil qbv) (.alt (.ord 9 0 .nil qbu) (.ord 11 0 .nil (.ord 7 69503 .nil (.ord 9 0 .nil qu)))))
def qdj : Ann := (.alt (.ord 5 0 .nil qbu) (.alt (.ord 7 0 .nil qbt) (.ord 11 0 .nil (.ord 5 69599 .nil (.ord 7 0 .nil qu)))))
def qdf : Ann := (.alt (.ord 5 0 .nil qbv) (.alt (.ord 9 0 .nil qbt) (.ord 11 0 .nil (.ord 5 69599 .nil (.ord 9 0 .nil qu)))))
def qcF : Ann := (.alt (.ord 9 0 .nil qbw) (.alt (.ord 11 0 .nil (.ord 9 69119 .nil qE)) (.ord 16 0 .nil qbv)))
def qcG : Ann := (.alt (.ord 7 0 .nil qbw) (.alt (.ord 11 0 .nil (.ord 7 69503 .nil qE)) (.ord 16 0 .nil qbu)))
def qc1 : Ann := (.alt (.ord 5 0 .nil qbw) (.alt (.ord 11 0 .nil (.ord 5 69599 .nil qE)) (.ord 16 0 .nil qbt)))
def qd4 : Ann := (.two .nil (.two .nil (.two .nil (.two (.join ⟨[0], [(6, Zt24), (7, Zt64)], []⟩ (.any 321535 65536 (.ord 0 0 .nil (.ord 1 0 .nil (.ord 2 0 .nil (.ord 3 0 .nil (.ord 4 0 .nil (.ord 6 0 .nil (.ord 8 0 .nil (.ord 10 0 .nil (.alt (.ord 5 0 .nil (.alt (.ord 7 0 .nil qcF) (.alt (.ord 9 0 .nil qcG) (.alt (.ord 11 0 .nil (.ord 7 69503 .nil (.ord 9 69119 .nil qE))) (.ord 16 0 .nil qdh))))) (.alt (.ord 7 0 .nil (.alt (.ord 5 0 .nil qcF) (.alt (.ord 9 0 .nil qc1) (.alt (.ord 11 0 .nil (.ord 5 69599 .nil (.ord 9 69119 .nil qE))) (.ord 16 0 .nil qdf))))) (.alt (.ord 9 0 .nil (.alt (.ord 5 0 .nil qcG) (.alt (.ord 7 0 .nil qc1) (.alt (.ord 11 0 .nil (.ord 5 69599 .nil (.ord 7 69503 .nil qE))) (.ord 16 0 .nil qdj))))) (.alt (.ord 11 0 .nil (.ord 5 69599 .nil (.ord 7 69503 .nil (.ord 9 69119 .nil qE)))) (.ord 16 0 .nil (.alt (.ord 5 0 .nil qdh) (.alt (.ord 7 0 .nil qdf) (.alt (.ord 9 0 .nil qdj) (.ord 11 0 .nil (.ord 5 69599 .nil (.ord 7 69503 .nil (.ord 9 0 .nil qu)))))))))))))))))))))) (.two (.two .nil (.join ⟨[7], [], [(0, some (.box Zt2)), (1, none), (2, none), (3, none)]⟩ .nil)) .nil)))))
noncomputable def matchMatchDoOffer_con : Ioc := ⟨Zt1, [Zt30], true, [], Zt64, fun x => qaw x.1 x.2.1⟩
noncomputable def qdX : Env := (83, .con offerMake_con) :: (159, .ck 197) :: (85, .con offerDecline_con) :: (52, .rd plainGameMoves_con) :: (169, .body Tryz.f169) :: []
theorem qie (x : DL (Zt1 :: [Zt30])) : matchMatchDoOffer_con.φ x = denIO Tryz.prog qdX qd4 Tryz.f115 Zt1 [Zt30] true [] Zt64 x := by kernel_rfl
theorem qi9 : IocOK Tryz.prog 115 matchMatchDoOffer_con :=
  qT (env := qdX) ((EnvOK.cons (EnvOK.check (EnvOK.cons (EnvOK.readonly (EnvOK.body (EnvOK.nil _) Tryz.func169) qa1) qid) qc) qnD)) mixed Tryz.func115 matchMatchDoOffer_con qd4 (by kernel_rfl) (fun h => by first | rfl | cases h) qie
def qiE : Ann := .nil
noncomputable def offerAccept_con : Con := ⟨[Zt27, Zt64, Zt64, Zt64], false, [Zt27, Zt64], Zt22, fun x => qcm x.1 x.2.1 x.2.2.1 x.2.2.2.1, none⟩
noncomputable def qil : Env := (152, .con offerOpen_con) :: (159, .ck 197) :: []
theorem qo2 (x : DL offerAccept_con.ps) : offerAccept_con.φ x = denF Tryz.prog qil qiE Tryz.f150 offerAccept_con.ps offerAccept_con.one offerAccept_con.res offerAccept_con.ρ x := by kernel_rfl
theorem qjE : ConOK Tryz.prog 150 offerAccept_con :=
  qa (env := qil) ((EnvOK.cons (EnvOK.check (EnvOK.nil _) qc) qnq)) mixed Tryz.func150 offerAccept_con qiE (by kernel_rfl) (fun h => by first | rfl | cases h) (fun g hg => by cases hg) qo2
def qgo : Ann := (.two .nil (.two .nil (.two (.join ⟨[], [], [(0, some (.box Zt11)), (1, none), (2, none)]⟩ (.any 461369343 8392704 (.ord 0 0 .nil (.ord 1 0 .nil (.ord 2 0 .nil (.ord 3 0 .nil (.ord 4 0 .nil (.ord 5 16773087 .nil (.ord 6 0 .nil (.ord 7 0 .nil (.ord 8 0 .nil (.ord 9 16769535 .nil (.ord 10 0 .nil (.ord 11 0 .nil (.ord 13 0 .nil (.ord 14 0 .nil (.ord 15 0 .nil (.ord 16 8323071 .nil (.ord 17 0 .nil (.ord 18 0 .nil (.ord 19 0 .nil (.ord 20 1048575 .nil (.ord 21 0 .nil (.ord 22 0 .nil (.alt (.ord 12 0 (.own .nil) (.ord 24 0 .nil (.ord 25 0 .nil (.alt (.ord 23 0 (.own .nil) (.ord 26 0 .nil (.ord 27 0 .nil (.ord 28 0 .nil (.ord 29 0 .nil .nil))))) (.ord 26 0 .nil (.ord 23 0 (.own .nil) (.ord 27 0 .nil (.ord 28 0 .nil (.ord 29 0 .nil .nil))))))))) (.ord 23 0 (.own .nil) (.ord 12 0 (.own .nil) (.ord 24 0 .nil (.ord 25 0 .nil (.ord 26 0 .nil (.ord 27 0 .nil (.ord 28 0 .nil (.ord 29 0 .nil .nil))))))))))))))))))))))))))))))))) .nil)))
noncomputable def plainGameBack_con : Ioc := ⟨Zt9, [], true, [], Zt64, fun x => qc3 x.1⟩
noncomputable def qgt : Env := []
theorem qmq (x : DL (Zt9 :: [])) : plainGameBack_con.φ x = denIO Tryz.prog qgt qgo Tryz.f172 Zt9 [] true [] Zt64 x := by kernel_rfl
theorem qn6 : IocOK Tryz.prog 172 plainGameBack_con :=
  qT (env := qgt) ((EnvOK.nil _)) mixed Tryz.func172 plainGameBack_con qgo (by kernel_rfl) (fun h => by first | rfl | cases h) qmq
def qk7 : Ann := (.two .nil (.two .nil (.two .nil (.two (.two .nil (.join ⟨[2, 4], [], [(0, some (.box Zt38))]⟩ (.two (.loop ⟨[1, 2, 4], [(19, Zt64)], [(0, some (.box Zt38))]⟩ (.two .nil (.two .nil (.two (.join ⟨[1, 2, 4, 19], [], [(0, some (.box Zt38))]⟩ (.two (.two .nil (.two (.join ⟨[1, 2, 4, 7, 19], [(25, Zt57), (26, Zt64)], []⟩ .nil) (.join ⟨[1, 2, 4, 19], [], [(0, some (.box Zt38))]⟩ (.two (.loop ⟨[1, 2, 4, 7, 19, 25], [(26, Zt64)], [(0, some (.box Zt38))]⟩ (.two .nil (.two .nil (.two (.two (.two .nil (.join ⟨[1, 2, 4, 7, 19, 25, 26], [], [(0, some (.box Zt38))]⟩ .nil)) .nil) .nil)))) .nil)))) .nil)) .nil)))) .nil))) .nil))))
noncomputable def offerBack_con : Con := ⟨[Zt27, Zt64], false, [Zt27, Zt64], Zt22, fun x => qd1 x.1 x.2.1, none⟩
noncomputable def qlC : Env := (148, .con offerCheck_i_con) :: (159, .ck 197) :: []
theorem qrO (x : DL offerBack_con.ps) : offerBack_con.φ x = denF Tryz.prog qlC qk7 Tryz.f151 offerBack_con.ps offerBack_con.one offerBack_con.res offerBack_con.ρ x := by kernel_rfl
theorem qnS : ConOK Tryz.prog 151 offerBack_con :=
  qa (env := qlC) ((EnvOK.cons (EnvOK.check (EnvOK.nil _) qc) qcM)) mixed Tryz.func151 offerBack_con qk7 (by kernel_rfl) (fun h => by first | rfl | cases h) (fun g hg => by cases hg) qrO
def qv : Ann := (.ord 11 0 .nil (.ord 12 0 .nil (.ord 13 0 .nil (.ord 14 0 .nil (.ord 16 0 .nil (.ord 17 0 .nil .nil))))))
def qD : Ann := (.ord 11 34815 .nil (.ord 12 0 .nil (.ord 13 0 .nil (.ord 14 0 .nil (.ord 15 0 .nil (.ord 16 0 .nil (.ord 17 0 .nil .nil)))))))
def qbk : Ann := (.alt (.ord 8 0 .nil (.ord 10 0 .nil qv)) (.ord 10 0 .nil (.ord 8 0 .nil qv)))
def qa9 : Ann := (.alt (.ord 6 0 .nil (.ord 10 0 .nil qv)) (.ord 10 0 .nil (.ord 6 0 .nil qv)))
def qbl : Ann := (.alt (.ord 4 0 .nil (.ord 10 0 .nil qv)) (.ord 10 0 .nil (.ord 4 0 .nil qv)))
def qbi : Ann := (.alt (.ord 10 0 .nil qD) (.ord 15 0 .nil (.ord 10 0 .nil qv)))
def qbg : Ann := (.ord 11 0 .nil (.ord 12 0 .nil (.ord 13 0 .nil (.ord 14 0 .nil (.ord 15 0 .nil .nil)))))
def qc2 : Ann := (.alt (.ord 6 0 .nil qbk) (.alt (.ord 8 0 .nil qa9) (.ord 10 0 .nil (.ord 6 34751 .nil (.ord 8 0 .nil qv)))))
def qcS : Ann := (.alt (.ord 4 0 .nil qa9) (.alt (.ord 6 0 .nil qbl) (.ord 10 0 .nil (.ord 4 34799 .nil (.ord 6 0 .nil qv)))))
def qcw : Ann := (.alt (.ord 4 0 .nil qbk) (.alt (.ord 8 0 .nil qbl) (.ord 10 0 .nil (.ord 4 34799 .nil (.ord 8 0 .nil qv)))))
def qcp : Ann := (.alt (.ord 8 0 .nil qbi) (.alt (.ord 10 0 .nil (.ord 8 34559 .nil qD)) (.ord 15 0 .nil qbk)))
def qcv : Ann := (.alt (.ord 6 0 .nil qbi) (.alt (.ord 10 0 .nil (.ord 6 34751 .nil qD)) (.ord 15 0 .nil qa9)))
def qco : Ann := (.alt (.ord 4 0 .nil qbi) (.alt (.ord 10 0 .nil (.ord 4 34799 .nil qD)) (.ord 15 0 .nil qbl)))
def qaY : Ann := (.ord 8 0 .nil (.ord 9 0 .nil (.ord 10 0 .nil qbg)))
def qdg : Ann := (.two .nil (.two (.join ⟨[0, 3], [(5, Zt24), (6, Zt64)], []⟩ (.any 162815 32768 (.ord 0 0 .nil (.ord 1 0 .nil (.ord 2 0 .nil (.ord 3 0 .nil (.ord 5 0 .nil (.ord 7 0 .nil (.ord 9 0 .nil (.alt (.ord 4 0 .nil (.alt (.ord 6 0 .nil qcp) (.alt (.ord 8 0 .nil qcv) (.alt (.ord 10 0 .nil (.ord 6 34751 .nil (.ord 8 34559 .nil qD))) (.ord 15 0 .nil qc2))))) (.alt (.ord 6 0 .nil (.alt (.ord 4 0 .nil qcp) (.alt (.ord 8 0 .nil qco) (.alt (.ord 10 0 .nil (.ord 4 34799 .nil (.ord 8 34559 .nil qD))) (.ord 15 0 .nil qcw))))) (.alt (.ord 8 0 .nil (.alt (.ord 4 0 .nil qcv) (.alt (.ord 6 0 .nil qco) (.alt (.ord 10 0 .nil (.ord 4 34799 .nil (.ord 6 34751 .nil qD))) (.ord 15 0 .nil qcS))))) (.alt (.ord 10 0 .nil (.ord 4 34799 .nil (.ord 6 34751 .nil (.ord 8 34559 .nil qD)))) (.ord 15 0 .nil (.alt (.ord 4 0 .nil qc2) (.alt (.ord 6 0 .nil qcw) (.alt (.ord 8 0 .nil qcS) (.ord 10 0 .nil (.ord 4 34799 .nil (.ord 6 34751 .nil (.ord 8 0 .nil qv))))))))))))))))))))) (.two .nil (.two .nil (.two .nil (.two (.two (.join ⟨[0, 3], [(46, Zt64), (47, Zt64)], []⟩ (.any 111 0 (.ord 0 0 .nil (.ord 3 0 .nil (.ord 6 0 .nil (.alt (.ord 1 0 .nil (.ord 2 0 .nil (.ord 4 0 .nil (.ord 5 0 .nil .nil)))) (.ord 4 0 .nil (.ord 1 0 .nil (.ord 2 0 .nil (.ord 5 0 .nil .nil)))))))))) (.join ⟨[0, 3], [], [(1, some (.box Zt11)), (2, none), (3, none)]⟩ (.two (.loop ⟨[0, 3, 46], [(47, Zt64)], [(1, some (.box Zt11)), (2, none), (3, none)]⟩ .nil) .nil))) (.two (.join ⟨[0, 3], [], [(0, some (.box Zt2)), (1, none), (6, none), (7, none)]⟩ (.any 32639 0 (.ord 0 0 .nil (.ord 1 0 .nil (.ord 2 0 .nil (.ord 3 0 .nil (.ord 4 0 .nil (.ord 6 0 .nil (.alt (.ord 5 0 .nil (.ord 7 0 .nil qaY)) (.ord 7 0 .nil (.ord 5 0 .nil qaY))))))))))) (.two (.join ⟨[0], [], [(0, some (.box Zt2)), (8, none), (9, none), (10, none)]⟩ (.any 31735 0 (.ord 0 0 .nil (.ord 1 0 .nil (.ord 2 0 .nil (.ord 4 0 .nil (.alt (.ord 3 0 .nil (.ord 6 0 .nil (.ord 7 0 .nil (.ord 8 0 .nil (.ord 9 0 .nil (.alt (.ord 5 0 .nil (.ord 10 0 .nil qbg)) (.ord 10 0 .nil (.ord 5 0 .nil qbg)))))))) (.ord 5 0 .nil (.ord 3 0 .nil (.ord 6 0 .nil (.ord 7 0 .nil qaY))))))))))) .nil))))))))
noncomputable def matchMatchDoAccept_con : Ioc := ⟨Zt1, [Zt30], true, [], Zt64, fun x => qaK x.1 x.2.1⟩
noncomputable def qdi : Env := (72, .rd plainGamePosition_con) :: (167, .body Tryz.f167) :: (151, .con offerBack_con) :: (172, .io plainGameBack_con) :: (149, .con offerPlies_con) :: (159, .ck 197) :: (52, .rd plainGameMoves_con) :: (169, .body Tryz.f169) :: (150, .con offerAccept_con) :: []
theorem qhz (x : DL (Zt1 :: [Zt30])) : matchMatchDoAccept_con.φ x = denIO Tryz.prog qdi qdg Tryz.f116 Zt1 [Zt30] true [] Zt64 x := by kernel_rfl
theorem qhK : IocOK Tryz.prog 116 matchMatchDoAccept_con :=
  qT (env := qdi) ((EnvOK.readonly (EnvOK.body (EnvOK.cons (EnvOK.inout (EnvOK.cons (EnvOK.check (EnvOK.readonly (EnvOK.body (EnvOK.cons (EnvOK.nil _) qjE) Tryz.func169) qa1) qc) qgV) qn6) qnS) Tryz.func167) qX)) mixed Tryz.func116 matchMatchDoAccept_con qdg (by kernel_rfl) (fun h => by first | rfl | cases h) qhz
def qjR : Ann := (.two .nil (.two .nil (.two .nil (.two (.two .nil (.join ⟨[1, 2], [(6, Zt62), (7, Zt64)], []⟩ (.two (.loop ⟨[1, 2, 13, 14], [(6, Zt62), (7, Zt64), (15, Zt64)], []⟩ (.two .nil (.two .nil (.two (.two (.two .nil (.two .nil (.join ⟨[1, 2, 13, 14, 15], [(6, Zt62), (7, Zt64)], [(1, none)]⟩ .nil))) .nil) .nil)))) .nil))) (.two (.two .nil (.join ⟨[], [(6, Zt62), (7, Zt64)], [(1, none)]⟩ (.two (.loop ⟨[40, 41], [(6, Zt62), (7, Zt64), (42, Zt64)], [(1, none)]⟩ (.two .nil (.two .nil (.two (.two (.two .nil (.two .nil (.join ⟨[40, 41, 42], [(6, Zt62), (7, Zt64)], [(2, none)]⟩ .nil))) .nil) .nil)))) .nil))) .nil)))))
noncomputable def claimTypes_con : Con := ⟨[Zt36, Zt64], false, [Zt62, Zt64], (.st Zt62 Zt61), fun x => qi3 x.1 x.2.1, none⟩
noncomputable def qjo : Env := []
theorem qpR (x : DL claimTypes_con.ps) : claimTypes_con.φ x = denF Tryz.prog qjo qjR Tryz.f291 claimTypes_con.ps claimTypes_con.one claimTypes_con.res claimTypes_con.ρ x := by kernel_rfl
theorem qrw : ConOK Tryz.prog 291 claimTypes_con :=
  qa (env := qjo) ((EnvOK.nil _)) mixed Tryz.func291 claimTypes_con qjR (by kernel_rfl) (fun h => by first | rfl | cases h) (fun g hg => by cases hg) qpR
def qhn : Ann := (.two .nil (.two (.two .nil (.joinE ⟨[], [], []⟩ (.two (.loop ⟨[2, 3, 10], [(1, Zt64), (11, Zt64)], []⟩ .nil) .nil))) .nil))
noncomputable def claimBecomes_con : Con := ⟨[Zt17, Zt64, Zt64], true, [], .bool, fun x => qiv x.1 x.2.1 x.2.2.1, none⟩
noncomputable def qho : Env := []
theorem qn1 (x : DL claimBecomes_con.ps) : claimBecomes_con.φ x = denF Tryz.prog qho qhn Tryz.f293 claimBecomes_con.ps claimBecomes_con.one claimBecomes_con.res claimBecomes_con.ρ x := by kernel_rfl
theorem qou : ConOK Tryz.prog 293 claimBecomes_con :=
  qa (env := qho) ((EnvOK.nil _)) mixed Tryz.func293 claimBecomes_con qhn (by kernel_rfl) (fun h => by first | rfl | cases h) (fun g hg => by cases hg) qn1
def qlB : Ann := (.two .nil (.two .nil (.two .nil (.two (.two (.join ⟨[4, 9], [(42, .bool)], []⟩ (.two (.two .nil (.two (.two (.two .nil (.two (.two .nil (.joinE ⟨[], [], []⟩ (.two (.loop ⟨[0, 1, 7], [(8, Zt64)], []⟩ .nil) .nil))) .nil)) .nil) .nil)) .nil)) .nil) (.two (.join ⟨[], [(8, .bool)], []⟩ (.two (.two .nil (.two (.two (.two .nil (.two (.two .nil (.joinE ⟨[], [], []⟩ (.two (.loop ⟨[0, 1, 7], [(8, Zt64)], []⟩ (.two .nil (.two .nil (.two (.two (.two .nil (.two (.two (.two .nil (.two (.two (.two .nil (.two (.two (.two .nil (.two (.two .nil (.joinE ⟨[], [], []⟩ (.two (.loop ⟨[0, 1, 7], [(8, Zt64)], []⟩ .nil) .nil))) .nil)) .nil) .nil)) .nil) .nil)) .nil) .nil)) .nil) .nil)))) .nil))) .nil)) .nil) .nil)) .nil)) .nil)))))
noncomputable def claimAble_con : Con := ⟨[Zt17, Zt36, Zt49, Zt64], true, [], .bool, fun x => qmk x.1 x.2.1 x.2.2.1 x.2.2.2.1, none⟩
noncomputable def qkI : Env := (296, .body Tryz.f296) :: (306, .body Tryz.f306) :: (295, .body Tryz.f295) :: (294, .body Tryz.f294) :: (293, .con claimBecomes_con) :: (292, .body Tryz.f292) :: (187, .body Tryz.f187) :: (133, .body Tryz.f133) :: (291, .con claimTypes_con) :: []
theorem qrV (x : DL claimAble_con.ps) : claimAble_con.φ x = denF Tryz.prog qkI qlB Tryz.f258 claimAble_con.ps claimAble_con.one claimAble_con.res claimAble_con.ρ x := by kernel_rfl
theorem qsP : ConOK Tryz.prog 258 claimAble_con :=
  qa (env := qkI) ((EnvOK.body (EnvOK.body (EnvOK.body (EnvOK.body (EnvOK.cons (EnvOK.body (EnvOK.body (EnvOK.body (EnvOK.cons (EnvOK.nil _) qrw) Tryz.func133) Tryz.func187) Tryz.func292) qou) Tryz.func294) Tryz.func295) Tryz.func306) Tryz.func296)) mixed Tryz.func258 claimAble_con qlB (by kernel_rfl) (fun h => by first | rfl | cases h) (fun g hg => by cases hg) qrV
def qhH : Ann := (.two .nil (.two .nil (.two .nil (.two (.join ⟨[], [(6, .bool), (7, Zt64)], []⟩ (.two (.two .nil (.two (.two (.two .nil (.two (.two .nil (.joinE ⟨[], [], []⟩ (.two (.loop ⟨[0, 1, 7], [(8, Zt64)], []⟩ .nil) .nil))) .nil)) .nil) .nil)) .nil)) .nil))))
noncomputable def claimAble_i_con : Con := ⟨[Zt17, Zt36, Zt64], false, [.bool, Zt64], Zt59, fun x => qeS x.1 x.2.1 x.2.2.1, none⟩
noncomputable def qhW : Env := (258, .con claimAble_con) :: (257, .body Tryz.f257) :: (194, .body Tryz.f194) :: (256, .body Tryz.f256) :: (74, .con placeCheck_con) :: []
theorem qpp (x : DL claimAble_i_con.ps) : claimAble_i_con.φ x = denF Tryz.prog qhW qhH Tryz.f220 claimAble_i_con.ps claimAble_i_con.one claimAble_i_con.res claimAble_i_con.ρ x := by kernel_rfl
theorem qp1 : ConOK Tryz.prog 220 claimAble_i_con :=
  qa (env := qhW) ((EnvOK.cons (EnvOK.body (EnvOK.body (EnvOK.body (EnvOK.cons (EnvOK.nil _) qev) Tryz.func256) Tryz.func194) Tryz.func257) qsP)) mixed Tryz.func220 claimAble_i_con qhH (by kernel_rfl) (fun h => by first | rfl | cases h) (fun g hg => by cases hg) qpp
def qia : Ann := .nil
noncomputable def claimFallen_con : Con := ⟨[Zt17, Zt36, Zt64], false, [Zt64, Zt64], Zt57, fun x => qgW x.1 x.2.1 x.2.2.1, none⟩
noncomputable def qh7 : Env := (220, .con claimAble_i_con) :: []
theorem qoP (x : DL claimFallen_con.ps) : claimFallen_con.φ x = denF Tryz.prog qh7 qia Tryz.f173 claimFallen_con.ps claimFallen_con.one claimFallen_con.res claimFallen_con.ρ x := by kernel_rfl
theorem qqc : ConOK Tryz.prog 173 claimFallen_con :=
  qa (env := qh7) ((EnvOK.cons (EnvOK.nil _) qp1)) mixed Tryz.func173 claimFallen_con qia (by kernel_rfl) (fun h => by first | rfl | cases h) (fun g hg => by cases hg) qoP
def qd9 : Ann := (.two .nil (.two (.two .nil (.two (.two (.any 163839 32768 (.ord 0 0 .nil (.ord 1 0 .nil (.ord 2 0 .nil (.ord 3 34807 .nil (.ord 4 0 .nil (.ord 5 0 .nil (.ord 6 0 .nil (.ord 7 0 .nil (.ord 8 34559 .nil (.ord 9 0 .nil (.ord 10 33791 .nil (.ord 11 34815 .nil (.ord 12 0 .nil (.ord 13 0 .nil (.ord 14 0 .nil (.ord 15 0 .nil (.ord 16 0 .nil (.ord 17 0 .nil .nil))))))))))))))))))) (.two .nil (.two .nil (.two (.any 523775 512 (.ord 0 0 .nil (.ord 1 0 .nil (.ord 2 0 .nil (.ord 3 0 .nil (.ord 4 4079 .nil (.ord 5 0 .nil (.ord 6 0 .nil (.ord 7 0 .nil (.ord 8 3327 .nil (.ord 10 0 .nil (.ord 11 2047 .nil (.ord 9 0 .nil (.ord 12 0 .nil (.ord 13 0 .nil (.ord 14 0 .nil (.ord 15 0 .nil (.ord 16 0 .nil (.ord 17 0 .nil (.ord 18 0 .nil (.ord 19 0 .nil .nil))))))))))))))))))))) .nil)))) .nil)) (.two (.join ⟨[0, 3], [(7, .bool)], []⟩ .nil) (.two (.two (.two .nil (.two .nil (.two (.join ⟨[0, 7], [(91, .bool)], []⟩ (.any 61 0 (.ord 0 0 .nil (.ord 2 0 .nil (.alt (.ord 1 0 .nil (.ord 3 0 .nil (.ord 4 0 .nil (.ord 5 0 .nil .nil)))) (.ord 3 0 .nil (.ord 1 0 .nil (.ord 4 0 .nil (.ord 5 0 .nil .nil))))))))) .nil))) .nil) .nil))))
noncomputable def matchMatchDoClaim_con : Ioc := ⟨Zt1, [Zt30], true, [], Zt64, fun x => qa3 x.1 x.2.1⟩
noncomputable def qd2 : Env := (167, .body Tryz.f167) :: (140, .rd plainGameCount_con) :: (173, .con claimFallen_con) :: (72, .rd plainGamePosition_con) :: (159, .ck 197) :: (40, .con clockLook_con) :: []
theorem qig (x : DL (Zt1 :: [Zt30])) : matchMatchDoClaim_con.φ x = denIO Tryz.prog qd2 qd9 Tryz.f117 Zt1 [Zt30] true [] Zt64 x := by kernel_rfl
theorem qjc : IocOK Tryz.prog 117 matchMatchDoClaim_con :=
  qT (env := qd2) ((EnvOK.body (EnvOK.readonly (EnvOK.cons (EnvOK.readonly (EnvOK.check (EnvOK.cons (EnvOK.nil _) qfi) qc) qX) qqc) qgd) Tryz.func167)) mixed Tryz.func117 matchMatchDoClaim_con qd9 (by kernel_rfl) (fun h => by first | rfl | cases h) qig
def qjr : Ann := (.two .nil (.two .nil (.two .nil (.two .nil (.two (.join ⟨[], [(6, Zt39), (7, Zt64)], []⟩ (.any 413 34 (.ord 0 0 .nil (.ord 2 0 .nil (.ord 3 7 .nil (.ord 4 0 .nil (.alt (.ord 1 0 .nil (.ord 5 0 .nil (.ord 6 0 .nil (.ord 7 0 .nil (.ord 8 0 .nil .nil))))) (.ord 5 0 .nil (.ord 1 0 .nil (.ord 6 0 .nil (.ord 7 0 .nil (.ord 8 0 .nil .nil)))))))))))) .nil)))))
noncomputable def premoveAdd_con : Con := ⟨[Zt42, Zt64, Zt54], false, [Zt39, Zt64], Zt35, fun x => qiR x.1 x.2.1 x.2.2.1, none⟩
noncomputable def qjL : Env := (53, .con slicesClone_PremoveMove_con) :: (222, .con premoveOf_con) :: (221, .con premoveCheck_con) :: []
theorem qpZ (x : DL premoveAdd_con.ps) : premoveAdd_con.φ x = denF Tryz.prog qjL qjr Tryz.f174 premoveAdd_con.ps premoveAdd_con.one premoveAdd_con.res premoveAdd_con.ρ x := by kernel_rfl
theorem qr0 : ConOK Tryz.prog 174 premoveAdd_con :=
  qa (env := qjL) ((EnvOK.cons (EnvOK.cons (EnvOK.cons (EnvOK.nil _) qim) qny) qY)) mixed Tryz.func174 premoveAdd_con qjr (by kernel_rfl) (fun h => by first | rfl | cases h) (fun g hg => by cases hg) qpZ
def qcQ : Ann := (.two .nil (.two (.two (.join ⟨[0, 3], [(11, .bool)], []⟩ (.any 29 0 (.ord 0 0 .nil (.ord 2 0 .nil (.alt (.ord 1 0 .nil (.ord 3 0 .nil (.ord 4 0 .nil .nil))) (.ord 3 0 .nil (.ord 1 0 .nil (.ord 4 0 .nil .nil)))))))) .nil) (.two (.any 32255 512 (.ord 0 0 .nil (.ord 1 0 .nil (.ord 2 0 .nil (.ord 3 0 .nil (.ord 4 495 .nil (.ord 5 0 .nil (.ord 6 447 .nil (.ord 7 0 .nil (.ord 8 0 .nil (.ord 9 0 .nil (.ord 10 0 .nil (.ord 11 0 .nil (.ord 12 0 .nil (.ord 13 0 .nil (.ord 14 0 .nil .nil)))))))))))))))) (.two (.two .nil (.join ⟨[6], [], [(0, some (.box Zt2)), (1, none), (2, none), (3, none), (5, none)]⟩ .nil)) .nil))))
noncomputable def matchMatchDoPremove_con : Ioc := ⟨Zt1, [Zt30], true, [], Zt64, fun x => qax x.1 x.2.1⟩
noncomputable def qcD : Env := (174, .con premoveAdd_con) :: (72, .rd plainGamePosition_con) :: (167, .body Tryz.f167) :: []
theorem qgI (x : DL (Zt1 :: [Zt30])) : matchMatchDoPremove_con.φ x = denIO Tryz.prog qcD qcQ Tryz.f118 Zt1 [Zt30] true [] Zt64 x := by kernel_rfl
theorem qhv : IocOK Tryz.prog 118 matchMatchDoPremove_con :=
  qT (env := qcD) ((EnvOK.cons (EnvOK.readonly (EnvOK.body (EnvOK.nil _) Tryz.func167) qX) qr0)) mixed Tryz.func118 matchMatchDoPremove_con qcQ (by kernel_rfl) (fun h => by first | rfl | cases h) qgI
def qfz : Ann := (.two .nil (.two (.two .nil (.two (.two .nil (.two .nil (.two (.two .nil (.join ⟨[0, 3, 6], [(12, .bool)], []⟩ .nil)) .nil))) .nil)) .nil))
noncomputable def matchMatchKind_con : Ioc := ⟨Zt1, [Zt30], true, [], Zt64, fun x => qb9 x.1 x.2.1⟩
noncomputable def qfA : Env := (118, .io matchMatchDoPremove_con) :: (117, .io matchMatchDoClaim_con) :: (116, .io matchMatchDoAccept_con) :: (115, .io matchMatchDoOffer_con) :: (114, .io matchMatchDoMove_con) :: []
theorem qmg (x : DL (Zt1 :: [Zt30])) : matchMatchKind_con.φ x = denIO Tryz.prog qfA qfz Tryz.f51 Zt1 [Zt30] true [] Zt64 x := by kernel_rfl
theorem qmE : IocOK Tryz.prog 51 matchMatchKind_con :=
  qT (env := qfA) ((EnvOK.inout (EnvOK.inout (EnvOK.inout (EnvOK.inout (EnvOK.inout (EnvOK.nil _) qj2) qi9) qhK) qjc) qhv)) mixed Tryz.func51 matchMatchKind_con qfz (by kernel_rfl) (fun h => by first | rfl | cases h) qmg
def qhM : Ann := .nil
noncomputable def journalLast_con : Con := ⟨[Zt58], true, [], (.int .u64), fun x => qdv x.1, none⟩
noncomputable def qii : Env := []
theorem qpg (x : DL journalLast_con.ps) : journalLast_con.φ x = denF Tryz.prog qii qhM Tryz.f112 journalLast_con.ps journalLast_con.one journalLast_con.res journalLast_con.ρ x := by kernel_rfl
theorem qf4 : ConOK Tryz.prog 112 journalLast_con :=
  qa (env := qii) ((EnvOK.nil _)) mixed Tryz.func112 journalLast_con qhM (by kernel_rfl) (fun h => by first | rfl | cases h) (fun g hg => by cases hg) qpg
def qji : Ann := (.two .nil (.two .nil (.two (.two .nil (.join ⟨[1], [(5, (.int .u64))], []⟩ (.two (.loop ⟨[1, 10], [(5, (.int .u64)), (11, Zt64)], []⟩ .nil) .nil))) .nil)))
noncomputable def journalSum_con : Con := ⟨[(.int .u64), .str], true, [], (.int .u64), fun x => qdx x.1 x.2.1, none⟩
noncomputable def qjM : Env := []
theorem qp7 (x : DL journalSum_con.ps) : journalSum_con.φ x = denF Tryz.prog qjM qji Tryz.f111 journalSum_con.ps journalSum_con.one journalSum_con.res journalSum_con.ρ x := by kernel_rfl
theorem qkC : ConOK Tryz.prog 111 journalSum_con :=
  qa (env := qjM) ((EnvOK.nil _)) mixed Tryz.func111 journalSum_con qji (by kernel_rfl) (fun h => by first | rfl | cases h) (fun g hg => by cases hg) qp7
def qhp : Ann := .nil
noncomputable def journalWrong_con : Con := ⟨[(.int .u64), Zt60], true, [], Zt64, fun x => qd6 x.1 x.2.1, none⟩
noncomputable def qhj : Env := (111, .con journalSum_con) :: (110, .con qeT) :: []
theorem qnW (x : DL journalWrong_con.ps) : journalWrong_con.φ x = denF Tryz.prog qhj qhp Tryz.f163 journalWrong_con.ps journalWrong_con.one journalWrong_con.res journalWrong_con.ρ x := by kernel_rfl
theorem qiI : ConOK Tryz.prog 163 journalWrong_con :=
  qa (env := qhj) ((EnvOK.cons (EnvOK.cons (EnvOK.nil _) qjJ) qkC)) mixed Tryz.func163 journalWrong_con qhp (by kernel_rfl) (fun h => by first | rfl | cases h) (fun g hg => by cases hg) qnW
def qhV : Ann := (.two .nil (.two (.two .nil (.joinE ⟨[0], [], []⟩ (.two (.loop ⟨[0, 5, 6], [(7, Zt64)], []⟩ .nil) .nil))) .nil))
noncomputable def journalGood_con : Con := ⟨[Zt58], true, [], Zt64, fun x => qgT x.1, none⟩
noncomputable def qit : Env := (163, .con journalWrong_con) :: (112, .con journalLast_con) :: (159, .ck 197) :: []
theorem qow (x : DL journalGood_con.ps) : journalGood_con.φ x = denF Tryz.prog qit qhV Tryz.f162 journalGood_con.ps journalGood_con.one journalGood_con.res journalGood_con.ρ x := by kernel_rfl
theorem qp9 : ConOK Tryz.prog 162 journalGood_con :=
  qa (env := qit) ((EnvOK.cons (EnvOK.cons (EnvOK.check (EnvOK.nil _) qc) qf4) qiI)) mixed Tryz.func162 journalGood_con qhV (by kernel_rfl) (fun h => by first | rfl | cases h) (fun g hg => by cases hg) qow
def qhg : Ann := .nil
noncomputable def journalCheck_con : Con := ⟨[Zt58], true, [], Zt64, fun x => qfD x.1, none⟩
noncomputable def qhl : Env := (163, .con journalWrong_con) :: (112, .con journalLast_con) :: (162, .con journalGood_con) :: []
theorem qnZ (x : DL journalCheck_con.ps) : journalCheck_con.φ x = denF Tryz.prog qhl qhg Tryz.f109 journalCheck_con.ps journalCheck_con.one journalCheck_con.res journalCheck_con.ρ x := by kernel_rfl
theorem qpw : ConOK Tryz.prog 109 journalCheck_con :=
  qa (env := qhl) ((EnvOK.cons (EnvOK.cons (EnvOK.cons (EnvOK.nil _) qp9) qf4) qiI)) mixed Tryz.func109 journalCheck_con qhg (by kernel_rfl) (fun h => by first | rfl | cases h) (fun g hg => by cases hg) qnZ
def qby : Ann := .nil
noncomputable def slicesClone_JournalEntry_con : Con := ⟨[Zt58], true, [], Zt56, fun x => qS x.1, none⟩
noncomputable def qbD : Env := []
theorem qeu (x : DL slicesClone_JournalEntry_con.ps) : slicesClone_JournalEntry_con.φ x = denF Tryz.prog qbD qby Tryz.f91 slicesClone_JournalEntry_con.ps slicesClone_JournalEntry_con.one slicesClone_JournalEntry_con.res slicesClone_JournalEntry_con.ρ x := by kernel_rfl
theorem qbS : ConOK Tryz.prog 91 slicesClone_JournalEntry_con :=
  qa (env := qbD) ((EnvOK.nil _)) mixed Tryz.func91 slicesClone_JournalEntry_con qby (by kernel_rfl) (fun h => by first | rfl | cases h) (fun g hg => by cases hg) qeu
def qf6 : Ann := .nil
noncomputable def journalAppend_con : Con := ⟨[Zt58, .str], false, [Zt56, Zt64], (.st Zt56 Zt61), fun x => qap x.1 x.2.1, none⟩
noncomputable def qgc : Env := (111, .con journalSum_con) :: (112, .con journalLast_con) :: (91, .con slicesClone_JournalEntry_con) :: (110, .con qeT) :: (109, .con journalCheck_con) :: []
theorem qmK (x : DL journalAppend_con.ps) : journalAppend_con.φ x = denF Tryz.prog qgc qf6 Tryz.f48 journalAppend_con.ps journalAppend_con.one journalAppend_con.res journalAppend_con.ρ x := by kernel_rfl
theorem qeb : ConOK Tryz.prog 48 journalAppend_con :=
  qa (env := qgc) ((EnvOK.cons (EnvOK.cons (EnvOK.cons (EnvOK.cons (EnvOK.cons (EnvOK.nil _) qpw) qjJ) qbS) qf4) qkC)) mixed Tryz.func48 journalAppend_con qf6 (by kernel_rfl) (fun h => by first | rfl | cases h) (fun g hg => by cases hg) qmK
def qfB : Ann := (.two .nil (.two .nil (.join ⟨[], [], [(0, some (.box Zt2)), (1, none), (2, none), (3, none)]⟩ .nil)))
noncomputable def matchMatchOver_con : Ioc := ⟨Zt1, [], false, [], .nil, fun x => qaS x.1⟩
noncomputable def qfh : Env := (73, .rd plainGameResult_con) :: []
theorem qk8 (x : DL (Zt1 :: [])) : matchMatchOver_con.φ x = denIO Tryz.prog qfh qfB Tryz.f50 Zt1 [] false [] .nil x := by kernel_rfl
theorem qdu : IocOK Tryz.prog 50 matchMatchOver_con :=
  qT (env := qfh) ((EnvOK.readonly (EnvOK.nil _) qcL)) mixed Tryz.func50 matchMatchOver_con qfB (by kernel_rfl) (fun h => by first | rfl | cases h) qk8
def qg9 : Ann := (.two .nil (.two .nil (.two (.any 163839 32768 (.ord 0 0 .nil (.ord 1 0 .nil (.ord 2 0 .nil (.ord 3 34807 .nil (.ord 4 0 .nil (.ord 5 0 .nil (.ord 6 0 .nil (.ord 7 0 .nil (.ord 8 34559 .nil (.ord 9 0 .nil (.ord 10 33791 .nil (.ord 11 34815 .nil (.ord 12 0 .nil (.ord 13 0 .nil (.ord 14 0 .nil (.ord 15 0 .nil (.ord 16 0 .nil (.ord 17 0 .nil .nil))))))))))))))))))) (.two .nil (.two .nil (.two .nil (.two (.any 8063 128 (.ord 0 0 .nil (.ord 1 0 .nil (.ord 2 0 .nil (.ord 3 0 .nil (.ord 4 111 .nil (.ord 5 0 .nil (.ord 6 0 .nil (.ord 7 0 .nil (.ord 8 0 .nil (.ord 9 0 .nil (.ord 10 0 .nil (.ord 11 0 .nil (.ord 12 0 .nil (.ord 13 0 .nil .nil))))))))))))))) .nil)))))))
noncomputable def matchMatchDo_con : Ioc := ⟨Zt1, [Zt30], true, [], Zt64, fun x => qdZ x.1 x.2.1⟩
noncomputable def qhb : Env := (50, .io matchMatchOver_con) :: (48, .con journalAppend_con) :: (28, .con matchEntry_con) :: (51, .io matchMatchKind_con) :: (159, .ck 197) :: (40, .con clockLook_con) :: []
theorem qn7 (x : DL (Zt1 :: [Zt30])) : matchMatchDo_con.φ x = denIO Tryz.prog qhb qg9 Tryz.f11 Zt1 [Zt30] true [] Zt64 x := by kernel_rfl
theorem qiH : IocOK Tryz.prog 11 matchMatchDo_con :=
  qT (env := qhb) ((EnvOK.inout (EnvOK.cons (EnvOK.cons (EnvOK.inout (EnvOK.check (EnvOK.cons (EnvOK.nil _) qfi) qc) qmE) ql3) qeb) qdu)) mixed Tryz.func11 matchMatchDo_con qg9 (by kernel_rfl) (fun h => by first | rfl | cases h) qn7
def qjf : Ann := .nil
noncomputable def clockStart_con : Con := ⟨[Zt41, Zt64], false, [Zt20, Zt64], Zt18, fun x => qdt x.1 x.2.1, none⟩
noncomputable def qjq : Env := (54, .con clockWithin_con) :: (105, .con clockCheck_con) :: (159, .ck 197) :: []
theorem qp6 (x : DL clockStart_con.ps) : clockStart_con.φ x = denF Tryz.prog qjq qjf Tryz.f44 clockStart_con.ps clockStart_con.one clockStart_con.res clockStart_con.ρ x := by kernel_rfl
theorem qlf : ConOK Tryz.prog 44 clockStart_con :=
  qa (env := qjq) ((EnvOK.cons (EnvOK.cons (EnvOK.check (EnvOK.nil _) qc) qlL) qdH)) mixed Tryz.func44 clockStart_con qjf (by kernel_rfl) (fun h => by first | rfl | cases h) (fun g hg => by cases hg) qp6
def qbR : Ann := .nil
noncomputable def slicesClone_ClockPeriod_con : Con := ⟨[Zt55], true, [], (.osl 25 Zt57), fun x => qao x.1, none⟩
noncomputable def qbJ : Env := []
theorem qeL (x : DL slicesClone_ClockPeriod_con.ps) : slicesClone_ClockPeriod_con.φ x = denF Tryz.prog qbJ qbR Tryz.f108 slicesClone_ClockPeriod_con.ps slicesClone_ClockPeriod_con.one slicesClone_ClockPeriod_con.res slicesClone_ClockPeriod_con.ρ x := by kernel_rfl
theorem qe8 : ConOK Tryz.prog 108 slicesClone_ClockPeriod_con :=
  qa (env := qbJ) ((EnvOK.nil _)) mixed Tryz.func108 slicesClone_ClockPeriod_con qbR (by kernel_rfl) (fun h => by first | rfl | cases h) (fun g hg => by cases hg) qeL
def qla : Ann := .nil
noncomputable def clockCopy_con : Con := ⟨[Zt41], true, [], Zt40, fun x => qeK x.1, none⟩
noncomputable def qlz : Env := (108, .con slicesClone_ClockPeriod_con) :: (159, .ck 197) :: []
theorem qrZ (x : DL clockCopy_con.ps) : clockCopy_con.φ x = denF Tryz.prog qlz qla Tryz.f46 clockCopy_con.ps clockCopy_con.one clockCopy_con.res clockCopy_con.ρ x := by kernel_rfl
theorem qnv : ConOK Tryz.prog 46 clockCopy_con :=
  qa (env := qlz) ((EnvOK.cons (EnvOK.check (EnvOK.nil _) qc) qe8)) mixed Tryz.func46 clockCopy_con qla (by kernel_rfl) (fun h => by first | rfl | cases h) (fun g hg => by cases hg) qrZ
def qng : Ann := .nil
noncomputable def offerNew_con : Con := ⟨[], true, [], Zt27, fun x => qmI, some fun x => qbd⟩
noncomputable def qnr : Env := (159, .ck 197) :: []
theorem qtP (x : DL offerNew_con.ps) : offerNew_con.φ x = denF Tryz.prog qnr qng Tryz.f47 offerNew_con.ps offerNew_con.one offerNew_con.res offerNew_con.ρ x := by kernel_rfl
theorem qoz : ConOK Tryz.prog 47 offerNew_con :=
  qa (env := qnr) ((EnvOK.check (EnvOK.nil _) qc)) mixed Tryz.func47 offerNew_con qng (by kernel_rfl) (fun h => by first | rfl | cases h) (fun g hg x => by
    cases hg
    exact quI ) qtP
def qij : Ann := .nil
noncomputable def matchNumber_con : Con := ⟨[.str], false, [Zt64, .bool], (.st Zt64 (.st .bool .nil)), fun x => qgO x.1, none⟩
noncomputable def qik : Env := (49, .con qiJ) :: (155, .con qsN) :: []
theorem qoX (x : DL matchNumber_con.ps) : matchNumber_con.φ x = denF Tryz.prog qik qij Tryz.f89 matchNumber_con.ps matchNumber_con.one matchNumber_con.res matchNumber_con.ρ x := by kernel_rfl
theorem qqi : ConOK Tryz.prog 89 matchNumber_con :=
  qa (env := qik) ((EnvOK.cons (EnvOK.cons (EnvOK.nil _) atoiS_ok) qn9)) mixed Tryz.func89 matchNumber_con qij (by kernel_rfl) (fun h => by first | rfl | cases h) (fun g hg => by cases hg) qoX
def qfm : Ann := (.two .nil (.two .nil (.two .nil (.two .nil (.two (.two .nil (.joinE ⟨[2, 5], [], [(0, some (.box Zt33)), (1, some (.box Zt33))]⟩ (.two (.loop ⟨[2, 5, 15, 16], [(17, Zt64)], [(0, some (.box Zt33)), (1, some (.box Zt33))]⟩ .nil) .nil))) .nil)))))
noncomputable def matchReadEntry_con : Con := ⟨[.str], false, [Zt30, Zt64], (.st Zt30 Zt61), fun x => qdA x.1, none⟩
noncomputable def qfO : Env := (89, .con matchNumber_con) :: (88, .con qqP) :: (159, .ck 197) :: []
theorem qk2 (x : DL matchReadEntry_con.ps) : matchReadEntry_con.φ x = denF Tryz.prog qfO qfm Tryz.f27 matchReadEntry_con.ps matchReadEntry_con.one matchReadEntry_con.res matchReadEntry_con.ρ x := by kernel_rfl
theorem qmX : ConOK Tryz.prog 27 matchReadEntry_con :=
  qa (env := qfO) ((EnvOK.cons (EnvOK.cons (EnvOK.check (EnvOK.nil _) qc) splitS_ok) qqi)) mixed Tryz.func27 matchReadEntry_con qfm (by kernel_rfl) (fun h => by first | rfl | cases h) (fun g hg => by cases hg) qk2
end Go.Proofs.YtijkabgijfdpfaaGreatDoor

