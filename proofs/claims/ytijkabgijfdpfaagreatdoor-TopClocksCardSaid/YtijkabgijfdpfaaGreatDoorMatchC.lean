/- Contracts: Match. No condition of its own. -/
import Derived.Test.YtijkabgijfdpfaaGreatDoorMAA
import Derived.Test.YtijkabgijfdpfaaGreatDoorMAH
import Derived.Test.YtijkabgijfdpfaaGreatDoorMAE
import Derived.Test.YtijkabgijfdpfaaGreatDoorGameC
namespace Go.Proofs.YtijkabgijfdpfaaGreatDoor
open Go.Den
set_option linter.unusedVariables false
set_option maxRecDepth 100000
def qjq : Ann := (.two .nil (.two .nil (.two (.two .nil (.join ⟨[], [(3, Zt55)], []⟩ (.two (.loop ⟨[23], [(3, Zt55), (24, Zt56)], []⟩ .nil) .nil))) .nil)))
noncomputable def matchEntry_con : Con := ⟨[Zt25], true, [], .str, fun x => qiL x.1, none⟩
noncomputable def qjG : Env := (90, .con qhU) :: (49, .con qkT) :: []
theorem qpk (x : DL matchEntry_con.ps) : matchEntry_con.φ x = denF Tryz.prog qjG qjq Tryz.f28 matchEntry_con.ps matchEntry_con.one matchEntry_con.res matchEntry_con.ρ x := by kernel_rfl
theorem qrI : ConOK Tryz.prog 28 matchEntry_con :=
  qa (env := qjG) ((EnvOK.cons (EnvOK.cons (EnvOK.nil _) qrS) qrd)) mixed Tryz.func28 matchEntry_con qjq (by kernel_rfl) (fun h => by first | rfl | cases h) (fun g hg => by cases hg) qpk
def qic : Ann := .nil
noncomputable def clockWithin_con : Con := ⟨[Zt56, Zt56, Zt56], true, [], .bool, fun x => qgK x.1 x.2.1 x.2.2.1, some fun x => qf x.1 x.2.1 x.2.2.1⟩
noncomputable def qie : Env := []
theorem qou (x : DL clockWithin_con.ps) : clockWithin_con.φ x = denF Tryz.prog qie qic Tryz.f54 clockWithin_con.ps clockWithin_con.one clockWithin_con.res clockWithin_con.ρ x := by kernel_rfl
theorem qb8 : ConOK Tryz.prog 54 clockWithin_con :=
  qa (env := qie) ((EnvOK.nil _)) mixed Tryz.func54 clockWithin_con qic (by kernel_rfl) (fun h => by first | rfl | cases h) (fun g hg x => by
    cases hg
    exact qph _ _ _) qou
def qjn : Ann := (.two .nil (.two .nil (.two .nil (.two (.two .nil (.joinE ⟨[], [], []⟩ (.two (.loop ⟨[1, 21, 22], [(23, Zt56)], []⟩ .nil) .nil))) .nil))))
noncomputable def clockCheck_con : Con := ⟨[Zt33], true, [], Zt56, fun x => qf9 x.1, none⟩
noncomputable def qjj : Env := (159, .ck 197) :: (54, .con clockWithin_con) :: []
theorem qpa (x : DL clockCheck_con.ps) : clockCheck_con.φ x = denF Tryz.prog qjj qjn Tryz.f105 clockCheck_con.ps clockCheck_con.one clockCheck_con.res clockCheck_con.ρ x := by kernel_rfl
theorem ql8 : ConOK Tryz.prog 105 clockCheck_con :=
  qa (env := qjj) ((EnvOK.check (EnvOK.cons (EnvOK.nil _) qb8) qb)) mixed Tryz.func105 clockCheck_con qjn (by kernel_rfl) (fun h => by first | rfl | cases h) (fun g hg => by cases hg) qpa
def qjy : Ann := (.two .nil (.two .nil (.two .nil (.two (.two .nil (.join ⟨[], [(6, .bool)], []⟩ (.two (.loop ⟨[2, 3], [(6, .bool), (26, Zt56)], []⟩ .nil) .nil))) .nil))))
noncomputable def clockValid_con : Con := ⟨[Zt33, Zt15], true, [], Zt56, fun x => qiN x.1 x.2.1, none⟩
noncomputable def qjQ : Env := (54, .con clockWithin_con) :: (105, .con clockCheck_con) :: []
theorem qpz (x : DL clockValid_con.ps) : clockValid_con.φ x = denF Tryz.prog qjQ qjy Tryz.f99 clockValid_con.ps clockValid_con.one clockValid_con.res clockValid_con.ρ x := by kernel_rfl
theorem qri : ConOK Tryz.prog 99 clockValid_con :=
  qa (env := qjQ) ((EnvOK.cons (EnvOK.cons (EnvOK.nil _) ql8) qb8)) mixed Tryz.func99 clockValid_con qjy (by kernel_rfl) (fun h => by first | rfl | cases h) (fun g hg => by cases hg) qpz
def qlc : Ann := .nil
noncomputable def clockUsed_con : Con := ⟨[Zt33, Zt15, Zt56], true, [], Zt56, fun x => qke x.1 x.2.1 x.2.2.1, some fun x => qu x.1 x.2.1 x.2.2.1⟩
noncomputable def qkI : Env := []
theorem qrC (x : DL clockUsed_con.ps) : clockUsed_con.φ x = denF Tryz.prog qkI qlc Tryz.f55 clockUsed_con.ps clockUsed_con.one clockUsed_con.res clockUsed_con.ρ x := by kernel_rfl
theorem qhD : ConOK Tryz.prog 55 clockUsed_con :=
  qa (env := qkI) ((EnvOK.nil _)) mixed Tryz.func55 clockUsed_con qlc (by kernel_rfl) (fun h => by first | rfl | cases h) (fun g hg x => by
    cases hg
    exact qsn _ _ _) qrC
def qkC : Ann := (.two .nil (.two .nil (.two .nil (.two (.two .nil (.join ⟨[4, 6], [], [(1, some (.box Zt19))]⟩ .nil)) .nil))))
noncomputable def clockLook_con : Con := ⟨[Zt33, Zt15, Zt56], false, [Zt15, Zt56], Zt13, fun x => qaB x.1 x.2.1 x.2.2.1, none⟩
noncomputable def qls : Env := (55, .con clockUsed_con) :: (54, .con clockWithin_con) :: (99, .con clockValid_con) :: (159, .ck 197) :: []
theorem qqY (x : DL clockLook_con.ps) : clockLook_con.φ x = denF Tryz.prog qls qkC Tryz.f40 clockLook_con.ps clockLook_con.one clockLook_con.res clockLook_con.ρ x := by kernel_rfl
theorem qfo : ConOK Tryz.prog 40 clockLook_con :=
  qa (env := qls) ((EnvOK.cons (EnvOK.cons (EnvOK.cons (EnvOK.check (EnvOK.nil _) qb) qri) qb8) qhD)) mixed Tryz.func40 clockLook_con qkC (by kernel_rfl) (fun h => by first | rfl | cases h) (fun g hg => by cases hg) qqY
def qd7 : Ann := .nil
noncomputable def slicesClone_Move_con : Con := ⟨[Zt44], true, [], Zt42, fun x => qb9 x.1, none⟩
noncomputable def qd8 : Env := []
theorem qi2 (x : DL slicesClone_Move_con.ps) : slicesClone_Move_con.φ x = denF Tryz.prog qd8 qd7 Tryz.f119 slicesClone_Move_con.ps slicesClone_Move_con.one slicesClone_Move_con.res slicesClone_Move_con.ρ x := by kernel_rfl
theorem qkm : ConOK Tryz.prog 119 slicesClone_Move_con :=
  qa (env := qd8) ((EnvOK.nil _)) mixed Tryz.func119 slicesClone_Move_con qd7 (by kernel_rfl) (fun h => by first | rfl | cases h) (fun g hg => by cases hg) qi2
def qe4 : Ann := .nil
noncomputable def plainGameMoves_con : Con := ⟨[Zt6], true, [], Zt42, fun x => qt x.1, none⟩
noncomputable def qfw : Env := (119, .con slicesClone_Move_con) :: []
theorem qlK (x : DL plainGameMoves_con.ps) : plainGameMoves_con.φ x = denB Tryz.prog qfw qe4 Tryz.f52 true plainGameMoves_con.ps plainGameMoves_con.one plainGameMoves_con.res plainGameMoves_con.ρ x := by kernel_rfl
theorem qaO : qpW Tryz.prog 52 plainGameMoves_con :=
  qlw (env := qfw) ((EnvOK.cons (EnvOK.nil _) qkm)) mixed Tryz.func52 plainGameMoves_con qe4 (by kernel_rfl) (fun h => by first | rfl | cases h) (fun g hg => by cases hg) qlK
def qjV : Ann := .nil
noncomputable def clockReady_con : Con := ⟨[Zt33, Zt15, Zt56, .bool], false, [Zt15, Zt56], Zt13, fun x => qiV x.1 x.2.1 x.2.2.1 x.2.2.2.1, none⟩
noncomputable def qjU : Env := (40, .con clockLook_con) :: (159, .ck 197) :: []
theorem qpt (x : DL clockReady_con.ps) : clockReady_con.φ x = denF Tryz.prog qjU qjV Tryz.f201 clockReady_con.ps clockReady_con.one clockReady_con.res clockReady_con.ρ x := by kernel_rfl
theorem qrD : ConOK Tryz.prog 201 clockReady_con :=
  qa (env := qjU) ((EnvOK.cons (EnvOK.check (EnvOK.nil _) qb) qfo)) mixed Tryz.func201 clockReady_con qjV (by kernel_rfl) (fun h => by first | rfl | cases h) (fun g hg => by cases hg) qpt
def qju : Ann := (.two .nil (.two .nil (.two .nil (.two .nil (.two (.tail 16 .nil) (.two .nil (.two (.two .nil (.two .nil (.join ⟨[2, 4, 6, 9], [], [(1, some (.box Zt19))]⟩ (.two (.two .nil (.two .nil (.tail 18 .nil))) .nil)))) .nil)))))))
noncomputable def clockPress_con : Con := ⟨[Zt33, Zt15, Zt56], false, [Zt15, Zt56], Zt13, fun x => qiU x.1 x.2.1 x.2.2.1, none⟩
noncomputable def qjH : Env := (55, .con clockUsed_con) :: (201, .con clockReady_con) :: (159, .ck 197) :: []
theorem qpE (x : DL clockPress_con.ps) : clockPress_con.φ x = denF Tryz.prog qjH qju Tryz.f145 clockPress_con.ps clockPress_con.one clockPress_con.res clockPress_con.ρ x := by kernel_rfl
theorem qry : ConOK Tryz.prog 145 clockPress_con :=
  qa (env := qjH) ((EnvOK.cons (EnvOK.cons (EnvOK.check (EnvOK.nil _) qb) qrD) qhD)) mixed Tryz.func145 clockPress_con qju (by kernel_rfl) (fun h => by first | rfl | cases h) (fun g hg => by cases hg) qpE
def qjv : Ann := (.two .nil (.two (.two .nil (.joinE ⟨[], [], []⟩ (.two (.loop ⟨[1, 8], [(9, Zt56)], []⟩ (.two .nil (.two .nil (.two (.joinE ⟨[1, 8, 9], [], []⟩ (.two (.two .nil (.two (.two (.join ⟨[1, 3, 4, 8, 9], [(16, Zt48), (17, Zt56)], []⟩ .nil) (.joinE ⟨[1, 3, 4, 8, 9], [], []⟩ (.two (.loop ⟨[1, 3, 4, 8, 9, 16], [(17, Zt56)], []⟩ .nil) .nil))) (.two .nil (.two (.join ⟨[1, 8, 9], [(43, .bool)], []⟩ .nil) .nil)))) .nil)) .nil)))) .nil))) .nil))
noncomputable def offerCheck_con : Con := ⟨[Zt22], true, [], Zt56, fun x => qiP x.1, none⟩
noncomputable def qjs : Env := []
theorem qpv (x : DL offerCheck_con.ps) : offerCheck_con.φ x = denF Tryz.prog qjs qjv Tryz.f202 offerCheck_con.ps offerCheck_con.one offerCheck_con.res offerCheck_con.ρ x := by kernel_rfl
theorem qrH : ConOK Tryz.prog 202 offerCheck_con :=
  qa (env := qjs) ((EnvOK.nil _)) mixed Tryz.func202 offerCheck_con qjv (by kernel_rfl) (fun h => by first | rfl | cases h) (fun g hg => by cases hg) qpv
def qhd : Ann := .nil
noncomputable def offerCheck_i_con : Con := ⟨[Zt22, Zt56, Zt56, Zt56], true, [], Zt56, fun x => qbJ x.1 x.2.1 x.2.2.1 x.2.2.2.1, none⟩
noncomputable def qhn : Env := (202, .con offerCheck_con) :: []
theorem qns (x : DL offerCheck_i_con.ps) : offerCheck_i_con.φ x = denF Tryz.prog qhn qhd Tryz.f148 offerCheck_i_con.ps offerCheck_i_con.one offerCheck_i_con.res offerCheck_i_con.ρ x := by kernel_rfl
theorem qcG : ConOK Tryz.prog 148 offerCheck_i_con :=
  qa (env := qhn) ((EnvOK.cons (EnvOK.nil _) qrH)) mixed Tryz.func148 offerCheck_i_con qhd (by kernel_rfl) (fun h => by first | rfl | cases h) (fun g hg => by cases hg) qns
def qld : Ann := (.two .nil (.two .nil (.two (.two .nil (.join ⟨[2, 4], [], [(0, some (.box Zt30))]⟩ .nil)) .nil)))
noncomputable def offerMove_con : Con := ⟨[Zt22, Zt56], false, [Zt22, Zt56], Zt17, fun x => qgo x.1 x.2.1, none⟩
noncomputable def qlF : Env := (148, .con offerCheck_i_con) :: (159, .ck 197) :: []
theorem qrt (x : DL offerMove_con.ps) : offerMove_con.φ x = denF Tryz.prog qlF qld Tryz.f146 offerMove_con.ps offerMove_con.one offerMove_con.res offerMove_con.ρ x := by kernel_rfl
theorem qsX : ConOK Tryz.prog 146 offerMove_con :=
  qa (env := qlF) ((EnvOK.cons (EnvOK.check (EnvOK.nil _) qb) qcG)) mixed Tryz.func146 offerMove_con qld (by kernel_rfl) (fun h => by first | rfl | cases h) (fun g hg => by cases hg) qrt
def qfx : Ann := (.two .nil (.two .nil (.two (.tail 5 .nil) (.two (.any 262143 0 (.ord 0 0 .nil (.ord 1 0 .nil (.ord 2 0 .nil (.ord 3 0 .nil (.ord 4 2031 .nil (.ord 5 0 .nil (.ord 6 0 .nil (.ord 7 0 .nil (.ord 8 0 .nil (.ord 9 1535 .nil (.ord 10 0 .nil (.ord 11 0 .nil (.ord 12 0 .nil (.ord 13 0 .nil (.ord 14 0 .nil (.ord 15 0 .nil (.ord 16 0 .nil (.ord 17 0 .nil (.ord 18 0 .nil .nil)))))))))))))))))))) .nil))))
noncomputable def matchMatchMove_con : Ioc := ⟨Zt1, [Zt45, Zt56], false, [], .nil, fun x => qan x.1 x.2.1 x.2.2.1⟩
noncomputable def qfN : Env := (146, .con offerMove_con) :: (145, .con clockPress_con) :: (71, .io plainGamePlay_con) :: (72, .rd plainGamePosition_con) :: (167, .body Tryz.f167) :: []
theorem qlu (x : DL (Zt1 :: [Zt45, Zt56])) : matchMatchMove_con.φ x = denIO Tryz.prog qfN qfx Tryz.f170 Zt1 [Zt45, Zt56] false [] .nil x := by kernel_rfl
theorem qmi : IocOK Tryz.prog 170 matchMatchMove_con :=
  qap (env := qfN) ((EnvOK.cons (EnvOK.cons (EnvOK.inout (EnvOK.readonly (EnvOK.body (EnvOK.nil _) Tryz.func167) qP) qhq) qry) qsX)) mixed Tryz.func170 matchMatchMove_con qfx (by kernel_rfl) (fun h => by first | rfl | cases h) qlu
def ql6 : Ann := (.two .nil (.two .nil (.two (.two .nil (.join ⟨[], [(5, Zt42)], []⟩ (.two (.loop ⟨[1, 8, 9], [(5, Zt42), (10, Zt56)], []⟩ (.two .nil (.two .nil (.two (.two (.two .nil (.two .nil (.join ⟨[1, 8, 9, 10], [(5, Zt42)], [(0, none)]⟩ .nil))) .nil) .nil)))) .nil))) .nil)))
noncomputable def premoveOf_con : Con := ⟨[Zt34, Zt56], true, [], Zt42, fun x => qgb x.1 x.2.1, none⟩
noncomputable def qkK : Env := (159, .ck 197) :: []
theorem qrw (x : DL premoveOf_con.ps) : premoveOf_con.φ x = denF Tryz.prog qkK ql6 Tryz.f222 premoveOf_con.ps premoveOf_con.one premoveOf_con.res premoveOf_con.ρ x := by kernel_rfl
theorem qm6 : ConOK Tryz.prog 222 premoveOf_con :=
  qa (env := qkK) ((EnvOK.check (EnvOK.nil _) qb)) mixed Tryz.func222 premoveOf_con ql6 (by kernel_rfl) (fun h => by first | rfl | cases h) (fun g hg => by cases hg) qrw
def qha : Ann := (.two .nil (.two (.two (.join ⟨[0], [(12, .bool)], []⟩ .nil) .nil) (.two (.two (.two (.two .nil (.two (.two (.two .nil (.two (.two .nil (.joinE ⟨[], [], []⟩ (.two (.loop ⟨[0, 1, 7], [(8, Zt56)], []⟩ .nil) .nil))) .nil)) .nil) .nil)) .nil) .nil) .nil)))
noncomputable def premoveCheck_con : Con := ⟨[Zt34], true, [], Zt56, fun x => qdR x.1, none⟩
noncomputable def qhc : Env := (260, .body Tryz.f260) :: (252, .body Tryz.f252) :: (259, .body Tryz.f259) :: (222, .con premoveOf_con) :: []
theorem qnu (x : DL premoveCheck_con.ps) : premoveCheck_con.φ x = denF Tryz.prog qhc qha Tryz.f221 premoveCheck_con.ps premoveCheck_con.one premoveCheck_con.res premoveCheck_con.ρ x := by kernel_rfl
theorem qh2 : ConOK Tryz.prog 221 premoveCheck_con :=
  qa (env := qhc) ((EnvOK.body (EnvOK.body (EnvOK.body (EnvOK.cons (EnvOK.nil _) qm6) Tryz.func259) Tryz.func252) Tryz.func260)) mixed Tryz.func221 premoveCheck_con qha (by kernel_rfl) (fun h => by first | rfl | cases h) (fun g hg => by cases hg) qnu
def qfb : Ann := .nil
noncomputable def premoveCheck_i_con : Con := ⟨[Zt12, Zt28, Zt34], true, [], Zt56, fun x => qdA x.1 x.2.1 x.2.2.1, none⟩
noncomputable def qfG : Env := (221, .con premoveCheck_con) :: (74, .con placeCheck_con) :: []
theorem qkL (x : DL premoveCheck_i_con.ps) : premoveCheck_i_con.φ x = denF Tryz.prog qfG qfb Tryz.f218 premoveCheck_i_con.ps premoveCheck_i_con.one premoveCheck_i_con.res premoveCheck_i_con.ρ x := by kernel_rfl
theorem qmL : ConOK Tryz.prog 218 premoveCheck_i_con :=
  qa (env := qfG) ((EnvOK.cons (EnvOK.cons (EnvOK.nil _) qlY) qh2)) mixed Tryz.func218 premoveCheck_i_con qfb (by kernel_rfl) (fun h => by first | rfl | cases h) (fun g hg => by cases hg) qkL
def qbF : Ann := .nil
noncomputable def slicesClone_PremoveMove_con : Con := ⟨[Zt34], true, [], Zt31, fun x => qv x.1, none⟩
noncomputable def qbz : Env := []
theorem qeS (x : DL slicesClone_PremoveMove_con.ps) : slicesClone_PremoveMove_con.φ x = denF Tryz.prog qbz qbF Tryz.f53 slicesClone_PremoveMove_con.ps slicesClone_PremoveMove_con.one slicesClone_PremoveMove_con.res slicesClone_PremoveMove_con.ρ x := by kernel_rfl
theorem qS : ConOK Tryz.prog 53 slicesClone_PremoveMove_con :=
  qa (env := qbz) ((EnvOK.nil _)) mixed Tryz.func53 slicesClone_PremoveMove_con qbF (by kernel_rfl) (fun h => by first | rfl | cases h) (fun g hg => by cases hg) qeS
def qfl : Ann := (.two .nil (.two (.two (.two .nil (.two (.two (.two .nil (.two (.two .nil (.joinE ⟨[], [], []⟩ (.two (.loop ⟨[0, 1, 7], [(8, Zt56)], []⟩ .nil) .nil))) .nil)) .nil) (.sel 2 1000004 (.two .nil (.two (.two .nil (.join ⟨[0], [(5, Zt56)], [(1, some (.arr 139 Zt35))]⟩ (.two (.loop ⟨[0, 1], [(5, Zt56), (6, Zt56)], [(1, some (.arr 139 Zt35))]⟩ (.two .nil (.two (.two (.two .nil (.two .nil (.join ⟨[0, 1, 6], [(5, Zt56)], [(1, some (.arr 139 Zt35))]⟩ .nil))) .nil) .nil))) .nil))) (.two (.own .nil) (.two (.own .nil) .nil)))) .nil))) .nil) .nil))
noncomputable def premoveWithout_con : Con := ⟨[Zt34, Zt56], true, [], Zt31, fun x => qb3 x.1 x.2.1, none⟩
noncomputable def qfm : Env := (159, .ck 197) :: (289, .body Tryz.f289) :: (252, .body Tryz.f252) :: (288, .body Tryz.f288) :: (53, .con slicesClone_PremoveMove_con) :: []
theorem qkO (x : DL premoveWithout_con.ps) : premoveWithout_con.φ x = denF Tryz.prog qfm qfl Tryz.f254 premoveWithout_con.ps premoveWithout_con.one premoveWithout_con.res premoveWithout_con.ρ x := by kernel_rfl
theorem qmM : ConOK Tryz.prog 254 premoveWithout_con :=
  qa (env := qfm) ((EnvOK.check (EnvOK.body (EnvOK.body (EnvOK.body (EnvOK.cons (EnvOK.nil _) qS) Tryz.func288) Tryz.func252) Tryz.func289) qb)) mixed Tryz.func254 premoveWithout_con qfl (by kernel_rfl) (fun h => by first | rfl | cases h) (fun g hg => by cases hg) qkO
def qbt : Ann := (.two .nil (.two .nil (.two (.two .nil (.join ⟨[0], [(3, Zt56)], []⟩ (.two (.loop ⟨[0, 9, 10], [(3, Zt56), (11, Zt56)], []⟩ .nil) .nil))) (.two (.two (.two .nil (.two .nil (.two (.two .nil (.two .nil (.join ⟨[], [(0, Zt31)], []⟩ (.two (.own (.own .nil)) .nil)))) .nil))) .nil) (.two (.two .nil (.join ⟨[], [(6, Zt31)], [(0, none)]⟩ (.two (.loop ⟨[25, 26], [(6, Zt31), (27, Zt56)], [(0, none)]⟩ .nil) .nil))) .nil)))))
noncomputable def slicesConcat_PremoveMove_con : Con := ⟨[(.sl Zt34)], true, [], Zt31, fun x => qae x.1, none⟩
noncomputable def qbs : Env := (290, .body Tryz.f290) :: []
theorem qel (x : DL slicesConcat_PremoveMove_con.ps) : slicesConcat_PremoveMove_con.φ x = denF Tryz.prog qbs qbt Tryz.f255 slicesConcat_PremoveMove_con.ps slicesConcat_PremoveMove_con.one slicesConcat_PremoveMove_con.res slicesConcat_PremoveMove_con.ρ x := by kernel_rfl
theorem qeC : ConOK Tryz.prog 255 slicesConcat_PremoveMove_con :=
  qa (env := qbs) ((EnvOK.body (EnvOK.nil _) Tryz.func290)) mixed Tryz.func255 slicesConcat_PremoveMove_con qbt (by kernel_rfl) (fun h => by first | rfl | cases h) (fun g hg => by cases hg) qel
def qhK : Ann := (.two .nil (.two (.two (.two .nil (.two (.two .nil (.joinE ⟨[], [], []⟩ (.two (.loop ⟨[0, 1, 7], [(8, Zt56)], []⟩ .nil) .nil))) .nil)) .nil) (.sel 3 1000004 (.two (.two (.join ⟨[2, 4, 6, 9], [(26, .bool)], []⟩ (.any 16351 32 (.ord 0 0 .nil (.ord 1 0 .nil (.ord 2 0 .nil (.ord 3 2007 .nil (.ord 4 1999 .nil (.ord 6 0 .nil (.ord 7 0 .nil (.ord 8 0 .nil (.ord 9 0 .nil (.ord 10 1023 .nil (.ord 5 0 .nil (.ord 11 0 .nil (.ord 12 0 .nil (.ord 13 0 .nil .nil)))))))))))))))) .nil) (.two (.any 102399 12288 (.ord 0 0 .nil (.ord 1 0 .nil (.ord 2 0 .nil (.ord 3 0 .nil (.ord 4 16367 .nil (.ord 5 0 .nil (.ord 6 0 .nil (.ord 7 0 .nil (.ord 8 0 .nil (.ord 9 0 .nil (.ord 10 0 .nil (.ord 11 0 .nil (.ord 12 0 .nil (.ord 13 0 .nil (.ord 14 0 .nil (.ord 15 0 .nil (.ord 16 0 .nil .nil)))))))))))))))))) .nil)) (.two (.two (.any 16351 32 (.ord 0 0 .nil (.ord 1 0 .nil (.ord 2 0 .nil (.ord 3 2007 .nil (.ord 4 1999 .nil (.ord 6 0 .nil (.ord 7 0 .nil (.ord 8 0 .nil (.ord 9 0 .nil (.ord 10 1023 .nil (.ord 5 0 .nil (.ord 11 0 .nil (.ord 12 0 .nil (.ord 13 0 .nil .nil))))))))))))))) .nil) .nil))))
noncomputable def premoveNext_con : Con := ⟨[Zt12, Zt28, Zt34], false, [Zt45, .bool, Zt31], (.st Zt45 (.st .bool (.st Zt31 .nil))), fun x => qgz x.1 x.2.1 x.2.2.1, none⟩
noncomputable def qiq : Env := (255, .con slicesConcat_PremoveMove_con) :: (254, .con premoveWithout_con) :: (98, .con slicesContains_Move_con) :: (168, .con endsMoves_con) :: (253, .body Tryz.f253) :: (252, .body Tryz.f252) :: (159, .ck 197) :: []
theorem qnQ (x : DL premoveNext_con.ps) : premoveNext_con.φ x = denF Tryz.prog qiq qhK Tryz.f219 premoveNext_con.ps premoveNext_con.one premoveNext_con.res premoveNext_con.ρ x := by kernel_rfl
theorem qpl : ConOK Tryz.prog 219 premoveNext_con :=
  qa (env := qiq) ((EnvOK.cons (EnvOK.cons (EnvOK.cons (EnvOK.cons (EnvOK.body (EnvOK.body (EnvOK.check (EnvOK.nil _) qb) Tryz.func252) Tryz.func253) qmX) qbh) qmM) qeC)) mixed Tryz.func219 premoveNext_con qhK (by kernel_rfl) (fun h => by first | rfl | cases h) (fun g hg => by cases hg) qnQ
def qgp : Ann := .nil
noncomputable def premoveNext_i_con : Con := ⟨[Zt12, Zt28, Zt34], false, [Zt45, .bool, Zt31, Zt56], (.st Zt45 (.st .bool Zt27)), fun x => qaY x.1 x.2.1 x.2.2.1, none⟩
noncomputable def qf3 : Env := (219, .con premoveNext_con) :: (218, .con premoveCheck_i_con) :: (159, .ck 197) :: []
theorem qmm (x : DL premoveNext_i_con.ps) : premoveNext_i_con.φ x = denF Tryz.prog qf3 qgp Tryz.f171 premoveNext_i_con.ps premoveNext_i_con.one premoveNext_i_con.res premoveNext_i_con.ρ x := by kernel_rfl
theorem qnr : ConOK Tryz.prog 171 premoveNext_i_con :=
  qa (env := qf3) ((EnvOK.cons (EnvOK.cons (EnvOK.check (EnvOK.nil _) qb) qmL) qpl)) mixed Tryz.func171 premoveNext_i_con qgp (by kernel_rfl) (fun h => by first | rfl | cases h) (fun g hg => by cases hg) qmm
def qdX : Ann := (.ord 14 0 .nil (.ord 15 0 .nil (.ord 16 0 .nil (.ord 17 0 .nil (.ord 18 0 .nil (.ord 19 0 .nil (.ord 21 0 .nil (.ord 22 0 .nil (.ord 23 0 .nil (.ord 24 0 .nil .nil))))))))))
def qd6 : Ann := (.two .nil (.two (.two (.two (.join ⟨[0, 3], [(9, .bool)], []⟩ (.any 61 0 (.ord 0 0 .nil (.ord 2 0 .nil (.alt (.ord 1 0 .nil (.ord 3 0 .nil (.ord 4 0 .nil (.ord 5 0 .nil .nil)))) (.ord 3 0 .nil (.ord 1 0 .nil (.ord 4 0 .nil (.ord 5 0 .nil .nil))))))))) (.two .nil (.two (.any 31999 768 (.ord 0 0 .nil (.ord 1 0 .nil (.ord 2 0 .nil (.ord 3 3575 .nil (.ord 4 0 .nil (.ord 5 0 .nil (.ord 6 0 .nil (.ord 7 3199 .nil (.ord 10 0 .nil (.ord 11 2047 .nil (.ord 8 0 .nil (.ord 9 0 .nil (.ord 12 0 .nil (.ord 13 0 .nil (.ord 14 0 .nil .nil)))))))))))))))) .nil))) .nil) (.two .nil (.two (.join ⟨[], [], [(0, some (.box Zt2)), (10, none), (11, none), (12, none)]⟩ (.two (.loop ⟨[0, 3], [], [(0, some (.box Zt2)), (10, none), (11, none), (12, none)]⟩ (.two (.two (.join ⟨[0, 3], [(50, .bool)], []⟩ .nil) .nil) (.two (.two (.join ⟨[0, 3], [(5, (.obx Zt45)), (6, .bool), (7, Zt31)], []⟩ (.any 30392063 1065216 (.ord 0 0 .nil (.ord 1 0 .nil (.ord 2 0 .nil (.ord 3 1064951 .nil (.ord 4 0 .nil (.ord 5 0 .nil (.ord 6 0 .nil (.ord 7 1064575 .nil (.ord 9 0 .nil (.ord 10 0 .nil (.ord 11 0 .nil (.ord 12 0 .nil (.ord 13 1056767 .nil (.alt (.ord 8 0 .nil (.alt (.ord 14 0 .nil (.ord 15 0 .nil (.ord 16 0 .nil (.ord 17 0 .nil (.ord 18 0 .nil (.ord 19 0 .nil (.ord 20 0 .nil (.ord 21 0 .nil (.ord 22 0 .nil (.ord 23 0 .nil (.ord 24 0 .nil .nil))))))))))) (.ord 20 0 .nil qdX))) (.ord 20 0 .nil (.ord 8 0 .nil qdX)))))))))))))))))) .nil) .nil))) .nil)) .nil))))
noncomputable def matchMatchDoMove_con : Ioc := ⟨Zt1, [Zt25], true, [], Zt56, fun x => qaA x.1 x.2.1⟩
noncomputable def qd4 : Env := (159, .ck 197) :: (171, .con premoveNext_i_con) :: (73, .rd plainGameResult_con) :: (170, .io matchMatchMove_con) :: (52, .rd plainGameMoves_con) :: (169, .body Tryz.f169) :: (98, .con slicesContains_Move_con) :: (168, .con endsMoves_con) :: (72, .rd plainGamePosition_con) :: (167, .body Tryz.f167) :: []
theorem qi6 (x : DL (Zt1 :: [Zt25])) : matchMatchDoMove_con.φ x = denIO Tryz.prog qd4 qd6 Tryz.f114 Zt1 [Zt25] true [] Zt56 x := by kernel_rfl
theorem qj4 : IocOK Tryz.prog 114 matchMatchDoMove_con :=
  qap (env := qd4) ((EnvOK.check (EnvOK.cons (EnvOK.readonly (EnvOK.inout (EnvOK.readonly (EnvOK.body (EnvOK.cons (EnvOK.cons (EnvOK.readonly (EnvOK.body (EnvOK.nil _) Tryz.func167) qP) qmX) qbh) Tryz.func169) qaO) qmi) qbu) qnr) qb)) mixed Tryz.func114 matchMatchDoMove_con qd6 (by kernel_rfl) (fun h => by first | rfl | cases h) qi6
def qlX : Ann := .nil
noncomputable def offerTurn_con : Con := ⟨[Zt56], true, [], Zt56, fun x => qku x.1, some fun x => qiw x.1⟩
noncomputable def qkA : Env := []
theorem qrh (x : DL offerTurn_con.ps) : offerTurn_con.φ x = denF Tryz.prog qkA qlX Tryz.f203 offerTurn_con.ps offerTurn_con.one offerTurn_con.res offerTurn_con.ρ x := by kernel_rfl
theorem qtk : ConOK Tryz.prog 203 offerTurn_con :=
  qa (env := qkA) ((EnvOK.nil _)) mixed Tryz.func203 offerTurn_con qlX (by kernel_rfl) (fun h => by first | rfl | cases h) (fun g hg x => by
    cases hg
    exact qsc _) qrh
def qjL : Ann := (.two .nil (.two .nil (.two (.two .nil (.join ⟨[0, 1], [(5, Zt56)], []⟩ .nil)) .nil)))
noncomputable def offerPlies_con : Con := ⟨[Zt56, Zt56], true, [], Zt56, fun x => qdm x.1 x.2.1, none⟩
noncomputable def qjd : Env := (203, .con offerTurn_con) :: []
theorem qpA (x : DL offerPlies_con.ps) : offerPlies_con.φ x = denF Tryz.prog qjd qjL Tryz.f149 offerPlies_con.ps offerPlies_con.one offerPlies_con.res offerPlies_con.ρ x := by kernel_rfl
theorem qlg : ConOK Tryz.prog 149 offerPlies_con :=
  qa (env := qjd) ((EnvOK.cons (EnvOK.nil _) qtk)) mixed Tryz.func149 offerPlies_con qjL (by kernel_rfl) (fun h => by first | rfl | cases h) (fun g hg => by cases hg) qpA
def qk5 : Ann := (.two .nil (.two .nil (.two (.two (.two .nil (.two .nil (.two .nil (.two .nil (.two (.join ⟨[1, 2, 3, 4, 8], [(28, .bool)], []⟩ .nil) .nil))))) .nil) (.two (.join ⟨[4, 8], [], [(0, some (.box Zt30))]⟩ (.any 1919 0 (.ord 0 0 .nil (.ord 1 0 .nil (.ord 2 0 .nil (.ord 3 0 .nil (.ord 4 0 .nil (.ord 5 0 .nil (.ord 6 0 .nil (.ord 8 0 .nil (.ord 9 0 .nil (.ord 7 0 .nil (.ord 10 0 .nil (.ord 11 0 .nil .nil)))))))))))))) .nil))))
noncomputable def offerMake_con : Con := ⟨[Zt22, Zt56, Zt56, Zt56], false, [Zt22, Zt56], Zt17, fun x => qc0 x.1 x.2.1 x.2.2.1 x.2.2.2.1, none⟩
noncomputable def qli : Env := (149, .con offerPlies_con) :: (148, .con offerCheck_i_con) :: (159, .ck 197) :: []
theorem qq3 (x : DL offerMake_con.ps) : offerMake_con.φ x = denF Tryz.prog qli qk5 Tryz.f83 offerMake_con.ps offerMake_con.one offerMake_con.res offerMake_con.ρ x := by kernel_rfl
theorem qr8 : ConOK Tryz.prog 83 offerMake_con :=
  qa (env := qli) ((EnvOK.cons (EnvOK.cons (EnvOK.check (EnvOK.nil _) qb) qcG) qlg)) mixed Tryz.func83 offerMake_con qk5 (by kernel_rfl) (fun h => by first | rfl | cases h) (fun g hg => by cases hg) qq3
def qlP : Ann := .nil
noncomputable def offerOpen_con : Con := ⟨[Zt22, Zt56, Zt56, Zt56], true, [], Zt56, fun x => qhE x.1 x.2.1 x.2.2.1 x.2.2.2.1, none⟩
noncomputable def qlv : Env := (148, .con offerCheck_i_con) :: []
theorem qrc (x : DL offerOpen_con.ps) : offerOpen_con.φ x = denF Tryz.prog qlv qlP Tryz.f152 offerOpen_con.ps offerOpen_con.one offerOpen_con.res offerOpen_con.ρ x := by kernel_rfl
theorem qnl : ConOK Tryz.prog 152 offerOpen_con :=
  qa (env := qlv) ((EnvOK.cons (EnvOK.nil _) qcG)) mixed Tryz.func152 offerOpen_con qlP (by kernel_rfl) (fun h => by first | rfl | cases h) (fun g hg => by cases hg) qrc
def qg5 : Ann := .nil
noncomputable def offerDecline_con : Con := ⟨[Zt22, Zt56, Zt56, Zt56], false, [Zt22, Zt56], Zt17, fun x => qaD x.1 x.2.1 x.2.2.1 x.2.2.2.1, none⟩
noncomputable def qhp : Env := (152, .con offerOpen_con) :: (159, .ck 197) :: []
theorem qnx (x : DL offerDecline_con.ps) : offerDecline_con.φ x = denF Tryz.prog qhp qg5 Tryz.f85 offerDecline_con.ps offerDecline_con.one offerDecline_con.res offerDecline_con.ρ x := by kernel_rfl
theorem qn3 : ConOK Tryz.prog 85 offerDecline_con :=
  qa (env := qhp) ((EnvOK.cons (EnvOK.check (EnvOK.nil _) qb) qnl)) mixed Tryz.func85 offerDecline_con qg5 (by kernel_rfl) (fun h => by first | rfl | cases h) (fun g hg => by cases hg) qnx
def qq : Ann := (.ord 12 0 .nil (.ord 13 0 .nil (.ord 14 0 .nil (.ord 15 0 .nil (.ord 17 0 .nil (.ord 18 0 .nil .nil))))))
def qB : Ann := (.alt (.ord 12 0 .nil (.ord 13 0 .nil (.ord 14 0 .nil (.ord 15 0 .nil (.ord 16 0 .nil (.ord 17 0 .nil (.ord 18 0 .nil .nil))))))) (.ord 16 0 .nil qq))
def qbk : Ann := (.alt (.ord 9 0 .nil (.ord 11 0 .nil qq)) (.ord 11 0 .nil (.ord 9 0 .nil qq)))
def qbj : Ann := (.alt (.ord 7 0 .nil (.ord 11 0 .nil qq)) (.ord 11 0 .nil (.ord 7 0 .nil qq)))
def qbg : Ann := (.alt (.ord 5 0 .nil (.ord 11 0 .nil qq)) (.ord 11 0 .nil (.ord 5 0 .nil qq)))
def qbm : Ann := (.alt (.ord 11 0 .nil qB) (.ord 16 0 .nil (.ord 11 0 .nil qq)))
def qc8 : Ann := (.alt (.ord 7 0 .nil qbk) (.alt (.ord 9 0 .nil qbj) (.ord 11 0 .nil (.ord 7 69503 .nil (.ord 9 0 .nil qq)))))
def qda : Ann := (.alt (.ord 5 0 .nil qbj) (.alt (.ord 7 0 .nil qbg) (.ord 11 0 .nil (.ord 5 69599 .nil (.ord 7 0 .nil qq)))))
def qc6 : Ann := (.alt (.ord 5 0 .nil qbk) (.alt (.ord 9 0 .nil qbg) (.ord 11 0 .nil (.ord 5 69599 .nil (.ord 9 0 .nil qq)))))
def qcw : Ann := (.alt (.ord 9 0 .nil qbm) (.alt (.ord 11 0 .nil (.ord 9 69119 .nil qB)) (.ord 16 0 .nil qbk)))
def qcU : Ann := (.alt (.ord 7 0 .nil qbm) (.alt (.ord 11 0 .nil (.ord 7 69503 .nil qB)) (.ord 16 0 .nil qbj)))
def qc5 : Ann := (.alt (.ord 5 0 .nil qbm) (.alt (.ord 11 0 .nil (.ord 5 69599 .nil qB)) (.ord 16 0 .nil qbg)))
def qdC : Ann := (.two .nil (.two .nil (.two .nil (.two (.join ⟨[0], [(6, Zt20), (7, Zt56)], []⟩ (.any 321535 65536 (.ord 0 0 .nil (.ord 1 0 .nil (.ord 2 0 .nil (.ord 3 0 .nil (.ord 4 0 .nil (.ord 6 0 .nil (.ord 8 0 .nil (.ord 10 0 .nil (.alt (.ord 5 0 .nil (.alt (.ord 7 0 .nil qcw) (.alt (.ord 9 0 .nil qcU) (.alt (.ord 11 0 .nil (.ord 7 69503 .nil (.ord 9 69119 .nil qB))) (.ord 16 0 .nil qc8))))) (.alt (.ord 7 0 .nil (.alt (.ord 5 0 .nil qcw) (.alt (.ord 9 0 .nil qc5) (.alt (.ord 11 0 .nil (.ord 5 69599 .nil (.ord 9 69119 .nil qB))) (.ord 16 0 .nil qc6))))) (.alt (.ord 9 0 .nil (.alt (.ord 5 0 .nil qcU) (.alt (.ord 7 0 .nil qc5) (.alt (.ord 11 0 .nil (.ord 5 69599 .nil (.ord 7 69503 .nil qB))) (.ord 16 0 .nil qda))))) (.alt (.ord 11 0 .nil (.ord 5 69599 .nil (.ord 7 69503 .nil (.ord 9 69119 .nil qB)))) (.ord 16 0 .nil (.alt (.ord 5 0 .nil qc8) (.alt (.ord 7 0 .nil qc6) (.alt (.ord 9 0 .nil qda) (.ord 11 0 .nil (.ord 5 69599 .nil (.ord 7 69503 .nil (.ord 9 0 .nil qq)))))))))))))))))))))) (.two (.two .nil (.join ⟨[7], [], [(0, some (.box Zt2)), (1, none), (2, none), (3, none)]⟩ .nil)) .nil)))))
noncomputable def matchMatchDoOffer_con : Ioc := ⟨Zt1, [Zt25], true, [], Zt56, fun x => qaq x.1 x.2.1⟩
noncomputable def qdK : Env := (83, .con offerMake_con) :: (159, .ck 197) :: (85, .con offerDecline_con) :: (52, .rd plainGameMoves_con) :: (169, .body Tryz.f169) :: []
theorem qiz (x : DL (Zt1 :: [Zt25])) : matchMatchDoOffer_con.φ x = denIO Tryz.prog qdK qdC Tryz.f115 Zt1 [Zt25] true [] Zt56 x := by kernel_rfl
theorem qi3 : IocOK Tryz.prog 115 matchMatchDoOffer_con :=
  qap (env := qdK) ((EnvOK.cons (EnvOK.check (EnvOK.cons (EnvOK.readonly (EnvOK.body (EnvOK.nil _) Tryz.func169) qaO) qn3) qb) qr8)) mixed Tryz.func115 matchMatchDoOffer_con qdC (by kernel_rfl) (fun h => by first | rfl | cases h) qiz
def qit : Ann := .nil
noncomputable def offerAccept_con : Con := ⟨[Zt22, Zt56, Zt56, Zt56], false, [Zt22, Zt56], Zt17, fun x => qdl x.1 x.2.1 x.2.2.1 x.2.2.2.1, none⟩
noncomputable def qh3 : Env := (152, .con offerOpen_con) :: (159, .ck 197) :: []
theorem qoG (x : DL offerAccept_con.ps) : offerAccept_con.φ x = denF Tryz.prog qh3 qit Tryz.f150 offerAccept_con.ps offerAccept_con.one offerAccept_con.res offerAccept_con.ρ x := by kernel_rfl
theorem qpq : ConOK Tryz.prog 150 offerAccept_con :=
  qa (env := qh3) ((EnvOK.cons (EnvOK.check (EnvOK.nil _) qb) qnl)) mixed Tryz.func150 offerAccept_con qit (by kernel_rfl) (fun h => by first | rfl | cases h) (fun g hg => by cases hg) qoG
def qgm : Ann := (.two .nil (.two .nil (.two (.join ⟨[], [], [(0, some (.box Zt7)), (1, none), (2, none)]⟩ (.any 461369343 8392704 (.ord 0 0 .nil (.ord 1 0 .nil (.ord 2 0 .nil (.ord 3 0 .nil (.ord 4 0 .nil (.ord 5 16773087 .nil (.ord 6 0 .nil (.ord 7 0 .nil (.ord 8 0 .nil (.ord 9 16769535 .nil (.ord 10 0 .nil (.ord 11 0 .nil (.ord 13 0 .nil (.ord 14 0 .nil (.ord 15 0 .nil (.ord 16 8323071 .nil (.ord 17 0 .nil (.ord 18 0 .nil (.ord 19 0 .nil (.ord 20 1048575 .nil (.ord 21 0 .nil (.ord 22 0 .nil (.alt (.ord 12 0 (.own .nil) (.ord 24 0 .nil (.ord 25 0 .nil (.alt (.ord 23 0 (.own .nil) (.ord 26 0 .nil (.ord 27 0 .nil (.ord 28 0 .nil (.ord 29 0 .nil .nil))))) (.ord 26 0 .nil (.ord 23 0 (.own .nil) (.ord 27 0 .nil (.ord 28 0 .nil (.ord 29 0 .nil .nil))))))))) (.ord 23 0 (.own .nil) (.ord 12 0 (.own .nil) (.ord 24 0 .nil (.ord 25 0 .nil (.ord 26 0 .nil (.ord 27 0 .nil (.ord 28 0 .nil (.ord 29 0 .nil .nil))))))))))))))))))))))))))))))))) .nil)))
noncomputable def plainGameBack_con : Ioc := ⟨Zt4, [], true, [], Zt56, fun x => qcB x.1⟩
noncomputable def qf4 : Env := []
theorem qmJ (x : DL (Zt4 :: [])) : plainGameBack_con.φ x = denIO Tryz.prog qf4 qgm Tryz.f172 Zt4 [] true [] Zt56 x := by kernel_rfl
theorem qnq : IocOK Tryz.prog 172 plainGameBack_con :=
  qap (env := qf4) ((EnvOK.nil _)) mixed Tryz.func172 plainGameBack_con qgm (by kernel_rfl) (fun h => by first | rfl | cases h) qmJ
def qlS : Ann := (.two .nil (.two .nil (.two .nil (.two (.two .nil (.join ⟨[2, 4], [], [(0, some (.box Zt30))]⟩ (.two (.loop ⟨[1, 2, 4], [(19, Zt56)], [(0, some (.box Zt30))]⟩ (.two .nil (.two .nil (.two (.join ⟨[1, 2, 4, 19], [], [(0, some (.box Zt30))]⟩ (.two (.two .nil (.two (.join ⟨[1, 2, 4, 7, 19], [(25, Zt48), (26, Zt56)], []⟩ .nil) (.join ⟨[1, 2, 4, 19], [], [(0, some (.box Zt30))]⟩ (.two (.loop ⟨[1, 2, 4, 7, 19, 25], [(26, Zt56)], [(0, some (.box Zt30))]⟩ (.two .nil (.two .nil (.two (.two (.two .nil (.join ⟨[1, 2, 4, 7, 19, 25, 26], [], [(0, some (.box Zt30))]⟩ .nil)) .nil) .nil)))) .nil)))) .nil)) .nil)))) .nil))) .nil))))
noncomputable def offerBack_con : Con := ⟨[Zt22, Zt56], false, [Zt22, Zt56], Zt17, fun x => qe1 x.1 x.2.1, none⟩
noncomputable def qlZ : Env := (148, .con offerCheck_i_con) :: (159, .ck 197) :: []
theorem qrG (x : DL offerBack_con.ps) : offerBack_con.φ x = denF Tryz.prog qlZ qlS Tryz.f151 offerBack_con.ps offerBack_con.one offerBack_con.res offerBack_con.ρ x := by kernel_rfl
theorem qrZ : ConOK Tryz.prog 151 offerBack_con :=
  qa (env := qlZ) ((EnvOK.cons (EnvOK.check (EnvOK.nil _) qb) qcG)) mixed Tryz.func151 offerBack_con qlS (by kernel_rfl) (fun h => by first | rfl | cases h) (fun g hg => by cases hg) qrG
def qr : Ann := (.ord 11 0 .nil (.ord 12 0 .nil (.ord 13 0 .nil (.ord 14 0 .nil (.ord 16 0 .nil (.ord 17 0 .nil .nil))))))
def qz : Ann := (.ord 11 34815 .nil (.ord 12 0 .nil (.ord 13 0 .nil (.ord 14 0 .nil (.ord 15 0 .nil (.ord 16 0 .nil (.ord 17 0 .nil .nil)))))))
def qaZ : Ann := (.alt (.ord 8 0 .nil (.ord 10 0 .nil qr)) (.ord 10 0 .nil (.ord 8 0 .nil qr)))
def qa3 : Ann := (.alt (.ord 6 0 .nil (.ord 10 0 .nil qr)) (.ord 10 0 .nil (.ord 6 0 .nil qr)))
def qa6 : Ann := (.alt (.ord 4 0 .nil (.ord 10 0 .nil qr)) (.ord 10 0 .nil (.ord 4 0 .nil qr)))
def qa1 : Ann := (.alt (.ord 10 0 .nil qz) (.ord 15 0 .nil (.ord 10 0 .nil qr)))
def qa7 : Ann := (.ord 11 0 .nil (.ord 12 0 .nil (.ord 13 0 .nil (.ord 14 0 .nil (.ord 15 0 .nil .nil)))))
def qcN : Ann := (.alt (.ord 6 0 .nil qaZ) (.alt (.ord 8 0 .nil qa3) (.ord 10 0 .nil (.ord 6 34751 .nil (.ord 8 0 .nil qr)))))
def qc3 : Ann := (.alt (.ord 4 0 .nil qa3) (.alt (.ord 6 0 .nil qa6) (.ord 10 0 .nil (.ord 4 34799 .nil (.ord 6 0 .nil qr)))))
def qcg : Ann := (.alt (.ord 4 0 .nil qaZ) (.alt (.ord 8 0 .nil qa6) (.ord 10 0 .nil (.ord 4 34799 .nil (.ord 8 0 .nil qr)))))
def qch : Ann := (.alt (.ord 8 0 .nil qa1) (.alt (.ord 10 0 .nil (.ord 8 34559 .nil qz)) (.ord 15 0 .nil qaZ)))
def qcm : Ann := (.alt (.ord 6 0 .nil qa1) (.alt (.ord 10 0 .nil (.ord 6 34751 .nil qz)) (.ord 15 0 .nil qa3)))
def qci : Ann := (.alt (.ord 4 0 .nil qa1) (.alt (.ord 10 0 .nil (.ord 4 34799 .nil qz)) (.ord 15 0 .nil qa6)))
def qaT : Ann := (.ord 8 0 .nil (.ord 9 0 .nil (.ord 10 0 .nil qa7)))
def qc9 : Ann := (.two .nil (.two (.join ⟨[0, 3], [(5, Zt20), (6, Zt56)], []⟩ (.any 162815 32768 (.ord 0 0 .nil (.ord 1 0 .nil (.ord 2 0 .nil (.ord 3 0 .nil (.ord 5 0 .nil (.ord 7 0 .nil (.ord 9 0 .nil (.alt (.ord 4 0 .nil (.alt (.ord 6 0 .nil qch) (.alt (.ord 8 0 .nil qcm) (.alt (.ord 10 0 .nil (.ord 6 34751 .nil (.ord 8 34559 .nil qz))) (.ord 15 0 .nil qcN))))) (.alt (.ord 6 0 .nil (.alt (.ord 4 0 .nil qch) (.alt (.ord 8 0 .nil qci) (.alt (.ord 10 0 .nil (.ord 4 34799 .nil (.ord 8 34559 .nil qz))) (.ord 15 0 .nil qcg))))) (.alt (.ord 8 0 .nil (.alt (.ord 4 0 .nil qcm) (.alt (.ord 6 0 .nil qci) (.alt (.ord 10 0 .nil (.ord 4 34799 .nil (.ord 6 34751 .nil qz))) (.ord 15 0 .nil qc3))))) (.alt (.ord 10 0 .nil (.ord 4 34799 .nil (.ord 6 34751 .nil (.ord 8 34559 .nil qz)))) (.ord 15 0 .nil (.alt (.ord 4 0 .nil qcN) (.alt (.ord 6 0 .nil qcg) (.alt (.ord 8 0 .nil qc3) (.ord 10 0 .nil (.ord 4 34799 .nil (.ord 6 34751 .nil (.ord 8 0 .nil qr))))))))))))))))))))) (.two .nil (.two .nil (.two .nil (.two (.two (.join ⟨[0, 3], [(46, Zt56), (47, Zt56)], []⟩ (.any 111 0 (.ord 0 0 .nil (.ord 3 0 .nil (.ord 6 0 .nil (.alt (.ord 1 0 .nil (.ord 2 0 .nil (.ord 4 0 .nil (.ord 5 0 .nil .nil)))) (.ord 4 0 .nil (.ord 1 0 .nil (.ord 2 0 .nil (.ord 5 0 .nil .nil)))))))))) (.join ⟨[0, 3], [], [(1, some (.box Zt7)), (2, none), (3, none)]⟩ (.two (.loop ⟨[0, 3, 46], [(47, Zt56)], [(1, some (.box Zt7)), (2, none), (3, none)]⟩ .nil) .nil))) (.two (.join ⟨[0, 3], [], [(0, some (.box Zt2)), (1, none), (6, none), (7, none)]⟩ (.any 32639 0 (.ord 0 0 .nil (.ord 1 0 .nil (.ord 2 0 .nil (.ord 3 0 .nil (.ord 4 0 .nil (.ord 6 0 .nil (.alt (.ord 5 0 .nil (.ord 7 0 .nil qaT)) (.ord 7 0 .nil (.ord 5 0 .nil qaT))))))))))) (.two (.join ⟨[0], [], [(0, some (.box Zt2)), (8, none), (9, none), (10, none)]⟩ (.any 31735 0 (.ord 0 0 .nil (.ord 1 0 .nil (.ord 2 0 .nil (.ord 4 0 .nil (.alt (.ord 3 0 .nil (.ord 6 0 .nil (.ord 7 0 .nil (.ord 8 0 .nil (.ord 9 0 .nil (.alt (.ord 5 0 .nil (.ord 10 0 .nil qa7)) (.ord 10 0 .nil (.ord 5 0 .nil qa7)))))))) (.ord 5 0 .nil (.ord 3 0 .nil (.ord 6 0 .nil (.ord 7 0 .nil qaT))))))))))) .nil))))))))
noncomputable def matchMatchDoAccept_con : Ioc := ⟨Zt1, [Zt25], true, [], Zt56, fun x => qaF x.1 x.2.1⟩
noncomputable def qc7 : Env := (72, .rd plainGamePosition_con) :: (167, .body Tryz.f167) :: (151, .con offerBack_con) :: (172, .io plainGameBack_con) :: (149, .con offerPlies_con) :: (159, .ck 197) :: (52, .rd plainGameMoves_con) :: (169, .body Tryz.f169) :: (150, .con offerAccept_con) :: []
theorem qhv (x : DL (Zt1 :: [Zt25])) : matchMatchDoAccept_con.φ x = denIO Tryz.prog qc7 qc9 Tryz.f116 Zt1 [Zt25] true [] Zt56 x := by kernel_rfl
theorem qh4 : IocOK Tryz.prog 116 matchMatchDoAccept_con :=
  qap (env := qc7) ((EnvOK.readonly (EnvOK.body (EnvOK.cons (EnvOK.inout (EnvOK.cons (EnvOK.check (EnvOK.readonly (EnvOK.body (EnvOK.cons (EnvOK.nil _) qpq) Tryz.func169) qaO) qb) qlg) qnq) qrZ) Tryz.func167) qP)) mixed Tryz.func116 matchMatchDoAccept_con qc9 (by kernel_rfl) (fun h => by first | rfl | cases h) qhv
def qjC : Ann := (.two .nil (.two .nil (.two .nil (.two (.two .nil (.join ⟨[1, 2], [(6, Zt53), (7, Zt56)], []⟩ (.two (.loop ⟨[1, 2, 13, 14], [(6, Zt53), (7, Zt56), (15, Zt56)], []⟩ (.two .nil (.two .nil (.two (.two (.two .nil (.two .nil (.join ⟨[1, 2, 13, 14, 15], [(6, Zt53), (7, Zt56)], [(1, none)]⟩ .nil))) .nil) .nil)))) .nil))) (.two (.two .nil (.join ⟨[], [(6, Zt53), (7, Zt56)], [(1, none)]⟩ (.two (.loop ⟨[40, 41], [(6, Zt53), (7, Zt56), (42, Zt56)], [(1, none)]⟩ (.two .nil (.two .nil (.two (.two (.two .nil (.two .nil (.join ⟨[40, 41, 42], [(6, Zt53), (7, Zt56)], [(2, none)]⟩ .nil))) .nil) .nil)))) .nil))) .nil)))))
noncomputable def claimTypes_con : Con := ⟨[Zt28, Zt56], false, [Zt53, Zt56], (.st Zt53 Zt52), fun x => qiY x.1 x.2.1, none⟩
noncomputable def qjl : Env := []
theorem qpy (x : DL claimTypes_con.ps) : claimTypes_con.φ x = denF Tryz.prog qjl qjC Tryz.f291 claimTypes_con.ps claimTypes_con.one claimTypes_con.res claimTypes_con.ρ x := by kernel_rfl
theorem qqV : ConOK Tryz.prog 291 claimTypes_con :=
  qa (env := qjl) ((EnvOK.nil _)) mixed Tryz.func291 claimTypes_con qjC (by kernel_rfl) (fun h => by first | rfl | cases h) (fun g hg => by cases hg) qpy
def qhi : Ann := (.two .nil (.two (.two .nil (.joinE ⟨[], [], []⟩ (.two (.loop ⟨[2, 3, 10], [(1, Zt56), (11, Zt56)], []⟩ .nil) .nil))) .nil))
noncomputable def claimBecomes_con : Con := ⟨[Zt12, Zt56, Zt56], true, [], .bool, fun x => qhG x.1 x.2.1 x.2.2.1, none⟩
noncomputable def qg6 : Env := []
theorem qnp (x : DL claimBecomes_con.ps) : claimBecomes_con.φ x = denF Tryz.prog qg6 qhi Tryz.f293 claimBecomes_con.ps claimBecomes_con.one claimBecomes_con.res claimBecomes_con.ρ x := by kernel_rfl
theorem qoA : ConOK Tryz.prog 293 claimBecomes_con :=
  qa (env := qg6) ((EnvOK.nil _)) mixed Tryz.func293 claimBecomes_con qhi (by kernel_rfl) (fun h => by first | rfl | cases h) (fun g hg => by cases hg) qnp
def qlL : Ann := (.two .nil (.two .nil (.two .nil (.two (.two (.join ⟨[4, 9], [(42, .bool)], []⟩ (.two (.two .nil (.two (.two (.two .nil (.two (.two .nil (.joinE ⟨[], [], []⟩ (.two (.loop ⟨[0, 1, 7], [(8, Zt56)], []⟩ .nil) .nil))) .nil)) .nil) .nil)) .nil)) .nil) (.two (.join ⟨[], [(8, .bool)], []⟩ (.two (.two .nil (.two (.two (.two .nil (.two (.two .nil (.joinE ⟨[], [], []⟩ (.two (.loop ⟨[0, 1, 7], [(8, Zt56)], []⟩ (.two .nil (.two .nil (.two (.two (.two .nil (.two (.two (.two .nil (.two (.two (.two .nil (.two (.two (.two .nil (.two (.two .nil (.joinE ⟨[], [], []⟩ (.two (.loop ⟨[0, 1, 7], [(8, Zt56)], []⟩ .nil) .nil))) .nil)) .nil) .nil)) .nil) .nil)) .nil) .nil)) .nil) .nil)))) .nil))) .nil)) .nil) .nil)) .nil)) .nil)))))
noncomputable def claimAble_con : Con := ⟨[Zt12, Zt28, Zt40, Zt56], true, [], .bool, fun x => ql2 x.1 x.2.1 x.2.2.1 x.2.2.2.1, none⟩
noncomputable def qkR : Env := (296, .body Tryz.f296) :: (306, .body Tryz.f306) :: (295, .body Tryz.f295) :: (294, .body Tryz.f294) :: (293, .con claimBecomes_con) :: (292, .body Tryz.f292) :: (187, .body Tryz.f187) :: (133, .body Tryz.f133) :: (291, .con claimTypes_con) :: []
theorem qq4 (x : DL claimAble_con.ps) : claimAble_con.φ x = denF Tryz.prog qkR qlL Tryz.f258 claimAble_con.ps claimAble_con.one claimAble_con.res claimAble_con.ρ x := by kernel_rfl
theorem qtc : ConOK Tryz.prog 258 claimAble_con :=
  qa (env := qkR) ((EnvOK.body (EnvOK.body (EnvOK.body (EnvOK.body (EnvOK.cons (EnvOK.body (EnvOK.body (EnvOK.body (EnvOK.cons (EnvOK.nil _) qqV) Tryz.func133) Tryz.func187) Tryz.func292) qoA) Tryz.func294) Tryz.func295) Tryz.func306) Tryz.func296)) mixed Tryz.func258 claimAble_con qlL (by kernel_rfl) (fun h => by first | rfl | cases h) (fun g hg => by cases hg) qq4
def qiu : Ann := (.two .nil (.two .nil (.two .nil (.two (.join ⟨[], [(6, .bool), (7, Zt56)], []⟩ (.two (.two .nil (.two (.two (.two .nil (.two (.two .nil (.joinE ⟨[], [], []⟩ (.two (.loop ⟨[0, 1, 7], [(8, Zt56)], []⟩ .nil) .nil))) .nil)) .nil) .nil)) .nil)) .nil))))
noncomputable def claimAble_i_con : Con := ⟨[Zt12, Zt28, Zt56], false, [.bool, Zt56], (.st .bool Zt52), fun x => qeO x.1 x.2.1 x.2.2.1, none⟩
noncomputable def qhF : Env := (258, .con claimAble_con) :: (257, .body Tryz.f257) :: (194, .body Tryz.f194) :: (256, .body Tryz.f256) :: (74, .con placeCheck_con) :: []
theorem qo1 (x : DL claimAble_i_con.ps) : claimAble_i_con.φ x = denF Tryz.prog qhF qiu Tryz.f220 claimAble_i_con.ps claimAble_i_con.one claimAble_i_con.res claimAble_i_con.ρ x := by kernel_rfl
theorem qpg : ConOK Tryz.prog 220 claimAble_i_con :=
  qa (env := qhF) ((EnvOK.cons (EnvOK.body (EnvOK.body (EnvOK.body (EnvOK.cons (EnvOK.nil _) qlY) Tryz.func256) Tryz.func194) Tryz.func257) qtc)) mixed Tryz.func220 claimAble_i_con qiu (by kernel_rfl) (fun h => by first | rfl | cases h) (fun g hg => by cases hg) qo1
def qhx : Ann := .nil
noncomputable def claimFallen_con : Con := ⟨[Zt12, Zt28, Zt56], false, [Zt56, Zt56], Zt48, fun x => qgQ x.1 x.2.1 x.2.2.1, none⟩
noncomputable def qhH : Env := (220, .con claimAble_i_con) :: []
theorem qnT (x : DL claimFallen_con.ps) : claimFallen_con.φ x = denF Tryz.prog qhH qhx Tryz.f173 claimFallen_con.ps claimFallen_con.one claimFallen_con.res claimFallen_con.ρ x := by kernel_rfl
theorem qpG : ConOK Tryz.prog 173 claimFallen_con :=
  qa (env := qhH) ((EnvOK.cons (EnvOK.nil _) qpg)) mixed Tryz.func173 claimFallen_con qhx (by kernel_rfl) (fun h => by first | rfl | cases h) (fun g hg => by cases hg) qnT
def qdG : Ann := (.two .nil (.two (.two .nil (.two (.two (.any 163839 32768 (.ord 0 0 .nil (.ord 1 0 .nil (.ord 2 0 .nil (.ord 3 34807 .nil (.ord 4 0 .nil (.ord 5 0 .nil (.ord 6 0 .nil (.ord 7 0 .nil (.ord 8 34559 .nil (.ord 9 0 .nil (.ord 10 33791 .nil (.ord 11 34815 .nil (.ord 12 0 .nil (.ord 13 0 .nil (.ord 14 0 .nil (.ord 15 0 .nil (.ord 16 0 .nil (.ord 17 0 .nil .nil))))))))))))))))))) (.two .nil (.two .nil (.two (.any 523775 512 (.ord 0 0 .nil (.ord 1 0 .nil (.ord 2 0 .nil (.ord 3 0 .nil (.ord 4 4079 .nil (.ord 5 0 .nil (.ord 6 0 .nil (.ord 7 0 .nil (.ord 8 3327 .nil (.ord 10 0 .nil (.ord 11 2047 .nil (.ord 9 0 .nil (.ord 12 0 .nil (.ord 13 0 .nil (.ord 14 0 .nil (.ord 15 0 .nil (.ord 16 0 .nil (.ord 17 0 .nil (.ord 18 0 .nil (.ord 19 0 .nil .nil))))))))))))))))))))) .nil)))) .nil)) (.two (.join ⟨[0, 3], [(7, .bool)], []⟩ .nil) (.two (.two (.two .nil (.two .nil (.two (.join ⟨[0, 7], [(91, .bool)], []⟩ (.any 61 0 (.ord 0 0 .nil (.ord 2 0 .nil (.alt (.ord 1 0 .nil (.ord 3 0 .nil (.ord 4 0 .nil (.ord 5 0 .nil .nil)))) (.ord 3 0 .nil (.ord 1 0 .nil (.ord 4 0 .nil (.ord 5 0 .nil .nil))))))))) .nil))) .nil) .nil))))
noncomputable def matchMatchDoClaim_con : Ioc := ⟨Zt1, [Zt25], true, [], Zt56, fun x => qaM x.1 x.2.1⟩
noncomputable def qdF : Env := (167, .body Tryz.f167) :: (140, .rd plainGameCount_con) :: (173, .con claimFallen_con) :: (72, .rd plainGamePosition_con) :: (159, .ck 197) :: (40, .con clockLook_con) :: []
theorem qid (x : DL (Zt1 :: [Zt25])) : matchMatchDoClaim_con.φ x = denIO Tryz.prog qdF qdG Tryz.f117 Zt1 [Zt25] true [] Zt56 x := by kernel_rfl
theorem qi1 : IocOK Tryz.prog 117 matchMatchDoClaim_con :=
  qap (env := qdF) ((EnvOK.body (EnvOK.readonly (EnvOK.cons (EnvOK.readonly (EnvOK.check (EnvOK.cons (EnvOK.nil _) qfo) qb) qP) qpG) qf7) Tryz.func167)) mixed Tryz.func117 matchMatchDoClaim_con qdG (by kernel_rfl) (fun h => by first | rfl | cases h) qid
def qjh : Ann := (.two .nil (.two .nil (.two .nil (.two .nil (.two (.join ⟨[], [(6, Zt31), (7, Zt56)], []⟩ (.any 413 34 (.ord 0 0 .nil (.ord 2 0 .nil (.ord 3 7 .nil (.ord 4 0 .nil (.alt (.ord 1 0 .nil (.ord 5 0 .nil (.ord 6 0 .nil (.ord 7 0 .nil (.ord 8 0 .nil .nil))))) (.ord 5 0 .nil (.ord 1 0 .nil (.ord 6 0 .nil (.ord 7 0 .nil (.ord 8 0 .nil .nil)))))))))))) .nil)))))
noncomputable def premoveAdd_con : Con := ⟨[Zt34, Zt56, Zt45], false, [Zt31, Zt56], Zt27, fun x => qiF x.1 x.2.1 x.2.2.1, none⟩
noncomputable def qjM : Env := (53, .con slicesClone_PremoveMove_con) :: (222, .con premoveOf_con) :: (221, .con premoveCheck_con) :: []
theorem qpm (x : DL premoveAdd_con.ps) : premoveAdd_con.φ x = denF Tryz.prog qjM qjh Tryz.f174 premoveAdd_con.ps premoveAdd_con.one premoveAdd_con.res premoveAdd_con.ρ x := by kernel_rfl
theorem qrW : ConOK Tryz.prog 174 premoveAdd_con :=
  qa (env := qjM) ((EnvOK.cons (EnvOK.cons (EnvOK.cons (EnvOK.nil _) qh2) qm6) qS)) mixed Tryz.func174 premoveAdd_con qjh (by kernel_rfl) (fun h => by first | rfl | cases h) (fun g hg => by cases hg) qpm
def qcS : Ann := (.two .nil (.two (.two (.join ⟨[0, 3], [(11, .bool)], []⟩ (.any 29 0 (.ord 0 0 .nil (.ord 2 0 .nil (.alt (.ord 1 0 .nil (.ord 3 0 .nil (.ord 4 0 .nil .nil))) (.ord 3 0 .nil (.ord 1 0 .nil (.ord 4 0 .nil .nil)))))))) .nil) (.two (.any 32255 512 (.ord 0 0 .nil (.ord 1 0 .nil (.ord 2 0 .nil (.ord 3 0 .nil (.ord 4 495 .nil (.ord 5 0 .nil (.ord 6 447 .nil (.ord 7 0 .nil (.ord 8 0 .nil (.ord 9 0 .nil (.ord 10 0 .nil (.ord 11 0 .nil (.ord 12 0 .nil (.ord 13 0 .nil (.ord 14 0 .nil .nil)))))))))))))))) (.two (.two .nil (.join ⟨[6], [], [(0, some (.box Zt2)), (1, none), (2, none), (3, none), (5, none)]⟩ .nil)) .nil))))
noncomputable def matchMatchDoPremove_con : Ioc := ⟨Zt1, [Zt25], true, [], Zt56, fun x => qau x.1 x.2.1⟩
noncomputable def qcJ : Env := (174, .con premoveAdd_con) :: (72, .rd plainGamePosition_con) :: (167, .body Tryz.f167) :: []
theorem qgB (x : DL (Zt1 :: [Zt25])) : matchMatchDoPremove_con.φ x = denIO Tryz.prog qcJ qcS Tryz.f118 Zt1 [Zt25] true [] Zt56 x := by kernel_rfl
theorem qhs : IocOK Tryz.prog 118 matchMatchDoPremove_con :=
  qap (env := qcJ) ((EnvOK.cons (EnvOK.readonly (EnvOK.body (EnvOK.nil _) Tryz.func167) qP) qrW)) mixed Tryz.func118 matchMatchDoPremove_con qcS (by kernel_rfl) (fun h => by first | rfl | cases h) qgB
def qfi : Ann := (.two .nil (.two (.two .nil (.two (.two .nil (.two .nil (.two (.two .nil (.join ⟨[0, 3, 6], [(12, .bool)], []⟩ .nil)) .nil))) .nil)) .nil))
noncomputable def matchMatchKind_con : Ioc := ⟨Zt1, [Zt25], true, [], Zt56, fun x => qb0 x.1 x.2.1⟩
noncomputable def qfj : Env := (118, .io matchMatchDoPremove_con) :: (117, .io matchMatchDoClaim_con) :: (116, .io matchMatchDoAccept_con) :: (115, .io matchMatchDoOffer_con) :: (114, .io matchMatchDoMove_con) :: []
theorem qkB (x : DL (Zt1 :: [Zt25])) : matchMatchKind_con.φ x = denIO Tryz.prog qfj qfi Tryz.f51 Zt1 [Zt25] true [] Zt56 x := by kernel_rfl
theorem qmr : IocOK Tryz.prog 51 matchMatchKind_con :=
  qap (env := qfj) ((EnvOK.inout (EnvOK.inout (EnvOK.inout (EnvOK.inout (EnvOK.inout (EnvOK.nil _) qj4) qi3) qh4) qi1) qhs)) mixed Tryz.func51 matchMatchKind_con qfi (by kernel_rfl) (fun h => by first | rfl | cases h) qkB
def qif : Ann := .nil
noncomputable def journalLast_con : Con := ⟨[Zt49], true, [], (.int .u64), fun x => qdc x.1, none⟩
noncomputable def qik : Env := []
theorem qo5 (x : DL journalLast_con.ps) : journalLast_con.φ x = denF Tryz.prog qik qif Tryz.f112 journalLast_con.ps journalLast_con.one journalLast_con.res journalLast_con.ρ x := by kernel_rfl
theorem qfU : ConOK Tryz.prog 112 journalLast_con :=
  qa (env := qik) ((EnvOK.nil _)) mixed Tryz.func112 journalLast_con qif (by kernel_rfl) (fun h => by first | rfl | cases h) (fun g hg => by cases hg) qo5
def qjP : Ann := (.two .nil (.two .nil (.two (.two .nil (.join ⟨[1], [(5, (.int .u64))], []⟩ (.two (.loop ⟨[1, 10], [(5, (.int .u64)), (11, Zt56)], []⟩ .nil) .nil))) .nil)))
noncomputable def journalSum_con : Con := ⟨[(.int .u64), .str], true, [], (.int .u64), fun x => qdg x.1 x.2.1, none⟩
noncomputable def qji : Env := []
theorem qpr (x : DL journalSum_con.ps) : journalSum_con.φ x = denF Tryz.prog qji qjP Tryz.f111 journalSum_con.ps journalSum_con.one journalSum_con.res journalSum_con.ρ x := by kernel_rfl
theorem qk1 : ConOK Tryz.prog 111 journalSum_con :=
  qa (env := qji) ((EnvOK.nil _)) mixed Tryz.func111 journalSum_con qjP (by kernel_rfl) (fun h => by first | rfl | cases h) (fun g hg => by cases hg) qpr
def qho : Ann := .nil
noncomputable def journalWrong_con : Con := ⟨[(.int .u64), Zt50], true, [], Zt56, fun x => qdH x.1 x.2.1, none⟩
noncomputable def qg4 : Env := (111, .con journalSum_con) :: (110, .con qez) :: []
theorem qny (x : DL journalWrong_con.ps) : journalWrong_con.φ x = denF Tryz.prog qg4 qho Tryz.f163 journalWrong_con.ps journalWrong_con.one journalWrong_con.res journalWrong_con.ρ x := by kernel_rfl
theorem qhN : ConOK Tryz.prog 163 journalWrong_con :=
  qa (env := qg4) ((EnvOK.cons (EnvOK.cons (EnvOK.nil _) qjS) qk1)) mixed Tryz.func163 journalWrong_con qho (by kernel_rfl) (fun h => by first | rfl | cases h) (fun g hg => by cases hg) qny
def qhQ : Ann := (.two .nil (.two (.two .nil (.joinE ⟨[0], [], []⟩ (.two (.loop ⟨[0, 5, 6], [(7, Zt56)], []⟩ .nil) .nil))) .nil))
noncomputable def journalGood_con : Con := ⟨[Zt49], true, [], Zt56, fun x => qg1 x.1, none⟩
noncomputable def qhB : Env := (163, .con journalWrong_con) :: (112, .con journalLast_con) :: (159, .ck 197) :: []
theorem qoh (x : DL journalGood_con.ps) : journalGood_con.φ x = denF Tryz.prog qhB qhQ Tryz.f162 journalGood_con.ps journalGood_con.one journalGood_con.res journalGood_con.ρ x := by kernel_rfl
theorem qpC : ConOK Tryz.prog 162 journalGood_con :=
  qa (env := qhB) ((EnvOK.cons (EnvOK.cons (EnvOK.check (EnvOK.nil _) qb) qfU) qhN)) mixed Tryz.func162 journalGood_con qhQ (by kernel_rfl) (fun h => by first | rfl | cases h) (fun g hg => by cases hg) qoh
def qhe : Ann := .nil
noncomputable def journalCheck_con : Con := ⟨[Zt49], true, [], Zt56, fun x => qfs x.1, none⟩
noncomputable def qhb : Env := (163, .con journalWrong_con) :: (112, .con journalLast_con) :: (162, .con journalGood_con) :: []
theorem qnz (x : DL journalCheck_con.ps) : journalCheck_con.φ x = denF Tryz.prog qhb qhe Tryz.f109 journalCheck_con.ps journalCheck_con.one journalCheck_con.res journalCheck_con.ρ x := by kernel_rfl
theorem qoY : ConOK Tryz.prog 109 journalCheck_con :=
  qa (env := qhb) ((EnvOK.cons (EnvOK.cons (EnvOK.cons (EnvOK.nil _) qpC) qfU) qhN)) mixed Tryz.func109 journalCheck_con qhe (by kernel_rfl) (fun h => by first | rfl | cases h) (fun g hg => by cases hg) qnz
def qbn : Ann := .nil
noncomputable def slicesClone_JournalEntry_con : Con := ⟨[Zt49], true, [], Zt47, fun x => qad x.1, none⟩
noncomputable def qbv : Env := []
theorem qej (x : DL slicesClone_JournalEntry_con.ps) : slicesClone_JournalEntry_con.φ x = denF Tryz.prog qbv qbn Tryz.f91 slicesClone_JournalEntry_con.ps slicesClone_JournalEntry_con.one slicesClone_JournalEntry_con.res slicesClone_JournalEntry_con.ρ x := by kernel_rfl
theorem qeT : ConOK Tryz.prog 91 slicesClone_JournalEntry_con :=
  qa (env := qbv) ((EnvOK.nil _)) mixed Tryz.func91 slicesClone_JournalEntry_con qbn (by kernel_rfl) (fun h => by first | rfl | cases h) (fun g hg => by cases hg) qej
def qgs : Ann := .nil
noncomputable def journalAppend_con : Con := ⟨[Zt49, .str], false, [Zt47, Zt56], (.st Zt47 Zt52), fun x => qai x.1 x.2.1, none⟩
noncomputable def qgf : Env := (111, .con journalSum_con) :: (112, .con journalLast_con) :: (91, .con slicesClone_JournalEntry_con) :: (110, .con qez) :: (109, .con journalCheck_con) :: []
theorem qmw (x : DL journalAppend_con.ps) : journalAppend_con.φ x = denF Tryz.prog qgf qgs Tryz.f48 journalAppend_con.ps journalAppend_con.one journalAppend_con.res journalAppend_con.ρ x := by kernel_rfl
theorem qd0 : ConOK Tryz.prog 48 journalAppend_con :=
  qa (env := qgf) ((EnvOK.cons (EnvOK.cons (EnvOK.cons (EnvOK.cons (EnvOK.cons (EnvOK.nil _) qoY) qjS) qeT) qfU) qk1)) mixed Tryz.func48 journalAppend_con qgs (by kernel_rfl) (fun h => by first | rfl | cases h) (fun g hg => by cases hg) qmw
def qfL : Ann := (.two .nil (.two .nil (.join ⟨[], [], [(0, some (.box Zt2)), (1, none), (2, none), (3, none)]⟩ .nil)))
noncomputable def matchMatchOver_con : Ioc := ⟨Zt1, [], false, [], .nil, fun x => qaI x.1⟩
noncomputable def qfQ : Env := (73, .rd plainGameResult_con) :: []
theorem qlR (x : DL (Zt1 :: [])) : matchMatchOver_con.φ x = denIO Tryz.prog qfQ qfL Tryz.f50 Zt1 [] false [] .nil x := by kernel_rfl
theorem qdj : IocOK Tryz.prog 50 matchMatchOver_con :=
  qap (env := qfQ) ((EnvOK.readonly (EnvOK.nil _) qbu)) mixed Tryz.func50 matchMatchOver_con qfL (by kernel_rfl) (fun h => by first | rfl | cases h) qlR
def qhk : Ann := (.two .nil (.two .nil (.two (.any 163839 32768 (.ord 0 0 .nil (.ord 1 0 .nil (.ord 2 0 .nil (.ord 3 34807 .nil (.ord 4 0 .nil (.ord 5 0 .nil (.ord 6 0 .nil (.ord 7 0 .nil (.ord 8 34559 .nil (.ord 9 0 .nil (.ord 10 33791 .nil (.ord 11 34815 .nil (.ord 12 0 .nil (.ord 13 0 .nil (.ord 14 0 .nil (.ord 15 0 .nil (.ord 16 0 .nil (.ord 17 0 .nil .nil))))))))))))))))))) (.two .nil (.two .nil (.two .nil (.two (.any 8063 128 (.ord 0 0 .nil (.ord 1 0 .nil (.ord 2 0 .nil (.ord 3 0 .nil (.ord 4 111 .nil (.ord 5 0 .nil (.ord 6 0 .nil (.ord 7 0 .nil (.ord 8 0 .nil (.ord 9 0 .nil (.ord 10 0 .nil (.ord 11 0 .nil (.ord 12 0 .nil (.ord 13 0 .nil .nil))))))))))))))) .nil)))))))
noncomputable def matchMatchDo_con : Ioc := ⟨Zt1, [Zt25], true, [], Zt56, fun x => qcl x.1 x.2.1⟩
noncomputable def qg7 : Env := (50, .io matchMatchOver_con) :: (48, .con journalAppend_con) :: (28, .con matchEntry_con) :: (51, .io matchMatchKind_con) :: (159, .ck 197) :: (40, .con clockLook_con) :: []
theorem qnv (x : DL (Zt1 :: [Zt25])) : matchMatchDo_con.φ x = denIO Tryz.prog qg7 qhk Tryz.f11 Zt1 [Zt25] true [] Zt56 x := by kernel_rfl
theorem qin : IocOK Tryz.prog 11 matchMatchDo_con :=
  qap (env := qg7) ((EnvOK.inout (EnvOK.cons (EnvOK.cons (EnvOK.inout (EnvOK.check (EnvOK.cons (EnvOK.nil _) qfo) qb) qmr) qrI) qd0) qdj)) mixed Tryz.func11 matchMatchDo_con qhk (by kernel_rfl) (fun h => by first | rfl | cases h) qnv
def qjF : Ann := .nil
noncomputable def clockStart_con : Con := ⟨[Zt33, Zt56], false, [Zt15, Zt56], Zt13, fun x => qdd x.1 x.2.1, none⟩
noncomputable def qjO : Env := (54, .con clockWithin_con) :: (105, .con clockCheck_con) :: (159, .ck 197) :: []
theorem qpc (x : DL clockStart_con.ps) : clockStart_con.φ x = denF Tryz.prog qjO qjF Tryz.f44 clockStart_con.ps clockStart_con.one clockStart_con.res clockStart_con.ρ x := by kernel_rfl
theorem qln : ConOK Tryz.prog 44 clockStart_con :=
  qa (env := qjO) ((EnvOK.cons (EnvOK.cons (EnvOK.check (EnvOK.nil _) qb) ql8) qb8)) mixed Tryz.func44 clockStart_con qjF (by kernel_rfl) (fun h => by first | rfl | cases h) (fun g hg => by cases hg) qpc
def qby : Ann := .nil
noncomputable def slicesClone_ClockPeriod_con : Con := ⟨[Zt46], true, [], (.osl 25 Zt48), fun x => qaj x.1, none⟩
noncomputable def qbI : Env := []
theorem qeA (x : DL slicesClone_ClockPeriod_con.ps) : slicesClone_ClockPeriod_con.φ x = denF Tryz.prog qbI qby Tryz.f108 slicesClone_ClockPeriod_con.ps slicesClone_ClockPeriod_con.one slicesClone_ClockPeriod_con.res slicesClone_ClockPeriod_con.ρ x := by kernel_rfl
theorem qe2 : ConOK Tryz.prog 108 slicesClone_ClockPeriod_con :=
  qa (env := qbI) ((EnvOK.nil _)) mixed Tryz.func108 slicesClone_ClockPeriod_con qby (by kernel_rfl) (fun h => by first | rfl | cases h) (fun g hg => by cases hg) qeA
def qkV : Ann := .nil
noncomputable def clockCopy_con : Con := ⟨[Zt33], true, [], Zt32, fun x => qeP x.1, none⟩
noncomputable def qlT : Env := (108, .con slicesClone_ClockPeriod_con) :: (159, .ck 197) :: []
theorem qrr (x : DL clockCopy_con.ps) : clockCopy_con.φ x = denF Tryz.prog qlT qkV Tryz.f46 clockCopy_con.ps clockCopy_con.one clockCopy_con.res clockCopy_con.ρ x := by kernel_rfl
theorem qne : ConOK Tryz.prog 46 clockCopy_con :=
  qa (env := qlT) ((EnvOK.cons (EnvOK.check (EnvOK.nil _) qb) qe2)) mixed Tryz.func46 clockCopy_con qkV (by kernel_rfl) (fun h => by first | rfl | cases h) (fun g hg => by cases hg) qrr
def qkY : Ann := .nil
noncomputable def clockLeft_con : Con := ⟨[Zt33, Zt15, Zt56, Zt56], false, [Zt56, Zt56], Zt48, fun x => qgl x.1 x.2.1 x.2.2.1 x.2.2.2.1, none⟩
noncomputable def qkF : Env := (55, .con clockUsed_con) :: (40, .con clockLook_con) :: (54, .con clockWithin_con) :: []
theorem qqP (x : DL clockLeft_con.ps) : clockLeft_con.φ x = denF Tryz.prog qkF qkY Tryz.f13 clockLeft_con.ps clockLeft_con.one clockLeft_con.res clockLeft_con.ρ x := by kernel_rfl
theorem qso : ConOK Tryz.prog 13 clockLeft_con :=
  qa (env := qkF) ((EnvOK.cons (EnvOK.cons (EnvOK.cons (EnvOK.nil _) qb8) qfo) qhD)) mixed Tryz.func13 clockLeft_con qkY (by kernel_rfl) (fun h => by first | rfl | cases h) (fun g hg => by cases hg) qqP
def qmR : Ann := .nil
noncomputable def offerNew_con : Con := ⟨[], true, [], Zt22, fun x => qmc, some fun x => qa4⟩
noncomputable def qnd : Env := (159, .ck 197) :: []
theorem qsd (x : DL offerNew_con.ps) : offerNew_con.φ x = denF Tryz.prog qnd qmR Tryz.f47 offerNew_con.ps offerNew_con.one offerNew_con.res offerNew_con.ρ x := by kernel_rfl
theorem qoT : ConOK Tryz.prog 47 offerNew_con :=
  qa (env := qnd) ((EnvOK.check (EnvOK.nil _) qb)) mixed Tryz.func47 offerNew_con qmR (by kernel_rfl) (fun h => by first | rfl | cases h) (fun g hg x => by
    cases hg
    exact qup ) qsd
end Go.Proofs.YtijkabgijfdpfaaGreatDoor

