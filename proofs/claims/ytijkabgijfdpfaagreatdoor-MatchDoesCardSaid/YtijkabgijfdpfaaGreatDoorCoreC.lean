/- Contracts: Core. No condition of its own. -/
import Derived.Test.YtijkabgijfdpfaaGreatDoorMAA
import Derived.Test.YtijkabgijfdpfaaGreatDoorMAH
import Derived.Test.YtijkabgijfdpfaaGreatDoorMAD
import Derived.Laws.CopyRow
import Derived.Shelf.Spec.SlicesInsertGrow
namespace Go.Proofs.YtijkabgijfdpfaaGreatDoor
open Go.Den
set_option linter.unusedVariables false
set_option maxRecDepth 100000
def qlZ : Ann := (.two .nil (.two (.two .nil (.joinE ⟨[0], [], []⟩ (.two (.loop ⟨[0, 6], [(7, Zt64)], []⟩ .nil) .nil))) .nil))
noncomputable def rulesName_con : Con := ⟨[.str], true, [], .bool, fun x => qkV x.1, none⟩
noncomputable def qlc : Env := []
theorem qsc (x : DL rulesName_con.ps) : rulesName_con.φ x = denF Tryz.prog qlc qlZ Tryz.f130 rulesName_con.ps rulesName_con.one rulesName_con.res rulesName_con.ρ x := by kernel_rfl
theorem qsL : ConOK Tryz.prog 130 rulesName_con :=
  qa (env := qlc) ((EnvOK.nil _)) mixed Tryz.func130 rulesName_con qlZ (by kernel_rfl) (fun h => by first | rfl | cases h) (fun g hg => by cases hg) qsc
def qih : Ann := .nil
noncomputable def rulesWithin_con : Con := ⟨[Zt64, Zt64, Zt64], true, [], .bool, fun x => qg0 x.1 x.2.1 x.2.2.1, some fun x => qd x.1 x.2.1 x.2.2.1⟩
noncomputable def qir : Env := []
theorem qpo (x : DL rulesWithin_con.ps) : rulesWithin_con.φ x = denF Tryz.prog qir qih Tryz.f131 rulesWithin_con.ps rulesWithin_con.one rulesWithin_con.res rulesWithin_con.ρ x := by kernel_rfl
theorem qf2 : ConOK Tryz.prog 131 rulesWithin_con :=
  qa (env := qir) ((EnvOK.nil _)) mixed Tryz.func131 rulesWithin_con qih (by kernel_rfl) (fun h => by first | rfl | cases h) (fun g hg x => by
    cases hg
    exact qpX _ _ _) qpo
def qip : Ann := (.two .nil (.two .nil (.two .nil (.two (.two .nil (.joinE ⟨[], [], []⟩ (.two (.loop ⟨[1, 16, 17], [(18, Zt64)], []⟩ (.two .nil (.two .nil (.two (.joinE ⟨[1, 16, 17, 18], [], []⟩ (.two (.two .nil (.two (.two (.two .nil (.two .nil (.two (.two (.two .nil (.two (.two (.two .nil (.two (.two .nil (.joinE ⟨[], [], []⟩ (.two (.loop ⟨[0, 1, 7], [(8, Zt64)], []⟩ .nil) .nil))) .nil)) .nil) .nil)) .nil) .nil))) .nil) (.two .nil (.joinE ⟨[1, 16, 17, 18], [], []⟩ (.two (.loop ⟨[1, 16, 17, 18, 59, 60], [(61, Zt64)], []⟩ .nil) .nil))))) .nil)) .nil)))) .nil))) .nil))))
noncomputable def rulesPieces_con : Con := ⟨[Zt17], true, [], Zt64, fun x => qgH x.1, none⟩
noncomputable def qic : Env := (131, .con rulesWithin_con) :: (186, .body Tryz.f186) :: (227, .body Tryz.f227) :: (185, .body Tryz.f185) :: (159, .ck 197) :: []
theorem qoJ (x : DL rulesPieces_con.ps) : rulesPieces_con.φ x = denF Tryz.prog qic qip Tryz.f132 rulesPieces_con.ps rulesPieces_con.one rulesPieces_con.res rulesPieces_con.ρ x := by kernel_rfl
theorem qpU : ConOK Tryz.prog 132 rulesPieces_con :=
  qa (env := qic) ((EnvOK.cons (EnvOK.body (EnvOK.body (EnvOK.body (EnvOK.check (EnvOK.nil _) qc) Tryz.func185) Tryz.func227) Tryz.func186) qf2)) mixed Tryz.func132 rulesPieces_con qip (by kernel_rfl) (fun h => by first | rfl | cases h) (fun g hg => by cases hg) qoJ
def qeY : Ann := (.two .nil (.two .nil (.two (.two .nil (.joinE ⟨[], [], []⟩ (.two (.loop ⟨[1, 12, 13], [(14, Zt64)], []⟩ (.two .nil (.two .nil (.two (.two (.two .nil (.two .nil (.two (.two .nil (.two (.two .nil (.joinE ⟨[1, 12, 13, 14], [(5, .bool), (6, .bool)], []⟩ (.two .nil (.two .nil (.joinE ⟨[1, 6, 12, 13, 14], [(5, .bool)], []⟩ .nil))))) .nil)) .nil))) .nil) .nil)))) .nil))) .nil)))
noncomputable def rulesConditions_con : Con := ⟨[Zt17], true, [], Zt64, fun x => qbV x.1, none⟩
noncomputable def qeX : Env := (131, .con rulesWithin_con) :: (159, .ck 197) :: []
theorem qkk (x : DL rulesConditions_con.ps) : rulesConditions_con.φ x = denF Tryz.prog qeX qeY Tryz.f135 rulesConditions_con.ps rulesConditions_con.one rulesConditions_con.res rulesConditions_con.ρ x := by kernel_rfl
theorem qlK : ConOK Tryz.prog 135 rulesConditions_con :=
  qa (env := qeX) ((EnvOK.cons (EnvOK.check (EnvOK.nil _) qc) qf2)) mixed Tryz.func135 rulesConditions_con qeY (by kernel_rfl) (fun h => by first | rfl | cases h) (fun g hg => by cases hg) qkk
def qjC : Ann := (.two .nil (.two .nil (.two .nil (.two .nil (.two .nil (.two (.two (.two (.two .nil (.two (.two (.two .nil (.two (.two .nil (.joinE ⟨[], [], []⟩ (.two (.loop ⟨[0, 1, 7], [(8, Zt64)], []⟩ .nil) .nil))) .nil)) .nil) .nil)) .nil) .nil) .nil))))))
noncomputable def rulesCheck_con : Con := ⟨[Zt17], true, [], Zt64, fun x => qgv x.1, none⟩
noncomputable def qjn : Env := (135, .con rulesConditions_con) :: (134, .body Tryz.f134) :: (187, .body Tryz.f187) :: (133, .body Tryz.f133) :: (132, .con rulesPieces_con) :: (131, .con rulesWithin_con) :: (130, .con rulesName_con) :: []
theorem qp2 (x : DL rulesCheck_con.ps) : rulesCheck_con.φ x = denF Tryz.prog qjn qjC Tryz.f67 rulesCheck_con.ps rulesCheck_con.one rulesCheck_con.res rulesCheck_con.ρ x := by kernel_rfl
theorem qk5 : ConOK Tryz.prog 67 rulesCheck_con :=
  qa (env := qjn) ((EnvOK.cons (EnvOK.body (EnvOK.body (EnvOK.body (EnvOK.cons (EnvOK.cons (EnvOK.cons (EnvOK.nil _) qsL) qf2) qpU) Tryz.func133) Tryz.func187) Tryz.func134) qlK)) mixed Tryz.func67 rulesCheck_con qjC (by kernel_rfl) (fun h => by first | rfl | cases h) (fun g hg => by cases hg) qp2
def qek : Ann := (.two .nil (.two .nil (.two (.two .nil (.join ⟨[0], [(3, Zt64)], []⟩ (.two (.loop ⟨[0, 9, 10], [(3, Zt64), (11, Zt64)], []⟩ .nil) .nil))) (.two (.two (.two .nil (.two .nil (.two (.two .nil (.two .nil (.join ⟨[], [(0, Zt62)], []⟩ (.two (.own (.own .nil)) .nil)))) .nil))) .nil) (.two (.two .nil (.join ⟨[], [(6, Zt62)], [(0, none)]⟩ (.two (.loop ⟨[25, 26], [(6, Zt62), (27, Zt64)], [(0, none)]⟩ .nil) .nil))) .nil)))))
noncomputable def slicesConcat_int_con : Con := ⟨[(.sl Zt63)], true, [], Zt62, fun x => qcg x.1, none⟩
noncomputable def qen : Env := (232, .body Tryz.f232) :: []
theorem qi7 (x : DL slicesConcat_int_con.ps) : slicesConcat_int_con.φ x = denF Tryz.prog qen qek Tryz.f200 slicesConcat_int_con.ps slicesConcat_int_con.one slicesConcat_int_con.res slicesConcat_int_con.ρ x := by kernel_rfl
theorem qkh : ConOK Tryz.prog 200 slicesConcat_int_con :=
  qa (env := qen) ((EnvOK.body (EnvOK.nil _) Tryz.func232)) mixed Tryz.func200 slicesConcat_int_con qek (by kernel_rfl) (fun h => by first | rfl | cases h) (fun g hg => by cases hg) qi7
def qiD : Ann := (.ord 6 0 (.two .nil (.two (.two (.two .nil (.two (.two .nil (.joinE ⟨[], [], []⟩ (.two (.loop ⟨[0, 1, 7], [(8, Zt64)], []⟩ .nil) .nil))) .nil)) .nil) .nil)) (.ord 7 0 .nil (.ord 8 0 .nil (.ord 9 0 .nil (.ord 10 0 .nil (.ord 11 0 (.two .nil (.two (.two (.two .nil (.two (.two .nil (.joinE ⟨[], [], []⟩ (.two (.loop ⟨[0, 1, 7], [(8, Zt64)], []⟩ .nil) .nil))) .nil)) .nil) .nil)) (.ord 12 0 .nil (.ord 13 0 .nil (.ord 14 0 .nil (.ord 15 0 .nil (.ord 16 0 .nil (.ord 17 0 .nil (.ord 18 0 .nil (.ord 19 0 .nil (.ord 20 0 .nil (.ord 21 0 .nil (.ord 22 0 .nil (.ord 23 0 .nil (.ord 24 0 .nil (.ord 25 0 .nil (.ord 26 0 .nil (.ord 27 0 .nil (.ord 28 0 .nil (.ord 29 0 .nil (.ord 30 0 .nil (.ord 31 0 .nil (.ord 32 0 .nil .nil)))))))))))))))))))))))))))
def qjF : Ann := (.two .nil (.two .nil (.two .nil (.two .nil (.two .nil (.two (.two (.join ⟨[], [(76, .bool)], []⟩ (.any 8589931423 0 (.ord 0 0 .nil (.ord 2 0 .nil (.ord 3 0 .nil (.ord 4 0 .nil (.alt (.ord 1 0 .nil (.ord 5 0 .nil qiD)) (.ord 5 0 .nil (.ord 1 0 .nil qiD))))))))) .nil) .nil))))))
noncomputable def placeSound_con : Con := ⟨[Zt17, Zt36], true, [], Zt64, fun x => qiZ x.1 x.2.1, none⟩
noncomputable def qjA : Env := (199, .body Tryz.f199) :: (187, .body Tryz.f187) :: (133, .body Tryz.f133) :: (198, .body Tryz.f198) :: (200, .con slicesConcat_int_con) :: []
theorem qqa (x : DL placeSound_con.ps) : placeSound_con.φ x = denF Tryz.prog qjA qjF Tryz.f141 placeSound_con.ps placeSound_con.one placeSound_con.res placeSound_con.ρ x := by kernel_rfl
theorem qrx : ConOK Tryz.prog 141 placeSound_con :=
  qa (env := qjA) ((EnvOK.body (EnvOK.body (EnvOK.body (EnvOK.body (EnvOK.cons (EnvOK.nil _) qkh) Tryz.func198) Tryz.func133) Tryz.func187) Tryz.func199)) mixed Tryz.func141 placeSound_con qjF (by kernel_rfl) (fun h => by first | rfl | cases h) (fun g hg => by cases hg) qqa
def qjP : Ann := .nil
noncomputable def placeCheck_con : Con := ⟨[Zt17, Zt36], true, [], Zt64, fun x => qdy x.1 x.2.1, none⟩
noncomputable def qjs : Env := (141, .con placeSound_con) :: (67, .con rulesCheck_con) :: []
theorem qqd (x : DL placeCheck_con.ps) : placeCheck_con.φ x = denF Tryz.prog qjs qjP Tryz.f74 placeCheck_con.ps placeCheck_con.one placeCheck_con.res placeCheck_con.ρ x := by kernel_rfl
theorem qev : ConOK Tryz.prog 74 placeCheck_con :=
  qa (env := qjs) ((EnvOK.cons (EnvOK.cons (EnvOK.nil _) qk5) qrx)) mixed Tryz.func74 placeCheck_con qjP (by kernel_rfl) (fun h => by first | rfl | cases h) (fun g hg => by cases hg) qqd
def qno : Ann := (.two .nil (.two .nil (.two (.two .nil (.joinE ⟨[], [], []⟩ (.two (.loop ⟨[3, 4, 9, 19], [(20, Zt64)], []⟩ (.two .nil (.two .nil (.two (.joinE ⟨[3, 4, 9, 19, 20], [], []⟩ (.two (.two .nil (.two .nil (.joinE ⟨[3, 4, 9, 19, 20], [], []⟩ (.two (.loop ⟨[3, 4, 9, 10, 19, 20, 27], [(28, Zt64)], []⟩ (.two .nil (.two .nil (.two (.joinE ⟨[3, 4, 9, 10, 19, 20, 27, 28], [], []⟩ (.two (.two .nil (.two .nil (.two (.join ⟨[3, 4, 9, 10, 19, 20, 27, 28], [(15, Zt64)], []⟩ (.two (.loop ⟨[3, 4, 9, 10, 12, 19, 20, 27, 28], [(13, Zt64), (14, Zt64), (15, Zt64)], []⟩ (.two (.two (.join ⟨[3, 4, 9, 10, 12, 13, 14, 15, 19, 20, 27, 28], [(47, .bool)], []⟩ .nil) .nil) .nil)) .nil)) .nil))) .nil)) .nil)))) .nil)))) .nil)) .nil)))) .nil))) .nil)))
noncomputable def endsLine_con : Con := ⟨[Zt17, Zt36, Zt64, Zt64], true, [], .bool, fun x => qof x.1 x.2.1 x.2.2.1 x.2.2.2.1, none⟩
noncomputable def qnh : Env := (272, .body Tryz.f272) :: (159, .ck 197) :: []
theorem qsK (x : DL endsLine_con.ps) : endsLine_con.φ x = denF Tryz.prog qnh qno Tryz.f231 endsLine_con.ps endsLine_con.one endsLine_con.res endsLine_con.ρ x := by kernel_rfl
theorem qu1 : ConOK Tryz.prog 231 endsLine_con :=
  qa (env := qnh) ((EnvOK.body (EnvOK.check (EnvOK.nil _) qc) Tryz.func272)) mixed Tryz.func231 endsLine_con qno (by kernel_rfl) (fun h => by first | rfl | cases h) (fun g hg => by cases hg) qsK
def qhL : Ann := .nil
noncomputable def rulesIsLast_con : Con := ⟨[Zt17, Zt64, Zt64], true, [], .bool, fun x => qeG x.1 x.2.1 x.2.2.1, none⟩
noncomputable def qiz : Env := []
theorem qoT (x : DL rulesIsLast_con.ps) : rulesIsLast_con.φ x = denF Tryz.prog qiz qhL Tryz.f190 rulesIsLast_con.ps rulesIsLast_con.one rulesIsLast_con.res rulesIsLast_con.ρ x := by kernel_rfl
theorem qjl : ConOK Tryz.prog 190 rulesIsLast_con :=
  qa (env := qiz) ((EnvOK.nil _)) mixed Tryz.func190 rulesIsLast_con qhL (by kernel_rfl) (fun h => by first | rfl | cases h) (fun g hg => by cases hg) qoT
def ql9 : Ann := (.two .nil (.two (.two .nil (.joinE ⟨[3, 5, 6], [], []⟩ (.two (.two .nil (.two .nil (.two .nil (.two (.two (.two .nil (.joinE ⟨[3, 5, 6], [], []⟩ (.two (.loop ⟨[3, 4, 5, 6, 27, 28], [(29, Zt64)], []⟩ .nil) .nil))) .nil) .nil)))) .nil))) (.two .nil (.two (.two .nil (.join ⟨[6], [(11, Zt64)], []⟩ (.two (.loop ⟨[3, 6, 50, 51], [(11, Zt64), (52, Zt64)], []⟩ (.two .nil (.two .nil (.two (.two (.two .nil (.two .nil (.join ⟨[3, 6, 50, 51, 52], [(11, Zt64)], []⟩ .nil))) .nil) .nil)))) .nil))) .nil))))
noncomputable def endsHolds_con : Con := ⟨[Zt17, Zt36, Zt49, Zt64], true, [], .bool, fun x => qmh x.1 x.2.1 x.2.2.1 x.2.2.2.1, none⟩
noncomputable def qkG : Env := (190, .con rulesIsLast_con) :: (231, .con endsLine_con) :: []
theorem qr8 (x : DL endsHolds_con.ps) : endsHolds_con.φ x = denF Tryz.prog qkG ql9 Tryz.f196 endsHolds_con.ps endsHolds_con.one endsHolds_con.res endsHolds_con.ρ x := by kernel_rfl
theorem qsZ : ConOK Tryz.prog 196 endsHolds_con :=
  qa (env := qkG) ((EnvOK.cons (EnvOK.cons (EnvOK.nil _) qu1) qjl)) mixed Tryz.func196 endsHolds_con ql9 (by kernel_rfl) (fun h => by first | rfl | cases h) (fun g hg => by cases hg) qr8
def qnz : Ann := .nil
noncomputable def endsWins_con : Con := ⟨[Zt64], true, [], Zt64, fun x => qm4 x.1, some fun x => qcN x.1⟩
noncomputable def qnP : Env := []
theorem qud (x : DL endsWins_con.ps) : endsWins_con.φ x = denF Tryz.prog qnP qnz Tryz.f197 endsWins_con.ps endsWins_con.one endsWins_con.res endsWins_con.ρ x := by kernel_rfl
theorem qvj : ConOK Tryz.prog 197 endsWins_con :=
  qa (env := qnP) ((EnvOK.nil _)) mixed Tryz.func197 endsWins_con qnz (by kernel_rfl) (fun h => by first | rfl | cases h) (fun g hg x => by
    cases hg
    exact quP _) qud
def qif : Ann := (.two .nil (.two (.two .nil (.joinE ⟨[], [], []⟩ (.two (.loop ⟨[3, 4], [(2, Zt64)], []⟩ .nil) .nil))) .nil))
noncomputable def movesFilled_con : Con := ⟨[Zt17, Zt36, Zt64], true, [], .bool, fun x => qgY x.1 x.2.1 x.2.2.1, none⟩
noncomputable def qix : Env := []
theorem qpx (x : DL movesFilled_con.ps) : movesFilled_con.φ x = denF Tryz.prog qix qif Tryz.f228 movesFilled_con.ps movesFilled_con.one movesFilled_con.res movesFilled_con.ρ x := by kernel_rfl
theorem qp4 : ConOK Tryz.prog 228 movesFilled_con :=
  qa (env := qix) ((EnvOK.nil _)) mixed Tryz.func228 movesFilled_con qif (by kernel_rfl) (fun h => by first | rfl | cases h) (fun g hg => by cases hg) qpx
def qlI : Ann := (.two .nil (.two .nil (.two (.two .nil (.join ⟨[], [(5, Zt51)], []⟩ (.two (.loop ⟨[2, 3, 11, 12], [(5, Zt51), (13, Zt64)], []⟩ (.two .nil (.two .nil (.two (.join ⟨[2, 3, 11, 12, 13], [(5, Zt51)], [(2, none)]⟩ (.two (.two .nil (.two .nil (.two .nil (.join ⟨[2, 3, 11, 12, 13], [(5, Zt51)], [(2, none)]⟩ (.two (.loop ⟨[2, 3, 6, 11, 12, 13, 41, 42], [(5, Zt51), (43, Zt64)], [(2, none)]⟩ (.two .nil (.two .nil (.two (.two (.two .nil (.two .nil (.join ⟨[2, 3, 6, 11, 12, 13, 41, 42, 43], [(5, Zt51)], [(3, none)]⟩ .nil))) .nil) .nil)))) .nil))))) .nil)) .nil)))) .nil))) .nil)))
noncomputable def movesPuts_con : Con := ⟨[Zt17, Zt36], true, [], Zt51, fun x => qmc x.1 x.2.1, none⟩
noncomputable def qlV : Env := (228, .con movesFilled_con) :: []
theorem qsd (x : DL movesPuts_con.ps) : movesPuts_con.φ x = denF Tryz.prog qlV qlI Tryz.f188 movesPuts_con.ps movesPuts_con.one movesPuts_con.res movesPuts_con.ρ x := by kernel_rfl
theorem qtV : ConOK Tryz.prog 188 movesPuts_con :=
  qa (env := qlV) ((EnvOK.cons (EnvOK.nil _) qp4)) mixed Tryz.func188 movesPuts_con qlI (by kernel_rfl) (fun h => by first | rfl | cases h) (fun g hg => by cases hg) qsd
def qnT : Ann := (.two .nil (.two .nil (.two .nil (.two (.two .nil (.join ⟨[2, 4, 5, 7, 9], [(10, Zt64)], []⟩ .nil)) (.two .nil (.two (.two .nil (.join ⟨[], [(9, Zt62)], []⟩ (.two (.loop ⟨[4, 5, 7, 10, 31], [(9, Zt62), (11, Zt64), (12, Zt64), (32, Zt64)], []⟩ (.two .nil (.two .nil (.two (.two (.two .nil (.two .nil (.two .nil (.two .nil (.two (.two .nil (.join ⟨[4, 5, 7, 10, 11, 12, 13, 31, 32], [(9, Zt62)], [(3, none)]⟩ .nil)) .nil))))) .nil) .nil)))) .nil))) .nil))))))
noncomputable def movesWay_con : Con := ⟨[Zt17, Zt36, Zt64, Zt46], true, [], Zt62, fun x => qon x.1 x.2.1 x.2.2.1 x.2.2.2.1, none⟩
noncomputable def qnC : Env := []
theorem qt7 (x : DL movesWay_con.ps) : movesWay_con.φ x = denF Tryz.prog qnC qnT Tryz.f189 movesWay_con.ps movesWay_con.one movesWay_con.res movesWay_con.ρ x := by kernel_rfl
theorem quy : ConOK Tryz.prog 189 movesWay_con :=
  qa (env := qnC) ((EnvOK.nil _)) mixed Tryz.func189 movesWay_con qnT (by kernel_rfl) (fun h => by first | rfl | cases h) (fun g hg => by cases hg) qt7
def qkN : Ann := (.two .nil (.two .nil (.two (.two .nil (.join ⟨[], [(5, Zt51)], [(2, none)]⟩ (.two (.loop ⟨[2, 3, 19, 20], [(5, Zt51), (21, Zt64)], [(2, none)]⟩ (.two .nil (.two .nil (.two (.join ⟨[2, 3, 19, 20, 21], [(5, Zt51)], [(3, none)]⟩ (.two (.two .nil (.two .nil (.two .nil (.two .nil (.join ⟨[2, 3, 19, 20, 21], [(5, Zt51)], [(3, none)]⟩ (.two (.loop ⟨[2, 3, 6, 8, 19, 20, 21, 44, 45], [(5, Zt51), (46, Zt64)], [(3, none)]⟩ (.two .nil (.two .nil (.two (.join ⟨[2, 3, 6, 8, 19, 20, 21, 44, 45, 46], [(5, Zt51)], [(4, none)]⟩ (.two (.two .nil (.two .nil (.join ⟨[2, 3, 6, 8, 19, 20, 21, 44, 45, 46], [(5, Zt51)], [(4, none)]⟩ (.two (.loop ⟨[2, 3, 6, 8, 19, 20, 21, 44, 45, 46, 54, 55], [(5, Zt51), (56, Zt64)], [(4, none)]⟩ (.two .nil (.two .nil (.two (.two (.two .nil (.two .nil (.two (.two .nil (.two .nil (.join ⟨[2, 3, 5, 6, 8, 13, 19, 20, 21, 44, 45, 46, 54, 55, 56], [], [(8, some (.box Zt54))]⟩ .nil))) .nil))) .nil) .nil)))) .nil)))) .nil)) .nil)))) .nil)))))) .nil)) .nil)))) .nil))) (.two .nil (.two (.join ⟨[], [(4, Zt51)], [(3, none)]⟩ (.two (.two .nil (.two .nil (.two (.two .nil (.joinE ⟨[0], [], [(3, some (.arr 41 Zt54))]⟩ (.two (.loop ⟨[0], [(3, Zt64)], [(3, some (.arr 41 Zt54))]⟩ (.two .nil (.two (.joinE ⟨[0], [(3, Zt64)], [(3, some (.arr 41 Zt54))]⟩ (.two (.two .nil (.two (.two (.own .nil) (.two (.two .nil (.join ⟨[0], [(3, Zt64)], [(3, some (.arr 41 Zt54))]⟩ (.two (.loop ⟨[0, 4], [(3, Zt64), (5, Zt64)], [(3, some (.arr 41 Zt54))]⟩ (.two .nil (.two (.two (.two .nil (.join ⟨[0, 4, 5], [(3, Zt64)], [(3, some (.arr 41 Zt54))]⟩ .nil)) .nil) .nil))) .nil))) (.two (.own .nil) (.two (.own .nil) .nil)))) .nil)) .nil)) .nil))) .nil))) .nil))) .nil)) .nil)))))
noncomputable def movesList_con : Con := ⟨[Zt17, Zt36], true, [], Zt51, fun x => qay x.1 x.2.1, none⟩
noncomputable def qly : Env := (193, .body Tryz.f193) :: (191, .srt qgP) :: (190, .con rulesIsLast_con) :: (189, .con movesWay_con) :: (159, .ck 197) :: (188, .con movesPuts_con) :: []
theorem qrR (x : DL movesList_con.ps) : movesList_con.φ x = denF Tryz.prog qly qkN Tryz.f137 movesList_con.ps movesList_con.one movesList_con.res movesList_con.ρ x := by kernel_rfl
theorem qfn : ConOK Tryz.prog 137 movesList_con :=
  qa (env := qly) ((EnvOK.body (EnvOK.sort (EnvOK.cons (EnvOK.cons (EnvOK.check (EnvOK.cons (EnvOK.nil _) qtV) qc) quy) qjl) qtD) Tryz.func193)) mixed Tryz.func137 movesList_con qkN (by kernel_rfl) (fun h => by first | rfl | cases h) (fun g hg => by cases hg) qrR
def qjp : Ann := (.two .nil (.two .nil (.two (.two (.two (.two .nil (.two (.two .nil (.joinE ⟨[], [], []⟩ (.two (.loop ⟨[0, 1, 7], [(8, Zt64)], []⟩ .nil) .nil))) .nil)) .nil) .nil) .nil)))
noncomputable def endsResult_con : Con := ⟨[Zt17, Zt36], true, [], Zt64, fun x => qds x.1 x.2.1, none⟩
noncomputable def qjS : Env := (197, .con endsWins_con) :: (137, .con movesList_con) :: (196, .con endsHolds_con) :: (195, .body Tryz.f195) :: (194, .body Tryz.f194) :: (159, .ck 197) :: []
theorem qqn (x : DL endsResult_con.ps) : endsResult_con.φ x = denF Tryz.prog qjS qjp Tryz.f139 endsResult_con.ps endsResult_con.one endsResult_con.res endsResult_con.ρ x := by kernel_rfl
theorem qgL : ConOK Tryz.prog 139 endsResult_con :=
  qa (env := qjS) ((EnvOK.cons (EnvOK.cons (EnvOK.cons (EnvOK.body (EnvOK.body (EnvOK.check (EnvOK.nil _) qc) Tryz.func194) Tryz.func195) qsZ) qfn) qvj)) mixed Tryz.func139 endsResult_con qjp (by kernel_rfl) (fun h => by first | rfl | cases h) (fun g hg => by cases hg) qqn
def qqY : Ann := .nil
noncomputable def endsOf_con : Con := ⟨[Zt17, Zt36], false, [Zt64, Zt64], Zt57, fun x => qwe x.1 x.2.1, none⟩
noncomputable def qqO : Env := (139, .con endsResult_con) :: (74, .con placeCheck_con) :: []
theorem qxd (x : DL endsOf_con.ps) : endsOf_con.φ x = denF Tryz.prog qqO qqY Tryz.f143 endsOf_con.ps endsOf_con.one endsOf_con.res endsOf_con.ρ x := by kernel_rfl
theorem endsOf_ok : ConOK Tryz.prog 143 endsOf_con :=
  qa (env := qqO) ((EnvOK.cons (EnvOK.cons (EnvOK.nil _) qev) qgL)) mixed Tryz.func143 endsOf_con qqY (by kernel_rfl) (fun h => by first | rfl | cases h) (fun g hg => by cases hg) qxd
def ql4 : Ann := .nil
noncomputable def endsMoves_con : Con := ⟨[Zt17, Zt36], true, [], Zt51, fun x => qgr x.1 x.2.1, none⟩
noncomputable def qkS : Env := (137, .con movesList_con) :: (139, .con endsResult_con) :: []
theorem qsr (x : DL endsMoves_con.ps) : endsMoves_con.φ x = denF Tryz.prog qkS ql4 Tryz.f168 endsMoves_con.ps endsMoves_con.one endsMoves_con.res endsMoves_con.ρ x := by kernel_rfl
theorem qnf : ConOK Tryz.prog 168 endsMoves_con :=
  qa (env := qkS) ((EnvOK.cons (EnvOK.cons (EnvOK.nil _) qgL) qfn)) mixed Tryz.func168 endsMoves_con ql4 (by kernel_rfl) (fun h => by first | rfl | cases h) (fun g hg => by cases hg) qsr
def qnR : Ann := .nil
noncomputable def movesAll_con : Con := ⟨[Zt17, Zt36], false, [Zt51, Zt64], (.st Zt51 Zt61), fun x => qoo x.1 x.2.1, none⟩
noncomputable def qnM : Env := (137, .con movesList_con) :: (74, .con placeCheck_con) :: []
theorem qs3 (x : DL movesAll_con.ps) : movesAll_con.φ x = denF Tryz.prog qnM qnR Tryz.f97 movesAll_con.ps movesAll_con.one movesAll_con.res movesAll_con.ρ x := by kernel_rfl
theorem qu7 : ConOK Tryz.prog 97 movesAll_con :=
  qa (env := qnM) ((EnvOK.cons (EnvOK.cons (EnvOK.nil _) qev) qfn)) mixed Tryz.func97 movesAll_con qnR (by kernel_rfl) (fun h => by first | rfl | cases h) (fun g hg => by cases hg) qs3
def qef : Ann := (.two .nil (.two (.two .nil (.joinE ⟨[], [], []⟩ (.two (.loop ⟨[0, 3, 7], [(8, Zt64)], []⟩ .nil) .nil))) .nil))
noncomputable def slicesIndex_Move_con : Con := ⟨[Zt53, Zt54], true, [], Zt64, fun x => qea x.1 x.2.1, none⟩
noncomputable def qeg : Env := []
theorem qi8 (x : DL slicesIndex_Move_con.ps) : slicesIndex_Move_con.φ x = denF Tryz.prog qeg qef Tryz.f158 slicesIndex_Move_con.ps slicesIndex_Move_con.one slicesIndex_Move_con.res slicesIndex_Move_con.ρ x := by kernel_rfl
theorem qky : ConOK Tryz.prog 158 slicesIndex_Move_con :=
  qa (env := qeg) ((EnvOK.nil _)) mixed Tryz.func158 slicesIndex_Move_con qef (by kernel_rfl) (fun h => by first | rfl | cases h) (fun g hg => by cases hg) qi8
def qcB : Ann := .nil
noncomputable def slicesContains_Move_con : Con := ⟨[Zt53, Zt54], true, [], .bool, fun x => qw x.1 x.2.1, none⟩
noncomputable def qcA : Env := (158, .con slicesIndex_Move_con) :: []
theorem qgy (x : DL slicesContains_Move_con.ps) : slicesContains_Move_con.φ x = denF Tryz.prog qcA qcB Tryz.f98 slicesContains_Move_con.ps slicesContains_Move_con.one slicesContains_Move_con.res slicesContains_Move_con.ρ x := by kernel_rfl
theorem qaE : ConOK Tryz.prog 98 slicesContains_Move_con :=
  qa (env := qcA) ((EnvOK.cons (EnvOK.nil _) qky)) mixed Tryz.func98 slicesContains_Move_con qcB (by kernel_rfl) (fun h => by first | rfl | cases h) (fun g hg => by cases hg) qgy
def qjh : Ann := .nil
noncomputable def movesLegal_con : Con := ⟨[Zt17, Zt36, Zt54], false, [.bool, Zt64], Zt59, fun x => qez x.1 x.2.1 x.2.2.1, none⟩
noncomputable def qjH : Env := (98, .con slicesContains_Move_con) :: (97, .con movesAll_con) :: []
theorem qp8 (x : DL movesLegal_con.ps) : movesLegal_con.φ x = denF Tryz.prog qjH qjh Tryz.f39 movesLegal_con.ps movesLegal_con.one movesLegal_con.res movesLegal_con.ρ x := by kernel_rfl
theorem qme : ConOK Tryz.prog 39 movesLegal_con :=
  qa (env := qjH) ((EnvOK.cons (EnvOK.cons (EnvOK.nil _) qu7) qaE)) mixed Tryz.func39 movesLegal_con qjh (by kernel_rfl) (fun h => by first | rfl | cases h) (fun g hg => by cases hg) qp8
def qeR : Ann := .nil
noncomputable def slicesClone_int_con : Con := ⟨[Zt63], true, [], Zt62, fun x => qJ x.1, none⟩
noncomputable def qeN : Env := []
theorem qkm (x : DL slicesClone_int_con.ps) : slicesClone_int_con.φ x = denF Tryz.prog qeN qeR Tryz.f68 slicesClone_int_con.ps slicesClone_int_con.one slicesClone_int_con.res slicesClone_int_con.ρ x := by kernel_rfl
theorem qcT : ConOK Tryz.prog 68 slicesClone_int_con :=
  qa (env := qeN) ((EnvOK.nil _)) mixed Tryz.func68 slicesClone_int_con qeR (by kernel_rfl) (fun h => by first | rfl | cases h) (fun g hg => by cases hg) qkm
def qmd : Ann := (.two .nil (.two .nil (.two (.join ⟨[1, 2], [], [(0, some (.box Zt37)), (2, none)]⟩ (.any 887 0 (.ord 0 0 .nil (.ord 1 0 .nil (.ord 2 115 .nil (.ord 4 0 .nil (.ord 5 0 .nil (.alt (.ord 3 0 .nil (.ord 6 0 .nil (.ord 7 0 .nil (.ord 8 0 .nil (.ord 9 0 .nil (.ord 10 0 .nil .nil)))))) (.ord 6 0 .nil (.ord 3 0 .nil (.ord 7 0 .nil (.ord 8 0 .nil (.ord 9 0 .nil (.ord 10 0 .nil .nil)))))))))))))) .nil)))
noncomputable def placeCopy_con : Con := ⟨[Zt36], true, [], Zt32, fun x => qe4 x.1, none⟩
noncomputable def qlo : Env := (68, .con slicesClone_int_con) :: (159, .ck 197) :: []
theorem qrq (x : DL placeCopy_con.ps) : placeCopy_con.φ x = denF Tryz.prog qlo qmd Tryz.f126 placeCopy_con.ps placeCopy_con.one placeCopy_con.res placeCopy_con.ρ x := by kernel_rfl
theorem qnl : ConOK Tryz.prog 126 placeCopy_con :=
  qa (env := qlo) ((EnvOK.cons (EnvOK.check (EnvOK.nil _) qc) qcT)) mixed Tryz.func126 placeCopy_con qmd (by kernel_rfl) (fun h => by first | rfl | cases h) (fun g hg => by cases hg) qrq
def qml : Ann := (.two .nil (.two .nil (.two .nil (.two (.two .nil (.join ⟨[3, 4, 5, 6, 7, 8], [], [(4, some (.arr 3 Zt64)), (5, some (.arr 3 Zt64)), (6, some (.arr 3 Zt64))]⟩ (.two .nil (.join ⟨[3, 4, 5, 6, 7, 8], [], [(5, some (.arr 3 Zt64)), (6, some (.arr 3 Zt64))]⟩ (.tail 11 .nil))))) (.two .nil (.two (.two .nil (.join ⟨[4, 5, 6, 7, 8], [], [(5, some (.arr 3 Zt64)), (6, some (.arr 3 Zt64))]⟩ (.two (.two .nil (.join ⟨[4, 5, 6, 7, 8], [], [(5, some (.arr 3 Zt64)), (6, some (.arr 3 Zt64))]⟩ (.tail 17 .nil))) .nil))) (.two .nil (.two (.two .nil (.join ⟨[4, 6, 7], [], [(4, none), (5, none), (6, none), (7, some (.box Zt37))]⟩ .nil)) .nil))))))))
noncomputable def movesMake_con : Con := ⟨[Zt17, Zt36, Zt54], true, [], Zt32, fun x => qH x.1 x.2.1 x.2.2.1, none⟩
noncomputable def qkD : Env := (126, .con placeCopy_con) :: (159, .ck 197) :: []
theorem qrK (x : DL movesMake_con.ps) : movesMake_con.φ x = denF Tryz.prog qkD qml Tryz.f63 movesMake_con.ps movesMake_con.one movesMake_con.res movesMake_con.ρ x := by kernel_rfl
theorem qnJ : ConOK Tryz.prog 63 movesMake_con :=
  qa (env := qkD) ((EnvOK.cons (EnvOK.check (EnvOK.nil _) qc) qnl)) mixed Tryz.func63 movesMake_con qml (by kernel_rfl) (fun h => by first | rfl | cases h) (fun g hg => by cases hg) qrK
def qjv : Ann := .nil
noncomputable def movesAfter_con : Con := ⟨[Zt17, Zt36, Zt54], false, [Zt32, Zt64], Zt25, fun x => qcq x.1 x.2.1 x.2.2.1, none⟩
noncomputable def qju : Env := (63, .con movesMake_con) :: (39, .con movesLegal_con) :: (159, .ck 197) :: []
theorem qp3 (x : DL movesAfter_con.ps) : movesAfter_con.φ x = denF Tryz.prog qju qjv Tryz.f142 movesAfter_con.ps movesAfter_con.one movesAfter_con.res movesAfter_con.ρ x := by kernel_rfl
theorem qsB : ConOK Tryz.prog 142 movesAfter_con :=
  qa (env := qju) ((EnvOK.cons (EnvOK.cons (EnvOK.check (EnvOK.nil _) qc) qme) qnJ)) mixed Tryz.func142 movesAfter_con qjv (by kernel_rfl) (fun h => by first | rfl | cases h) (fun g hg => by cases hg) qp3
def qO : Ann := (.ord 13 0 .nil (.ord 16 0 .nil (.ord 18 0 .nil (.ord 19 0 .nil .nil))))
def qdd : Ann := (.alt (.ord 6 0 .nil (.ord 15 0 .nil (.ord 12 0 .nil qO))) (.ord 12 0 .nil (.ord 6 0 .nil (.ord 15 0 .nil qO))))
def qhJ : Ann := (.alt (.ord 6 0 .nil (.ord 9 155135 .nil (.ord 15 0 .nil (.ord 12 0 .nil qO)))) (.alt (.ord 9 0 .nil qdd) (.ord 12 0 .nil (.alt (.ord 6 0 .nil (.ord 9 0 .nil (.ord 15 0 .nil qO))) (.ord 9 0 .nil (.ord 6 0 .nil (.ord 15 0 .nil qO)))))))
def qe1 : Ann := (.ord 11 182271 .nil (.ord 15 0 .nil (.ord 12 0 .nil qO)))
def qiy : Ann := (.alt (.ord 5 0 .nil qdd) (.ord 12 0 .nil (.ord 5 0 .nil (.ord 6 0 .nil (.ord 15 0 .nil qO)))))
def qj0 : Ann := (.two .nil (.two .nil (.two .nil (.two (.two .nil (.join ⟨[2, 5], [], [(2, none), (3, some (.box Zt37))]⟩ (.two (.loop ⟨[2, 5, 19, 20], [(21, Zt64)], [(2, none), (3, some (.box Zt37))]⟩ (.two .nil (.two .nil (.two (.two (.two .nil (.join ⟨[2, 5, 19, 20, 21], [], [(3, some (.box Zt37)), (4, none), (5, none), (6, none)]⟩ (.any 446367 4128 (.ord 0 0 .nil (.ord 1 0 .nil (.ord 2 155579 .nil (.ord 3 0 .nil (.ord 4 155535 .nil (.ord 7 0 .nil (.ord 8 0 .nil (.ord 10 0 .nil (.ord 14 0 .nil (.ord 17 0 .nil (.alt (.ord 5 0 .nil (.alt (.ord 6 0 .nil (.ord 9 155135 .nil qe1)) (.alt (.ord 9 0 .nil (.alt (.ord 6 0 .nil qe1) (.ord 11 0 .nil qdd))) (.ord 11 0 .nil qhJ)))) (.alt (.ord 9 0 .nil (.alt (.ord 5 0 .nil (.alt (.ord 6 0 .nil qe1) (.ord 11 0 .nil qdd))) (.ord 11 0 .nil qiy))) (.ord 11 0 .nil (.alt (.ord 5 0 .nil qhJ) (.alt (.ord 9 0 .nil qiy) (.ord 12 0 .nil (.alt (.ord 5 0 .nil (.alt (.ord 6 0 .nil (.ord 9 0 .nil (.ord 15 0 .nil qO))) (.ord 9 0 .nil (.ord 6 0 .nil (.ord 15 0 .nil qO))))) (.ord 9 0 .nil (.ord 5 0 .nil (.ord 6 0 .nil (.ord 15 0 .nil qO)))))))))))))))))))))))) .nil) .nil)))) .nil))) .nil))))
noncomputable def placeBegin_con : Con := ⟨[Zt17], false, [Zt32, Zt64], Zt25, fun x => qeA x.1, none⟩
noncomputable def qjK : Env := (68, .con slicesClone_int_con) :: (67, .con rulesCheck_con) :: (159, .ck 197) :: []
theorem qp5 (x : DL placeBegin_con.ps) : placeBegin_con.φ x = denF Tryz.prog qjK qj0 Tryz.f17 placeBegin_con.ps placeBegin_con.one placeBegin_con.res placeBegin_con.ρ x := by kernel_rfl
theorem qgB : ConOK Tryz.prog 17 placeBegin_con :=
  qa (env := qjK) ((EnvOK.cons (EnvOK.cons (EnvOK.check (EnvOK.nil _) qc) qk5) qcT)) mixed Tryz.func17 placeBegin_con qj0 (by kernel_rfl) (fun h => by first | rfl | cases h) (fun g hg => by cases hg) qp5
def qeI : Ann := (.two .nil (.two .nil (.two (.two .nil (.joinE ⟨[], [], []⟩ (.two (.loop ⟨[0, 1, 12], [(13, Zt64)], []⟩ .nil) .nil))) .nil)))
noncomputable def slicesEqual_int_con : Con := ⟨[Zt63, Zt63], true, [], .bool, fun x => qa2 x.1 x.2.1, none⟩
noncomputable def qeO : Env := []
theorem qkx (x : DL slicesEqual_int_con.ps) : slicesEqual_int_con.φ x = denF Tryz.prog qeO qeI Tryz.f92 slicesEqual_int_con.ps slicesEqual_int_con.one slicesEqual_int_con.res slicesEqual_int_con.ρ x := by kernel_rfl
theorem qlD : ConOK Tryz.prog 92 slicesEqual_int_con :=
  qa (env := qeO) ((EnvOK.nil _)) mixed Tryz.func92 slicesEqual_int_con qeI (by kernel_rfl) (fun h => by first | rfl | cases h) (fun g hg => by cases hg) qkx
def qlk : Ann := .nil
noncomputable def placeSame_con : Con := ⟨[Zt36, Zt36], true, [], .bool, fun x => qbW x.1 x.2.1, none⟩
noncomputable def qlM : Env := (92, .con slicesEqual_int_con) :: []
theorem qr3 (x : DL placeSame_con.ps) : placeSame_con.φ x = denF Tryz.prog qlM qlk Tryz.f31 placeSame_con.ps placeSame_con.one placeSame_con.res placeSame_con.ρ x := by kernel_rfl
theorem qh3 : ConOK Tryz.prog 31 placeSame_con :=
  qa (env := qlM) ((EnvOK.cons (EnvOK.nil _) qlD)) mixed Tryz.func31 placeSame_con qlk (by kernel_rfl) (fun h => by first | rfl | cases h) (fun g hg => by cases hg) qr3
def qc4 : Ann := .nil
noncomputable def slicesClone_RuleWay_con : Con := ⟨[Zt44], true, [], (.osl 215 Zt46), fun x => qbe x.1, none⟩
noncomputable def qdb : Env := []
theorem qgE (x : DL slicesClone_RuleWay_con.ps) : slicesClone_RuleWay_con.φ x = denF Tryz.prog qdb qc4 Tryz.f106 slicesClone_RuleWay_con.ps slicesClone_RuleWay_con.one slicesClone_RuleWay_con.res slicesClone_RuleWay_con.ρ x := by kernel_rfl
theorem qhy : ConOK Tryz.prog 106 slicesClone_RuleWay_con :=
  qa (env := qdb) ((EnvOK.nil _)) mixed Tryz.func106 slicesClone_RuleWay_con qc4 (by kernel_rfl) (fun h => by first | rfl | cases h) (fun g hg => by cases hg) qgE
def qcP : Ann := .nil
noncomputable def slicesClone_RuleEnd_con : Con := ⟨[Zt47], true, [], Zt45, fun x => qaA x.1, none⟩
noncomputable def qcz : Env := []
theorem qg6 (x : DL slicesClone_RuleEnd_con.ps) : slicesClone_RuleEnd_con.φ x = denF Tryz.prog qcz qcP Tryz.f107 slicesClone_RuleEnd_con.ps slicesClone_RuleEnd_con.one slicesClone_RuleEnd_con.res slicesClone_RuleEnd_con.ρ x := by kernel_rfl
theorem qhw : ConOK Tryz.prog 107 slicesClone_RuleEnd_con :=
  qa (env := qcz) ((EnvOK.nil _)) mixed Tryz.func107 slicesClone_RuleEnd_con qcP (by kernel_rfl) (fun h => by first | rfl | cases h) (fun g hg => by cases hg) qg6
def qlX : Ann := (.two .nil (.two .nil (.two .nil (.two (.two .nil (.join ⟨[1, 2, 3], [], [(2, some (.box Zt16))]⟩ (.two (.loop ⟨[1, 2, 3, 9, 10], [(11, Zt64)], [(2, some (.box Zt16))]⟩ .nil) .nil))) (.two (.join ⟨[2, 3], [], [(2, some (.box Zt15)), (3, none)]⟩ (.any 347 0 (.ord 0 0 .nil (.ord 1 25 .nil (.ord 3 0 .nil (.alt (.ord 2 0 .nil (.ord 4 79 .nil (.ord 6 0 .nil (.ord 5 0 .nil (.ord 7 0 .nil (.ord 8 0 .nil (.ord 9 0 .nil .nil))))))) (.ord 4 0 .nil (.ord 2 0 .nil (.ord 6 0 .nil (.ord 5 0 .nil (.ord 7 0 .nil (.ord 8 0 .nil (.ord 9 0 .nil .nil))))))))))))) .nil)))))
noncomputable def rulesCopy_con : Con := ⟨[Zt17], true, [], Zt17, fun x => qaZ x.1, none⟩
noncomputable def ql1 : Env := (107, .con slicesClone_RuleEnd_con) :: (68, .con slicesClone_int_con) :: (106, .con slicesClone_RuleWay_con) :: (159, .ck 197) :: []
theorem qrS (x : DL rulesCopy_con.ps) : rulesCopy_con.φ x = denF Tryz.prog ql1 qlX Tryz.f45 rulesCopy_con.ps rulesCopy_con.one rulesCopy_con.res rulesCopy_con.ρ x := by kernel_rfl
theorem qnN : ConOK Tryz.prog 45 rulesCopy_con :=
  qa (env := ql1) ((EnvOK.cons (EnvOK.cons (EnvOK.cons (EnvOK.check (EnvOK.nil _) qc) qhy) qcT) qhw)) mixed Tryz.func45 rulesCopy_con qlX (by kernel_rfl) (fun h => by first | rfl | cases h) (fun g hg => by cases hg) qrS
end Go.Proofs.YtijkabgijfdpfaaGreatDoor

