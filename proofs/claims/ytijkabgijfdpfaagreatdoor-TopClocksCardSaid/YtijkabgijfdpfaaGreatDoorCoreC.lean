/- Contracts: Core. No condition of its own. -/
import Derived.Test.YtijkabgijfdpfaaGreatDoorMAA
import Derived.Test.YtijkabgijfdpfaaGreatDoorMAH
import Derived.Test.YtijkabgijfdpfaaGreatDoorMAD
import Derived.Laws.CopyRow
import Derived.Shelf.Spec.SlicesInsertGrow
namespace Go.Proofs.YtijkabgijfdpfaaGreatDoor
open Go.Den
set_option linter.unusedVariables false
set_option maxRecDepth 100000
def qkQ : Ann := (.two .nil (.two (.two .nil (.joinE ⟨[0], [], []⟩ (.two (.loop ⟨[0, 6], [(7, Zt56)], []⟩ .nil) .nil))) .nil))
noncomputable def rulesName_con : Con := ⟨[.str], true, [], .bool, fun x => qh0 x.1, none⟩
noncomputable def qk8 : Env := []
theorem qru (x : DL rulesName_con.ps) : rulesName_con.φ x = denF Tryz.prog qk8 qkQ Tryz.f130 rulesName_con.ps rulesName_con.one rulesName_con.res rulesName_con.ρ x := by kernel_rfl
theorem qmT : ConOK Tryz.prog 130 rulesName_con :=
  qa (env := qk8) ((EnvOK.nil _)) mixed Tryz.func130 rulesName_con qkQ (by kernel_rfl) (fun h => by first | rfl | cases h) (fun g hg => by cases hg) qru
def qii : Ann := .nil
noncomputable def rulesWithin_con : Con := ⟨[Zt56, Zt56, Zt56], true, [], .bool, fun x => qgS x.1 x.2.1 x.2.2.1, some fun x => qd x.1 x.2.1 x.2.2.1⟩
noncomputable def qis : Env := []
theorem qoU (x : DL rulesWithin_con.ps) : rulesWithin_con.φ x = denF Tryz.prog qis qii Tryz.f131 rulesWithin_con.ps rulesWithin_con.one rulesWithin_con.res rulesWithin_con.ρ x := by kernel_rfl
theorem qfY : ConOK Tryz.prog 131 rulesWithin_con :=
  qa (env := qis) ((EnvOK.nil _)) mixed Tryz.func131 rulesWithin_con qii (by kernel_rfl) (fun h => by first | rfl | cases h) (fun g hg x => by
    cases hg
    exact qps _ _ _) qoU
def qix : Ann := (.two .nil (.two .nil (.two .nil (.two (.two .nil (.joinE ⟨[], [], []⟩ (.two (.loop ⟨[1, 16, 17], [(18, Zt56)], []⟩ (.two .nil (.two .nil (.two (.joinE ⟨[1, 16, 17, 18], [], []⟩ (.two (.two .nil (.two (.two (.two .nil (.two .nil (.two (.two (.two .nil (.two (.two (.two .nil (.two (.two .nil (.joinE ⟨[], [], []⟩ (.two (.loop ⟨[0, 1, 7], [(8, Zt56)], []⟩ .nil) .nil))) .nil)) .nil) .nil)) .nil) .nil))) .nil) (.two .nil (.joinE ⟨[1, 16, 17, 18], [], []⟩ (.two (.loop ⟨[1, 16, 17, 18, 59, 60], [(61, Zt56)], []⟩ .nil) .nil))))) .nil)) .nil)))) .nil))) .nil))))
noncomputable def rulesPieces_con : Con := ⟨[Zt12], true, [], Zt56, fun x => qgM x.1, none⟩
noncomputable def qh5 : Env := (131, .con rulesWithin_con) :: (186, .body Tryz.f186) :: (227, .body Tryz.f227) :: (185, .body Tryz.f185) :: (159, .ck 197) :: []
theorem qnP (x : DL rulesPieces_con.ps) : rulesPieces_con.φ x = denF Tryz.prog qh5 qix Tryz.f132 rulesPieces_con.ps rulesPieces_con.one rulesPieces_con.res rulesPieces_con.ρ x := by kernel_rfl
theorem qpu : ConOK Tryz.prog 132 rulesPieces_con :=
  qa (env := qh5) ((EnvOK.cons (EnvOK.body (EnvOK.body (EnvOK.body (EnvOK.check (EnvOK.nil _) qb) Tryz.func185) Tryz.func227) Tryz.func186) qfY)) mixed Tryz.func132 rulesPieces_con qix (by kernel_rfl) (fun h => by first | rfl | cases h) (fun g hg => by cases hg) qnP
def qeK : Ann := (.two .nil (.two .nil (.two (.two .nil (.joinE ⟨[], [], []⟩ (.two (.loop ⟨[1, 12, 13], [(14, Zt56)], []⟩ (.two .nil (.two .nil (.two (.two (.two .nil (.two .nil (.two (.two .nil (.two (.two .nil (.joinE ⟨[1, 12, 13, 14], [(5, .bool), (6, .bool)], []⟩ (.two .nil (.two .nil (.joinE ⟨[1, 6, 12, 13, 14], [(5, .bool)], []⟩ .nil))))) .nil)) .nil))) .nil) .nil)))) .nil))) .nil)))
noncomputable def rulesConditions_con : Con := ⟨[Zt12], true, [], Zt56, fun x => qbO x.1, none⟩
noncomputable def qeB : Env := (131, .con rulesWithin_con) :: (159, .ck 197) :: []
theorem qkq (x : DL rulesConditions_con.ps) : rulesConditions_con.φ x = denF Tryz.prog qeB qeK Tryz.f135 rulesConditions_con.ps rulesConditions_con.one rulesConditions_con.res rulesConditions_con.ρ x := by kernel_rfl
theorem qk3 : ConOK Tryz.prog 135 rulesConditions_con :=
  qa (env := qeB) ((EnvOK.cons (EnvOK.check (EnvOK.nil _) qb) qfY)) mixed Tryz.func135 rulesConditions_con qeK (by kernel_rfl) (fun h => by first | rfl | cases h) (fun g hg => by cases hg) qkq
def qjB : Ann := (.two .nil (.two .nil (.two .nil (.two .nil (.two .nil (.two (.two (.two (.two .nil (.two (.two (.two .nil (.two (.two .nil (.joinE ⟨[], [], []⟩ (.two (.loop ⟨[0, 1, 7], [(8, Zt56)], []⟩ .nil) .nil))) .nil)) .nil) .nil)) .nil) .nil) .nil))))))
noncomputable def rulesCheck_con : Con := ⟨[Zt12], true, [], Zt56, fun x => qet x.1, none⟩
noncomputable def qjX : Env := (135, .con rulesConditions_con) :: (134, .body Tryz.f134) :: (187, .body Tryz.f187) :: (133, .body Tryz.f133) :: (132, .con rulesPieces_con) :: (131, .con rulesWithin_con) :: (130, .con rulesName_con) :: []
theorem qpe (x : DL rulesCheck_con.ps) : rulesCheck_con.φ x = denF Tryz.prog qjX qjB Tryz.f67 rulesCheck_con.ps rulesCheck_con.one rulesCheck_con.res rulesCheck_con.ρ x := by kernel_rfl
theorem qgD : ConOK Tryz.prog 67 rulesCheck_con :=
  qa (env := qjX) ((EnvOK.cons (EnvOK.body (EnvOK.body (EnvOK.body (EnvOK.cons (EnvOK.cons (EnvOK.cons (EnvOK.nil _) qmT) qfY) qpu) Tryz.func133) Tryz.func187) Tryz.func134) qk3)) mixed Tryz.func67 rulesCheck_con qjB (by kernel_rfl) (fun h => by first | rfl | cases h) (fun g hg => by cases hg) qpe
def qec : Ann := (.two .nil (.two .nil (.two (.two .nil (.join ⟨[0], [(3, Zt56)], []⟩ (.two (.loop ⟨[0, 9, 10], [(3, Zt56), (11, Zt56)], []⟩ .nil) .nil))) (.two (.two (.two .nil (.two .nil (.two (.two .nil (.two .nil (.join ⟨[], [(0, Zt53)], []⟩ (.two (.own (.own .nil)) .nil)))) .nil))) .nil) (.two (.two .nil (.join ⟨[], [(6, Zt53)], [(0, none)]⟩ (.two (.loop ⟨[25, 26], [(6, Zt53), (27, Zt56)], [(0, none)]⟩ .nil) .nil))) .nil)))))
noncomputable def slicesConcat_int_con : Con := ⟨[(.sl Zt54)], true, [], Zt53, fun x => qcb x.1, none⟩
noncomputable def qd3 : Env := (232, .body Tryz.f232) :: []
theorem qi7 (x : DL slicesConcat_int_con.ps) : slicesConcat_int_con.φ x = denF Tryz.prog qd3 qec Tryz.f200 slicesConcat_int_con.ps slicesConcat_int_con.one slicesConcat_int_con.res slicesConcat_int_con.ρ x := by kernel_rfl
theorem qj8 : ConOK Tryz.prog 200 slicesConcat_int_con :=
  qa (env := qd3) ((EnvOK.body (EnvOK.nil _) Tryz.func232)) mixed Tryz.func200 slicesConcat_int_con qec (by kernel_rfl) (fun h => by first | rfl | cases h) (fun g hg => by cases hg) qi7
def qir : Ann := (.ord 6 0 (.two .nil (.two (.two (.two .nil (.two (.two .nil (.joinE ⟨[], [], []⟩ (.two (.loop ⟨[0, 1, 7], [(8, Zt56)], []⟩ .nil) .nil))) .nil)) .nil) .nil)) (.ord 7 0 .nil (.ord 8 0 .nil (.ord 9 0 .nil (.ord 10 0 .nil (.ord 11 0 (.two .nil (.two (.two (.two .nil (.two (.two .nil (.joinE ⟨[], [], []⟩ (.two (.loop ⟨[0, 1, 7], [(8, Zt56)], []⟩ .nil) .nil))) .nil)) .nil) .nil)) (.ord 12 0 .nil (.ord 13 0 .nil (.ord 14 0 .nil (.ord 15 0 .nil (.ord 16 0 .nil (.ord 17 0 .nil (.ord 18 0 .nil (.ord 19 0 .nil (.ord 20 0 .nil (.ord 21 0 .nil (.ord 22 0 .nil (.ord 23 0 .nil (.ord 24 0 .nil (.ord 25 0 .nil (.ord 26 0 .nil (.ord 27 0 .nil (.ord 28 0 .nil (.ord 29 0 .nil (.ord 30 0 .nil (.ord 31 0 .nil (.ord 32 0 .nil .nil)))))))))))))))))))))))))))
def qja : Ann := (.two .nil (.two .nil (.two .nil (.two .nil (.two .nil (.two (.two (.join ⟨[], [(76, .bool)], []⟩ (.any 8589931423 0 (.ord 0 0 .nil (.ord 2 0 .nil (.ord 3 0 .nil (.ord 4 0 .nil (.alt (.ord 1 0 .nil (.ord 5 0 .nil qir)) (.ord 5 0 .nil (.ord 1 0 .nil qir))))))))) .nil) .nil))))))
noncomputable def placeSound_con : Con := ⟨[Zt12, Zt28], true, [], Zt56, fun x => qiD x.1 x.2.1, none⟩
noncomputable def qjK : Env := (199, .body Tryz.f199) :: (187, .body Tryz.f187) :: (133, .body Tryz.f133) :: (198, .body Tryz.f198) :: (200, .con slicesConcat_int_con) :: []
theorem qpH (x : DL placeSound_con.ps) : placeSound_con.φ x = denF Tryz.prog qjK qja Tryz.f141 placeSound_con.ps placeSound_con.one placeSound_con.res placeSound_con.ρ x := by kernel_rfl
theorem qqI : ConOK Tryz.prog 141 placeSound_con :=
  qa (env := qjK) ((EnvOK.body (EnvOK.body (EnvOK.body (EnvOK.body (EnvOK.cons (EnvOK.nil _) qj8) Tryz.func198) Tryz.func133) Tryz.func187) Tryz.func199)) mixed Tryz.func141 placeSound_con qja (by kernel_rfl) (fun h => by first | rfl | cases h) (fun g hg => by cases hg) qpH
def qjR : Ann := .nil
noncomputable def placeCheck_con : Con := ⟨[Zt12, Zt28], true, [], Zt56, fun x => qgn x.1 x.2.1, none⟩
noncomputable def qjt : Env := (141, .con placeSound_con) :: (67, .con rulesCheck_con) :: []
theorem qpp (x : DL placeCheck_con.ps) : placeCheck_con.φ x = denF Tryz.prog qjt qjR Tryz.f74 placeCheck_con.ps placeCheck_con.one placeCheck_con.res placeCheck_con.ρ x := by kernel_rfl
theorem qlY : ConOK Tryz.prog 74 placeCheck_con :=
  qa (env := qjt) ((EnvOK.cons (EnvOK.cons (EnvOK.nil _) qgD) qqI)) mixed Tryz.func74 placeCheck_con qjR (by kernel_rfl) (fun h => by first | rfl | cases h) (fun g hg => by cases hg) qpp
def qmP : Ann := (.two .nil (.two .nil (.two (.two .nil (.joinE ⟨[], [], []⟩ (.two (.loop ⟨[3, 4, 9, 19], [(20, Zt56)], []⟩ (.two .nil (.two .nil (.two (.joinE ⟨[3, 4, 9, 19, 20], [], []⟩ (.two (.two .nil (.two .nil (.joinE ⟨[3, 4, 9, 19, 20], [], []⟩ (.two (.loop ⟨[3, 4, 9, 10, 19, 20, 27], [(28, Zt56)], []⟩ (.two .nil (.two .nil (.two (.joinE ⟨[3, 4, 9, 10, 19, 20, 27, 28], [], []⟩ (.two (.two .nil (.two .nil (.two (.join ⟨[3, 4, 9, 10, 19, 20, 27, 28], [(15, Zt56)], []⟩ (.two (.loop ⟨[3, 4, 9, 10, 12, 19, 20, 27, 28], [(13, Zt56), (14, Zt56), (15, Zt56)], []⟩ (.two (.two (.join ⟨[3, 4, 9, 10, 12, 13, 14, 15, 19, 20, 27, 28], [(47, .bool)], []⟩ .nil) .nil) .nil)) .nil)) .nil))) .nil)) .nil)))) .nil)))) .nil)) .nil)))) .nil))) .nil)))
noncomputable def endsLine_con : Con := ⟨[Zt12, Zt28, Zt56, Zt56], true, [], .bool, fun x => qnN x.1 x.2.1 x.2.2.1 x.2.2.2.1, none⟩
noncomputable def qmU : Env := (272, .body Tryz.f272) :: (159, .ck 197) :: []
theorem qtq (x : DL endsLine_con.ps) : endsLine_con.φ x = denF Tryz.prog qmU qmP Tryz.f231 endsLine_con.ps endsLine_con.one endsLine_con.res endsLine_con.ρ x := by kernel_rfl
theorem qtC : ConOK Tryz.prog 231 endsLine_con :=
  qa (env := qmU) ((EnvOK.body (EnvOK.check (EnvOK.nil _) qb) Tryz.func272)) mixed Tryz.func231 endsLine_con qmP (by kernel_rfl) (fun h => by first | rfl | cases h) (fun g hg => by cases hg) qtq
def qhS : Ann := .nil
noncomputable def rulesIsLast_con : Con := ⟨[Zt12, Zt56, Zt56], true, [], .bool, fun x => qeG x.1 x.2.1 x.2.2.1, none⟩
noncomputable def qil : Env := []
theorem qoQ (x : DL rulesIsLast_con.ps) : rulesIsLast_con.φ x = denF Tryz.prog qil qhS Tryz.f190 rulesIsLast_con.ps rulesIsLast_con.one rulesIsLast_con.res rulesIsLast_con.ρ x := by kernel_rfl
theorem qjz : ConOK Tryz.prog 190 rulesIsLast_con :=
  qa (env := qil) ((EnvOK.nil _)) mixed Tryz.func190 rulesIsLast_con qhS (by kernel_rfl) (fun h => by first | rfl | cases h) (fun g hg => by cases hg) qoQ
def qlq : Ann := (.two .nil (.two (.two .nil (.joinE ⟨[3, 5, 6], [], []⟩ (.two (.two .nil (.two .nil (.two .nil (.two (.two (.two .nil (.joinE ⟨[3, 5, 6], [], []⟩ (.two (.loop ⟨[3, 4, 5, 6, 27, 28], [(29, Zt56)], []⟩ .nil) .nil))) .nil) .nil)))) .nil))) (.two .nil (.two (.two .nil (.join ⟨[6], [(11, Zt56)], []⟩ (.two (.loop ⟨[3, 6, 50, 51], [(11, Zt56), (52, Zt56)], []⟩ (.two .nil (.two .nil (.two (.two (.two .nil (.two .nil (.join ⟨[3, 6, 50, 51, 52], [(11, Zt56)], []⟩ .nil))) .nil) .nil)))) .nil))) .nil))))
noncomputable def endsHolds_con : Con := ⟨[Zt12, Zt28, Zt40, Zt56], true, [], .bool, fun x => qlp x.1 x.2.1 x.2.2.1 x.2.2.2.1, none⟩
noncomputable def qlE : Env := (190, .con rulesIsLast_con) :: (231, .con endsLine_con) :: []
theorem qrE (x : DL endsHolds_con.ps) : endsHolds_con.φ x = denF Tryz.prog qlE qlq Tryz.f196 endsHolds_con.ps endsHolds_con.one endsHolds_con.res endsHolds_con.ρ x := by kernel_rfl
theorem qss : ConOK Tryz.prog 196 endsHolds_con :=
  qa (env := qlE) ((EnvOK.cons (EnvOK.cons (EnvOK.nil _) qtC) qjz)) mixed Tryz.func196 endsHolds_con qlq (by kernel_rfl) (fun h => by first | rfl | cases h) (fun g hg => by cases hg) qrE
def qm0 : Ann := .nil
noncomputable def endsWins_con : Con := ⟨[Zt56], true, [], Zt56, fun x => qmG x.1, some fun x => qcF x.1⟩
noncomputable def qng : Env := []
theorem qtv (x : DL endsWins_con.ps) : endsWins_con.φ x = denF Tryz.prog qng qm0 Tryz.f197 endsWins_con.ps endsWins_con.one endsWins_con.res endsWins_con.ρ x := by kernel_rfl
theorem qtY : ConOK Tryz.prog 197 endsWins_con :=
  qa (env := qng) ((EnvOK.nil _)) mixed Tryz.func197 endsWins_con qm0 (by kernel_rfl) (fun h => by first | rfl | cases h) (fun g hg x => by
    cases hg
    exact quq _) qtv
def qhO : Ann := (.two .nil (.two (.two .nil (.joinE ⟨[], [], []⟩ (.two (.loop ⟨[3, 4], [(2, Zt56)], []⟩ .nil) .nil))) .nil))
noncomputable def movesFilled_con : Con := ⟨[Zt12, Zt28, Zt56], true, [], .bool, fun x => qgt x.1 x.2.1 x.2.2.1, none⟩
noncomputable def qh8 : Env := []
theorem qnV (x : DL movesFilled_con.ps) : movesFilled_con.φ x = denF Tryz.prog qh8 qhO Tryz.f228 movesFilled_con.ps movesFilled_con.one movesFilled_con.res movesFilled_con.ρ x := by kernel_rfl
theorem qpw : ConOK Tryz.prog 228 movesFilled_con :=
  qa (env := qh8) ((EnvOK.nil _)) mixed Tryz.func228 movesFilled_con qhO (by kernel_rfl) (fun h => by first | rfl | cases h) (fun g hg => by cases hg) qnV
def qlB : Ann := (.two .nil (.two .nil (.two (.two .nil (.join ⟨[], [(5, Zt42)], []⟩ (.two (.loop ⟨[2, 3, 11, 12], [(5, Zt42), (13, Zt56)], []⟩ (.two .nil (.two .nil (.two (.join ⟨[2, 3, 11, 12, 13], [(5, Zt42)], [(2, none)]⟩ (.two (.two .nil (.two .nil (.two .nil (.join ⟨[2, 3, 11, 12, 13], [(5, Zt42)], [(2, none)]⟩ (.two (.loop ⟨[2, 3, 6, 11, 12, 13, 41, 42], [(5, Zt42), (43, Zt56)], [(2, none)]⟩ (.two .nil (.two .nil (.two (.two (.two .nil (.two .nil (.join ⟨[2, 3, 6, 11, 12, 13, 41, 42, 43], [(5, Zt42)], [(3, none)]⟩ .nil))) .nil) .nil)))) .nil))))) .nil)) .nil)))) .nil))) .nil)))
noncomputable def movesPuts_con : Con := ⟨[Zt12, Zt28], true, [], Zt42, fun x => ql3 x.1 x.2.1, none⟩
noncomputable def ql4 : Env := (228, .con movesFilled_con) :: []
theorem qqO (x : DL movesPuts_con.ps) : movesPuts_con.φ x = denF Tryz.prog ql4 qlB Tryz.f188 movesPuts_con.ps movesPuts_con.one movesPuts_con.res movesPuts_con.ρ x := by kernel_rfl
theorem qsG : ConOK Tryz.prog 188 movesPuts_con :=
  qa (env := ql4) ((EnvOK.cons (EnvOK.nil _) qpw)) mixed Tryz.func188 movesPuts_con qlB (by kernel_rfl) (fun h => by first | rfl | cases h) (fun g hg => by cases hg) qqO
def qnh : Ann := (.two .nil (.two .nil (.two .nil (.two (.two .nil (.join ⟨[2, 4, 5, 7, 9], [(10, Zt56)], []⟩ .nil)) (.two .nil (.two (.two .nil (.join ⟨[], [(9, Zt53)], []⟩ (.two (.loop ⟨[4, 5, 7, 10, 31], [(9, Zt53), (11, Zt56), (12, Zt56), (32, Zt56)], []⟩ (.two .nil (.two .nil (.two (.two (.two .nil (.two .nil (.two .nil (.two .nil (.two (.two .nil (.join ⟨[4, 5, 7, 10, 11, 12, 13, 31, 32], [(9, Zt53)], [(3, none)]⟩ .nil)) .nil))))) .nil) .nil)))) .nil))) .nil))))))
noncomputable def movesWay_con : Con := ⟨[Zt12, Zt28, Zt56, Zt38], true, [], Zt53, fun x => qnK x.1 x.2.1 x.2.2.1 x.2.2.2.1, none⟩
noncomputable def qmY : Env := []
theorem qr7 (x : DL movesWay_con.ps) : movesWay_con.φ x = denF Tryz.prog qmY qnh Tryz.f189 movesWay_con.ps movesWay_con.one movesWay_con.res movesWay_con.ρ x := by kernel_rfl
theorem qui : ConOK Tryz.prog 189 movesWay_con :=
  qa (env := qmY) ((EnvOK.nil _)) mixed Tryz.func189 movesWay_con qnh (by kernel_rfl) (fun h => by first | rfl | cases h) (fun g hg => by cases hg) qr7
def qly : Ann := (.two .nil (.two .nil (.two (.two .nil (.join ⟨[], [(5, Zt42)], [(2, none)]⟩ (.two (.loop ⟨[2, 3, 19, 20], [(5, Zt42), (21, Zt56)], [(2, none)]⟩ (.two .nil (.two .nil (.two (.join ⟨[2, 3, 19, 20, 21], [(5, Zt42)], [(3, none)]⟩ (.two (.two .nil (.two .nil (.two .nil (.two .nil (.join ⟨[2, 3, 19, 20, 21], [(5, Zt42)], [(3, none)]⟩ (.two (.loop ⟨[2, 3, 6, 8, 19, 20, 21, 44, 45], [(5, Zt42), (46, Zt56)], [(3, none)]⟩ (.two .nil (.two .nil (.two (.join ⟨[2, 3, 6, 8, 19, 20, 21, 44, 45, 46], [(5, Zt42)], [(4, none)]⟩ (.two (.two .nil (.two .nil (.join ⟨[2, 3, 6, 8, 19, 20, 21, 44, 45, 46], [(5, Zt42)], [(4, none)]⟩ (.two (.loop ⟨[2, 3, 6, 8, 19, 20, 21, 44, 45, 46, 54, 55], [(5, Zt42), (56, Zt56)], [(4, none)]⟩ (.two .nil (.two .nil (.two (.two (.two .nil (.two .nil (.two (.two .nil (.two .nil (.join ⟨[2, 3, 5, 6, 8, 13, 19, 20, 21, 44, 45, 46, 54, 55, 56], [], [(8, some (.box Zt45))]⟩ .nil))) .nil))) .nil) .nil)))) .nil)))) .nil)) .nil)))) .nil)))))) .nil)) .nil)))) .nil))) (.two .nil (.two (.join ⟨[], [(4, Zt42)], [(3, none)]⟩ (.two (.two .nil (.two .nil (.two (.two .nil (.joinE ⟨[0], [], [(3, some (.arr 41 Zt45))]⟩ (.two (.loop ⟨[0], [(3, Zt56)], [(3, some (.arr 41 Zt45))]⟩ (.two .nil (.two (.joinE ⟨[0], [(3, Zt56)], [(3, some (.arr 41 Zt45))]⟩ (.two (.two .nil (.two (.two (.own .nil) (.two (.two .nil (.join ⟨[0], [(3, Zt56)], [(3, some (.arr 41 Zt45))]⟩ (.two (.loop ⟨[0, 4], [(3, Zt56), (5, Zt56)], [(3, some (.arr 41 Zt45))]⟩ (.two .nil (.two (.two (.two .nil (.join ⟨[0, 4, 5], [(3, Zt56)], [(3, some (.arr 41 Zt45))]⟩ .nil)) .nil) .nil))) .nil))) (.two (.own .nil) (.two (.own .nil) .nil)))) .nil)) .nil)) .nil))) .nil))) .nil))) .nil)) .nil)))))
noncomputable def movesList_con : Con := ⟨[Zt12, Zt28], true, [], Zt42, fun x => qat x.1 x.2.1, none⟩
noncomputable def qlt : Env := (193, .body Tryz.f193) :: (191, .srt qgX) :: (190, .con rulesIsLast_con) :: (189, .con movesWay_con) :: (159, .ck 197) :: (188, .con movesPuts_con) :: []
theorem qrO (x : DL movesList_con.ps) : movesList_con.φ x = denF Tryz.prog qlt qly Tryz.f137 movesList_con.ps movesList_con.one movesList_con.res movesList_con.ρ x := by kernel_rfl
theorem qfM : ConOK Tryz.prog 137 movesList_con :=
  qa (env := qlt) ((EnvOK.body (EnvOK.sort (EnvOK.cons (EnvOK.cons (EnvOK.check (EnvOK.cons (EnvOK.nil _) qsG) qb) qui) qjz) qsA) Tryz.func193)) mixed Tryz.func137 movesList_con qly (by kernel_rfl) (fun h => by first | rfl | cases h) (fun g hg => by cases hg) qrO
def qjW : Ann := (.two .nil (.two .nil (.two (.two (.two (.two .nil (.two (.two .nil (.joinE ⟨[], [], []⟩ (.two (.loop ⟨[0, 1, 7], [(8, Zt56)], []⟩ .nil) .nil))) .nil)) .nil) .nil) .nil)))
noncomputable def endsResult_con : Con := ⟨[Zt12, Zt28], true, [], Zt56, fun x => qey x.1 x.2.1, none⟩
noncomputable def qjT : Env := (197, .con endsWins_con) :: (137, .con movesList_con) :: (196, .con endsHolds_con) :: (195, .body Tryz.f195) :: (194, .body Tryz.f194) :: (159, .ck 197) :: []
theorem qpn (x : DL endsResult_con.ps) : endsResult_con.φ x = denF Tryz.prog qjT qjW Tryz.f139 endsResult_con.ps endsResult_con.one endsResult_con.res endsResult_con.ρ x := by kernel_rfl
theorem qle : ConOK Tryz.prog 139 endsResult_con :=
  qa (env := qjT) ((EnvOK.cons (EnvOK.cons (EnvOK.cons (EnvOK.body (EnvOK.body (EnvOK.check (EnvOK.nil _) qb) Tryz.func194) Tryz.func195) qss) qfM) qtY)) mixed Tryz.func139 endsResult_con qjW (by kernel_rfl) (fun h => by first | rfl | cases h) (fun g hg => by cases hg) qpn
def qlW : Ann := .nil
noncomputable def endsMoves_con : Con := ⟨[Zt12, Zt28], true, [], Zt42, fun x => qf2 x.1 x.2.1, none⟩
noncomputable def qkN : Env := (137, .con movesList_con) :: (139, .con endsResult_con) :: []
theorem qrM (x : DL endsMoves_con.ps) : endsMoves_con.φ x = denF Tryz.prog qkN qlW Tryz.f168 endsMoves_con.ps endsMoves_con.one endsMoves_con.res endsMoves_con.ρ x := by kernel_rfl
theorem qmX : ConOK Tryz.prog 168 endsMoves_con :=
  qa (env := qkN) ((EnvOK.cons (EnvOK.cons (EnvOK.nil _) qle) qfM)) mixed Tryz.func168 endsMoves_con qlW (by kernel_rfl) (fun h => by first | rfl | cases h) (fun g hg => by cases hg) qrM
def qea : Ann := (.two .nil (.two (.two .nil (.joinE ⟨[], [], []⟩ (.two (.loop ⟨[0, 3, 7], [(8, Zt56)], []⟩ .nil) .nil))) .nil))
noncomputable def slicesIndex_Move_con : Con := ⟨[Zt44, Zt45], true, [], Zt56, fun x => qd2 x.1 x.2.1, none⟩
noncomputable def qd5 : Env := []
theorem qi4 (x : DL slicesIndex_Move_con.ps) : slicesIndex_Move_con.φ x = denF Tryz.prog qd5 qea Tryz.f158 slicesIndex_Move_con.ps slicesIndex_Move_con.one slicesIndex_Move_con.res slicesIndex_Move_con.ρ x := by kernel_rfl
theorem qkv : ConOK Tryz.prog 158 slicesIndex_Move_con :=
  qa (env := qd5) ((EnvOK.nil _)) mixed Tryz.func158 slicesIndex_Move_con qea (by kernel_rfl) (fun h => by first | rfl | cases h) (fun g hg => by cases hg) qi4
def qcM : Ann := .nil
noncomputable def slicesContains_Move_con : Con := ⟨[Zt44, Zt45], true, [], .bool, fun x => qs x.1 x.2.1, none⟩
noncomputable def qcI : Env := (158, .con slicesIndex_Move_con) :: []
theorem qgP (x : DL slicesContains_Move_con.ps) : slicesContains_Move_con.φ x = denF Tryz.prog qcI qcM Tryz.f98 slicesContains_Move_con.ps slicesContains_Move_con.one slicesContains_Move_con.res slicesContains_Move_con.ρ x := by kernel_rfl
theorem qbh : ConOK Tryz.prog 98 slicesContains_Move_con :=
  qa (env := qcI) ((EnvOK.cons (EnvOK.nil _) qkv)) mixed Tryz.func98 slicesContains_Move_con qcM (by kernel_rfl) (fun h => by first | rfl | cases h) (fun g hg => by cases hg) qgP
def qeU : Ann := .nil
noncomputable def slicesClone_int_con : Con := ⟨[Zt54], true, [], Zt53, fun x => qE x.1, none⟩
noncomputable def qeN : Env := []
theorem qjZ (x : DL slicesClone_int_con.ps) : slicesClone_int_con.φ x = denF Tryz.prog qeN qeU Tryz.f68 slicesClone_int_con.ps slicesClone_int_con.one slicesClone_int_con.res slicesClone_int_con.ρ x := by kernel_rfl
theorem qcy : ConOK Tryz.prog 68 slicesClone_int_con :=
  qa (env := qeN) ((EnvOK.nil _)) mixed Tryz.func68 slicesClone_int_con qeU (by kernel_rfl) (fun h => by first | rfl | cases h) (fun g hg => by cases hg) qjZ
def qmb : Ann := (.two .nil (.two .nil (.two (.join ⟨[1, 2], [], [(0, some (.box Zt29)), (2, none)]⟩ (.any 887 0 (.ord 0 0 .nil (.ord 1 0 .nil (.ord 2 115 .nil (.ord 4 0 .nil (.ord 5 0 .nil (.alt (.ord 3 0 .nil (.ord 6 0 .nil (.ord 7 0 .nil (.ord 8 0 .nil (.ord 9 0 .nil (.ord 10 0 .nil .nil)))))) (.ord 6 0 .nil (.ord 3 0 .nil (.ord 7 0 .nil (.ord 8 0 .nil (.ord 9 0 .nil (.ord 10 0 .nil .nil)))))))))))))) .nil)))
noncomputable def placeCopy_con : Con := ⟨[Zt28], true, [], Zt26, fun x => qeV x.1, none⟩
noncomputable def qlM : Env := (68, .con slicesClone_int_con) :: (159, .ck 197) :: []
theorem qrN (x : DL placeCopy_con.ps) : placeCopy_con.φ x = denF Tryz.prog qlM qmb Tryz.f126 placeCopy_con.ps placeCopy_con.one placeCopy_con.res placeCopy_con.ρ x := by kernel_rfl
theorem qnf : ConOK Tryz.prog 126 placeCopy_con :=
  qa (env := qlM) ((EnvOK.cons (EnvOK.check (EnvOK.nil _) qb) qcy)) mixed Tryz.func126 placeCopy_con qmb (by kernel_rfl) (fun h => by first | rfl | cases h) (fun g hg => by cases hg) qrN
def qlA : Ann := (.two .nil (.two .nil (.two .nil (.two (.two .nil (.join ⟨[3, 4, 5, 6, 7, 8], [], [(4, some (.arr 3 Zt56)), (5, some (.arr 3 Zt56)), (6, some (.arr 3 Zt56))]⟩ (.two .nil (.join ⟨[3, 4, 5, 6, 7, 8], [], [(5, some (.arr 3 Zt56)), (6, some (.arr 3 Zt56))]⟩ (.tail 11 .nil))))) (.two .nil (.two (.two .nil (.join ⟨[4, 5, 6, 7, 8], [], [(5, some (.arr 3 Zt56)), (6, some (.arr 3 Zt56))]⟩ (.two (.two .nil (.join ⟨[4, 5, 6, 7, 8], [], [(5, some (.arr 3 Zt56)), (6, some (.arr 3 Zt56))]⟩ (.tail 17 .nil))) .nil))) (.two .nil (.two (.two .nil (.join ⟨[4, 6, 7], [], [(4, none), (5, none), (6, none), (7, some (.box Zt29))]⟩ .nil)) .nil))))))))
noncomputable def movesMake_con : Con := ⟨[Zt12, Zt28, Zt45], true, [], Zt26, fun x => qA x.1 x.2.1 x.2.2.1, none⟩
noncomputable def qkW : Env := (126, .con placeCopy_con) :: (159, .ck 197) :: []
theorem qqQ (x : DL movesMake_con.ps) : movesMake_con.φ x = denF Tryz.prog qkW qlA Tryz.f63 movesMake_con.ps movesMake_con.one movesMake_con.res movesMake_con.ρ x := by kernel_rfl
theorem qmQ : ConOK Tryz.prog 63 movesMake_con :=
  qa (env := qkW) ((EnvOK.cons (EnvOK.check (EnvOK.nil _) qb) qnf)) mixed Tryz.func63 movesMake_con qlA (by kernel_rfl) (fun h => by first | rfl | cases h) (fun g hg => by cases hg) qqQ
def qI : Ann := (.ord 13 0 .nil (.ord 16 0 .nil (.ord 18 0 .nil (.ord 19 0 .nil .nil))))
def qcH : Ann := (.alt (.ord 6 0 .nil (.ord 15 0 .nil (.ord 12 0 .nil qI))) (.ord 12 0 .nil (.ord 6 0 .nil (.ord 15 0 .nil qI))))
def qim : Ann := (.alt (.ord 6 0 .nil (.ord 9 155135 .nil (.ord 15 0 .nil (.ord 12 0 .nil qI)))) (.alt (.ord 9 0 .nil qcH) (.ord 12 0 .nil (.alt (.ord 6 0 .nil (.ord 9 0 .nil (.ord 15 0 .nil qI))) (.ord 9 0 .nil (.ord 6 0 .nil (.ord 15 0 .nil qI)))))))
def qeD : Ann := (.ord 11 182271 .nil (.ord 15 0 .nil (.ord 12 0 .nil qI)))
def qig : Ann := (.alt (.ord 5 0 .nil qcH) (.ord 12 0 .nil (.ord 5 0 .nil (.ord 6 0 .nil (.ord 15 0 .nil qI)))))
def qjE : Ann := (.two .nil (.two .nil (.two .nil (.two (.two .nil (.join ⟨[2, 5], [], [(2, none), (3, some (.box Zt29))]⟩ (.two (.loop ⟨[2, 5, 19, 20], [(21, Zt56)], [(2, none), (3, some (.box Zt29))]⟩ (.two .nil (.two .nil (.two (.two (.two .nil (.join ⟨[2, 5, 19, 20, 21], [], [(3, some (.box Zt29)), (4, none), (5, none), (6, none)]⟩ (.any 446367 4128 (.ord 0 0 .nil (.ord 1 0 .nil (.ord 2 155579 .nil (.ord 3 0 .nil (.ord 4 155535 .nil (.ord 7 0 .nil (.ord 8 0 .nil (.ord 10 0 .nil (.ord 14 0 .nil (.ord 17 0 .nil (.alt (.ord 5 0 .nil (.alt (.ord 6 0 .nil (.ord 9 155135 .nil qeD)) (.alt (.ord 9 0 .nil (.alt (.ord 6 0 .nil qeD) (.ord 11 0 .nil qcH))) (.ord 11 0 .nil qim)))) (.alt (.ord 9 0 .nil (.alt (.ord 5 0 .nil (.alt (.ord 6 0 .nil qeD) (.ord 11 0 .nil qcH))) (.ord 11 0 .nil qig))) (.ord 11 0 .nil (.alt (.ord 5 0 .nil qim) (.alt (.ord 9 0 .nil qig) (.ord 12 0 .nil (.alt (.ord 5 0 .nil (.alt (.ord 6 0 .nil (.ord 9 0 .nil (.ord 15 0 .nil qI))) (.ord 9 0 .nil (.ord 6 0 .nil (.ord 15 0 .nil qI))))) (.ord 9 0 .nil (.ord 5 0 .nil (.ord 6 0 .nil (.ord 15 0 .nil qI)))))))))))))))))))))))) .nil) .nil)))) .nil))) .nil))))
noncomputable def placeBegin_con : Con := ⟨[Zt12], false, [Zt26, Zt56], (.st Zt26 Zt52), fun x => qdn x.1, none⟩
noncomputable def qjD : Env := (68, .con slicesClone_int_con) :: (67, .con rulesCheck_con) :: (159, .ck 197) :: []
theorem qpo (x : DL placeBegin_con.ps) : placeBegin_con.φ x = denF Tryz.prog qjD qjE Tryz.f17 placeBegin_con.ps placeBegin_con.one placeBegin_con.res placeBegin_con.ρ x := by kernel_rfl
theorem qeg : ConOK Tryz.prog 17 placeBegin_con :=
  qa (env := qjD) ((EnvOK.cons (EnvOK.cons (EnvOK.check (EnvOK.nil _) qb) qgD) qcy)) mixed Tryz.func17 placeBegin_con qjE (by kernel_rfl) (fun h => by first | rfl | cases h) (fun g hg => by cases hg) qpo
def qeQ : Ann := (.two .nil (.two .nil (.two (.two .nil (.joinE ⟨[], [], []⟩ (.two (.loop ⟨[0, 1, 12], [(13, Zt56)], []⟩ .nil) .nil))) .nil)))
noncomputable def slicesEqual_int_con : Con := ⟨[Zt54, Zt54], true, [], .bool, fun x => qaP x.1 x.2.1, none⟩
noncomputable def qeI : Env := []
theorem qkj (x : DL slicesEqual_int_con.ps) : slicesEqual_int_con.φ x = denF Tryz.prog qeI qeQ Tryz.f92 slicesEqual_int_con.ps slicesEqual_int_con.one slicesEqual_int_con.res slicesEqual_int_con.ρ x := by kernel_rfl
theorem qlj : ConOK Tryz.prog 92 slicesEqual_int_con :=
  qa (env := qeI) ((EnvOK.nil _)) mixed Tryz.func92 slicesEqual_int_con qeQ (by kernel_rfl) (fun h => by first | rfl | cases h) (fun g hg => by cases hg) qkj
def ql0 : Ann := .nil
noncomputable def placeSame_con : Con := ⟨[Zt28, Zt28], true, [], .bool, fun x => qh7 x.1 x.2.1, none⟩
noncomputable def qlk : Env := (92, .con slicesEqual_int_con) :: []
theorem qqT (x : DL placeSame_con.ps) : placeSame_con.φ x = denF Tryz.prog qlk ql0 Tryz.f31 placeSame_con.ps placeSame_con.one placeSame_con.res placeSame_con.ρ x := by kernel_rfl
theorem qti : ConOK Tryz.prog 31 placeSame_con :=
  qa (env := qlk) ((EnvOK.cons (EnvOK.nil _) qlj)) mixed Tryz.func31 placeSame_con ql0 (by kernel_rfl) (fun h => by first | rfl | cases h) (fun g hg => by cases hg) qqT
def qc2 : Ann := .nil
noncomputable def slicesClone_RuleWay_con : Con := ⟨[Zt36], true, [], (.osl 215 Zt38), fun x => qa0 x.1, none⟩
noncomputable def qc1 : Env := []
theorem qgU (x : DL slicesClone_RuleWay_con.ps) : slicesClone_RuleWay_con.φ x = denF Tryz.prog qc1 qc2 Tryz.f106 slicesClone_RuleWay_con.ps slicesClone_RuleWay_con.one slicesClone_RuleWay_con.res slicesClone_RuleWay_con.ρ x := by kernel_rfl
theorem qhw : ConOK Tryz.prog 106 slicesClone_RuleWay_con :=
  qa (env := qc1) ((EnvOK.nil _)) mixed Tryz.func106 slicesClone_RuleWay_con qc2 (by kernel_rfl) (fun h => by first | rfl | cases h) (fun g hg => by cases hg) qgU
def qcR : Ann := .nil
noncomputable def slicesClone_RuleEnd_con : Con := ⟨[Zt39], true, [], Zt37, fun x => qas x.1, none⟩
noncomputable def qcA : Env := []
theorem qgR (x : DL slicesClone_RuleEnd_con.ps) : slicesClone_RuleEnd_con.φ x = denF Tryz.prog qcA qcR Tryz.f107 slicesClone_RuleEnd_con.ps slicesClone_RuleEnd_con.one slicesClone_RuleEnd_con.res slicesClone_RuleEnd_con.ρ x := by kernel_rfl
theorem qhu : ConOK Tryz.prog 107 slicesClone_RuleEnd_con :=
  qa (env := qcA) ((EnvOK.nil _)) mixed Tryz.func107 slicesClone_RuleEnd_con qcR (by kernel_rfl) (fun h => by first | rfl | cases h) (fun g hg => by cases hg) qgR
def qlx : Ann := (.two .nil (.two .nil (.two .nil (.two (.two .nil (.join ⟨[1, 2, 3], [], [(2, some (.box Zt11))]⟩ (.two (.loop ⟨[1, 2, 3, 9, 10], [(11, Zt56)], [(2, some (.box Zt11))]⟩ .nil) .nil))) (.two (.join ⟨[2, 3], [], [(2, some (.box Zt10)), (3, none)]⟩ (.any 347 0 (.ord 0 0 .nil (.ord 1 25 .nil (.ord 3 0 .nil (.alt (.ord 2 0 .nil (.ord 4 79 .nil (.ord 6 0 .nil (.ord 5 0 .nil (.ord 7 0 .nil (.ord 8 0 .nil (.ord 9 0 .nil .nil))))))) (.ord 4 0 .nil (.ord 2 0 .nil (.ord 6 0 .nil (.ord 5 0 .nil (.ord 7 0 .nil (.ord 8 0 .nil (.ord 9 0 .nil .nil))))))))))))) .nil)))))
noncomputable def rulesCopy_con : Con := ⟨[Zt12], true, [], Zt12, fun x => qah x.1, none⟩
noncomputable def ql1 : Env := (107, .con slicesClone_RuleEnd_con) :: (68, .con slicesClone_int_con) :: (106, .con slicesClone_RuleWay_con) :: (159, .ck 197) :: []
theorem qrU (x : DL rulesCopy_con.ps) : rulesCopy_con.φ x = denF Tryz.prog ql1 qlx Tryz.f45 rulesCopy_con.ps rulesCopy_con.one rulesCopy_con.res rulesCopy_con.ρ x := by kernel_rfl
theorem qiy : ConOK Tryz.prog 45 rulesCopy_con :=
  qa (env := ql1) ((EnvOK.cons (EnvOK.cons (EnvOK.cons (EnvOK.check (EnvOK.nil _) qb) qhw) qcy) qhu)) mixed Tryz.func45 rulesCopy_con qlx (by kernel_rfl) (fun h => by first | rfl | cases h) (fun g hg => by cases hg) qrU
end Go.Proofs.YtijkabgijfdpfaaGreatDoor

