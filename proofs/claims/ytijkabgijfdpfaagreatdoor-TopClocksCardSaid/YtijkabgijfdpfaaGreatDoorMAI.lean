/- Several texts in one: TextC, RecordC, HtenC, TopClocksC. -/
import Derived.Test.YtijkabgijfdpfaaGreatDoorMAA
import Derived.Test.YtijkabgijfdpfaaGreatDoorMAH
import Derived.Test.YtijkabgijfdpfaaGreatDoorMAE
import Derived.Test.YtijkabgijfdpfaaGreatDoorMatchC
namespace Go.Proofs.YtijkabgijfdpfaaGreatDoor
open Go.Den
set_option linter.unusedVariables false
set_option maxRecDepth 100000
def qfu : Ann := .nil
noncomputable def movetextLetter_con : Con := ⟨[Zt12, Zt56], true, [], .str, fun x => qdt x.1 x.2.1, none⟩
noncomputable def qfy : Env := []
theorem qkE (x : DL movetextLetter_con.ps) : movetextLetter_con.φ x = denF Tryz.prog qfy qfu Tryz.f244 movetextLetter_con.ps movetextLetter_con.one movetextLetter_con.res movetextLetter_con.ρ x := by kernel_rfl
theorem qmt : ConOK Tryz.prog 244 movetextLetter_con :=
  qa (env := qfy) ((EnvOK.nil _)) mixed Tryz.func244 movetextLetter_con qfu (by kernel_rfl) (fun h => by first | rfl | cases h) (fun g hg => by cases hg) qkE
def qfr : Ann := .nil
noncomputable def movetextColumn_con : Con := ⟨[Zt12, Zt56], true, [], .str, fun x => qdr x.1 x.2.1, none⟩
noncomputable def qe8 : Env := []
theorem qkJ (x : DL movetextColumn_con.ps) : movetextColumn_con.φ x = denF Tryz.prog qe8 qfr Tryz.f281 movetextColumn_con.ps movetextColumn_con.one movetextColumn_con.res movetextColumn_con.ρ x := by kernel_rfl
theorem qf0 : ConOK Tryz.prog 281 movetextColumn_con :=
  qa (env := qe8) ((EnvOK.nil _)) mixed Tryz.func281 movetextColumn_con qfr (by kernel_rfl) (fun h => by first | rfl | cases h) (fun g hg => by cases hg) qkJ
def qhM : Ann := .nil
noncomputable def movetextRow_con : Con := ⟨[Zt12, Zt56], true, [], .str, fun x => qgT x.1 x.2.1, none⟩
noncomputable def qia : Env := []
theorem qod (x : DL movetextRow_con.ps) : movetextRow_con.φ x = denF Tryz.prog qia qhM Tryz.f282 movetextRow_con.ps movetextRow_con.one movetextRow_con.res movetextRow_con.ρ x := by kernel_rfl
theorem qjI : ConOK Tryz.prog 282 movetextRow_con :=
  qa (env := qia) ((EnvOK.nil _)) mixed Tryz.func282 movetextRow_con qhM (by kernel_rfl) (fun h => by first | rfl | cases h) (fun g hg => by cases hg) qod
def qfh : Ann := .nil
noncomputable def movetextSquare_con : Con := ⟨[Zt12, Zt56], true, [], .str, fun x => qdp x.1 x.2.1, none⟩
noncomputable def qfE : Env := (282, .con movetextRow_con) :: (281, .con movetextColumn_con) :: []
theorem qlU (x : DL movetextSquare_con.ps) : movetextSquare_con.φ x = denF Tryz.prog qfE qfh Tryz.f245 movetextSquare_con.ps movetextSquare_con.one movetextSquare_con.res movetextSquare_con.ρ x := by kernel_rfl
theorem qgj : ConOK Tryz.prog 245 movetextSquare_con :=
  qa (env := qfE) ((EnvOK.cons (EnvOK.cons (EnvOK.nil _) qf0) qjI)) mixed Tryz.func245 movetextSquare_con qfh (by kernel_rfl) (fun h => by first | rfl | cases h) (fun g hg => by cases hg) qlU
def qhj : Ann := (.two .nil (.two .nil (.two (.two .nil (.join ⟨[4, 7, 9], [], [(3, some (.box Zt51))]⟩ (.two (.loop ⟨[4, 5, 7, 9, 13, 14], [(15, Zt56)], [(3, some (.box Zt51))]⟩ (.two .nil (.two .nil (.two (.two (.two .nil (.two .nil (.join ⟨[4, 5, 7, 9, 13, 14, 15], [], [(3, some (.box Zt51)), (4, none)]⟩ .nil))) .nil) .nil)))) .nil))) (.two .nil (.two (.two (.two .nil (.two .nil (.two (.two (.two .nil (.two (.two (.two .nil (.two (.two (.two .nil (.two (.two .nil (.joinE ⟨[], [], []⟩ (.two (.loop ⟨[0, 1, 7], [(8, Zt56)], []⟩ .nil) .nil))) .nil)) .nil) .nil)) .nil) .nil)) .nil) (.two .nil (.two (.two (.two .nil (.two (.two (.two .nil (.two (.two (.two .nil (.two (.two .nil (.joinE ⟨[], [], []⟩ (.two (.loop ⟨[0, 1, 7], [(8, Zt56)], []⟩ .nil) .nil))) .nil)) .nil) .nil)) .nil) .nil)) .nil) .nil))))) .nil) .nil)))))
noncomputable def movetextMark_con : Con := ⟨[Zt12, Zt28, Zt44, Zt45], true, [], .str, fun x => qmW x.1 x.2.1 x.2.2.1 x.2.2.2.1, none⟩
noncomputable def qhf : Env := (245, .con movetextSquare_con) :: (282, .con movetextRow_con) :: (285, .body Tryz.f285) :: (281, .con movetextColumn_con) :: (284, .body Tryz.f284) :: (187, .body Tryz.f187) :: (133, .body Tryz.f133) :: (283, .body Tryz.f283) :: (159, .ck 197) :: []
theorem qnw (x : DL movetextMark_con.ps) : movetextMark_con.φ x = denF Tryz.prog qhf qhj Tryz.f246 movetextMark_con.ps movetextMark_con.one movetextMark_con.res movetextMark_con.ρ x := by kernel_rfl
theorem qoP : ConOK Tryz.prog 246 movetextMark_con :=
  qa (env := qhf) ((EnvOK.cons (EnvOK.cons (EnvOK.body (EnvOK.cons (EnvOK.body (EnvOK.body (EnvOK.body (EnvOK.body (EnvOK.check (EnvOK.nil _) qb) Tryz.func283) Tryz.func133) Tryz.func187) Tryz.func284) qf0) Tryz.func285) qjI) qgj)) mixed Tryz.func246 movetextMark_con qhj (by kernel_rfl) (fun h => by first | rfl | cases h) (fun g hg => by cases hg) qnw
def qjm : Ann := (.two .nil (.two .nil (.two .nil (.two .nil (.two (.two .nil (.join ⟨[4, 7, 9], [(10, .str)], []⟩ .nil)) (.two .nil (.two (.two .nil (.join ⟨[], [(10, .str)], []⟩ .nil)) .nil)))))))
noncomputable def movetextOf_con : Con := ⟨[Zt12, Zt28, Zt44, Zt45], true, [], .str, fun x => qi0 x.1 x.2.1 x.2.2.1 x.2.2.2.1, none⟩
noncomputable def qjf : Env := (246, .con movetextMark_con) :: (245, .con movetextSquare_con) :: (244, .con movetextLetter_con) :: []
theorem qpb (x : DL movetextOf_con.ps) : movetextOf_con.φ x = denF Tryz.prog qjf qjm Tryz.f212 movetextOf_con.ps movetextOf_con.one movetextOf_con.res movetextOf_con.ρ x := by kernel_rfl
theorem qrX : ConOK Tryz.prog 212 movetextOf_con :=
  qa (env := qjf) ((EnvOK.cons (EnvOK.cons (EnvOK.cons (EnvOK.nil _) qmt) qgj) qoP)) mixed Tryz.func212 movetextOf_con qjm (by kernel_rfl) (fun h => by first | rfl | cases h) (fun g hg => by cases hg) qpb
def qeX : Ann := (.two .nil (.two (.two .nil (.joinE ⟨[], [], []⟩ (.two (.loop ⟨[0, 1, 7], [(8, Zt56)], []⟩ .nil) .nil))) .nil))
noncomputable def recordPrintable_con : Con := ⟨[.str, .str], true, [], .bool, fun x => qbL x.1 x.2.1, none⟩
noncomputable def qeJ : Env := (223, .con qje) :: []
theorem qj1 (x : DL recordPrintable_con.ps) : recordPrintable_con.φ x = denF Tryz.prog qeJ qeX Tryz.f175 recordPrintable_con.ps recordPrintable_con.one recordPrintable_con.res recordPrintable_con.ρ x := by kernel_rfl
theorem qfB : ConOK Tryz.prog 175 recordPrintable_con :=
  qa (env := qeJ) ((EnvOK.cons (EnvOK.nil _) qra)) mixed Tryz.func175 recordPrintable_con qeX (by kernel_rfl) (fun h => by first | rfl | cases h) (fun g hg => by cases hg) qj1
def qjJ : Ann := (.two .nil (.two (.two .nil (.joinE ⟨[], [], []⟩ (.two (.loop ⟨[1, 6, 7], [(8, Zt56)], []⟩ (.two .nil (.two .nil (.two (.two (.two .nil (.two (.two .nil (.two .nil (.two .nil (.two .nil (.two .nil (.two .nil (.two (.two (.two .nil (.two (.two (.two .nil (.two (.two .nil (.joinE ⟨[], [], []⟩ (.two (.loop ⟨[0, 1, 7], [(8, Zt56)], []⟩ .nil) .nil))) .nil)) .nil) .nil)) .nil) .nil))))))) .nil)) .nil) .nil)))) .nil))) .nil))
noncomputable def recordTags_con : Con := ⟨[Zt18], true, [], Zt56, fun x => qiK x.1, none⟩
noncomputable def qjx : Env := (177, .body Tryz.f177) :: (224, .body Tryz.f224) :: (176, .body Tryz.f176) :: (175, .con recordPrintable_con) :: (130, .con rulesName_con) :: (159, .ck 197) :: []
theorem qpd (x : DL recordTags_con.ps) : recordTags_con.φ x = denF Tryz.prog qjx qjJ Tryz.f120 recordTags_con.ps recordTags_con.one recordTags_con.res recordTags_con.ρ x := by kernel_rfl
theorem qq9 : ConOK Tryz.prog 120 recordTags_con :=
  qa (env := qjx) ((EnvOK.body (EnvOK.body (EnvOK.body (EnvOK.cons (EnvOK.cons (EnvOK.check (EnvOK.nil _) qb) qmT) qfB) Tryz.func176) Tryz.func224) Tryz.func177)) mixed Tryz.func120 recordTags_con qjJ (by kernel_rfl) (fun h => by first | rfl | cases h) (fun g hg => by cases hg) qpd
def qfZ : Ann := .nil
noncomputable def recordComment_con : Con := ⟨[.str], true, [], Zt56, fun x => qc4 x.1, none⟩
noncomputable def qgc : Env := (175, .con recordPrintable_con) :: []
theorem qmd (x : DL recordComment_con.ps) : recordComment_con.φ x = denF Tryz.prog qgc qfZ Tryz.f121 recordComment_con.ps recordComment_con.one recordComment_con.res recordComment_con.ρ x := by kernel_rfl
theorem qg8 : ConOK Tryz.prog 121 recordComment_con :=
  qa (env := qgc) ((EnvOK.cons (EnvOK.nil _) qfB)) mixed Tryz.func121 recordComment_con qfZ (by kernel_rfl) (fun h => by first | rfl | cases h) (fun g hg => by cases hg) qmd
def qm1 : Ann := (.two .nil (.two (.two .nil (.joinE ⟨[1], [], []⟩ (.two (.loop ⟨[1, 3], [(7, Zt56)], []⟩ .nil) .nil))) .nil))
noncomputable def recordOn_con : Con := ⟨[Zt18, Zt56, Zt56], true, [], .bool, fun x => qlN x.1 x.2.1 x.2.2.1, none⟩
noncomputable def qni : Env := []
theorem qs2 (x : DL recordOn_con.ps) : recordOn_con.φ x = denF Tryz.prog qni qm1 Tryz.f178 recordOn_con.ps recordOn_con.one recordOn_con.res recordOn_con.ρ x := by kernel_rfl
theorem qt5 : ConOK Tryz.prog 178 recordOn_con :=
  qa (env := qni) ((EnvOK.nil _)) mixed Tryz.func178 recordOn_con qm1 (by kernel_rfl) (fun h => by first | rfl | cases h) (fun g hg => by cases hg) qs2
def qlQ : Ann := (.two .nil (.two .nil (.two (.two .nil (.join ⟨[], [(5, Zt42)], []⟩ (.two (.loop ⟨[2], [(5, Zt42), (6, Zt56)], []⟩ .nil) .nil))) (.two (.two (.two .nil (.join ⟨[], [], [(1, some (.arr 41 Zt45))]⟩ (.two (.loop ⟨[0], [(2, Zt56), (3, Zt56)], [(1, some (.arr 41 Zt45))]⟩ (.two .nil (.two (.two (.any 24575 0 (.ord 0 0 .nil (.ord 1 0 .nil (.ord 2 0 .nil (.ord 3 0 .nil (.ord 4 0 .nil (.ord 5 0 .nil (.ord 6 0 .nil (.ord 7 3967 .nil (.ord 8 0 .nil (.ord 9 0 .nil (.ord 10 0 .nil (.ord 11 0 .nil (.ord 12 0 .nil (.ord 13 0 .nil (.ord 14 0 .nil (.ord 15 0 .nil .nil))))))))))))))))) .nil) .nil))) .nil))) .nil) .nil))))
noncomputable def recordWay_con : Con := ⟨[Zt18, Zt56], true, [], Zt42, fun x => qaw x.1 x.2.1, none⟩
noncomputable def qlI : Env := (123, .body Tryz.f123) :: []
theorem qrx (x : DL recordWay_con.ps) : recordWay_con.φ x = denF Tryz.prog qlI qlQ Tryz.f58 recordWay_con.ps recordWay_con.one recordWay_con.res recordWay_con.ρ x := by kernel_rfl
theorem qtn : ConOK Tryz.prog 58 recordWay_con :=
  qa (env := qlI) ((EnvOK.body (EnvOK.nil _) Tryz.func123)) mixed Tryz.func58 recordWay_con qlQ (by kernel_rfl) (fun h => by first | rfl | cases h) (fun g hg => by cases hg) qrx
def qcQ : Ann := (.ord 4 0 .nil (.ord 5 0 .nil (.ord 6 0 .nil (.ord 7 0 .nil (.ord 8 0 .nil (.ord 10 0 .nil (.ord 11 0 .nil (.ord 12 0 .nil .nil))))))))
def qih : Ann := (.alt (.ord 4 0 .nil (.ord 5 0 .nil (.ord 6 0 .nil (.ord 7 0 .nil (.ord 8 0 .nil (.ord 9 0 .nil (.ord 10 0 .nil (.ord 11 0 .nil (.ord 12 0 .nil .nil))))))))) (.ord 9 0 .nil qcQ))
def qjc : Ann := (.two .nil (.two .nil (.two .nil (.two .nil (.two (.two .nil (.join ⟨[2, 3, 4, 5, 9], [], [(0, some (.arr 3 Zt56))]⟩ .nil)) (.two (.two .nil (.joinE ⟨[2, 3, 4, 5, 9], [], []⟩ (.two (.loop ⟨[2, 3, 4, 5, 9, 54, 55], [(56, Zt56)], []⟩ (.two .nil (.two .nil (.two (.joinE ⟨[2, 3, 4, 5, 9, 54, 55, 56], [], []⟩ .nil) .nil)))) .nil))) (.two (.two (.two (.two .nil (.two (.two (.two .nil (.two (.two .nil (.joinE ⟨[], [], []⟩ (.two (.loop ⟨[0, 1, 7], [(8, Zt56)], []⟩ .nil) .nil))) .nil)) .nil) .nil)) .nil) (.sel 4 1000005 (.join ⟨[2, 3, 4, 5], [], [(0, some (.arr 3 Zt56))]⟩ .nil) .nil)) (.two (.two (.join ⟨[2, 3], [(15, Zt56)], []⟩ (.any 6631 512 (.ord 1 517 .nil (.ord 2 0 .nil (.alt (.ord 0 0 .nil (.alt (.ord 3 0 .nil qih) (.ord 9 0 .nil (.ord 3 0 .nil qcQ)))) (.alt (.ord 3 0 .nil (.ord 0 526 .nil qih)) (.ord 9 0 .nil (.alt (.ord 0 0 .nil (.ord 3 0 .nil qcQ)) (.ord 3 0 .nil (.ord 0 0 .nil qcQ)))))))))) .nil) .nil))))))))
noncomputable def recordNode_con : Roc := ⟨3, 3, Zt56, [Zt12, Zt18, Zt56], true, [], Zt56, fun x => qiX x.1 x.2.1 x.2.2.1 x.2.2.2.1⟩
noncomputable def qjA : Env := (20, .con plainRun_con) :: (58, .con recordWay_con) :: (180, .body Tryz.f180) :: (225, .body Tryz.f225) :: (179, .body Tryz.f179) :: (178, .con recordOn_con) :: (121, .con recordComment_con) :: (159, .ck 197) :: []
theorem qpD (x : DL (Zt53 :: [Zt12, Zt18, Zt56])) : recordNode_con.φ x = denRO Tryz.prog qjA qjc Tryz.f122 3 3 Zt56 [Zt12, Zt18, Zt56] true [] Zt56 x := by kernel_rfl
theorem qq5 : RocOK Tryz.prog 122 recordNode_con :=
  qvU (env := qjA) ((EnvOK.cons (EnvOK.cons (EnvOK.body (EnvOK.body (EnvOK.body (EnvOK.cons (EnvOK.cons (EnvOK.check (EnvOK.nil _) qb) qg8) qt5) Tryz.func179) Tryz.func225) Tryz.func180) qtn) qtO)) mixed Tryz.func122 recordNode_con qjc (by kernel_rfl) (fun h => by first | rfl | cases h) qpD
def qiA : Ann := (.two .nil (.two .nil (.two .nil (.two .nil (.two .nil (.two .nil (.two .nil (.two (.two .nil (.joinE ⟨[], [], [(2, some (.arr 3 Zt56))]⟩ (.two (.loop ⟨[2, 3, 8, 51], [(52, Zt56)], [(2, some (.arr 3 Zt56))]⟩ .nil) .nil))) .nil))))))))
noncomputable def recordCheck_con : Con := ⟨[Zt12, Zt18], true, [], Zt56, fun x => qgE x.1 x.2.1, none⟩
noncomputable def qhA : Env := (122, .ro recordNode_con) :: (121, .con recordComment_con) :: (120, .con recordTags_con) :: (67, .con rulesCheck_con) :: []
theorem qos (x : DL recordCheck_con.ps) : recordCheck_con.φ x = denF Tryz.prog qhA qiA Tryz.f56 recordCheck_con.ps recordCheck_con.one recordCheck_con.res recordCheck_con.ρ x := by kernel_rfl
theorem qo9 : ConOK Tryz.prog 56 recordCheck_con :=
  qa (env := qhA) ((EnvOK.rowio (EnvOK.cons (EnvOK.cons (EnvOK.cons (EnvOK.nil _) qgD) qq9) qg8) qq5)) mixed Tryz.func56 recordCheck_con qiA (by kernel_rfl) (fun h => by first | rfl | cases h) (fun g hg => by cases hg) qos
def qjk : Ann := (.two .nil (.two .nil (.two (.two .nil (.join ⟨[], [(5, Zt53)], []⟩ (.two (.loop ⟨[1, 9, 10], [(5, Zt53), (11, Zt56)], []⟩ (.two .nil (.two .nil (.two (.two (.two .nil (.two .nil (.join ⟨[1, 9, 10, 11], [(5, Zt53)], [(1, none)]⟩ .nil))) .nil) .nil)))) .nil))) .nil)))
noncomputable def recordKids_con : Con := ⟨[Zt18, Zt56], true, [], Zt53, fun x => qeu x.1 x.2.1, none⟩
noncomputable def qjw : Env := (159, .ck 197) :: []
theorem qpF (x : DL recordKids_con.ps) : recordKids_con.φ x = denF Tryz.prog qjw qjk Tryz.f57 recordKids_con.ps recordKids_con.one recordKids_con.res recordKids_con.ρ x := by kernel_rfl
theorem qrg : ConOK Tryz.prog 57 recordKids_con :=
  qa (env := qjw) ((EnvOK.check (EnvOK.nil _) qb)) mixed Tryz.func57 recordKids_con qjk (by kernel_rfl) (fun h => by first | rfl | cases h) (fun g hg => by cases hg) qpF
def qdE : Ann := .nil
noncomputable def gamehalltopH10Tic_con : Con := ⟨[], true, [], Zt10, fun x => qcd, some fun x => gamehalltopH10Tic⟩
noncomputable def qdI : Env := (159, .ck 197) :: []
theorem qhT (x : DL gamehalltopH10Tic_con.ps) : gamehalltopH10Tic_con.φ x = denF Tryz.prog qdI qdE Tryz.f10 gamehalltopH10Tic_con.ps gamehalltopH10Tic_con.one gamehalltopH10Tic_con.res gamehalltopH10Tic_con.ρ x := by kernel_rfl
theorem qd9 : ConOK Tryz.prog 10 gamehalltopH10Tic_con :=
  qa (env := qdI) ((EnvOK.check (EnvOK.nil _) qb)) mixed Tryz.func10 gamehalltopH10Tic_con qdE (by kernel_rfl) (fun h => by first | rfl | cases h) (fun g hg x => by
    cases hg
    exact qi5 ) qhT
def qco : Ann := .nil
noncomputable def gamehalltopH10Minute_con : Con := ⟨[], true, [], Zt32, fun x => qbl, some fun x => gamehalltopH10Minute⟩
noncomputable def qck : Env := (159, .ck 197) :: []
theorem qf8 (x : DL gamehalltopH10Minute_con.ps) : gamehalltopH10Minute_con.φ x = denF Tryz.prog qck qco Tryz.f41 gamehalltopH10Minute_con.ps gamehalltopH10Minute_con.one gamehalltopH10Minute_con.res gamehalltopH10Minute_con.ρ x := by kernel_rfl
theorem qgu : ConOK Tryz.prog 41 gamehalltopH10Minute_con :=
  qa (env := qck) ((EnvOK.check (EnvOK.nil _) qb)) mixed Tryz.func41 gamehalltopH10Minute_con qco (by kernel_rfl) (fun h => by first | rfl | cases h) (fun g hg x => by
    cases hg
    exact qgZ ) qf8
def qeW : Ann := (.two .nil (.two (.any 6290431 2098176 (.ord 0 0 .nil (.ord 1 0 .nil (.ord 2 0 .nil (.ord 3 1048567 .nil (.ord 4 1048559 .nil (.ord 5 0 .nil (.ord 6 0 .nil (.ord 7 0 .nil (.ord 8 1047295 .nil (.ord 9 1047039 .nil (.ord 11 0 .nil (.ord 12 0 .nil (.ord 13 0 .nil (.ord 14 0 .nil (.ord 15 98303 .nil (.ord 16 0 .nil (.ord 17 0 .nil (.ord 18 0 .nil (.ord 19 524287 .nil (.ord 10 0 .nil (.ord 20 0 .nil (.ord 21 0 .nil (.ord 22 0 .nil .nil)))))))))))))))))))))))) (.two (.two .nil (.two .nil (.join ⟨[], [(7, Zt55)], [(3, none)]⟩ .nil))) .nil)))
noncomputable def recordWriterOne_con : Ioc := ⟨Zt8, [Zt28, Zt56], true, [], Zt55, fun x => qaN x.1 x.2.1 x.2.2.1⟩
noncomputable def qeF : Env := (212, .con movetextOf_con) :: (137, .con movesList_con) :: []
theorem qki (x : DL (Zt8 :: [Zt28, Zt56])) : recordWriterOne_con.φ x = denIO Tryz.prog qeF qeW Tryz.f161 Zt8 [Zt28, Zt56] true [] Zt55 x := by kernel_rfl
theorem qlz : IocOK Tryz.prog 161 recordWriterOne_con :=
  qap (env := qeF) ((EnvOK.cons (EnvOK.cons (EnvOK.nil _) qfM) qrX)) mixed Tryz.func161 recordWriterOne_con qeW (by kernel_rfl) (fun h => by first | rfl | cases h) qki
def qU : Ann := (.ord 10 0 .nil (.ord 11 0 .nil (.ord 12 0 .nil .nil)))
def qdN : Ann := (.two .nil (.two .nil (.two .nil (.two .nil (.two (.tail 5 .nil) (.two (.two .nil (.join ⟨[3, 7, 8], [(9, Zt55)], [(0, some (.box Zt9)), (4, none)]⟩ (.two (.loop ⟨[3, 4, 7, 8, 30, 31], [(9, Zt55), (32, Zt56)], [(0, some (.box Zt9)), (4, none)]⟩ (.two .nil (.two .nil (.two (.two (.two .nil (.two (.join ⟨[3, 4, 7, 8, 9, 30, 31, 32], [(12, Zt55)], [(0, some (.box Zt9))]⟩ (.any 2423 0 (.ord 0 374 .nil (.ord 1 373 .nil (.ord 2 0 .nil (.ord 5 0 .nil (.ord 6 0 .nil (.ord 8 0 .nil (.alt (.ord 3 0 .nil (.alt (.ord 4 0 .nil (.ord 7 0 (.two .nil (.two (.tail 14 .nil) .nil)) (.ord 9 0 .nil (.ord 10 0 .nil (.ord 11 0 .nil .nil))))) (.ord 7 0 (.two .nil (.two (.tail 14 .nil) .nil)) (.ord 4 0 .nil (.ord 9 0 .nil (.ord 10 0 .nil (.ord 11 0 .nil .nil))))))) (.ord 4 0 .nil (.ord 3 0 .nil (.ord 7 0 (.two .nil (.two (.tail 14 .nil) .nil)) (.ord 9 0 .nil (.ord 10 0 .nil (.ord 11 0 .nil .nil))))))))))))))) .nil)) .nil) .nil)))) .nil))) (.two (.join ⟨[], [(6, Zt55)], [(0, some (.box Zt9)), (5, none)]⟩ (.any 5055 0 (.ord 0 0 .nil (.ord 2 0 .nil (.ord 3 0 .nil (.ord 4 0 .nil (.ord 5 927 .nil (.ord 7 0 .nil (.ord 8 0 .nil (.alt (.ord 1 0 .nil (.alt (.ord 6 0 (.two .nil (.two (.tail 14 .nil) .nil)) (.ord 9 0 .nil qU)) (.ord 9 0 .nil (.ord 6 0 (.two .nil (.two (.tail 14 .nil) .nil)) qU)))) (.alt (.ord 6 0 (.two .nil (.two (.tail 14 .nil) .nil)) (.ord 1 1021 .nil (.ord 9 0 .nil qU))) (.ord 9 0 .nil (.alt (.ord 1 0 .nil (.ord 6 0 (.two .nil (.two (.tail 14 .nil) .nil)) qU)) (.ord 6 0 (.two .nil (.two (.tail 14 .nil) .nil)) (.ord 1 0 .nil qU))))))))))))))) .nil)))))))
noncomputable def qdT : Ioc := ⟨Zt8, [Zt28, Zt56], true, [], Zt55, fun x => qde x.1 x.2.1 x.2.2.1⟩
noncomputable def qdL (φ : DL (Zt8 :: [Zt28, Zt56]) → Option (D Zt5)) : Env := (90, .con qhU) :: (101, .io ⟨Zt8, [Zt28, Zt56], true, [], Zt55, φ⟩) :: (63, .con movesMake_con) :: (159, .ck 197) :: (160, .body Tryz.f160) :: (161, .io recordWriterOne_con) :: (57, .con recordKids_con) :: []
theorem qhP (φ : DL (Zt8 :: [Zt28, Zt56]) → Option (D Zt5)) (x : DL (Zt8 :: [Zt28, Zt56])) : qX φ x = denIO Tryz.prog (qdL φ) qdN Tryz.f101 Zt8 [Zt28, Zt56] true [] Zt55 x := by kernel_rfl
theorem qi8 : IocOK Tryz.prog 101 qdT :=
  ioc_fix (bx := Zt8) (ps := [Zt28, Zt56]) (ρ := Zt55) (G := qX) (by kernel_rfl) (fun h => by first | rfl | cases h) fun φ hφ =>
  qap (env := qdL φ) ((EnvOK.cons (EnvOK.inout (EnvOK.cons (EnvOK.check (EnvOK.body (EnvOK.inout (EnvOK.cons (EnvOK.nil _) qrg) qlz) Tryz.func160) qb) qmQ) hφ) qrd)) mixed Tryz.func101 ⟨Zt8, [Zt28, Zt56], true, [], Zt55, qX φ⟩ qdN (by kernel_rfl) (fun h => by first | rfl | cases h) (qhP φ)
def qgh : Ann := .nil
noncomputable def recordResults_con : Con := ⟨[], true, [], (.st .str (.st .str (.st .str (.st .str .nil)))), fun x => qeZ, some fun x => qO⟩
noncomputable def qf6 : Env := (159, .ck 197) :: []
theorem qmD (x : DL recordResults_con.ps) : recordResults_con.φ x = denF Tryz.prog qf6 qgh Tryz.f102 recordResults_con.ps recordResults_con.one recordResults_con.res recordResults_con.ρ x := by kernel_rfl
theorem qnB : ConOK Tryz.prog 102 recordResults_con :=
  qa (env := qf6) ((EnvOK.check (EnvOK.nil _) qb)) mixed Tryz.func102 recordResults_con qgh (by kernel_rfl) (fun h => by first | rfl | cases h) (fun g hg x => by
    cases hg
    exact qnt ) qmD
def qjb : Ann := (.two .nil (.two .nil (.two .nil (.two (.two .nil (.join ⟨[2, 3, 7], [], [(2, some (.bld 197 5))]⟩ (.two (.loop ⟨[2, 3, 7, 20, 21], [(22, Zt56)], [(2, some (.bld 197 5))]⟩ .nil) .nil))) (.two .nil (.two (.two .nil (.join ⟨[2, 3, 7], [(10, Zt55)], []⟩ .nil)) (.two .nil (.two .nil (.two (.any 415 32 (.ord 0 0 .nil (.ord 1 13 .nil (.ord 2 0 .nil (.ord 3 0 .nil (.ord 4 0 .nil (.ord 5 0 .nil (.ord 6 0 .nil (.ord 7 0 .nil (.ord 8 0 .nil (.ord 9 0 .nil .nil))))))))))) .nil)))))))))
noncomputable def recordText_con : Con := ⟨[Zt12, Zt18], false, [.str, Zt56], (.st .str Zt52), fun x => qf5 x.1 x.2.1, none⟩
noncomputable def qjp : Env := (104, .bs 197 5) :: (103, .body Tryz.f103) :: (90, .con qhU) :: (102, .con recordResults_con) :: (101, .io qdT) :: (17, .con placeBegin_con) :: (100, .body Tryz.f100) :: (159, .ck 197) :: (56, .con recordCheck_con) :: []
theorem qpf (x : DL recordText_con.ps) : recordText_con.φ x = denF Tryz.prog qjp qjb Tryz.f42 recordText_con.ps recordText_con.one recordText_con.res recordText_con.ρ x := by kernel_rfl
theorem qrB : ConOK Tryz.prog 42 recordText_con :=
  qa (env := qjp) ((EnvOK.string (EnvOK.body (EnvOK.cons (EnvOK.cons (EnvOK.inout (EnvOK.cons (EnvOK.body (EnvOK.check (EnvOK.cons (EnvOK.nil _) qo9) qb) Tryz.func100) qeg) qi8) qnB) qrd) Tryz.func103) qnA)) mixed Tryz.func42 recordText_con qjb (by kernel_rfl) (fun h => by first | rfl | cases h) (fun g hg => by cases hg) qpf
def qcW : Ann := (.two .nil (.two (.two (.two .nil (.two (.two (.two .nil (.two .nil (.two .nil (.two (.frz [0, 1, 2, 7, 8, 9] (.join ⟨[], [(2, Zt3), (3, Zt56)], []⟩ (.any 213 42 (.ord 0 12 .nil (.alt (.ord 1 0 .nil (.ord 2 0 .nil (.ord 3 0 .nil (.ord 4 0 .nil (.ord 5 0 .nil (.ord 6 0 .nil (.ord 7 0 .nil .nil))))))) (.ord 2 0 .nil (.alt (.ord 1 0 .nil (.ord 3 0 .nil (.ord 4 0 .nil (.ord 5 0 .nil (.ord 6 0 .nil (.ord 7 0 .nil .nil)))))) (.ord 3 0 .nil (.ord 1 0 .nil (.ord 4 0 .nil (.ord 5 0 .nil (.ord 6 0 .nil (.ord 7 0 .nil .nil))))))))))))) .nil)))) .nil) (.two .nil (.two .nil (.two .nil (.two (.any 373 138 (.ord 0 52 .nil (.ord 2 51 .nil (.ord 4 0 .nil (.ord 5 0 .nil (.ord 1 0 .nil (.ord 3 0 .nil (.ord 6 0 .nil (.ord 7 0 .nil (.ord 8 0 .nil .nil)))))))))) (.two (.tail 6 .nil) .nil))))))) .nil) (.sel 14 1000010 (.two .nil (.two .nil (.two .nil (.two (.join ⟨[1, 4], [(5, .str), (6, Zt56)], []⟩ (.any 2038 9 (.ord 1 1 .nil (.ord 2 0 .nil (.alt (.ord 0 0 .nil (.ord 3 0 .nil (.ord 4 0 .nil (.ord 5 0 .nil (.ord 6 0 .nil (.ord 7 0 .nil (.ord 8 0 .nil (.ord 9 0 .nil (.ord 10 0 .nil .nil))))))))) (.ord 3 0 .nil (.ord 4 0 .nil (.ord 0 0 .nil (.ord 5 0 .nil (.ord 6 0 .nil (.ord 7 0 .nil (.ord 8 0 .nil (.ord 9 0 .nil (.ord 10 0 .nil .nil)))))))))))))) (.two (.join ⟨[], [(0, .bool)], []⟩ (.two (.two .nil (.two .nil (.two (.any 11247 1040 (.ord 0 0 .nil (.ord 1 0 .nil (.ord 2 0 .nil (.ord 3 999 .nil (.ord 5 0 .nil (.ord 6 0 .nil (.ord 7 0 .nil (.ord 8 0 .nil (.ord 9 2559 .nil (.ord 4 0 .nil (.ord 11 0 .nil (.ord 10 0 .nil (.ord 12 0 .nil (.ord 13 0 .nil (.ord 14 0 .nil .nil)))))))))))))))) .nil))) .nil)) .nil))))) .nil)))
noncomputable def gamehalltopH10Plays_con : Con := ⟨[], true, [], .bool, fun x => qa2, none⟩
noncomputable def qcZ : Env := (53, .con slicesClone_PremoveMove_con) :: (52, .rd plainGameMoves_con) :: (12, .body Tryz.f12) :: (42, .con recordText_con) :: (11, .io matchMatchDo_con) :: (50, .io matchMatchOver_con) :: (48, .con journalAppend_con) :: (49, .con qkT) :: (47, .con offerNew_con) :: (46, .con clockCopy_con) :: (44, .con clockStart_con) :: (45, .con rulesCopy_con) :: (159, .ck 197) :: (17, .con placeBegin_con) :: (43, .body Tryz.f43) :: (9, .body Tryz.f9) :: (41, .con gamehalltopH10Minute_con) :: (10, .con gamehalltopH10Tic_con) :: []
theorem qgw (x : DL gamehalltopH10Plays_con.ps) : gamehalltopH10Plays_con.φ x = denF Tryz.prog qcZ qcW Tryz.f8 gamehalltopH10Plays_con.ps gamehalltopH10Plays_con.one gamehalltopH10Plays_con.res gamehalltopH10Plays_con.ρ x := by kernel_rfl
theorem qht : ConOK Tryz.prog 8 gamehalltopH10Plays_con :=
  qa (env := qcZ) ((EnvOK.cons (EnvOK.readonly (EnvOK.body (EnvOK.cons (EnvOK.inout (EnvOK.inout (EnvOK.cons (EnvOK.cons (EnvOK.cons (EnvOK.cons (EnvOK.cons (EnvOK.cons (EnvOK.check (EnvOK.cons (EnvOK.body (EnvOK.body (EnvOK.cons (EnvOK.cons (EnvOK.nil _) qd9) qgu) Tryz.func9) Tryz.func43) qeg) qb) qiy) qln) qne) qoT) qrS) qd0) qdj) qin) qrB) Tryz.func12) qaO) qS)) mixed Tryz.func8 gamehalltopH10Plays_con qcW (by kernel_rfl) (fun h => by first | rfl | cases h) (fun g hg => by cases hg) qgw
def qcn : Ann := (.two .nil (.two .nil (.two .nil (.two .nil (.two (.any 502 1 (.ord 1 5 .nil (.ord 2 0 .nil (.ord 0 0 .nil (.ord 3 0 (.two .nil (.two (.two (.two .nil (.two .nil (.two .nil (.two (.frz [2, 3, 4, 8, 9, 10] (.join ⟨[], [(2, Zt3), (3, Zt56)], []⟩ (.any 213 42 (.ord 0 12 .nil (.alt (.ord 1 0 .nil (.ord 2 0 .nil (.ord 3 0 .nil (.ord 4 0 .nil (.ord 5 0 .nil (.ord 6 0 .nil (.ord 7 0 .nil .nil))))))) (.ord 2 0 .nil (.alt (.ord 1 0 .nil (.ord 3 0 .nil (.ord 4 0 .nil (.ord 5 0 .nil (.ord 6 0 .nil (.ord 7 0 .nil .nil)))))) (.ord 3 0 .nil (.ord 1 0 .nil (.ord 4 0 .nil (.ord 5 0 .nil (.ord 6 0 .nil (.ord 7 0 .nil .nil))))))))))))) .nil)))) .nil) (.two .nil (.two .nil (.two .nil (.two (.any 373 138 (.ord 0 52 .nil (.ord 2 51 .nil (.ord 4 0 .nil (.ord 5 0 .nil (.ord 1 0 .nil (.ord 3 0 .nil (.ord 6 0 .nil (.ord 7 0 .nil (.ord 8 0 .nil .nil)))))))))) (.two (.tail 6 .nil) .nil))))))) (.ord 4 0 .nil (.ord 5 0 .nil (.ord 6 0 .nil (.ord 7 0 .nil (.ord 8 0 .nil .nil)))))))))) (.sel 15 1000010 (.two .nil (.two .nil (.two (.two .nil (.joinE ⟨[1, 11], [(10, Zt56)], [(17, some (.box Zt2)), (19, none), (20, none), (21, none), (22, some (.box Zt48)), (23, some (.box Zt48))]⟩ (.two (.loop ⟨[0, 1, 2, 7, 8, 11, 12, 48, 49], [(10, Zt56), (50, Zt56)], [(17, some (.box Zt2)), (19, none), (20, none), (21, none), (22, some (.box Zt48)), (23, some (.box Zt48))]⟩ (.two .nil (.two .nil (.two (.joinE ⟨[0, 1, 2, 7, 8, 11, 12, 48, 49, 50], [(10, Zt56)], [(17, some (.box Zt2)), (22, some (.box Zt48)), (23, some (.box Zt48)), (25, none), (26, none), (27, none)]⟩ (.two (.two .nil (.two .nil (.two (.two .nil (.join ⟨[0, 1, 2, 7, 8, 10, 11, 12, 13, 14, 48, 49, 50], [(15, Zt56)], []⟩ .nil)) (.two .nil (.two .nil (.two .nil (.two .nil (.two (.two (.two .nil (.two .nil (.two (.any 11247 1040 (.ord 0 0 .nil (.ord 1 0 .nil (.ord 2 0 .nil (.ord 3 999 .nil (.ord 5 0 .nil (.ord 6 0 .nil (.ord 7 0 .nil (.ord 8 0 .nil (.ord 9 2559 .nil (.ord 4 0 .nil (.ord 11 0 .nil (.ord 10 0 .nil (.ord 12 0 .nil (.ord 13 0 .nil (.ord 14 0 .nil .nil)))))))))))))))) .nil))) .nil) (.two .nil (.joinE ⟨[0, 1, 2, 7, 8, 10, 11, 12, 48, 49, 50], [], []⟩ (.two (.loop ⟨[0, 1, 2, 7, 8, 10, 11, 12, 16, 48, 49, 50], [(94, Zt56)], []⟩ (.two .nil (.two .nil (.two (.two (.two .nil (.two .nil (.two (.two .nil (.join ⟨[0, 1, 2, 7, 8, 10, 11, 12, 16, 17, 48, 49, 50, 94], [(18, Zt56)], []⟩ .nil)) .nil))) .nil) .nil)))) .nil))))))))))) .nil)) .nil)))) .nil))) .nil))) (.two .nil (.two .nil (.two (.two .nil (.two (.loop ⟨[], [(1000000, .nil)], []⟩ .nil) .nil)) .nil)))))))))
noncomputable def gamehalltopTopClocks_con : Con := ⟨[Zt56, Zt56, Zt54], true, [], .bool, fun x => qbW x.1 x.2.1 x.2.2.1, none⟩
noncomputable def qcu : Env := (13, .con clockLeft_con) :: (53, .con slicesClone_PremoveMove_con) :: (52, .rd plainGameMoves_con) :: (12, .body Tryz.f12) :: (11, .io matchMatchDo_con) :: (50, .io matchMatchOver_con) :: (48, .con journalAppend_con) :: (49, .con qkT) :: (47, .con offerNew_con) :: (46, .con clockCopy_con) :: (44, .con clockStart_con) :: (45, .con rulesCopy_con) :: (17, .con placeBegin_con) :: (43, .body Tryz.f43) :: (9, .body Tryz.f9) :: (10, .con gamehalltopH10Tic_con) :: (159, .ck 197) :: (8, .con gamehalltopH10Plays_con) :: []
theorem qf1 (x : DL gamehalltopTopClocks_con.ps) : gamehalltopTopClocks_con.φ x = denF Tryz.prog qcu qcn Tryz.f3 gamehalltopTopClocks_con.ps gamehalltopTopClocks_con.one gamehalltopTopClocks_con.res gamehalltopTopClocks_con.ρ x := by kernel_rfl
theorem gamehalltopTopClocks_ok : ConOK Tryz.prog 3 gamehalltopTopClocks_con :=
  qa (env := qcu) ((EnvOK.cons (EnvOK.cons (EnvOK.readonly (EnvOK.body (EnvOK.inout (EnvOK.inout (EnvOK.cons (EnvOK.cons (EnvOK.cons (EnvOK.cons (EnvOK.cons (EnvOK.cons (EnvOK.cons (EnvOK.body (EnvOK.body (EnvOK.cons (EnvOK.check (EnvOK.cons (EnvOK.nil _) qht) qb) qd9) Tryz.func9) Tryz.func43) qeg) qiy) qln) qne) qoT) qrS) qd0) qdj) qin) Tryz.func12) qaO) qS) qso)) mixed Tryz.func3 gamehalltopTopClocks_con qcn (by kernel_rfl) (fun h => by first | rfl | cases h) (fun g hg => by cases hg) qf1
end Go.Proofs.YtijkabgijfdpfaaGreatDoor
