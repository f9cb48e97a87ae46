/- Several texts in one: RefereeC, TextC, RecordC, HtenC, TopRefereeC. -/
import Derived.Test.YtijkabgijfdpfaaGreatDoorMAA
import Derived.Test.YtijkabgijfdpfaaGreatDoorMAH
import Derived.Test.YtijkabgijfdpfaaGreatDoorMAE
import Derived.Test.YtijkabgijfdpfaaGreatDoorMatchC
namespace Go.Proofs.YtijkabgijfdpfaaGreatDoor
open Go.Den
set_option linter.unusedVariables false
set_option maxRecDepth 100000
def qgt:Ann:=(.two .nil (.two .nil (.two .nil (.two .nil (.two .nil (.two .nil (.two (.two (.two .nil (.two (.two (.two .nil (.two .nil (.two .nil (.two (.frz [7,8,9] (.join ⟨[],[(2,Zt6),(3,Zt63)],[]⟩ (.any 213 42 (.ord 0 12 .nil (.alt (.ord 1 0 .nil (.ord 2 0 .nil (.ord 3 0 .nil (.ord 4 0 .nil (.ord 5 0 .nil (.ord 6 0 .nil (.ord 7 0 .nil .nil))))))) (.ord 2 0 .nil (.alt (.ord 1 0 .nil (.ord 3 0 .nil (.ord 4 0 .nil (.ord 5 0 .nil (.ord 6 0 .nil (.ord 7 0 .nil .nil)))))) (.ord 3 0 .nil (.ord 1 0 .nil (.ord 4 0 .nil (.ord 5 0 .nil (.ord 6 0 .nil (.ord 7 0 .nil .nil))))))))))))) .nil)))) .nil) (.two .nil (.two .nil (.two .nil (.two (.any 373 138 (.ord 0 52 .nil (.ord 2 51 .nil (.ord 4 0 .nil (.ord 5 0 .nil (.ord 1 0 .nil (.ord 3 0 .nil (.ord 6 0 .nil (.ord 7 0 .nil (.ord 8 0 .nil .nil)))))))))) (.two (.tail 6 .nil) .nil))))))) .nil) (.sel 14 1000010 (.two .nil (.two (.two .nil (.joinE ⟨[13],[],[(16,some (.box Zt2)),(18,none),(19,none),(20,none)]⟩ (.two (.loop ⟨[13,58,59],[(60,Zt63)],[(16,some (.box Zt2)),(18,none),(19,none),(20,none)]⟩ .nil) .nil))) .nil)) (.two .nil (.two (.two .nil (.two (.loop ⟨[],[(1000000,.nil)],[]⟩ .nil) .nil)) .nil))))))))))
def qbQ:Ann:=(.two .nil (.two .nil (.two (.any 11247 1040 (.ord 0 0 .nil (.ord 1 0 .nil (.ord 2 0 .nil (.ord 3 999 .nil (.ord 5 0 .nil (.ord 6 0 .nil (.ord 7 0 .nil (.ord 8 0 .nil (.ord 9 2559 .nil (.ord 4 0 .nil (.ord 11 0 .nil (.ord 10 0 .nil (.ord 12 0 .nil (.ord 13 0 .nil (.ord 14 0 .nil .nil)))))))))))))))) .nil)))
def qdw:Ann:=(.ord 7 0 .nil (.ord 8 0 .nil (.ord 9 0 .nil (.ord 10 0 .nil .nil))))
def qgU:Ann:=(.two .nil (.two (.two (.join ⟨[2,3,4],[(9,Zt63)],[]⟩ (.two qgt .nil)) .nil) (.two (.any 1007 0 (.ord 0 14 .nil (.ord 1 13 .nil (.ord 2 0 .nil (.ord 3 0 .nil (.ord 4 0 qgt (.ord 5 0 .nil (.ord 6 0 .nil (.ord 7 0 .nil (.ord 8 0 .nil (.ord 9 0 .nil .nil))))))))))) (.sel 4 1000011 (.two (.two qbQ (.two .nil (.two qbQ .nil))) (.two (.two .nil (.join ⟨[],[(12,Zt3)],[(16,some (.box Zt2)),(21,none),(22,none),(23,none),(36,none)]⟩ (.two (.loop ⟨[10,46,47],[(12,Zt3),(48,Zt63)],[(16,some (.box Zt2)),(21,none),(22,none),(23,none),(36,none)]⟩ (.two .nil (.two .nil (.two (.two (.two .nil (.two .nil (.two .nil (.join ⟨[10,46,47,48],[(12,Zt3)],[(40,none)]⟩ (.any 1259 256 (.ord 0 0 .nil (.ord 1 0 .nil (.ord 3 0 .nil (.ord 5 0 .nil (.alt (.ord 2 0 qbQ (.alt (.ord 4 0 .nil (.ord 6 0 .nil qdw)) (.ord 6 0 .nil (.ord 4 0 .nil qdw)))) (.ord 6 0 .nil (.ord 2 0 qbQ (.ord 4 0 .nil qdw))))))))))))) .nil) .nil)))) .nil))) .nil)) .nil))))
noncomputable def refereeReplay_con:Con:=⟨[Zt17,Zt39,Zt55],false,[Zt3,Zt63],(.st Zt3 Zt59),fun x=>qaS x.1 x.2.1 x.2.2.1,none⟩
noncomputable def qgZ:Env:=(72,.rd plainGamePosition_con)::(32,.body Tryz.f32)::(53,.con slicesClone_PremoveMove_con)::(52,.rd plainGameMoves_con)::(12,.body Tryz.f12)::(11,.io matchMatchDo_con)::(27,.con matchReadEntry_con)::(50,.io matchMatchOver_con)::(48,.con journalAppend_con)::(49,.con qhi)::(47,.con offerNew_con)::(46,.con clockCopy_con)::(44,.con clockStart_con)::(45,.con rulesCopy_con)::(159,.ck 197)::(17,.con placeBegin_con)::(43,.body Tryz.f43)::(9,.body Tryz.f9)::(89,.con matchNumber_con)::(210,.con stringsCutPrefix_con)::(109,.con journalCheck_con)::(157,.body Tryz.f157)::[]
theorem qnX (x:DL refereeReplay_con.ps):refereeReplay_con.φ x=denF Tryz.prog qgZ qgU Tryz.f93 refereeReplay_con.ps refereeReplay_con.one refereeReplay_con.res refereeReplay_con.ρ x:=by kernel_rfl
theorem qh1:ConOK Tryz.prog 93 refereeReplay_con :=
  qa (env:=qgZ) ((EnvOK.readonly (EnvOK.body (EnvOK.cons (EnvOK.readonly (EnvOK.body (EnvOK.inout (EnvOK.cons (EnvOK.inout (EnvOK.cons (EnvOK.cons (EnvOK.cons (EnvOK.cons (EnvOK.cons (EnvOK.cons (EnvOK.check (EnvOK.cons (EnvOK.body (EnvOK.body (EnvOK.cons (EnvOK.cons (EnvOK.cons (EnvOK.body (EnvOK.nil _) Tryz.func157) qi5) qlq) qks) Tryz.func9) Tryz.func43) qdm) qc) qgy) qhq) qiU) qld) qm8) qcL) qcp) qnv) qfk) Tryz.func12) qaA) qM) Tryz.func32) qN)) mixed Tryz.func93 refereeReplay_con qgU (by kernel_rfl) (fun h=>by first | rfl | cases h) (fun g hg=>by cases hg) qnX
def qig:Ann:=(.two .nil (.two .nil (.two .nil (.two .nil (.two (.two .nil (.join ⟨[],[(10,Zt11)],[]⟩ (.two (.loop ⟨[23,24],[(10,Zt11),(25,Zt63)],[]⟩ .nil) .nil))) .nil)))))
noncomputable def refereeTrace_con:Con:=⟨[Zt17,Zt39,Zt55],false,[Zt11,Zt63],(.st Zt11 Zt59),fun x=>qf5 x.1 x.2.1 x.2.2.1,none⟩
noncomputable def qim:Env:=(159,.ck 197)::(93,.con refereeReplay_con)::[]
theorem qoN (x:DL refereeTrace_con.ps):refereeTrace_con.φ x=denF Tryz.prog qim qig Tryz.f35 refereeTrace_con.ps refereeTrace_con.one refereeTrace_con.res refereeTrace_con.ρ x:=by kernel_rfl
theorem qqj:ConOK Tryz.prog 35 refereeTrace_con :=
  qa (env:=qim) ((EnvOK.check (EnvOK.cons (EnvOK.nil _) qh1) qc)) mixed Tryz.func35 refereeTrace_con qig (by kernel_rfl) (fun h=>by first | rfl | cases h) (fun g hg=>by cases hg) qoN
def qii:Ann := .nil
noncomputable def refereeCheck_con:Con:=⟨[Zt30,Zt63],true,[],Zt63,fun x=>qgJ x.1 x.2.1,some fun x=>qch x.1 x.2.1⟩
noncomputable def qia:Env:=[]
theorem qoQ (x:DL refereeCheck_con.ps):refereeCheck_con.φ x=denF Tryz.prog qia qii Tryz.f94 refereeCheck_con.ps refereeCheck_con.one refereeCheck_con.res refereeCheck_con.ρ x:=by kernel_rfl
theorem qpY:ConOK Tryz.prog 94 refereeCheck_con :=
  qa (env:=qia) ((EnvOK.nil _)) mixed Tryz.func94 refereeCheck_con qii (by kernel_rfl) (fun h=>by first | rfl | cases h) (fun g hg x=>by
    cases hg
    exact qpk _ _) qoQ
def qaW:Ann:=(.alt (.ord 11 0 .nil (.ord 14 0 .nil (.ord 15 0 .nil .nil))) (.ord 14 0 .nil (.ord 11 0 .nil (.ord 15 0 .nil .nil))))
def qf8:Ann:=(.alt (.ord 7 0 .nil (.ord 8 0 .nil (.ord 9 0 .nil (.ord 10 0 .nil qaW)))) (.ord 14 0 .nil (.ord 7 0 .nil (.ord 8 0 .nil (.ord 9 0 .nil (.ord 10 0 .nil (.ord 11 0 .nil (.ord 15 0 .nil .nil))))))))
def qhk:Ann:=(.two .nil (.two (.join ⟨[4,5,7],[(9,Zt4),(10,Zt4)],[]⟩ (.any 4095 12288 (.ord 0 0 .nil (.ord 1 0 .nil (.ord 2 16355 .nil (.ord 3 0 .nil (.ord 4 16367 .nil (.ord 5 0 .nil (.ord 6 0 .nil (.alt (.ord 7 0 .nil (.ord 8 0 .nil (.ord 9 0 .nil (.ord 10 0 .nil (.alt (.ord 11 0 .nil (.alt (.ord 12 0 .nil (.ord 13 0 .nil (.ord 14 0 .nil (.ord 15 0 .nil .nil)))) (.ord 13 0 .nil (.ord 12 0 .nil (.ord 14 0 .nil (.ord 15 0 .nil .nil)))))) (.alt (.ord 12 0 .nil (.alt (.ord 11 0 .nil (.ord 13 0 .nil (.ord 14 0 .nil (.ord 15 0 .nil .nil)))) (.ord 13 0 .nil qaW))) (.ord 13 0 .nil (.alt (.ord 11 0 .nil (.ord 12 0 .nil (.ord 14 0 .nil (.ord 15 0 .nil .nil)))) (.ord 12 0 .nil qaW))))))))) (.alt (.ord 12 0 .nil (.alt (.ord 7 0 .nil (.ord 8 0 .nil (.ord 9 0 .nil (.ord 10 0 .nil (.alt (.ord 11 0 .nil (.ord 13 0 .nil (.ord 14 0 .nil (.ord 15 0 .nil .nil)))) (.ord 13 0 .nil qaW)))))) (.ord 13 0 .nil qf8))) (.ord 13 0 .nil (.alt (.ord 7 0 .nil (.ord 8 0 .nil (.ord 9 0 .nil (.ord 10 0 .nil (.alt (.ord 11 0 .nil (.ord 12 0 .nil (.ord 14 0 .nil (.ord 15 0 .nil .nil)))) (.ord 12 0 .nil qaW)))))) (.ord 12 0 .nil qf8)))))))))))))) (.two .nil (.two (.two .nil (.two (.two .nil (.two (.two (.join ⟨[],[(8,.bool)],[]⟩ (.any 4128767 65536 (.ord 0 0 .nil (.ord 1 0 .nil (.ord 2 0 .nil (.ord 3 0 .nil (.ord 4 0 .nil (.ord 5 0 .nil (.ord 6 0 .nil (.ord 7 895 .nil (.ord 8 0 .nil (.ord 9 0 .nil (.ord 10 0 .nil (.ord 11 0 .nil (.ord 12 0 .nil (.ord 13 450559 .nil (.ord 14 0 .nil (.ord 15 425983 .nil (.ord 17 0 .nil (.ord 18 262143 .nil (.ord 16 0 .nil (.ord 19 0 .nil (.ord 20 0 .nil (.ord 21 0 .nil .nil)))))))))))))))))))))))) .nil) .nil)) .nil)) .nil))))
noncomputable def refereeDecide_con:Con:=⟨[Zt17,Zt39,(.sl Zt5),Zt30],true,[],.bool,fun x=>qe2 x.1 x.2.1 x.2.2.1 x.2.2.2.1,none⟩
noncomputable def qgX:Env:=(40,.con clockLook_con)::(13,.con clockLeft_con)::(98,.con slicesContains_Move_con)::(137,.con movesList_con)::(159,.ck 197)::[]
theorem qnK (x:DL refereeDecide_con.ps):refereeDecide_con.φ x=denF Tryz.prog qgX qhk Tryz.f95 refereeDecide_con.ps refereeDecide_con.one refereeDecide_con.res refereeDecide_con.ρ x:=by kernel_rfl
theorem qoT:ConOK Tryz.prog 95 refereeDecide_con :=
  qa (env:=qgX) ((EnvOK.cons (EnvOK.cons (EnvOK.cons (EnvOK.cons (EnvOK.check (EnvOK.nil _) qc) qel) qaL) qum) qeq)) mixed Tryz.func95 refereeDecide_con qhk (by kernel_rfl) (fun h=>by first | rfl | cases h) (fun g hg=>by cases hg) qnK
def qge:Ann := .nil
noncomputable def movetextLetter_con:Con:=⟨[Zt17,Zt63],true,[],.str,fun x=>qd1 x.1 x.2.1,none⟩
noncomputable def qfW:Env:=[]
theorem qmQ (x:DL movetextLetter_con.ps):movetextLetter_con.φ x=denF Tryz.prog qfW qge Tryz.f244 movetextLetter_con.ps movetextLetter_con.one movetextLetter_con.res movetextLetter_con.ρ x:=by kernel_rfl
theorem qnT:ConOK Tryz.prog 244 movetextLetter_con :=
  qa (env:=qfW) ((EnvOK.nil _)) mixed Tryz.func244 movetextLetter_con qge (by kernel_rfl) (fun h=>by first | rfl | cases h) (fun g hg=>by cases hg) qmQ
def qf1:Ann := .nil
noncomputable def movetextColumn_con:Con:=⟨[Zt17,Zt63],true,[],.str,fun x=>qd7 x.1 x.2.1,none⟩
noncomputable def qf6:Env:=[]
theorem qmi (x:DL movetextColumn_con.ps):movetextColumn_con.φ x=denF Tryz.prog qf6 qf1 Tryz.f281 movetextColumn_con.ps movetextColumn_con.one movetextColumn_con.res movetextColumn_con.ρ x:=by kernel_rfl
theorem qg5:ConOK Tryz.prog 281 movetextColumn_con :=
  qa (env:=qf6) ((EnvOK.nil _)) mixed Tryz.func281 movetextColumn_con qf1 (by kernel_rfl) (fun h=>by first | rfl | cases h) (fun g hg=>by cases hg) qmi
def qi8:Ann := .nil
noncomputable def movetextRow_con:Con:=⟨[Zt17,Zt63],true,[],.str,fun x=>qhO x.1 x.2.1,none⟩
noncomputable def qiA:Env:=[]
theorem qpX (x:DL movetextRow_con.ps):movetextRow_con.φ x=denF Tryz.prog qiA qi8 Tryz.f282 movetextRow_con.ps movetextRow_con.one movetextRow_con.res movetextRow_con.ρ x:=by kernel_rfl
theorem qky:ConOK Tryz.prog 282 movetextRow_con :=
  qa (env:=qiA) ((EnvOK.nil _)) mixed Tryz.func282 movetextRow_con qi8 (by kernel_rfl) (fun h=>by first | rfl | cases h) (fun g hg=>by cases hg) qpX
def qgi:Ann := .nil
noncomputable def movetextSquare_con:Con:=⟨[Zt17,Zt63],true,[],.str,fun x=>qd8 x.1 x.2.1,none⟩
noncomputable def qgw:Env:=(282,.con movetextRow_con)::(281,.con movetextColumn_con)::[]
theorem qmo (x:DL movetextSquare_con.ps):movetextSquare_con.φ x=denF Tryz.prog qgw qgi Tryz.f245 movetextSquare_con.ps movetextSquare_con.one movetextSquare_con.res movetextSquare_con.ρ x:=by kernel_rfl
theorem qg7:ConOK Tryz.prog 245 movetextSquare_con :=
  qa (env:=qgw) ((EnvOK.cons (EnvOK.cons (EnvOK.nil _) qg5) qky)) mixed Tryz.func245 movetextSquare_con qgi (by kernel_rfl) (fun h=>by first | rfl | cases h) (fun g hg=>by cases hg) qmo
def qik:Ann:=(.two .nil (.two .nil (.two (.two .nil (.join ⟨[4,7,9],[],[(3,some (.box Zt58))]⟩ (.two (.loop ⟨[4,5,7,9,13,14],[(15,Zt63)],[(3,some (.box Zt58))]⟩ (.two .nil (.two .nil (.two (.two (.two .nil (.two .nil (.join ⟨[4,5,7,9,13,14,15],[],[(3,some (.box Zt58)),(4,none)]⟩ .nil))) .nil) .nil)))) .nil))) (.two .nil (.two (.two (.two .nil (.two .nil (.two (.two (.two .nil (.two (.two (.two .nil (.two (.two (.two .nil (.two (.two .nil (.joinE ⟨[],[],[]⟩ (.two (.loop ⟨[0,1,7],[(8,Zt63)],[]⟩ .nil) .nil))) .nil)) .nil) .nil)) .nil) .nil)) .nil) (.two .nil (.two (.two (.two .nil (.two (.two (.two .nil (.two (.two (.two .nil (.two (.two .nil (.joinE ⟨[],[],[]⟩ (.two (.loop ⟨[0,1,7],[(8,Zt63)],[]⟩ .nil) .nil))) .nil)) .nil) .nil)) .nil) .nil)) .nil) .nil))))) .nil) .nil)))))
noncomputable def movetextMark_con:Con:=⟨[Zt17,Zt34,Zt50,Zt51],true,[],.str,fun x=>qoG x.1 x.2.1 x.2.2.1 x.2.2.2.1,none⟩
noncomputable def qij:Env:=(245,.con movetextSquare_con)::(282,.con movetextRow_con)::(285,.body Tryz.f285)::(281,.con movetextColumn_con)::(284,.body Tryz.f284)::(187,.body Tryz.f187)::(133,.body Tryz.f133)::(283,.body Tryz.f283)::(159,.ck 197)::[]
theorem qoW (x:DL movetextMark_con.ps):movetextMark_con.φ x=denF Tryz.prog qij qik Tryz.f246 movetextMark_con.ps movetextMark_con.one movetextMark_con.res movetextMark_con.ρ x:=by kernel_rfl
theorem qpP:ConOK Tryz.prog 246 movetextMark_con :=
  qa (env:=qij) ((EnvOK.cons (EnvOK.cons (EnvOK.body (EnvOK.cons (EnvOK.body (EnvOK.body (EnvOK.body (EnvOK.body (EnvOK.check (EnvOK.nil _) qc) Tryz.func283) Tryz.func133) Tryz.func187) Tryz.func284) qg5) Tryz.func285) qky) qg7)) mixed Tryz.func246 movetextMark_con qik (by kernel_rfl) (fun h=>by first | rfl | cases h) (fun g hg=>by cases hg) qoW
def qkq:Ann:=(.two .nil (.two .nil (.two .nil (.two .nil (.two (.two .nil (.join ⟨[4,7,9],[(10,.str)],[]⟩ .nil)) (.two .nil (.two (.two .nil (.join ⟨[],[(10,.str)],[]⟩ .nil)) .nil)))))))
noncomputable def movetextOf_con:Con:=⟨[Zt17,Zt34,Zt50,Zt51],true,[],.str,fun x=>qjR x.1 x.2.1 x.2.2.1 x.2.2.2.1,none⟩
noncomputable def qkt:Env:=(246,.con movetextMark_con)::(245,.con movetextSquare_con)::(244,.con movetextLetter_con)::[]
theorem qqL (x:DL movetextOf_con.ps):movetextOf_con.φ x=denF Tryz.prog qkt qkq Tryz.f212 movetextOf_con.ps movetextOf_con.one movetextOf_con.res movetextOf_con.ρ x:=by kernel_rfl
theorem qsB:ConOK Tryz.prog 212 movetextOf_con :=
  qa (env:=qkt) ((EnvOK.cons (EnvOK.cons (EnvOK.cons (EnvOK.nil _) qnT) qg7) qpP)) mixed Tryz.func212 movetextOf_con qkq (by kernel_rfl) (fun h=>by first | rfl | cases h) (fun g hg=>by cases hg) qqL
def qfl:Ann:=(.two .nil (.two (.two .nil (.joinE ⟨[],[],[]⟩ (.two (.loop ⟨[0,1,7],[(8,Zt63)],[]⟩ .nil) .nil))) .nil))
noncomputable def recordPrintable_con:Con:=⟨[.str,.str],true,[],.bool,fun x=>qb5 x.1 x.2.1,none⟩
noncomputable def qfF:Env:=(223,.con qkl)::[]
theorem qli (x:DL recordPrintable_con.ps):recordPrintable_con.φ x=denF Tryz.prog qfF qfl Tryz.f175 recordPrintable_con.ps recordPrintable_con.one recordPrintable_con.res recordPrintable_con.ρ x:=by kernel_rfl
theorem qfY:ConOK Tryz.prog 175 recordPrintable_con :=
  qa (env:=qfF) ((EnvOK.cons (EnvOK.nil _) qsq)) mixed Tryz.func175 recordPrintable_con qfl (by kernel_rfl) (fun h=>by first | rfl | cases h) (fun g hg=>by cases hg) qli
def qkm:Ann:=(.two .nil (.two (.two .nil (.joinE ⟨[],[],[]⟩ (.two (.loop ⟨[1,6,7],[(8,Zt63)],[]⟩ (.two .nil (.two .nil (.two (.two (.two .nil (.two (.two .nil (.two .nil (.two .nil (.two .nil (.two .nil (.two .nil (.two (.two (.two .nil (.two (.two (.two .nil (.two (.two .nil (.joinE ⟨[],[],[]⟩ (.two (.loop ⟨[0,1,7],[(8,Zt63)],[]⟩ .nil) .nil))) .nil)) .nil) .nil)) .nil) .nil))))))) .nil)) .nil) .nil)))) .nil))) .nil))
noncomputable def recordTags_con:Con:=⟨[Zt23],true,[],Zt63,fun x=>qjK x.1,none⟩
noncomputable def qk2:Env:=(177,.body Tryz.f177)::(224,.body Tryz.f224)::(176,.body Tryz.f176)::(175,.con recordPrintable_con)::(130,.con rulesName_con)::(159,.ck 197)::[]
theorem qqT (x:DL recordTags_con.ps):recordTags_con.φ x=denF Tryz.prog qk2 qkm Tryz.f120 recordTags_con.ps recordTags_con.one recordTags_con.res recordTags_con.ρ x:=by kernel_rfl
theorem qtr:ConOK Tryz.prog 120 recordTags_con :=
  qa (env:=qk2) ((EnvOK.body (EnvOK.body (EnvOK.body (EnvOK.cons (EnvOK.cons (EnvOK.check (EnvOK.nil _) qc) qoj) qfY) Tryz.func176) Tryz.func224) Tryz.func177)) mixed Tryz.func120 recordTags_con qkm (by kernel_rfl) (fun h=>by first | rfl | cases h) (fun g hg=>by cases hg) qqT
def qhc:Ann := .nil
noncomputable def recordComment_con:Con:=⟨[.str],true,[],Zt63,fun x=>qdc x.1,none⟩
noncomputable def qgS:Env:=(175,.con recordPrintable_con)::[]
theorem qnH (x:DL recordComment_con.ps):recordComment_con.φ x=denF Tryz.prog qgS qhc Tryz.f121 recordComment_con.ps recordComment_con.one recordComment_con.res recordComment_con.ρ x:=by kernel_rfl
theorem qic:ConOK Tryz.prog 121 recordComment_con :=
  qa (env:=qgS) ((EnvOK.cons (EnvOK.nil _) qfY)) mixed Tryz.func121 recordComment_con qhc (by kernel_rfl) (fun h=>by first | rfl | cases h) (fun g hg=>by cases hg) qnH
def qoi:Ann:=(.two .nil (.two (.two .nil (.joinE ⟨[1],[],[]⟩ (.two (.loop ⟨[1,3],[(7,Zt63)],[]⟩ .nil) .nil))) .nil))
noncomputable def recordOn_con:Con:=⟨[Zt23,Zt63,Zt63],true,[],.bool,fun x=>qma x.1 x.2.1 x.2.2.1,none⟩
noncomputable def qov:Env:=[]
theorem qtR (x:DL recordOn_con.ps):recordOn_con.φ x=denF Tryz.prog qov qoi Tryz.f178 recordOn_con.ps recordOn_con.one recordOn_con.res recordOn_con.ρ x:=by kernel_rfl
theorem qv6:ConOK Tryz.prog 178 recordOn_con :=
  qa (env:=qov) ((EnvOK.nil _)) mixed Tryz.func178 recordOn_con qoi (by kernel_rfl) (fun h=>by first | rfl | cases h) (fun g hg=>by cases hg) qtR
def ql3:Ann:=(.two .nil (.two .nil (.two (.two .nil (.join ⟨[],[(5,Zt48)],[]⟩ (.two (.loop ⟨[2],[(5,Zt48),(6,Zt63)],[]⟩ .nil) .nil))) (.two (.two (.two .nil (.join ⟨[],[],[(1,some (.arr 41 Zt51))]⟩ (.two (.loop ⟨[0],[(2,Zt63),(3,Zt63)],[(1,some (.arr 41 Zt51))]⟩ (.two .nil (.two (.two (.any 24575 0 (.ord 0 0 .nil (.ord 1 0 .nil (.ord 2 0 .nil (.ord 3 0 .nil (.ord 4 0 .nil (.ord 5 0 .nil (.ord 6 0 .nil (.ord 7 3967 .nil (.ord 8 0 .nil (.ord 9 0 .nil (.ord 10 0 .nil (.ord 11 0 .nil (.ord 12 0 .nil (.ord 13 0 .nil (.ord 14 0 .nil (.ord 15 0 .nil .nil))))))))))))))))) .nil) .nil))) .nil))) .nil) .nil))))
noncomputable def recordWay_con:Con:=⟨[Zt23,Zt63],true,[],Zt48,fun x=>qaF x.1 x.2.1,none⟩
noncomputable def qnk:Env:=(123,.body Tryz.f123)::[]
theorem qte (x:DL recordWay_con.ps):recordWay_con.φ x=denF Tryz.prog qnk ql3 Tryz.f58 recordWay_con.ps recordWay_con.one recordWay_con.res recordWay_con.ρ x:=by kernel_rfl
theorem qtD:ConOK Tryz.prog 58 recordWay_con :=
  qa (env:=qnk) ((EnvOK.body (EnvOK.nil _) Tryz.func123)) mixed Tryz.func58 recordWay_con ql3 (by kernel_rfl) (fun h=>by first | rfl | cases h) (fun g hg=>by cases hg) qte
def qdh:Ann:=(.ord 4 0 .nil (.ord 5 0 .nil (.ord 6 0 .nil (.ord 7 0 .nil (.ord 8 0 .nil (.ord 10 0 .nil (.ord 11 0 .nil (.ord 12 0 .nil .nil))))))))
def qje:Ann:=(.alt (.ord 4 0 .nil (.ord 5 0 .nil (.ord 6 0 .nil (.ord 7 0 .nil (.ord 8 0 .nil (.ord 9 0 .nil (.ord 10 0 .nil (.ord 11 0 .nil (.ord 12 0 .nil .nil))))))))) (.ord 9 0 .nil qdh))
def qkw:Ann:=(.two .nil (.two .nil (.two .nil (.two .nil (.two (.two .nil (.join ⟨[2,3,4,5,9],[],[(0,some (.arr 3 Zt63))]⟩ .nil)) (.two (.two .nil (.joinE ⟨[2,3,4,5,9],[],[]⟩ (.two (.loop ⟨[2,3,4,5,9,54,55],[(56,Zt63)],[]⟩ (.two .nil (.two .nil (.two (.joinE ⟨[2,3,4,5,9,54,55,56],[],[]⟩ .nil) .nil)))) .nil))) (.two (.two (.two (.two .nil (.two (.two (.two .nil (.two (.two .nil (.joinE ⟨[],[],[]⟩ (.two (.loop ⟨[0,1,7],[(8,Zt63)],[]⟩ .nil) .nil))) .nil)) .nil) .nil)) .nil) (.sel 4 1000005 (.join ⟨[2,3,4,5],[],[(0,some (.arr 3 Zt63))]⟩ .nil) .nil)) (.two (.two (.join ⟨[2,3],[(15,Zt63)],[]⟩ (.any 6631 512 (.ord 1 517 .nil (.ord 2 0 .nil (.alt (.ord 0 0 .nil (.alt (.ord 3 0 .nil qje) (.ord 9 0 .nil (.ord 3 0 .nil qdh)))) (.alt (.ord 3 0 .nil (.ord 0 526 .nil qje)) (.ord 9 0 .nil (.alt (.ord 0 0 .nil (.ord 3 0 .nil qdh)) (.ord 3 0 .nil (.ord 0 0 .nil qdh)))))))))) .nil) .nil))))))))
noncomputable def recordNode_con:Roc:=⟨3,3,Zt63,[Zt17,Zt23,Zt63],true,[],Zt63,fun x=>qj5 x.1 x.2.1 x.2.2.1 x.2.2.2.1⟩
noncomputable def qk5:Env:=(20,.con plainRun_con)::(58,.con recordWay_con)::(180,.body Tryz.f180)::(225,.body Tryz.f225)::(179,.body Tryz.f179)::(178,.con recordOn_con)::(121,.con recordComment_con)::(159,.ck 197)::[]
theorem qq0 (x:DL (Zt60::[Zt17,Zt23,Zt63])):recordNode_con.φ x=denRO Tryz.prog qk5 qkw Tryz.f122 3 3 Zt63 [Zt17,Zt23,Zt63] true [] Zt63 x:=by kernel_rfl
theorem qtf:RocOK Tryz.prog 122 recordNode_con :=
  qxK (env:=qk5) ((EnvOK.cons (EnvOK.cons (EnvOK.body (EnvOK.body (EnvOK.body (EnvOK.cons (EnvOK.cons (EnvOK.check (EnvOK.nil _) qc) qic) qv6) Tryz.func179) Tryz.func225) Tryz.func180) qtD) qpp)) mixed Tryz.func122 recordNode_con qkw (by kernel_rfl) (fun h=>by first | rfl | cases h) qq0
def qiQ:Ann:=(.two .nil (.two .nil (.two .nil (.two .nil (.two .nil (.two .nil (.two .nil (.two (.two .nil (.joinE ⟨[],[],[(2,some (.arr 3 Zt63))]⟩ (.two (.loop ⟨[2,3,8,51],[(52,Zt63)],[(2,some (.arr 3 Zt63))]⟩ .nil) .nil))) .nil))))))))
noncomputable def recordCheck_con:Con:=⟨[Zt17,Zt23],true,[],Zt63,fun x=>qhQ x.1 x.2.1,none⟩
noncomputable def qjy:Env:=(122,.ro recordNode_con)::(121,.con recordComment_con)::(120,.con recordTags_con)::(67,.con rulesCheck_con)::[]
theorem qp3 (x:DL recordCheck_con.ps):recordCheck_con.φ x=denF Tryz.prog qjy qiQ Tryz.f56 recordCheck_con.ps recordCheck_con.one recordCheck_con.res recordCheck_con.ρ x:=by kernel_rfl
theorem qq2:ConOK Tryz.prog 56 recordCheck_con :=
  qa (env:=qjy) ((EnvOK.rowio (EnvOK.cons (EnvOK.cons (EnvOK.cons (EnvOK.nil _) qho) qtr) qic) qtf)) mixed Tryz.func56 recordCheck_con qiQ (by kernel_rfl) (fun h=>by first | rfl | cases h) (fun g hg=>by cases hg) qp3
def qkH:Ann:=(.two .nil (.two .nil (.two (.two .nil (.join ⟨[],[(5,Zt60)],[]⟩ (.two (.loop ⟨[1,9,10],[(5,Zt60),(11,Zt63)],[]⟩ (.two .nil (.two .nil (.two (.two (.two .nil (.two .nil (.join ⟨[1,9,10,11],[(5,Zt60)],[(1,none)]⟩ .nil))) .nil) .nil)))) .nil))) .nil)))
noncomputable def recordKids_con:Con:=⟨[Zt23,Zt63],true,[],Zt60,fun x=>qfb x.1 x.2.1,none⟩
noncomputable def qkG:Env:=(159,.ck 197)::[]
theorem qqC (x:DL recordKids_con.ps):recordKids_con.φ x=denF Tryz.prog qkG qkH Tryz.f57 recordKids_con.ps recordKids_con.one recordKids_con.res recordKids_con.ρ x:=by kernel_rfl
theorem qsy:ConOK Tryz.prog 57 recordKids_con :=
  qa (env:=qkG) ((EnvOK.check (EnvOK.nil _) qc)) mixed Tryz.func57 recordKids_con qkH (by kernel_rfl) (fun h=>by first | rfl | cases h) (fun g hg=>by cases hg) qqC
def qeg:Ann := .nil
noncomputable def gamehalltopH10Tic_con:Con:=⟨[],true,[],Zt15,fun x=>qcM,some fun x=>gamehalltopH10Tic⟩
noncomputable def qev:Env:=(159,.ck 197)::[]
theorem qiR (x:DL gamehalltopH10Tic_con.ps):gamehalltopH10Tic_con.φ x=denF Tryz.prog qev qeg Tryz.f10 gamehalltopH10Tic_con.ps gamehalltopH10Tic_con.one gamehalltopH10Tic_con.res gamehalltopH10Tic_con.ρ x:=by kernel_rfl
theorem qeR:ConOK Tryz.prog 10 gamehalltopH10Tic_con :=
  qa (env:=qev) ((EnvOK.check (EnvOK.nil _) qc)) mixed Tryz.func10 gamehalltopH10Tic_con qeg (by kernel_rfl) (fun h=>by first | rfl | cases h) (fun g hg x=>by
    cases hg
    exact qkc ) qiR
def qcX:Ann := .nil
noncomputable def gamehalltopH10Minute_con:Con:=⟨[],true,[],Zt38,fun x=>qbK,some fun x=>gamehalltopH10Minute⟩
noncomputable def qcW:Env:=(159,.ck 197)::[]
theorem qgR (x:DL gamehalltopH10Minute_con.ps):gamehalltopH10Minute_con.φ x=denF Tryz.prog qcW qcX Tryz.f41 gamehalltopH10Minute_con.ps gamehalltopH10Minute_con.one gamehalltopH10Minute_con.res gamehalltopH10Minute_con.ρ x:=by kernel_rfl
theorem qhu:ConOK Tryz.prog 41 gamehalltopH10Minute_con :=
  qa (env:=qcW) ((EnvOK.check (EnvOK.nil _) qc)) mixed Tryz.func41 gamehalltopH10Minute_con qcX (by kernel_rfl) (fun h=>by first | rfl | cases h) (fun g hg x=>by
    cases hg
    exact qhN ) qgR
def qdN:Ann:=(.two .nil (.two .nil (.two (.two .nil (.joinE ⟨[],[],[]⟩ (.two (.loop ⟨[0,1,12],[(13,Zt63)],[]⟩ .nil) .nil))) .nil)))
noncomputable def gamehalltopH10Same_con:Con:=⟨[Zt50,Zt50],true,[],.bool,fun x=>qbR x.1 x.2.1,none⟩
noncomputable def qdI:Env:=[]
theorem qit (x:DL gamehalltopH10Same_con.ps):gamehalltopH10Same_con.φ x=denF Tryz.prog qdI qdN Tryz.f96 gamehalltopH10Same_con.ps gamehalltopH10Same_con.one gamehalltopH10Same_con.res gamehalltopH10Same_con.ρ x:=by kernel_rfl
theorem qiD:ConOK Tryz.prog 96 gamehalltopH10Same_con :=
  qa (env:=qdI) ((EnvOK.nil _)) mixed Tryz.func96 gamehalltopH10Same_con qdN (by kernel_rfl) (fun h=>by first | rfl | cases h) (fun g hg=>by cases hg) qit
def qdp:Ann:=(.two .nil (.two .nil (.two (.two .nil (.joinE ⟨[2,3],[],[]⟩ (.two (.loop ⟨[2,3,15],[(16,Zt63)],[]⟩ .nil) .nil))) .nil)))
noncomputable def gamehalltopH10Alike_con:Con:=⟨[Zt13,Zt13],true,[],.bool,fun x=>qaE x.1 x.2.1,none⟩
noncomputable def qc7:Env:=(96,.con gamehalltopH10Same_con)::[]
theorem qhD (x:DL gamehalltopH10Alike_con.ps):gamehalltopH10Alike_con.φ x=denF Tryz.prog qc7 qdp Tryz.f36 gamehalltopH10Alike_con.ps gamehalltopH10Alike_con.one gamehalltopH10Alike_con.res gamehalltopH10Alike_con.ρ x:=by kernel_rfl
theorem qiq:ConOK Tryz.prog 36 gamehalltopH10Alike_con :=
  qa (env:=qc7) ((EnvOK.cons (EnvOK.nil _) qiD)) mixed Tryz.func36 gamehalltopH10Alike_con qdp (by kernel_rfl) (fun h=>by first | rfl | cases h) (fun g hg=>by cases hg) qhD
def qfC:Ann:=(.two .nil (.two (.any 6290431 2098176 (.ord 0 0 .nil (.ord 1 0 .nil (.ord 2 0 .nil (.ord 3 1048567 .nil (.ord 4 1048559 .nil (.ord 5 0 .nil (.ord 6 0 .nil (.ord 7 0 .nil (.ord 8 1047295 .nil (.ord 9 1047039 .nil (.ord 11 0 .nil (.ord 12 0 .nil (.ord 13 0 .nil (.ord 14 0 .nil (.ord 15 98303 .nil (.ord 16 0 .nil (.ord 17 0 .nil (.ord 18 0 .nil (.ord 19 524287 .nil (.ord 10 0 .nil (.ord 20 0 .nil (.ord 21 0 .nil (.ord 22 0 .nil .nil)))))))))))))))))))))))) (.two (.two .nil (.two .nil (.join ⟨[],[(7,Zt62)],[(3,none)]⟩ .nil))) .nil)))
noncomputable def recordWriterOne_con:Ioc:=⟨Zt12,[Zt34,Zt63],true,[],Zt62,fun x=>qbd x.1 x.2.1 x.2.2.1⟩
noncomputable def qfr:Env:=(212,.con movetextOf_con)::(137,.con movesList_con)::[]
theorem qlb (x:DL (Zt12::[Zt34,Zt63])):recordWriterOne_con.φ x=denIO Tryz.prog qfr qfC Tryz.f161 Zt12 [Zt34,Zt63] true [] Zt62 x:=by kernel_rfl
theorem qmt:IocOK Tryz.prog 161 recordWriterOne_con :=
  qay (env:=qfr) ((EnvOK.cons (EnvOK.cons (EnvOK.nil _) qel) qsB)) mixed Tryz.func161 recordWriterOne_con qfC (by kernel_rfl) (fun h=>by first | rfl | cases h) qlb
def qae:Ann:=(.ord 10 0 .nil (.ord 11 0 .nil (.ord 12 0 .nil .nil)))
def qee:Ann:=(.two .nil (.two .nil (.two .nil (.two .nil (.two (.tail 5 .nil) (.two (.two .nil (.join ⟨[3,7,8],[(9,Zt62)],[(0,some (.box Zt14)),(4,none)]⟩ (.two (.loop ⟨[3,4,7,8,30,31],[(9,Zt62),(32,Zt63)],[(0,some (.box Zt14)),(4,none)]⟩ (.two .nil (.two .nil (.two (.two (.two .nil (.two (.join ⟨[3,4,7,8,9,30,31,32],[(12,Zt62)],[(0,some (.box Zt14))]⟩ (.any 2423 0 (.ord 0 374 .nil (.ord 1 373 .nil (.ord 2 0 .nil (.ord 5 0 .nil (.ord 6 0 .nil (.ord 8 0 .nil (.alt (.ord 3 0 .nil (.alt (.ord 4 0 .nil (.ord 7 0 (.two .nil (.two (.tail 14 .nil) .nil)) (.ord 9 0 .nil (.ord 10 0 .nil (.ord 11 0 .nil .nil))))) (.ord 7 0 (.two .nil (.two (.tail 14 .nil) .nil)) (.ord 4 0 .nil (.ord 9 0 .nil (.ord 10 0 .nil (.ord 11 0 .nil .nil))))))) (.ord 4 0 .nil (.ord 3 0 .nil (.ord 7 0 (.two .nil (.two (.tail 14 .nil) .nil)) (.ord 9 0 .nil (.ord 10 0 .nil (.ord 11 0 .nil .nil))))))))))))))) .nil)) .nil) .nil)))) .nil))) (.two (.join ⟨[],[(6,Zt62)],[(0,some (.box Zt14)),(5,none)]⟩ (.any 5055 0 (.ord 0 0 .nil (.ord 2 0 .nil (.ord 3 0 .nil (.ord 4 0 .nil (.ord 5 927 .nil (.ord 7 0 .nil (.ord 8 0 .nil (.alt (.ord 1 0 .nil (.alt (.ord 6 0 (.two .nil (.two (.tail 14 .nil) .nil)) (.ord 9 0 .nil qae)) (.ord 9 0 .nil (.ord 6 0 (.two .nil (.two (.tail 14 .nil) .nil)) qae)))) (.alt (.ord 6 0 (.two .nil (.two (.tail 14 .nil) .nil)) (.ord 1 1021 .nil (.ord 9 0 .nil qae))) (.ord 9 0 .nil (.alt (.ord 1 0 .nil (.ord 6 0 (.two .nil (.two (.tail 14 .nil) .nil)) qae)) (.ord 6 0 (.two .nil (.two (.tail 14 .nil) .nil)) (.ord 1 0 .nil qae))))))))))))))) .nil)))))))
noncomputable def qem:Ioc:=⟨Zt12,[Zt34,Zt63],true,[],Zt62,fun x=>qdP x.1 x.2.1 x.2.2.1⟩
noncomputable def qez (φ:DL (Zt12::[Zt34,Zt63])→Option (D Zt8)):Env:=(90,.con qi4)::(101,.io ⟨Zt12,[Zt34,Zt63],true,[],Zt62,φ⟩)::(63,.con movesMake_con)::(159,.ck 197)::(160,.body Tryz.f160)::(161,.io recordWriterOne_con)::(57,.con recordKids_con)::[]
theorem qji (φ:DL (Zt12::[Zt34,Zt63])→Option (D Zt8)) (x:DL (Zt12::[Zt34,Zt63])):qai φ x=denIO Tryz.prog (qez φ) qee Tryz.f101 Zt12 [Zt34,Zt63] true [] Zt62 x:=by kernel_rfl
theorem qkg:IocOK Tryz.prog 101 qem :=
  ioc_fix (bx:=Zt12) (ps:=[Zt34,Zt63]) (ρ:=Zt62) (G:=qai) (by kernel_rfl) (fun h=>by first | rfl | cases h) fun φ hφ =>
  qay (env:=qez φ) ((EnvOK.cons (EnvOK.inout (EnvOK.cons (EnvOK.check (EnvOK.body (EnvOK.inout (EnvOK.cons (EnvOK.nil _) qsy) qmt) Tryz.func160) qc) qoC) hφ) qts)) mixed Tryz.func101 ⟨Zt12,[Zt34,Zt63],true,[],Zt62,qai φ⟩ qee (by kernel_rfl) (fun h=>by first | rfl | cases h) (qji φ)
def qhd:Ann := .nil
noncomputable def recordResults_con:Con:=⟨[],true,[],(.st .str (.st .str (.st .str (.st .str .nil)))),fun x=>qfB,some fun x=>qac⟩
noncomputable def qgW:Env:=(159,.ck 197)::[]
theorem qnx (x:DL recordResults_con.ps):recordResults_con.φ x=denF Tryz.prog qgW qhd Tryz.f102 recordResults_con.ps recordResults_con.one recordResults_con.res recordResults_con.ρ x:=by kernel_rfl
theorem qoX:ConOK Tryz.prog 102 recordResults_con :=
  qa (env:=qgW) ((EnvOK.check (EnvOK.nil _) qc)) mixed Tryz.func102 recordResults_con qhd (by kernel_rfl) (fun h=>by first | rfl | cases h) (fun g hg x=>by
    cases hg
    exact qo0 ) qnx
def qkC:Ann:=(.two .nil (.two .nil (.two .nil (.two (.two .nil (.join ⟨[2,3,7],[],[(2,some (.bld 197 5))]⟩ (.two (.loop ⟨[2,3,7,20,21],[(22,Zt63)],[(2,some (.bld 197 5))]⟩ .nil) .nil))) (.two .nil (.two (.two .nil (.join ⟨[2,3,7],[(10,Zt62)],[]⟩ .nil)) (.two .nil (.two .nil (.two (.any 415 32 (.ord 0 0 .nil (.ord 1 13 .nil (.ord 2 0 .nil (.ord 3 0 .nil (.ord 4 0 .nil (.ord 5 0 .nil (.ord 6 0 .nil (.ord 7 0 .nil (.ord 8 0 .nil (.ord 9 0 .nil .nil))))))))))) .nil)))))))))
noncomputable def recordText_con:Con:=⟨[Zt17,Zt23],false,[.str,Zt63],(.st .str Zt59),fun x=>qg1 x.1 x.2.1,none⟩
noncomputable def qkY:Env:=(104,.bs 197 5)::(103,.body Tryz.f103)::(90,.con qi4)::(102,.con recordResults_con)::(101,.io qem)::(17,.con placeBegin_con)::(100,.body Tryz.f100)::(159,.ck 197)::(56,.con recordCheck_con)::[]
theorem qqX (x:DL recordText_con.ps):recordText_con.φ x=denF Tryz.prog qkY qkC Tryz.f42 recordText_con.ps recordText_con.one recordText_con.res recordText_con.ρ x:=by kernel_rfl
theorem qsW:ConOK Tryz.prog 42 recordText_con :=
  qa (env:=qkY) ((EnvOK.string (EnvOK.body (EnvOK.cons (EnvOK.cons (EnvOK.inout (EnvOK.cons (EnvOK.body (EnvOK.check (EnvOK.cons (EnvOK.nil _) qq2) qc) Tryz.func100) qdm) qkg) qoX) qts) Tryz.func103) qoS)) mixed Tryz.func42 recordText_con qkC (by kernel_rfl) (fun h=>by first | rfl | cases h) (fun g hg=>by cases hg) qqX
def qdd:Ann:=(.two .nil (.two (.two (.two .nil (.two (.two (.two .nil (.two .nil (.two .nil (.two (.frz [0,1,2,7,8,9] (.join ⟨[],[(2,Zt6),(3,Zt63)],[]⟩ (.any 213 42 (.ord 0 12 .nil (.alt (.ord 1 0 .nil (.ord 2 0 .nil (.ord 3 0 .nil (.ord 4 0 .nil (.ord 5 0 .nil (.ord 6 0 .nil (.ord 7 0 .nil .nil))))))) (.ord 2 0 .nil (.alt (.ord 1 0 .nil (.ord 3 0 .nil (.ord 4 0 .nil (.ord 5 0 .nil (.ord 6 0 .nil (.ord 7 0 .nil .nil)))))) (.ord 3 0 .nil (.ord 1 0 .nil (.ord 4 0 .nil (.ord 5 0 .nil (.ord 6 0 .nil (.ord 7 0 .nil .nil))))))))))))) .nil)))) .nil) (.two .nil (.two .nil (.two .nil (.two (.any 373 138 (.ord 0 52 .nil (.ord 2 51 .nil (.ord 4 0 .nil (.ord 5 0 .nil (.ord 1 0 .nil (.ord 3 0 .nil (.ord 6 0 .nil (.ord 7 0 .nil (.ord 8 0 .nil .nil)))))))))) (.two (.tail 6 .nil) .nil))))))) .nil) (.sel 14 1000010 (.two .nil (.two .nil (.two .nil (.two (.join ⟨[1,4],[(5,.str),(6,Zt63)],[]⟩ (.any 2038 9 (.ord 1 1 .nil (.ord 2 0 .nil (.alt (.ord 0 0 .nil (.ord 3 0 .nil (.ord 4 0 .nil (.ord 5 0 .nil (.ord 6 0 .nil (.ord 7 0 .nil (.ord 8 0 .nil (.ord 9 0 .nil (.ord 10 0 .nil .nil))))))))) (.ord 3 0 .nil (.ord 4 0 .nil (.ord 0 0 .nil (.ord 5 0 .nil (.ord 6 0 .nil (.ord 7 0 .nil (.ord 8 0 .nil (.ord 9 0 .nil (.ord 10 0 .nil .nil)))))))))))))) (.two (.join ⟨[],[(0,.bool)],[]⟩ (.two (.two .nil (.two .nil (.two (.any 11247 1040 (.ord 0 0 .nil (.ord 1 0 .nil (.ord 2 0 .nil (.ord 3 999 .nil (.ord 5 0 .nil (.ord 6 0 .nil (.ord 7 0 .nil (.ord 8 0 .nil (.ord 9 2559 .nil (.ord 4 0 .nil (.ord 11 0 .nil (.ord 10 0 .nil (.ord 12 0 .nil (.ord 13 0 .nil (.ord 14 0 .nil .nil)))))))))))))))) .nil))) .nil)) .nil))))) .nil)))
noncomputable def gamehalltopH10Plays_con:Con:=⟨[],true,[],.bool,fun x=>qbt,none⟩
noncomputable def qc4:Env:=(53,.con slicesClone_PremoveMove_con)::(52,.rd plainGameMoves_con)::(12,.body Tryz.f12)::(42,.con recordText_con)::(11,.io matchMatchDo_con)::(50,.io matchMatchOver_con)::(48,.con journalAppend_con)::(49,.con qhi)::(47,.con offerNew_con)::(46,.con clockCopy_con)::(44,.con clockStart_con)::(45,.con rulesCopy_con)::(159,.ck 197)::(17,.con placeBegin_con)::(43,.body Tryz.f43)::(9,.body Tryz.f9)::(41,.con gamehalltopH10Minute_con)::(10,.con gamehalltopH10Tic_con)::[]
theorem qhL (x:DL gamehalltopH10Plays_con.ps):gamehalltopH10Plays_con.φ x=denF Tryz.prog qc4 qdd Tryz.f8 gamehalltopH10Plays_con.ps gamehalltopH10Plays_con.one gamehalltopH10Plays_con.res gamehalltopH10Plays_con.ρ x:=by kernel_rfl
theorem qiu:ConOK Tryz.prog 8 gamehalltopH10Plays_con :=
  qa (env:=qc4) ((EnvOK.cons (EnvOK.readonly (EnvOK.body (EnvOK.cons (EnvOK.inout (EnvOK.inout (EnvOK.cons (EnvOK.cons (EnvOK.cons (EnvOK.cons (EnvOK.cons (EnvOK.cons (EnvOK.check (EnvOK.cons (EnvOK.body (EnvOK.body (EnvOK.cons (EnvOK.cons (EnvOK.nil _) qeR) qhu) Tryz.func9) Tryz.func43) qdm) qc) qgy) qhq) qiU) qld) qm8) qcL) qcp) qfk) qsW) Tryz.func12) qaA) qM)) mixed Tryz.func8 gamehalltopH10Plays_con qdd (by kernel_rfl) (fun h=>by first | rfl | cases h) (fun g hg=>by cases hg) qhL
def qfA:Ann := .nil
noncomputable def refereeDecide_i_con:Con:=⟨[Zt17,Zt39,Zt55,Zt30],false,[.bool,Zt63],Zt56,fun x=>qal x.1 x.2.1 x.2.2.1 x.2.2.2.1,none⟩
noncomputable def qfx:Env:=(95,.con refereeDecide_con)::(94,.con refereeCheck_con)::(93,.con refereeReplay_con)::[]
theorem qlw (x:DL refereeDecide_i_con.ps):refereeDecide_i_con.φ x=denF Tryz.prog qfx qfA Tryz.f34 refereeDecide_i_con.ps refereeDecide_i_con.one refereeDecide_i_con.res refereeDecide_i_con.ρ x:=by kernel_rfl
theorem qmm:ConOK Tryz.prog 34 refereeDecide_i_con :=
  qa (env:=qfx) ((EnvOK.cons (EnvOK.cons (EnvOK.cons (EnvOK.nil _) qh1) qpY) qoT)) mixed Tryz.func34 refereeDecide_i_con qfA (by kernel_rfl) (fun h=>by first | rfl | cases h) (fun g hg=>by cases hg) qlw
def qcs:Ann:=(.ord 3 0 .nil (.ord 4 0 .nil (.ord 5 0 .nil (.ord 6 0 .nil (.ord 7 0 .nil (.ord 9 0 .nil (.ord 10 0 .nil (.ord 11 0 .nil .nil))))))))
def qcw:Ann:=(.two .nil (.two .nil (.two (.any 502 1 (.ord 1 5 .nil (.ord 2 0 .nil (.ord 0 0 .nil (.ord 3 0 (.two .nil (.two (.two (.two .nil (.two (.two (.two .nil (.two .nil (.two .nil (.two (.frz [1,2,3,9,10,11] (.join ⟨[],[(2,Zt6),(3,Zt63)],[]⟩ (.any 213 42 (.ord 0 12 .nil (.alt (.ord 1 0 .nil (.ord 2 0 .nil (.ord 3 0 .nil (.ord 4 0 .nil (.ord 5 0 .nil (.ord 6 0 .nil (.ord 7 0 .nil .nil))))))) (.ord 2 0 .nil (.alt (.ord 1 0 .nil (.ord 3 0 .nil (.ord 4 0 .nil (.ord 5 0 .nil (.ord 6 0 .nil (.ord 7 0 .nil .nil)))))) (.ord 3 0 .nil (.ord 1 0 .nil (.ord 4 0 .nil (.ord 5 0 .nil (.ord 6 0 .nil (.ord 7 0 .nil .nil))))))))))))) .nil)))) .nil) (.two .nil (.two .nil (.two .nil (.two (.any 373 138 (.ord 0 52 .nil (.ord 2 51 .nil (.ord 4 0 .nil (.ord 5 0 .nil (.ord 1 0 .nil (.ord 3 0 .nil (.ord 6 0 .nil (.ord 7 0 .nil (.ord 8 0 .nil .nil)))))))))) (.two (.tail 6 .nil) .nil))))))) .nil) (.sel 16 1000010 (.two .nil (.two (.two .nil (.join ⟨[8],[],[(18,some (.box Zt2)),(20,none),(21,none),(22,none)]⟩ (.two (.loop ⟨[8,24,25],[(26,Zt63)],[(18,some (.box Zt2)),(20,none),(21,none),(22,none)]⟩ .nil) .nil))) .nil)) (.two .nil (.two (.two .nil (.two (.loop ⟨[],[(1000000,.nil)],[]⟩ .nil) .nil)) .nil))))) (.ord 4 0 .nil (.ord 5 0 .nil (.ord 6 0 .nil (.ord 7 0 .nil (.ord 8 0 .nil .nil)))))))))) (.sel 16 1000010 (.two .nil (.two .nil (.two (.two (.two .nil (.two .nil (.two (.any 11247 1040 (.ord 0 0 .nil (.ord 1 0 .nil (.ord 2 0 .nil (.ord 3 999 .nil (.ord 5 0 .nil (.ord 6 0 .nil (.ord 7 0 .nil (.ord 8 0 .nil (.ord 9 2559 .nil (.ord 4 0 .nil (.ord 11 0 .nil (.ord 10 0 .nil (.ord 12 0 .nil (.ord 13 0 .nil (.ord 14 0 .nil .nil)))))))))))))))) .nil))) .nil) (.two (.join ⟨[2,7,8],[(10,Zt63),(11,Zt63)],[]⟩ (.any 3318 265 (.ord 1 0 .nil (.ord 2 259 .nil (.alt (.ord 0 0 .nil (.alt (.ord 3 0 .nil (.ord 4 0 .nil (.ord 5 0 .nil (.ord 6 0 .nil (.ord 7 0 .nil (.ord 8 0 .nil (.ord 9 0 .nil (.ord 10 0 .nil (.ord 11 0 .nil .nil))))))))) (.ord 8 0 .nil qcs))) (.ord 8 0 .nil (.ord 0 0 .nil qcs))))))) (.two (.any 8190 1 (.ord 1 125 .nil (.ord 2 0 .nil (.ord 3 0 .nil (.ord 4 0 .nil (.ord 5 0 .nil (.ord 6 0 .nil (.ord 0 0 .nil (.ord 7 0 .nil (.ord 8 0 .nil (.ord 9 0 .nil (.ord 10 0 .nil (.ord 11 0 .nil (.ord 12 0 .nil .nil)))))))))))))) (.two (.any 502 9 (.ord 1 5 .nil (.ord 2 0 .nil (.ord 0 0 .nil (.ord 3 0 .nil (.ord 4 0 .nil (.ord 5 0 .nil (.ord 6 0 .nil (.ord 7 0 .nil (.ord 8 0 .nil .nil)))))))))) (.two .nil (.two (.two .nil (.joinE ⟨[8,14],[],[]⟩ (.two (.loop ⟨[2,7,8,14,95,96],[(97,Zt63)],[]⟩ (.two .nil (.two .nil (.two (.two (.two .nil (.two (.any 2046 1 (.ord 1 29 .nil (.ord 2 0 .nil (.ord 3 0 .nil (.ord 4 0 .nil (.ord 0 0 .nil (.ord 5 0 .nil (.ord 6 0 .nil (.ord 7 0 .nil (.ord 8 0 .nil (.ord 9 0 .nil (.ord 10 0 .nil .nil)))))))))))) .nil)) .nil) .nil)))) .nil))) .nil)))))))) .nil))))
noncomputable def gamehalltopTopReferee_con:Con:=⟨[Zt39,(.sl Zt30)],true,[],.bool,fun x=>qb6 x.1 x.2.1,none⟩
noncomputable def qcB:Env:=(36,.con gamehalltopH10Alike_con)::(35,.con refereeTrace_con)::(34,.con refereeDecide_i_con)::(20,.con plainRun_con)::(53,.con slicesClone_PremoveMove_con)::(52,.rd plainGameMoves_con)::(12,.body Tryz.f12)::(91,.con slicesClone_JournalEntry_con)::(30,.body Tryz.f30)::(11,.io matchMatchDo_con)::(50,.io matchMatchOver_con)::(48,.con journalAppend_con)::(49,.con qhi)::(47,.con offerNew_con)::(46,.con clockCopy_con)::(44,.con clockStart_con)::(45,.con rulesCopy_con)::(159,.ck 197)::(17,.con placeBegin_con)::(43,.body Tryz.f43)::(9,.body Tryz.f9)::(33,.body Tryz.f33)::(10,.con gamehalltopH10Tic_con)::(8,.con gamehalltopH10Plays_con)::[]
theorem qgF (x:DL gamehalltopTopReferee_con.ps):gamehalltopTopReferee_con.φ x=denF Tryz.prog qcB qcw Tryz.f6 gamehalltopTopReferee_con.ps gamehalltopTopReferee_con.one gamehalltopTopReferee_con.res gamehalltopTopReferee_con.ρ x:=by kernel_rfl
theorem gamehalltopTopReferee_ok:ConOK Tryz.prog 6 gamehalltopTopReferee_con :=
  qa (env:=qcB) ((EnvOK.cons (EnvOK.cons (EnvOK.cons (EnvOK.cons (EnvOK.cons (EnvOK.readonly (EnvOK.body (EnvOK.cons (EnvOK.body (EnvOK.inout (EnvOK.inout (EnvOK.cons (EnvOK.cons (EnvOK.cons (EnvOK.cons (EnvOK.cons (EnvOK.cons (EnvOK.check (EnvOK.cons (EnvOK.body (EnvOK.body (EnvOK.body (EnvOK.cons (EnvOK.cons (EnvOK.nil _) qiu) qeR) Tryz.func33) Tryz.func9) Tryz.func43) qdm) qc) qgy) qhq) qiU) qld) qm8) qcL) qcp) qfk) Tryz.func30) qb9) Tryz.func12) qaA) qM) qpp) qmm) qqj) qiq)) mixed Tryz.func6 gamehalltopTopReferee_con qcw (by kernel_rfl) (fun h=>by first | rfl | cases h) (fun g hg=>by cases hg) qgF
end Go.Proofs.YtijkabgijfdpfaaGreatDoor
