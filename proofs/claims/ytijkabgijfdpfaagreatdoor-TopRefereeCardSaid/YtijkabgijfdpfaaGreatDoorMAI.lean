/- Several texts in one: RefereeC, TextC, RecordC, HtenC, TopRefereeC. -/
import Derived.Test.YtijkabgijfdpfaaGreatDoorMAA
import Derived.Test.YtijkabgijfdpfaaGreatDoorMAH
import Derived.Test.YtijkabgijfdpfaaGreatDoorMAE
import Derived.Test.YtijkabgijfdpfaaGreatDoorMatchC
namespace Go.Proofs.YtijkabgijfdpfaaGreatDoor
open Go.Den
set_option linter.unusedVariables false
set_option maxRecDepth 100000
def qgv:Ann:=(.two .nil (.two .nil (.two .nil (.two .nil (.two .nil (.two .nil (.two (.two (.two .nil (.two (.two (.two .nil (.two .nil (.two .nil (.two (.frz [7,8,9] (.join ⟨[],[(2,Zt6),(3,Zt63)],[]⟩ (.any 213 42 (.ord 0 12 .nil (.alt (.ord 1 0 .nil (.ord 2 0 .nil (.ord 3 0 .nil (.ord 4 0 .nil (.ord 5 0 .nil (.ord 6 0 .nil (.ord 7 0 .nil .nil))))))) (.ord 2 0 .nil (.alt (.ord 1 0 .nil (.ord 3 0 .nil (.ord 4 0 .nil (.ord 5 0 .nil (.ord 6 0 .nil (.ord 7 0 .nil .nil)))))) (.ord 3 0 .nil (.ord 1 0 .nil (.ord 4 0 .nil (.ord 5 0 .nil (.ord 6 0 .nil (.ord 7 0 .nil .nil))))))))))))) .nil)))) .nil) (.two .nil (.two .nil (.two .nil (.two (.any 373 138 (.ord 0 52 .nil (.ord 2 51 .nil (.ord 4 0 .nil (.ord 5 0 .nil (.ord 1 0 .nil (.ord 3 0 .nil (.ord 6 0 .nil (.ord 7 0 .nil (.ord 8 0 .nil .nil)))))))))) (.two (.tail 6 .nil) .nil))))))) .nil) (.sel 14 1000010 (.two .nil (.two (.two .nil (.joinE ⟨[13],[],[(16,some (.box Zt2)),(18,none),(19,none),(20,none)]⟩ (.two (.loop ⟨[13,58,59],[(60,Zt63)],[(16,some (.box Zt2)),(18,none),(19,none),(20,none)]⟩ .nil) .nil))) .nil)) (.two .nil (.two (.two .nil (.two (.loop ⟨[],[(1000000,.nil)],[]⟩ .nil) .nil)) .nil))))))))))
def qbT:Ann:=(.two .nil (.two .nil (.two (.any 11247 1040 (.ord 0 0 .nil (.ord 1 0 .nil (.ord 2 0 .nil (.ord 3 999 .nil (.ord 5 0 .nil (.ord 6 0 .nil (.ord 7 0 .nil (.ord 8 0 .nil (.ord 9 2559 .nil (.ord 4 0 .nil (.ord 11 0 .nil (.ord 10 0 .nil (.ord 12 0 .nil (.ord 13 0 .nil (.ord 14 0 .nil .nil)))))))))))))))) .nil)))
def qdl:Ann:=(.ord 7 0 .nil (.ord 8 0 .nil (.ord 9 0 .nil (.ord 10 0 .nil .nil))))
def qgT:Ann:=(.two .nil (.two (.two (.join ⟨[2,3,4],[(9,Zt63)],[]⟩ (.two qgv .nil)) .nil) (.two (.any 1007 0 (.ord 0 14 .nil (.ord 1 13 .nil (.ord 2 0 .nil (.ord 3 0 .nil (.ord 4 0 qgv (.ord 5 0 .nil (.ord 6 0 .nil (.ord 7 0 .nil (.ord 8 0 .nil (.ord 9 0 .nil .nil))))))))))) (.sel 4 1000011 (.two (.two qbT (.two .nil (.two qbT .nil))) (.two (.two .nil (.join ⟨[],[(12,Zt3)],[(16,some (.box Zt2)),(21,none),(22,none),(23,none),(36,none)]⟩ (.two (.loop ⟨[10,46,47],[(12,Zt3),(48,Zt63)],[(16,some (.box Zt2)),(21,none),(22,none),(23,none),(36,none)]⟩ (.two .nil (.two .nil (.two (.two (.two .nil (.two .nil (.two .nil (.join ⟨[10,46,47,48],[(12,Zt3)],[(40,none)]⟩ (.any 1259 256 (.ord 0 0 .nil (.ord 1 0 .nil (.ord 3 0 .nil (.ord 5 0 .nil (.alt (.ord 2 0 qbT (.alt (.ord 4 0 .nil (.ord 6 0 .nil qdl)) (.ord 6 0 .nil (.ord 4 0 .nil qdl)))) (.ord 6 0 .nil (.ord 2 0 qbT (.ord 4 0 .nil qdl))))))))))))) .nil) .nil)))) .nil))) .nil)) .nil))))
noncomputable def refereeReplay_con:Con:=⟨[Zt17,Zt39,Zt55],false,[Zt3,Zt63],(.st Zt3 Zt59),fun x=>qaQ x.1 x.2.1 x.2.2.1,none⟩
noncomputable def qg8:Env:=(72,.rd plainGamePosition_con)::(32,.body Tryz.f32)::(53,.con slicesClone_PremoveMove_con)::(52,.rd plainGameMoves_con)::(12,.body Tryz.f12)::(11,.io matchMatchDo_con)::(27,.con matchReadEntry_con)::(50,.io matchMatchOver_con)::(48,.con journalAppend_con)::(49,.con qg9)::(47,.con offerNew_con)::(46,.con clockCopy_con)::(44,.con clockStart_con)::(45,.con rulesCopy_con)::(159,.ck 197)::(17,.con placeBegin_con)::(43,.body Tryz.f43)::(9,.body Tryz.f9)::(89,.con matchNumber_con)::(210,.con stringsCutPrefix_con)::(109,.con journalCheck_con)::(157,.body Tryz.f157)::[]
theorem qnA (x:DL refereeReplay_con.ps):refereeReplay_con.φ x=denF Tryz.prog qg8 qgT Tryz.f93 refereeReplay_con.ps refereeReplay_con.one refereeReplay_con.res refereeReplay_con.ρ x:=by kernel_rfl
theorem qie:ConOK Tryz.prog 93 refereeReplay_con :=
  qa (env:=qg8) ((EnvOK.readonly (EnvOK.body (EnvOK.cons (EnvOK.readonly (EnvOK.body (EnvOK.inout (EnvOK.cons (EnvOK.inout (EnvOK.cons (EnvOK.cons (EnvOK.cons (EnvOK.cons (EnvOK.cons (EnvOK.cons (EnvOK.check (EnvOK.cons (EnvOK.body (EnvOK.body (EnvOK.cons (EnvOK.cons (EnvOK.cons (EnvOK.body (EnvOK.nil _) Tryz.func157) qiK) qlk) qkO) Tryz.func9) Tryz.func43) qdn) qc) qgB) qhN) qiG) qlA) qnh) qcK) qcj) qnI) qfA) Tryz.func12) qaz) qM) Tryz.func32) qN)) mixed Tryz.func93 refereeReplay_con qgT (by kernel_rfl) (fun h=>by first | rfl | cases h) (fun g hg=>by cases hg) qnA
def qh0:Ann:=(.two .nil (.two .nil (.two .nil (.two .nil (.two (.two .nil (.join ⟨[],[(10,Zt11)],[]⟩ (.two (.loop ⟨[23,24],[(10,Zt11),(25,Zt63)],[]⟩ .nil) .nil))) .nil)))))
noncomputable def refereeTrace_con:Con:=⟨[Zt17,Zt39,Zt55],false,[Zt11,Zt63],(.st Zt11 Zt59),fun x=>qfZ x.1 x.2.1 x.2.2.1,none⟩
noncomputable def qh6:Env:=(159,.ck 197)::(93,.con refereeReplay_con)::[]
theorem qoR (x:DL refereeTrace_con.ps):refereeTrace_con.φ x=denF Tryz.prog qh6 qh0 Tryz.f35 refereeTrace_con.ps refereeTrace_con.one refereeTrace_con.res refereeTrace_con.ρ x:=by kernel_rfl
theorem qqo:ConOK Tryz.prog 35 refereeTrace_con :=
  qa (env:=qh6) ((EnvOK.check (EnvOK.cons (EnvOK.nil _) qie) qc)) mixed Tryz.func35 refereeTrace_con qh0 (by kernel_rfl) (fun h=>by first | rfl | cases h) (fun g hg=>by cases hg) qoR
def qih:Ann := .nil
noncomputable def refereeCheck_con:Con:=⟨[Zt30,Zt63],true,[],Zt63,fun x=>qgJ x.1 x.2.1,some fun x=>qcg x.1 x.2.1⟩
noncomputable def qif:Env:=[]
theorem qoX (x:DL refereeCheck_con.ps):refereeCheck_con.φ x=denF Tryz.prog qif qih Tryz.f94 refereeCheck_con.ps refereeCheck_con.one refereeCheck_con.res refereeCheck_con.ρ x:=by kernel_rfl
theorem qpJ:ConOK Tryz.prog 94 refereeCheck_con :=
  qa (env:=qif) ((EnvOK.nil _)) mixed Tryz.func94 refereeCheck_con qih (by kernel_rfl) (fun h=>by first | rfl | cases h) (fun g hg x=>by
    cases hg
    exact qqh _ _) qoX
def qaP:Ann:=(.alt (.ord 11 0 .nil (.ord 14 0 .nil (.ord 15 0 .nil .nil))) (.ord 14 0 .nil (.ord 11 0 .nil (.ord 15 0 .nil .nil))))
def qf3:Ann:=(.alt (.ord 7 0 .nil (.ord 8 0 .nil (.ord 9 0 .nil (.ord 10 0 .nil qaP)))) (.ord 14 0 .nil (.ord 7 0 .nil (.ord 8 0 .nil (.ord 9 0 .nil (.ord 10 0 .nil (.ord 11 0 .nil (.ord 15 0 .nil .nil))))))))
def qhh:Ann:=(.two .nil (.two (.join ⟨[4,5,7],[(9,Zt4),(10,Zt4)],[]⟩ (.any 4095 12288 (.ord 0 0 .nil (.ord 1 0 .nil (.ord 2 16355 .nil (.ord 3 0 .nil (.ord 4 16367 .nil (.ord 5 0 .nil (.ord 6 0 .nil (.alt (.ord 7 0 .nil (.ord 8 0 .nil (.ord 9 0 .nil (.ord 10 0 .nil (.alt (.ord 11 0 .nil (.alt (.ord 12 0 .nil (.ord 13 0 .nil (.ord 14 0 .nil (.ord 15 0 .nil .nil)))) (.ord 13 0 .nil (.ord 12 0 .nil (.ord 14 0 .nil (.ord 15 0 .nil .nil)))))) (.alt (.ord 12 0 .nil (.alt (.ord 11 0 .nil (.ord 13 0 .nil (.ord 14 0 .nil (.ord 15 0 .nil .nil)))) (.ord 13 0 .nil qaP))) (.ord 13 0 .nil (.alt (.ord 11 0 .nil (.ord 12 0 .nil (.ord 14 0 .nil (.ord 15 0 .nil .nil)))) (.ord 12 0 .nil qaP))))))))) (.alt (.ord 12 0 .nil (.alt (.ord 7 0 .nil (.ord 8 0 .nil (.ord 9 0 .nil (.ord 10 0 .nil (.alt (.ord 11 0 .nil (.ord 13 0 .nil (.ord 14 0 .nil (.ord 15 0 .nil .nil)))) (.ord 13 0 .nil qaP)))))) (.ord 13 0 .nil qf3))) (.ord 13 0 .nil (.alt (.ord 7 0 .nil (.ord 8 0 .nil (.ord 9 0 .nil (.ord 10 0 .nil (.alt (.ord 11 0 .nil (.ord 12 0 .nil (.ord 14 0 .nil (.ord 15 0 .nil .nil)))) (.ord 12 0 .nil qaP)))))) (.ord 12 0 .nil qf3)))))))))))))) (.two .nil (.two (.two .nil (.two (.two .nil (.two (.two (.join ⟨[],[(8,.bool)],[]⟩ (.any 4128767 65536 (.ord 0 0 .nil (.ord 1 0 .nil (.ord 2 0 .nil (.ord 3 0 .nil (.ord 4 0 .nil (.ord 5 0 .nil (.ord 6 0 .nil (.ord 7 895 .nil (.ord 8 0 .nil (.ord 9 0 .nil (.ord 10 0 .nil (.ord 11 0 .nil (.ord 12 0 .nil (.ord 13 450559 .nil (.ord 14 0 .nil (.ord 15 425983 .nil (.ord 17 0 .nil (.ord 18 262143 .nil (.ord 16 0 .nil (.ord 19 0 .nil (.ord 20 0 .nil (.ord 21 0 .nil .nil)))))))))))))))))))))))) .nil) .nil)) .nil)) .nil))))
noncomputable def refereeDecide_con:Con:=⟨[Zt17,Zt39,(.sl Zt5),Zt30],true,[],.bool,fun x=>qe8 x.1 x.2.1 x.2.2.1 x.2.2.2.1,none⟩
noncomputable def qhd:Env:=(40,.con clockLook_con)::(13,.con clockLeft_con)::(98,.con slicesContains_Move_con)::(137,.con movesList_con)::(159,.ck 197)::[]
theorem qn1 (x:DL refereeDecide_con.ps):refereeDecide_con.φ x=denF Tryz.prog qhd qhh Tryz.f95 refereeDecide_con.ps refereeDecide_con.one refereeDecide_con.res refereeDecide_con.ρ x:=by kernel_rfl
theorem qoY:ConOK Tryz.prog 95 refereeDecide_con :=
  qa (env:=qhd) ((EnvOK.cons (EnvOK.cons (EnvOK.cons (EnvOK.cons (EnvOK.check (EnvOK.nil _) qc) qen) qaL) qua) qek)) mixed Tryz.func95 refereeDecide_con qhh (by kernel_rfl) (fun h=>by first | rfl | cases h) (fun g hg=>by cases hg) qn1
def qgs:Ann := .nil
noncomputable def movetextLetter_con:Con:=⟨[Zt17,Zt63],true,[],.str,fun x=>qec x.1 x.2.1,none⟩
noncomputable def qgA:Env:=[]
theorem qlZ (x:DL movetextLetter_con.ps):movetextLetter_con.φ x=denF Tryz.prog qgA qgs Tryz.f244 movetextLetter_con.ps movetextLetter_con.one movetextLetter_con.res movetextLetter_con.ρ x:=by kernel_rfl
theorem qob:ConOK Tryz.prog 244 movetextLetter_con :=
  qa (env:=qgA) ((EnvOK.nil _)) mixed Tryz.func244 movetextLetter_con qgs (by kernel_rfl) (fun h=>by first | rfl | cases h) (fun g hg=>by cases hg) qlZ
def qf4:Ann := .nil
noncomputable def movetextColumn_con:Con:=⟨[Zt17,Zt63],true,[],.str,fun x=>qd7 x.1 x.2.1,none⟩
noncomputable def qgj:Env:=[]
theorem qnr (x:DL movetextColumn_con.ps):movetextColumn_con.φ x=denF Tryz.prog qgj qf4 Tryz.f281 movetextColumn_con.ps movetextColumn_con.one movetextColumn_con.res movetextColumn_con.ρ x:=by kernel_rfl
theorem qgX:ConOK Tryz.prog 281 movetextColumn_con :=
  qa (env:=qgj) ((EnvOK.nil _)) mixed Tryz.func281 movetextColumn_con qf4 (by kernel_rfl) (fun h=>by first | rfl | cases h) (fun g hg=>by cases hg) qnr
def qjo:Ann := .nil
noncomputable def movetextRow_con:Con:=⟨[Zt17,Zt63],true,[],.str,fun x=>qhr x.1 x.2.1,none⟩
noncomputable def qiZ:Env:=[]
theorem qqs (x:DL movetextRow_con.ps):movetextRow_con.φ x=denF Tryz.prog qiZ qjo Tryz.f282 movetextRow_con.ps movetextRow_con.one movetextRow_con.res movetextRow_con.ρ x:=by kernel_rfl
theorem qkJ:ConOK Tryz.prog 282 movetextRow_con :=
  qa (env:=qiZ) ((EnvOK.nil _)) mixed Tryz.func282 movetextRow_con qjo (by kernel_rfl) (fun h=>by first | rfl | cases h) (fun g hg=>by cases hg) qqs
def qgu:Ann := .nil
noncomputable def movetextSquare_con:Con:=⟨[Zt17,Zt63],true,[],.str,fun x=>qd3 x.1 x.2.1,none⟩
noncomputable def qgd:Env:=(282,.con movetextRow_con)::(281,.con movetextColumn_con)::[]
theorem qmT (x:DL movetextSquare_con.ps):movetextSquare_con.φ x=denF Tryz.prog qgd qgu Tryz.f245 movetextSquare_con.ps movetextSquare_con.one movetextSquare_con.res movetextSquare_con.ρ x:=by kernel_rfl
theorem qhb:ConOK Tryz.prog 245 movetextSquare_con :=
  qa (env:=qgd) ((EnvOK.cons (EnvOK.cons (EnvOK.nil _) qgX) qkJ)) mixed Tryz.func245 movetextSquare_con qgu (by kernel_rfl) (fun h=>by first | rfl | cases h) (fun g hg=>by cases hg) qmT
def qid:Ann:=(.two .nil (.two .nil (.two (.two .nil (.join ⟨[4,7,9],[],[(3,some (.box Zt58))]⟩ (.two (.loop ⟨[4,5,7,9,13,14],[(15,Zt63)],[(3,some (.box Zt58))]⟩ (.two .nil (.two .nil (.two (.two (.two .nil (.two .nil (.join ⟨[4,5,7,9,13,14,15],[],[(3,some (.box Zt58)),(4,none)]⟩ .nil))) .nil) .nil)))) .nil))) (.two .nil (.two (.two (.two .nil (.two .nil (.two (.two (.two .nil (.two (.two (.two .nil (.two (.two (.two .nil (.two (.two .nil (.joinE ⟨[],[],[]⟩ (.two (.loop ⟨[0,1,7],[(8,Zt63)],[]⟩ .nil) .nil))) .nil)) .nil) .nil)) .nil) .nil)) .nil) (.two .nil (.two (.two (.two .nil (.two (.two (.two .nil (.two (.two (.two .nil (.two (.two .nil (.joinE ⟨[],[],[]⟩ (.two (.loop ⟨[0,1,7],[(8,Zt63)],[]⟩ .nil) .nil))) .nil)) .nil) .nil)) .nil) .nil)) .nil) .nil))))) .nil) .nil)))))
noncomputable def movetextMark_con:Con:=⟨[Zt17,Zt34,Zt50,Zt51],true,[],.str,fun x=>qoj x.1 x.2.1 x.2.2.1 x.2.2.2.1,none⟩
noncomputable def qii:Env:=(245,.con movetextSquare_con)::(282,.con movetextRow_con)::(285,.body Tryz.f285)::(281,.con movetextColumn_con)::(284,.body Tryz.f284)::(187,.body Tryz.f187)::(133,.body Tryz.f133)::(283,.body Tryz.f283)::(159,.ck 197)::[]
theorem qoZ (x:DL movetextMark_con.ps):movetextMark_con.φ x=denF Tryz.prog qii qid Tryz.f246 movetextMark_con.ps movetextMark_con.one movetextMark_con.res movetextMark_con.ρ x:=by kernel_rfl
theorem qqd:ConOK Tryz.prog 246 movetextMark_con :=
  qa (env:=qii) ((EnvOK.cons (EnvOK.cons (EnvOK.body (EnvOK.cons (EnvOK.body (EnvOK.body (EnvOK.body (EnvOK.body (EnvOK.check (EnvOK.nil _) qc) Tryz.func283) Tryz.func133) Tryz.func187) Tryz.func284) qgX) Tryz.func285) qkJ) qhb)) mixed Tryz.func246 movetextMark_con qid (by kernel_rfl) (fun h=>by first | rfl | cases h) (fun g hg=>by cases hg) qoZ
def qkG:Ann:=(.two .nil (.two .nil (.two .nil (.two .nil (.two (.two .nil (.join ⟨[4,7,9],[(10,.str)],[]⟩ .nil)) (.two .nil (.two (.two .nil (.join ⟨[],[(10,.str)],[]⟩ .nil)) .nil)))))))
noncomputable def movetextOf_con:Con:=⟨[Zt17,Zt34,Zt50,Zt51],true,[],.str,fun x=>qjL x.1 x.2.1 x.2.2.1 x.2.2.2.1,none⟩
noncomputable def qkB:Env:=(246,.con movetextMark_con)::(245,.con movetextSquare_con)::(244,.con movetextLetter_con)::[]
theorem qq9 (x:DL movetextOf_con.ps):movetextOf_con.φ x=denF Tryz.prog qkB qkG Tryz.f212 movetextOf_con.ps movetextOf_con.one movetextOf_con.res movetextOf_con.ρ x:=by kernel_rfl
theorem qsM:ConOK Tryz.prog 212 movetextOf_con :=
  qa (env:=qkB) ((EnvOK.cons (EnvOK.cons (EnvOK.cons (EnvOK.nil _) qob) qhb) qqd)) mixed Tryz.func212 movetextOf_con qkG (by kernel_rfl) (fun h=>by first | rfl | cases h) (fun g hg=>by cases hg) qq9
def qfl:Ann:=(.two .nil (.two (.two .nil (.joinE ⟨[],[],[]⟩ (.two (.loop ⟨[0,1,7],[(8,Zt63)],[]⟩ .nil) .nil))) .nil))
noncomputable def recordPrintable_con:Con:=⟨[.str,.str],true,[],.bool,fun x=>qcb x.1 x.2.1,none⟩
noncomputable def qfF:Env:=(223,.con qk3)::[]
theorem qlf (x:DL recordPrintable_con.ps):recordPrintable_con.φ x=denF Tryz.prog qfF qfl Tryz.f175 recordPrintable_con.ps recordPrintable_con.one recordPrintable_con.res recordPrintable_con.ρ x:=by kernel_rfl
theorem qfR:ConOK Tryz.prog 175 recordPrintable_con :=
  qa (env:=qfF) ((EnvOK.cons (EnvOK.nil _) qtc)) mixed Tryz.func175 recordPrintable_con qfl (by kernel_rfl) (fun h=>by first | rfl | cases h) (fun g hg=>by cases hg) qlf
def qkK:Ann:=(.two .nil (.two (.two .nil (.joinE ⟨[],[],[]⟩ (.two (.loop ⟨[1,6,7],[(8,Zt63)],[]⟩ (.two .nil (.two .nil (.two (.two (.two .nil (.two (.two .nil (.two .nil (.two .nil (.two .nil (.two .nil (.two .nil (.two (.two (.two .nil (.two (.two (.two .nil (.two (.two .nil (.joinE ⟨[],[],[]⟩ (.two (.loop ⟨[0,1,7],[(8,Zt63)],[]⟩ .nil) .nil))) .nil)) .nil) .nil)) .nil) .nil))))))) .nil)) .nil) .nil)))) .nil))) .nil))
noncomputable def recordTags_con:Con:=⟨[Zt23],true,[],Zt63,fun x=>qjK x.1,none⟩
noncomputable def qkT:Env:=(177,.body Tryz.f177)::(224,.body Tryz.f224)::(176,.body Tryz.f176)::(175,.con recordPrintable_con)::(130,.con rulesName_con)::(159,.ck 197)::[]
theorem qq3 (x:DL recordTags_con.ps):recordTags_con.φ x=denF Tryz.prog qkT qkK Tryz.f120 recordTags_con.ps recordTags_con.one recordTags_con.res recordTags_con.ρ x:=by kernel_rfl
theorem qtn:ConOK Tryz.prog 120 recordTags_con :=
  qa (env:=qkT) ((EnvOK.body (EnvOK.body (EnvOK.body (EnvOK.cons (EnvOK.cons (EnvOK.check (EnvOK.nil _) qc) qod) qfR) Tryz.func176) Tryz.func224) Tryz.func177)) mixed Tryz.func120 recordTags_con qkK (by kernel_rfl) (fun h=>by first | rfl | cases h) (fun g hg=>by cases hg) qq3
def qgV:Ann := .nil
noncomputable def recordComment_con:Con:=⟨[.str],true,[],Zt63,fun x=>qdv x.1,none⟩
noncomputable def qhe:Env:=(175,.con recordPrintable_con)::[]
theorem qnY (x:DL recordComment_con.ps):recordComment_con.φ x=denF Tryz.prog qhe qgV Tryz.f121 recordComment_con.ps recordComment_con.one recordComment_con.res recordComment_con.ρ x:=by kernel_rfl
theorem qh3:ConOK Tryz.prog 121 recordComment_con :=
  qa (env:=qhe) ((EnvOK.cons (EnvOK.nil _) qfR)) mixed Tryz.func121 recordComment_con qgV (by kernel_rfl) (fun h=>by first | rfl | cases h) (fun g hg=>by cases hg) qnY
def qoL:Ann:=(.two .nil (.two (.two .nil (.joinE ⟨[1],[],[]⟩ (.two (.loop ⟨[1,3],[(7,Zt63)],[]⟩ .nil) .nil))) .nil))
noncomputable def recordOn_con:Con:=⟨[Zt23,Zt63,Zt63],true,[],.bool,fun x=>qlS x.1 x.2.1 x.2.2.1,none⟩
noncomputable def qon:Env:=[]
theorem qt8 (x:DL recordOn_con.ps):recordOn_con.φ x=denF Tryz.prog qon qoL Tryz.f178 recordOn_con.ps recordOn_con.one recordOn_con.res recordOn_con.ρ x:=by kernel_rfl
theorem qv2:ConOK Tryz.prog 178 recordOn_con :=
  qa (env:=qon) ((EnvOK.nil _)) mixed Tryz.func178 recordOn_con qoL (by kernel_rfl) (fun h=>by first | rfl | cases h) (fun g hg=>by cases hg) qt8
def qmV:Ann:=(.two .nil (.two .nil (.two (.two .nil (.join ⟨[],[(5,Zt48)],[]⟩ (.two (.loop ⟨[2],[(5,Zt48),(6,Zt63)],[]⟩ .nil) .nil))) (.two (.two (.two .nil (.join ⟨[],[],[(1,some (.arr 41 Zt51))]⟩ (.two (.loop ⟨[0],[(2,Zt63),(3,Zt63)],[(1,some (.arr 41 Zt51))]⟩ (.two .nil (.two (.two (.any 24575 0 (.ord 0 0 .nil (.ord 1 0 .nil (.ord 2 0 .nil (.ord 3 0 .nil (.ord 4 0 .nil (.ord 5 0 .nil (.ord 6 0 .nil (.ord 7 3967 .nil (.ord 8 0 .nil (.ord 9 0 .nil (.ord 10 0 .nil (.ord 11 0 .nil (.ord 12 0 .nil (.ord 13 0 .nil (.ord 14 0 .nil (.ord 15 0 .nil .nil))))))))))))))))) .nil) .nil))) .nil))) .nil) .nil))))
noncomputable def recordWay_con:Con:=⟨[Zt23,Zt63],true,[],Zt48,fun x=>qaI x.1 x.2.1,none⟩
noncomputable def qmz:Env:=(123,.body Tryz.f123)::[]
theorem qtw (x:DL recordWay_con.ps):recordWay_con.φ x=denF Tryz.prog qmz qmV Tryz.f58 recordWay_con.ps recordWay_con.one recordWay_con.res recordWay_con.ρ x:=by kernel_rfl
theorem qug:ConOK Tryz.prog 58 recordWay_con :=
  qa (env:=qmz) ((EnvOK.body (EnvOK.nil _) Tryz.func123)) mixed Tryz.func58 recordWay_con qmV (by kernel_rfl) (fun h=>by first | rfl | cases h) (fun g hg=>by cases hg) qtw
def qda:Ann:=(.ord 4 0 .nil (.ord 5 0 .nil (.ord 6 0 .nil (.ord 7 0 .nil (.ord 8 0 .nil (.ord 10 0 .nil (.ord 11 0 .nil (.ord 12 0 .nil .nil))))))))
def qjt:Ann:=(.alt (.ord 4 0 .nil (.ord 5 0 .nil (.ord 6 0 .nil (.ord 7 0 .nil (.ord 8 0 .nil (.ord 9 0 .nil (.ord 10 0 .nil (.ord 11 0 .nil (.ord 12 0 .nil .nil))))))))) (.ord 9 0 .nil qda))
def qkD:Ann:=(.two .nil (.two .nil (.two .nil (.two .nil (.two (.two .nil (.join ⟨[2,3,4,5,9],[],[(0,some (.arr 3 Zt63))]⟩ .nil)) (.two (.two .nil (.joinE ⟨[2,3,4,5,9],[],[]⟩ (.two (.loop ⟨[2,3,4,5,9,54,55],[(56,Zt63)],[]⟩ (.two .nil (.two .nil (.two (.joinE ⟨[2,3,4,5,9,54,55,56],[],[]⟩ .nil) .nil)))) .nil))) (.two (.two (.two (.two .nil (.two (.two (.two .nil (.two (.two .nil (.joinE ⟨[],[],[]⟩ (.two (.loop ⟨[0,1,7],[(8,Zt63)],[]⟩ .nil) .nil))) .nil)) .nil) .nil)) .nil) (.sel 4 1000005 (.join ⟨[2,3,4,5],[],[(0,some (.arr 3 Zt63))]⟩ .nil) .nil)) (.two (.two (.join ⟨[2,3],[(15,Zt63)],[]⟩ (.any 6631 512 (.ord 1 517 .nil (.ord 2 0 .nil (.alt (.ord 0 0 .nil (.alt (.ord 3 0 .nil qjt) (.ord 9 0 .nil (.ord 3 0 .nil qda)))) (.alt (.ord 3 0 .nil (.ord 0 526 .nil qjt)) (.ord 9 0 .nil (.alt (.ord 0 0 .nil (.ord 3 0 .nil qda)) (.ord 3 0 .nil (.ord 0 0 .nil qda)))))))))) .nil) .nil))))))))
noncomputable def recordNode_con:Roc:=⟨3,3,Zt63,[Zt17,Zt23,Zt63],true,[],Zt63,fun x=>qjQ x.1 x.2.1 x.2.2.1 x.2.2.2.1⟩
noncomputable def qk5:Env:=(20,.con plainRun_con)::(58,.con recordWay_con)::(180,.body Tryz.f180)::(225,.body Tryz.f225)::(179,.body Tryz.f179)::(178,.con recordOn_con)::(121,.con recordComment_con)::(159,.ck 197)::[]
theorem qqD (x:DL (Zt60::[Zt17,Zt23,Zt63])):recordNode_con.φ x=denRO Tryz.prog qk5 qkD Tryz.f122 3 3 Zt63 [Zt17,Zt23,Zt63] true [] Zt63 x:=by kernel_rfl
theorem qsN:RocOK Tryz.prog 122 recordNode_con :=
  qxw (env:=qk5) ((EnvOK.cons (EnvOK.cons (EnvOK.body (EnvOK.body (EnvOK.body (EnvOK.cons (EnvOK.cons (EnvOK.check (EnvOK.nil _) qc) qh3) qv2) Tryz.func179) Tryz.func225) Tryz.func180) qug) qpK)) mixed Tryz.func122 recordNode_con qkD (by kernel_rfl) (fun h=>by first | rfl | cases h) qqD
def qjs:Ann:=(.two .nil (.two .nil (.two .nil (.two .nil (.two .nil (.two .nil (.two .nil (.two (.two .nil (.joinE ⟨[],[],[(2,some (.arr 3 Zt63))]⟩ (.two (.loop ⟨[2,3,8,51],[(52,Zt63)],[(2,some (.arr 3 Zt63))]⟩ .nil) .nil))) .nil))))))))
noncomputable def recordCheck_con:Con:=⟨[Zt17,Zt23],true,[],Zt63,fun x=>qhu x.1 x.2.1,none⟩
noncomputable def qjr:Env:=(122,.ro recordNode_con)::(121,.con recordComment_con)::(120,.con recordTags_con)::(67,.con rulesCheck_con)::[]
theorem qpE (x:DL recordCheck_con.ps):recordCheck_con.φ x=denF Tryz.prog qjr qjs Tryz.f56 recordCheck_con.ps recordCheck_con.one recordCheck_con.res recordCheck_con.ρ x:=by kernel_rfl
theorem qqI:ConOK Tryz.prog 56 recordCheck_con :=
  qa (env:=qjr) ((EnvOK.rowio (EnvOK.cons (EnvOK.cons (EnvOK.cons (EnvOK.nil _) qhV) qtn) qh3) qsN)) mixed Tryz.func56 recordCheck_con qjs (by kernel_rfl) (fun h=>by first | rfl | cases h) (fun g hg=>by cases hg) qpE
def qkq:Ann:=(.two .nil (.two .nil (.two (.two .nil (.join ⟨[],[(5,Zt60)],[]⟩ (.two (.loop ⟨[1,9,10],[(5,Zt60),(11,Zt63)],[]⟩ (.two .nil (.two .nil (.two (.two (.two .nil (.two .nil (.join ⟨[1,9,10,11],[(5,Zt60)],[(1,none)]⟩ .nil))) .nil) .nil)))) .nil))) .nil)))
noncomputable def recordKids_con:Con:=⟨[Zt23,Zt63],true,[],Zt60,fun x=>qff x.1 x.2.1,none⟩
noncomputable def qk1:Env:=(159,.ck 197)::[]
theorem qqO (x:DL recordKids_con.ps):recordKids_con.φ x=denF Tryz.prog qk1 qkq Tryz.f57 recordKids_con.ps recordKids_con.one recordKids_con.res recordKids_con.ρ x:=by kernel_rfl
theorem qsT:ConOK Tryz.prog 57 recordKids_con :=
  qa (env:=qk1) ((EnvOK.check (EnvOK.nil _) qc)) mixed Tryz.func57 recordKids_con qkq (by kernel_rfl) (fun h=>by first | rfl | cases h) (fun g hg=>by cases hg) qqO
def qeD:Ann := .nil
noncomputable def gamehalltopH10Tic_con:Con:=⟨[],true,[],Zt15,fun x=>qcN,some fun x=>gamehalltopH10Tic⟩
noncomputable def qeu:Env:=(159,.ck 197)::[]
theorem qjy (x:DL gamehalltopH10Tic_con.ps):gamehalltopH10Tic_con.φ x=denF Tryz.prog qeu qeD Tryz.f10 gamehalltopH10Tic_con.ps gamehalltopH10Tic_con.one gamehalltopH10Tic_con.res gamehalltopH10Tic_con.ρ x:=by kernel_rfl
theorem qeS:ConOK Tryz.prog 10 gamehalltopH10Tic_con :=
  qa (env:=qeu) ((EnvOK.check (EnvOK.nil _) qc)) mixed Tryz.func10 gamehalltopH10Tic_con qeD (by kernel_rfl) (fun h=>by first | rfl | cases h) (fun g hg x=>by
    cases hg
    exact qka ) qjy
def qcR:Ann := .nil
noncomputable def gamehalltopH10Minute_con:Con:=⟨[],true,[],Zt38,fun x=>qbI,some fun x=>gamehalltopH10Minute⟩
noncomputable def qcY:Env:=(159,.ck 197)::[]
theorem qg7 (x:DL gamehalltopH10Minute_con.ps):gamehalltopH10Minute_con.φ x=denF Tryz.prog qcY qcR Tryz.f41 gamehalltopH10Minute_con.ps gamehalltopH10Minute_con.one gamehalltopH10Minute_con.res gamehalltopH10Minute_con.ρ x:=by kernel_rfl
theorem qht:ConOK Tryz.prog 41 gamehalltopH10Minute_con :=
  qa (env:=qcY) ((EnvOK.check (EnvOK.nil _) qc)) mixed Tryz.func41 gamehalltopH10Minute_con qcR (by kernel_rfl) (fun h=>by first | rfl | cases h) (fun g hg x=>by
    cases hg
    exact qhA ) qg7
def qdJ:Ann:=(.two .nil (.two .nil (.two (.two .nil (.joinE ⟨[],[],[]⟩ (.two (.loop ⟨[0,1,12],[(13,Zt63)],[]⟩ .nil) .nil))) .nil)))
noncomputable def gamehalltopH10Same_con:Con:=⟨[Zt50,Zt50],true,[],.bool,fun x=>qbV x.1 x.2.1,none⟩
noncomputable def qdL:Env:=[]
theorem qiq (x:DL gamehalltopH10Same_con.ps):gamehalltopH10Same_con.φ x=denF Tryz.prog qdL qdJ Tryz.f96 gamehalltopH10Same_con.ps gamehalltopH10Same_con.one gamehalltopH10Same_con.res gamehalltopH10Same_con.ρ x:=by kernel_rfl
theorem qiL:ConOK Tryz.prog 96 gamehalltopH10Same_con :=
  qa (env:=qdL) ((EnvOK.nil _)) mixed Tryz.func96 gamehalltopH10Same_con qdJ (by kernel_rfl) (fun h=>by first | rfl | cases h) (fun g hg=>by cases hg) qiq
def qc5:Ann:=(.two .nil (.two .nil (.two (.two .nil (.joinE ⟨[2,3],[],[]⟩ (.two (.loop ⟨[2,3,15],[(16,Zt63)],[]⟩ .nil) .nil))) .nil)))
noncomputable def gamehalltopH10Alike_con:Con:=⟨[Zt13,Zt13],true,[],.bool,fun x=>qaE x.1 x.2.1,none⟩
noncomputable def qdp:Env:=(96,.con gamehalltopH10Same_con)::[]
theorem qhw (x:DL gamehalltopH10Alike_con.ps):gamehalltopH10Alike_con.φ x=denF Tryz.prog qdp qc5 Tryz.f36 gamehalltopH10Alike_con.ps gamehalltopH10Alike_con.one gamehalltopH10Alike_con.res gamehalltopH10Alike_con.ρ x:=by kernel_rfl
theorem qit:ConOK Tryz.prog 36 gamehalltopH10Alike_con :=
  qa (env:=qdp) ((EnvOK.cons (EnvOK.nil _) qiL)) mixed Tryz.func36 gamehalltopH10Alike_con qc5 (by kernel_rfl) (fun h=>by first | rfl | cases h) (fun g hg=>by cases hg) qhw
def qfE:Ann:=(.two .nil (.two (.any 6290431 2098176 (.ord 0 0 .nil (.ord 1 0 .nil (.ord 2 0 .nil (.ord 3 1048567 .nil (.ord 4 1048559 .nil (.ord 5 0 .nil (.ord 6 0 .nil (.ord 7 0 .nil (.ord 8 1047295 .nil (.ord 9 1047039 .nil (.ord 11 0 .nil (.ord 12 0 .nil (.ord 13 0 .nil (.ord 14 0 .nil (.ord 15 98303 .nil (.ord 16 0 .nil (.ord 17 0 .nil (.ord 18 0 .nil (.ord 19 524287 .nil (.ord 10 0 .nil (.ord 20 0 .nil (.ord 21 0 .nil (.ord 22 0 .nil .nil)))))))))))))))))))))))) (.two (.two .nil (.two .nil (.join ⟨[],[(7,Zt62)],[(3,none)]⟩ .nil))) .nil)))
noncomputable def recordWriterOne_con:Ioc:=⟨Zt12,[Zt34,Zt63],true,[],Zt62,fun x=>qa5 x.1 x.2.1 x.2.2.1⟩
noncomputable def qfh:Env:=(212,.con movetextOf_con)::(137,.con movesList_con)::[]
theorem qle (x:DL (Zt12::[Zt34,Zt63])):recordWriterOne_con.φ x=denIO Tryz.prog qfh qfE Tryz.f161 Zt12 [Zt34,Zt63] true [] Zt62 x:=by kernel_rfl
theorem qmA:IocOK Tryz.prog 161 recordWriterOne_con :=
  qaB (env:=qfh) ((EnvOK.cons (EnvOK.cons (EnvOK.nil _) qen) qsM)) mixed Tryz.func161 recordWriterOne_con qfE (by kernel_rfl) (fun h=>by first | rfl | cases h) qle
def qae:Ann:=(.ord 10 0 .nil (.ord 11 0 .nil (.ord 12 0 .nil .nil)))
def qew:Ann:=(.two .nil (.two .nil (.two .nil (.two .nil (.two (.tail 5 .nil) (.two (.two .nil (.join ⟨[3,7,8],[(9,Zt62)],[(0,some (.box Zt14)),(4,none)]⟩ (.two (.loop ⟨[3,4,7,8,30,31],[(9,Zt62),(32,Zt63)],[(0,some (.box Zt14)),(4,none)]⟩ (.two .nil (.two .nil (.two (.two (.two .nil (.two (.join ⟨[3,4,7,8,9,30,31,32],[(12,Zt62)],[(0,some (.box Zt14))]⟩ (.any 2423 0 (.ord 0 374 .nil (.ord 1 373 .nil (.ord 2 0 .nil (.ord 5 0 .nil (.ord 6 0 .nil (.ord 8 0 .nil (.alt (.ord 3 0 .nil (.alt (.ord 4 0 .nil (.ord 7 0 (.two .nil (.two (.tail 14 .nil) .nil)) (.ord 9 0 .nil (.ord 10 0 .nil (.ord 11 0 .nil .nil))))) (.ord 7 0 (.two .nil (.two (.tail 14 .nil) .nil)) (.ord 4 0 .nil (.ord 9 0 .nil (.ord 10 0 .nil (.ord 11 0 .nil .nil))))))) (.ord 4 0 .nil (.ord 3 0 .nil (.ord 7 0 (.two .nil (.two (.tail 14 .nil) .nil)) (.ord 9 0 .nil (.ord 10 0 .nil (.ord 11 0 .nil .nil))))))))))))))) .nil)) .nil) .nil)))) .nil))) (.two (.join ⟨[],[(6,Zt62)],[(0,some (.box Zt14)),(5,none)]⟩ (.any 5055 0 (.ord 0 0 .nil (.ord 2 0 .nil (.ord 3 0 .nil (.ord 4 0 .nil (.ord 5 927 .nil (.ord 7 0 .nil (.ord 8 0 .nil (.alt (.ord 1 0 .nil (.alt (.ord 6 0 (.two .nil (.two (.tail 14 .nil) .nil)) (.ord 9 0 .nil qae)) (.ord 9 0 .nil (.ord 6 0 (.two .nil (.two (.tail 14 .nil) .nil)) qae)))) (.alt (.ord 6 0 (.two .nil (.two (.tail 14 .nil) .nil)) (.ord 1 1021 .nil (.ord 9 0 .nil qae))) (.ord 9 0 .nil (.alt (.ord 1 0 .nil (.ord 6 0 (.two .nil (.two (.tail 14 .nil) .nil)) qae)) (.ord 6 0 (.two .nil (.two (.tail 14 .nil) .nil)) (.ord 1 0 .nil qae))))))))))))))) .nil)))))))
noncomputable def qeA:Ioc:=⟨Zt12,[Zt34,Zt63],true,[],Zt62,fun x=>qdP x.1 x.2.1 x.2.2.1⟩
noncomputable def qeq (φ:DL (Zt12::[Zt34,Zt63])→Option (D Zt8)):Env:=(90,.con qiS)::(101,.io ⟨Zt12,[Zt34,Zt63],true,[],Zt62,φ⟩)::(63,.con movesMake_con)::(159,.ck 197)::(160,.body Tryz.f160)::(161,.io recordWriterOne_con)::(57,.con recordKids_con)::[]
theorem qiA (φ:DL (Zt12::[Zt34,Zt63])→Option (D Zt8)) (x:DL (Zt12::[Zt34,Zt63])):qah φ x=denIO Tryz.prog (qeq φ) qew Tryz.f101 Zt12 [Zt34,Zt63] true [] Zt62 x:=by kernel_rfl
theorem qj9:IocOK Tryz.prog 101 qeA :=
  ioc_fix (bx:=Zt12) (ps:=[Zt34,Zt63]) (ρ:=Zt62) (G:=qah) (by kernel_rfl) (fun h=>by first | rfl | cases h) fun φ hφ =>
  qaB (env:=qeq φ) ((EnvOK.cons (EnvOK.inout (EnvOK.cons (EnvOK.check (EnvOK.body (EnvOK.inout (EnvOK.cons (EnvOK.nil _) qsT) qmA) Tryz.func160) qc) qow) hφ) qtu)) mixed Tryz.func101 ⟨Zt12,[Zt34,Zt63],true,[],Zt62,qah φ⟩ qew (by kernel_rfl) (fun h=>by first | rfl | cases h) (qiA φ)
def qha:Ann := .nil
noncomputable def recordResults_con:Con:=⟨[],true,[],(.st .str (.st .str (.st .str (.st .str .nil)))),fun x=>qfz,some fun x=>qab⟩
noncomputable def qgN:Env:=(159,.ck 197)::[]
theorem qny (x:DL recordResults_con.ps):recordResults_con.φ x=denF Tryz.prog qgN qha Tryz.f102 recordResults_con.ps recordResults_con.one recordResults_con.res recordResults_con.ρ x:=by kernel_rfl
theorem qoN:ConOK Tryz.prog 102 recordResults_con :=
  qa (env:=qgN) ((EnvOK.check (EnvOK.nil _) qc)) mixed Tryz.func102 recordResults_con qha (by kernel_rfl) (fun h=>by first | rfl | cases h) (fun g hg x=>by
    cases hg
    exact qo0 ) qny
def qkw:Ann:=(.two .nil (.two .nil (.two .nil (.two (.two .nil (.join ⟨[2,3,7],[],[(2,some (.bld 197 5))]⟩ (.two (.loop ⟨[2,3,7,20,21],[(22,Zt63)],[(2,some (.bld 197 5))]⟩ .nil) .nil))) (.two .nil (.two (.two .nil (.join ⟨[2,3,7],[(10,Zt62)],[]⟩ .nil)) (.two .nil (.two .nil (.two (.any 415 32 (.ord 0 0 .nil (.ord 1 13 .nil (.ord 2 0 .nil (.ord 3 0 .nil (.ord 4 0 .nil (.ord 5 0 .nil (.ord 6 0 .nil (.ord 7 0 .nil (.ord 8 0 .nil (.ord 9 0 .nil .nil))))))))))) .nil)))))))))
noncomputable def recordText_con:Con:=⟨[Zt17,Zt23],false,[.str,Zt63],(.st .str Zt59),fun x=>qhk x.1 x.2.1,none⟩
noncomputable def qko:Env:=(104,.bs 197 5)::(103,.body Tryz.f103)::(90,.con qiS)::(102,.con recordResults_con)::(101,.io qeA)::(17,.con placeBegin_con)::(100,.body Tryz.f100)::(159,.ck 197)::(56,.con recordCheck_con)::[]
theorem qqM (x:DL recordText_con.ps):recordText_con.φ x=denF Tryz.prog qko qkw Tryz.f42 recordText_con.ps recordText_con.one recordText_con.res recordText_con.ρ x:=by kernel_rfl
theorem qtm:ConOK Tryz.prog 42 recordText_con :=
  qa (env:=qko) ((EnvOK.string (EnvOK.body (EnvOK.cons (EnvOK.cons (EnvOK.inout (EnvOK.cons (EnvOK.body (EnvOK.check (EnvOK.cons (EnvOK.nil _) qqI) qc) Tryz.func100) qdn) qj9) qoN) qtu) Tryz.func103) qoS)) mixed Tryz.func42 recordText_con qkw (by kernel_rfl) (fun h=>by first | rfl | cases h) (fun g hg=>by cases hg) qqM
def qdo:Ann:=(.two .nil (.two (.two (.two .nil (.two (.two (.two .nil (.two .nil (.two .nil (.two (.frz [0,1,2,7,8,9] (.join ⟨[],[(2,Zt6),(3,Zt63)],[]⟩ (.any 213 42 (.ord 0 12 .nil (.alt (.ord 1 0 .nil (.ord 2 0 .nil (.ord 3 0 .nil (.ord 4 0 .nil (.ord 5 0 .nil (.ord 6 0 .nil (.ord 7 0 .nil .nil))))))) (.ord 2 0 .nil (.alt (.ord 1 0 .nil (.ord 3 0 .nil (.ord 4 0 .nil (.ord 5 0 .nil (.ord 6 0 .nil (.ord 7 0 .nil .nil)))))) (.ord 3 0 .nil (.ord 1 0 .nil (.ord 4 0 .nil (.ord 5 0 .nil (.ord 6 0 .nil (.ord 7 0 .nil .nil))))))))))))) .nil)))) .nil) (.two .nil (.two .nil (.two .nil (.two (.any 373 138 (.ord 0 52 .nil (.ord 2 51 .nil (.ord 4 0 .nil (.ord 5 0 .nil (.ord 1 0 .nil (.ord 3 0 .nil (.ord 6 0 .nil (.ord 7 0 .nil (.ord 8 0 .nil .nil)))))))))) (.two (.tail 6 .nil) .nil))))))) .nil) (.sel 14 1000010 (.two .nil (.two .nil (.two .nil (.two (.join ⟨[1,4],[(5,.str),(6,Zt63)],[]⟩ (.any 2038 9 (.ord 1 1 .nil (.ord 2 0 .nil (.alt (.ord 0 0 .nil (.ord 3 0 .nil (.ord 4 0 .nil (.ord 5 0 .nil (.ord 6 0 .nil (.ord 7 0 .nil (.ord 8 0 .nil (.ord 9 0 .nil (.ord 10 0 .nil .nil))))))))) (.ord 3 0 .nil (.ord 4 0 .nil (.ord 0 0 .nil (.ord 5 0 .nil (.ord 6 0 .nil (.ord 7 0 .nil (.ord 8 0 .nil (.ord 9 0 .nil (.ord 10 0 .nil .nil)))))))))))))) (.two (.join ⟨[],[(0,.bool)],[]⟩ (.two (.two .nil (.two .nil (.two (.any 11247 1040 (.ord 0 0 .nil (.ord 1 0 .nil (.ord 2 0 .nil (.ord 3 999 .nil (.ord 5 0 .nil (.ord 6 0 .nil (.ord 7 0 .nil (.ord 8 0 .nil (.ord 9 2559 .nil (.ord 4 0 .nil (.ord 11 0 .nil (.ord 10 0 .nil (.ord 12 0 .nil (.ord 13 0 .nil (.ord 14 0 .nil .nil)))))))))))))))) .nil))) .nil)) .nil))))) .nil)))
noncomputable def gamehalltopH10Plays_con:Con:=⟨[],true,[],.bool,fun x=>qbn,none⟩
noncomputable def qc3:Env:=(53,.con slicesClone_PremoveMove_con)::(52,.rd plainGameMoves_con)::(12,.body Tryz.f12)::(42,.con recordText_con)::(11,.io matchMatchDo_con)::(50,.io matchMatchOver_con)::(48,.con journalAppend_con)::(49,.con qg9)::(47,.con offerNew_con)::(46,.con clockCopy_con)::(44,.con clockStart_con)::(45,.con rulesCopy_con)::(159,.ck 197)::(17,.con placeBegin_con)::(43,.body Tryz.f43)::(9,.body Tryz.f9)::(41,.con gamehalltopH10Minute_con)::(10,.con gamehalltopH10Tic_con)::[]
theorem qhx (x:DL gamehalltopH10Plays_con.ps):gamehalltopH10Plays_con.φ x=denF Tryz.prog qc3 qdo Tryz.f8 gamehalltopH10Plays_con.ps gamehalltopH10Plays_con.one gamehalltopH10Plays_con.res gamehalltopH10Plays_con.ρ x:=by kernel_rfl
theorem qir:ConOK Tryz.prog 8 gamehalltopH10Plays_con :=
  qa (env:=qc3) ((EnvOK.cons (EnvOK.readonly (EnvOK.body (EnvOK.cons (EnvOK.inout (EnvOK.inout (EnvOK.cons (EnvOK.cons (EnvOK.cons (EnvOK.cons (EnvOK.cons (EnvOK.cons (EnvOK.check (EnvOK.cons (EnvOK.body (EnvOK.body (EnvOK.cons (EnvOK.cons (EnvOK.nil _) qeS) qht) Tryz.func9) Tryz.func43) qdn) qc) qgB) qhN) qiG) qlA) qnh) qcK) qcj) qfA) qtm) Tryz.func12) qaz) qM)) mixed Tryz.func8 gamehalltopH10Plays_con qdo (by kernel_rfl) (fun h=>by first | rfl | cases h) (fun g hg=>by cases hg) qhx
def qfx:Ann := .nil
noncomputable def refereeDecide_i_con:Con:=⟨[Zt17,Zt39,Zt55,Zt30],false,[.bool,Zt63],Zt56,fun x=>qam x.1 x.2.1 x.2.2.1 x.2.2.2.1,none⟩
noncomputable def qfj:Env:=(95,.con refereeDecide_con)::(94,.con refereeCheck_con)::(93,.con refereeReplay_con)::[]
theorem qll (x:DL refereeDecide_i_con.ps):refereeDecide_i_con.φ x=denF Tryz.prog qfj qfx Tryz.f34 refereeDecide_i_con.ps refereeDecide_i_con.one refereeDecide_i_con.res refereeDecide_i_con.ρ x:=by kernel_rfl
theorem qmf:ConOK Tryz.prog 34 refereeDecide_i_con :=
  qa (env:=qfj) ((EnvOK.cons (EnvOK.cons (EnvOK.cons (EnvOK.nil _) qie) qpJ) qoY)) mixed Tryz.func34 refereeDecide_i_con qfx (by kernel_rfl) (fun h=>by first | rfl | cases h) (fun g hg=>by cases hg) qll
def qcs:Ann:=(.ord 3 0 .nil (.ord 4 0 .nil (.ord 5 0 .nil (.ord 6 0 .nil (.ord 7 0 .nil (.ord 9 0 .nil (.ord 10 0 .nil (.ord 11 0 .nil .nil))))))))
def qcB:Ann:=(.two .nil (.two .nil (.two (.any 502 1 (.ord 1 5 .nil (.ord 2 0 .nil (.ord 0 0 .nil (.ord 3 0 (.two .nil (.two (.two (.two .nil (.two (.two (.two .nil (.two .nil (.two .nil (.two (.frz [1,2,3,9,10,11] (.join ⟨[],[(2,Zt6),(3,Zt63)],[]⟩ (.any 213 42 (.ord 0 12 .nil (.alt (.ord 1 0 .nil (.ord 2 0 .nil (.ord 3 0 .nil (.ord 4 0 .nil (.ord 5 0 .nil (.ord 6 0 .nil (.ord 7 0 .nil .nil))))))) (.ord 2 0 .nil (.alt (.ord 1 0 .nil (.ord 3 0 .nil (.ord 4 0 .nil (.ord 5 0 .nil (.ord 6 0 .nil (.ord 7 0 .nil .nil)))))) (.ord 3 0 .nil (.ord 1 0 .nil (.ord 4 0 .nil (.ord 5 0 .nil (.ord 6 0 .nil (.ord 7 0 .nil .nil))))))))))))) .nil)))) .nil) (.two .nil (.two .nil (.two .nil (.two (.any 373 138 (.ord 0 52 .nil (.ord 2 51 .nil (.ord 4 0 .nil (.ord 5 0 .nil (.ord 1 0 .nil (.ord 3 0 .nil (.ord 6 0 .nil (.ord 7 0 .nil (.ord 8 0 .nil .nil)))))))))) (.two (.tail 6 .nil) .nil))))))) .nil) (.sel 16 1000010 (.two .nil (.two (.two .nil (.join ⟨[8],[],[(18,some (.box Zt2)),(20,none),(21,none),(22,none)]⟩ (.two (.loop ⟨[8,24,25],[(26,Zt63)],[(18,some (.box Zt2)),(20,none),(21,none),(22,none)]⟩ .nil) .nil))) .nil)) (.two .nil (.two (.two .nil (.two (.loop ⟨[],[(1000000,.nil)],[]⟩ .nil) .nil)) .nil))))) (.ord 4 0 .nil (.ord 5 0 .nil (.ord 6 0 .nil (.ord 7 0 .nil (.ord 8 0 .nil .nil)))))))))) (.sel 16 1000010 (.two .nil (.two .nil (.two (.two (.two .nil (.two .nil (.two (.any 11247 1040 (.ord 0 0 .nil (.ord 1 0 .nil (.ord 2 0 .nil (.ord 3 999 .nil (.ord 5 0 .nil (.ord 6 0 .nil (.ord 7 0 .nil (.ord 8 0 .nil (.ord 9 2559 .nil (.ord 4 0 .nil (.ord 11 0 .nil (.ord 10 0 .nil (.ord 12 0 .nil (.ord 13 0 .nil (.ord 14 0 .nil .nil)))))))))))))))) .nil))) .nil) (.two (.join ⟨[2,7,8],[(10,Zt63),(11,Zt63)],[]⟩ (.any 3318 265 (.ord 1 0 .nil (.ord 2 259 .nil (.alt (.ord 0 0 .nil (.alt (.ord 3 0 .nil (.ord 4 0 .nil (.ord 5 0 .nil (.ord 6 0 .nil (.ord 7 0 .nil (.ord 8 0 .nil (.ord 9 0 .nil (.ord 10 0 .nil (.ord 11 0 .nil .nil))))))))) (.ord 8 0 .nil qcs))) (.ord 8 0 .nil (.ord 0 0 .nil qcs))))))) (.two (.any 8190 1 (.ord 1 125 .nil (.ord 2 0 .nil (.ord 3 0 .nil (.ord 4 0 .nil (.ord 5 0 .nil (.ord 6 0 .nil (.ord 0 0 .nil (.ord 7 0 .nil (.ord 8 0 .nil (.ord 9 0 .nil (.ord 10 0 .nil (.ord 11 0 .nil (.ord 12 0 .nil .nil)))))))))))))) (.two (.any 502 9 (.ord 1 5 .nil (.ord 2 0 .nil (.ord 0 0 .nil (.ord 3 0 .nil (.ord 4 0 .nil (.ord 5 0 .nil (.ord 6 0 .nil (.ord 7 0 .nil (.ord 8 0 .nil .nil)))))))))) (.two .nil (.two (.two .nil (.joinE ⟨[8,14],[],[]⟩ (.two (.loop ⟨[2,7,8,14,95,96],[(97,Zt63)],[]⟩ (.two .nil (.two .nil (.two (.two (.two .nil (.two (.any 2046 1 (.ord 1 29 .nil (.ord 2 0 .nil (.ord 3 0 .nil (.ord 4 0 .nil (.ord 0 0 .nil (.ord 5 0 .nil (.ord 6 0 .nil (.ord 7 0 .nil (.ord 8 0 .nil (.ord 9 0 .nil (.ord 10 0 .nil .nil)))))))))))) .nil)) .nil) .nil)))) .nil))) .nil)))))))) .nil))))
noncomputable def gamehalltopTopReferee_con:Con:=⟨[Zt39,(.sl Zt30)],true,[],.bool,fun x=>qch x.1 x.2.1,none⟩
noncomputable def qcF:Env:=(36,.con gamehalltopH10Alike_con)::(35,.con refereeTrace_con)::(34,.con refereeDecide_i_con)::(20,.con plainRun_con)::(53,.con slicesClone_PremoveMove_con)::(52,.rd plainGameMoves_con)::(12,.body Tryz.f12)::(91,.con slicesClone_JournalEntry_con)::(30,.body Tryz.f30)::(11,.io matchMatchDo_con)::(50,.io matchMatchOver_con)::(48,.con journalAppend_con)::(49,.con qg9)::(47,.con offerNew_con)::(46,.con clockCopy_con)::(44,.con clockStart_con)::(45,.con rulesCopy_con)::(159,.ck 197)::(17,.con placeBegin_con)::(43,.body Tryz.f43)::(9,.body Tryz.f9)::(33,.body Tryz.f33)::(10,.con gamehalltopH10Tic_con)::(8,.con gamehalltopH10Plays_con)::[]
theorem qgM (x:DL gamehalltopTopReferee_con.ps):gamehalltopTopReferee_con.φ x=denF Tryz.prog qcF qcB Tryz.f6 gamehalltopTopReferee_con.ps gamehalltopTopReferee_con.one gamehalltopTopReferee_con.res gamehalltopTopReferee_con.ρ x:=by kernel_rfl
theorem gamehalltopTopReferee_ok:ConOK Tryz.prog 6 gamehalltopTopReferee_con :=
  qa (env:=qcF) ((EnvOK.cons (EnvOK.cons (EnvOK.cons (EnvOK.cons (EnvOK.cons (EnvOK.readonly (EnvOK.body (EnvOK.cons (EnvOK.body (EnvOK.inout (EnvOK.inout (EnvOK.cons (EnvOK.cons (EnvOK.cons (EnvOK.cons (EnvOK.cons (EnvOK.cons (EnvOK.check (EnvOK.cons (EnvOK.body (EnvOK.body (EnvOK.body (EnvOK.cons (EnvOK.cons (EnvOK.nil _) qir) qeS) Tryz.func33) Tryz.func9) Tryz.func43) qdn) qc) qgB) qhN) qiG) qlA) qnh) qcK) qcj) qfA) Tryz.func30) qce) Tryz.func12) qaz) qM) qpK) qmf) qqo) qit)) mixed Tryz.func6 gamehalltopTopReferee_con qcB (by kernel_rfl) (fun h=>by first | rfl | cases h) (fun g hg=>by cases hg) qgM
end Go.Proofs.YtijkabgijfdpfaaGreatDoor
