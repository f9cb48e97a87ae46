/- Several texts in one: TextC, RecordC, HtenC, BookC, TopBookC. -/
import Derived.Test.YtijkabgijfdpfaaGreatDoorMAA
import Derived.Test.YtijkabgijfdpfaaGreatDoorMAH
import Derived.Test.YtijkabgijfdpfaaGreatDoorMAE
import Derived.Test.YtijkabgijfdpfaaGreatDoorMatchC
namespace Go.Proofs.YtijkabgijfdpfaaGreatDoor
open Go.Den
set_option linter.unusedVariables false
set_option maxRecDepth 100000
def qfR:Ann := .nil
noncomputable def movetextLetter_con:Con:=⟨[Zt12,Zt62],true,[],.str,fun x=>qdQ x.1 x.2.1,none⟩
noncomputable def qgf:Env:=[]
theorem qmJ (x:DL movetextLetter_con.ps):movetextLetter_con.φ x=denF Tryz.prog qgf qfR Tryz.f244 movetextLetter_con.ps movetextLetter_con.one movetextLetter_con.res movetextLetter_con.ρ x:=by kernel_rfl
theorem qnL:ConOK Tryz.prog 244 movetextLetter_con :=
  qa (env:=qgf) ((EnvOK.nil _)) mixed Tryz.func244 movetextLetter_con qfR (by kernel_rfl) (fun h=>by first | rfl | cases h) (fun g hg=>by cases hg) qmJ
def qfF:Ann := .nil
noncomputable def movetextColumn_con:Con:=⟨[Zt12,Zt62],true,[],.str,fun x=>qdI x.1 x.2.1,none⟩
noncomputable def qfG:Env:=[]
theorem qml (x:DL movetextColumn_con.ps):movetextColumn_con.φ x=denF Tryz.prog qfG qfF Tryz.f281 movetextColumn_con.ps movetextColumn_con.one movetextColumn_con.res movetextColumn_con.ρ x:=by kernel_rfl
theorem qgD:ConOK Tryz.prog 281 movetextColumn_con :=
  qa (env:=qfG) ((EnvOK.nil _)) mixed Tryz.func281 movetextColumn_con qfF (by kernel_rfl) (fun h=>by first | rfl | cases h) (fun g hg=>by cases hg) qml
def qiq:Ann := .nil
noncomputable def movetextRow_con:Con:=⟨[Zt12,Zt62],true,[],.str,fun x=>qhO x.1 x.2.1,none⟩
noncomputable def qiV:Env:=[]
theorem qqn (x:DL movetextRow_con.ps):movetextRow_con.φ x=denF Tryz.prog qiV qiq Tryz.f282 movetextRow_con.ps movetextRow_con.one movetextRow_con.res movetextRow_con.ρ x:=by kernel_rfl
theorem qku:ConOK Tryz.prog 282 movetextRow_con :=
  qa (env:=qiV) ((EnvOK.nil _)) mixed Tryz.func282 movetextRow_con qiq (by kernel_rfl) (fun h=>by first | rfl | cases h) (fun g hg=>by cases hg) qqn
def qfU:Ann := .nil
noncomputable def movetextSquare_con:Con:=⟨[Zt12,Zt62],true,[],.str,fun x=>qdR x.1 x.2.1,none⟩
noncomputable def qgp:Env:=(282,.con movetextRow_con)::(281,.con movetextColumn_con)::[]
theorem qmH (x:DL movetextSquare_con.ps):movetextSquare_con.φ x=denF Tryz.prog qgp qfU Tryz.f245 movetextSquare_con.ps movetextSquare_con.one movetextSquare_con.res movetextSquare_con.ρ x:=by kernel_rfl
theorem qg4:ConOK Tryz.prog 245 movetextSquare_con :=
  qa (env:=qgp) ((EnvOK.cons (EnvOK.cons (EnvOK.nil _) qgD) qku)) mixed Tryz.func245 movetextSquare_con qfU (by kernel_rfl) (fun h=>by first | rfl | cases h) (fun g hg=>by cases hg) qmH
def qhY:Ann:=(.two .nil (.two .nil (.two (.two .nil (.join ⟨[4,7,9],[],[(3,some (.box Zt57))]⟩ (.two (.loop ⟨[4,5,7,9,13,14],[(15,Zt62)],[(3,some (.box Zt57))]⟩ (.two .nil (.two .nil (.two (.two (.two .nil (.two .nil (.join ⟨[4,5,7,9,13,14,15],[],[(3,some (.box Zt57)),(4,none)]⟩ .nil))) .nil) .nil)))) .nil))) (.two .nil (.two (.two (.two .nil (.two .nil (.two (.two (.two .nil (.two (.two (.two .nil (.two (.two (.two .nil (.two (.two .nil (.joinE ⟨[],[],[]⟩ (.two (.loop ⟨[0,1,7],[(8,Zt62)],[]⟩ .nil) .nil))) .nil)) .nil) .nil)) .nil) .nil)) .nil) (.two .nil (.two (.two (.two .nil (.two (.two (.two .nil (.two (.two (.two .nil (.two (.two .nil (.joinE ⟨[],[],[]⟩ (.two (.loop ⟨[0,1,7],[(8,Zt62)],[]⟩ .nil) .nil))) .nil)) .nil) .nil)) .nil) .nil)) .nil) .nil))))) .nil) .nil)))))
noncomputable def movetextMark_con:Con:=⟨[Zt12,Zt29,Zt50,Zt51],true,[],.str,fun x=>qou x.1 x.2.1 x.2.2.1 x.2.2.2.1,none⟩
noncomputable def qhX:Env:=(245,.con movetextSquare_con)::(282,.con movetextRow_con)::(285,.body Tryz.f285)::(281,.con movetextColumn_con)::(284,.body Tryz.f284)::(187,.body Tryz.f187)::(133,.body Tryz.f133)::(283,.body Tryz.f283)::(159,.ck 197)::[]
theorem qo7 (x:DL movetextMark_con.ps):movetextMark_con.φ x=denF Tryz.prog qhX qhY Tryz.f246 movetextMark_con.ps movetextMark_con.one movetextMark_con.res movetextMark_con.ρ x:=by kernel_rfl
theorem qp7:ConOK Tryz.prog 246 movetextMark_con :=
  qa (env:=qhX) ((EnvOK.cons (EnvOK.cons (EnvOK.body (EnvOK.cons (EnvOK.body (EnvOK.body (EnvOK.body (EnvOK.body (EnvOK.check (EnvOK.nil _) qb) Tryz.func283) Tryz.func133) Tryz.func187) Tryz.func284) qgD) Tryz.func285) qku) qg4)) mixed Tryz.func246 movetextMark_con qhY (by kernel_rfl) (fun h=>by first | rfl | cases h) (fun g hg=>by cases hg) qo7
def qkL:Ann:=(.two .nil (.two .nil (.two .nil (.two .nil (.two (.two .nil (.join ⟨[4,7,9],[(10,.str)],[]⟩ .nil)) (.two .nil (.two (.two .nil (.join ⟨[],[(10,.str)],[]⟩ .nil)) .nil)))))))
noncomputable def movetextOf_con:Con:=⟨[Zt12,Zt29,Zt50,Zt51],true,[],.str,fun x=>qjY x.1 x.2.1 x.2.2.1 x.2.2.2.1,none⟩
noncomputable def qkM:Env:=(246,.con movetextMark_con)::(245,.con movetextSquare_con)::(244,.con movetextLetter_con)::[]
theorem qqQ (x:DL movetextOf_con.ps):movetextOf_con.φ x=denF Tryz.prog qkM qkL Tryz.f212 movetextOf_con.ps movetextOf_con.one movetextOf_con.res movetextOf_con.ρ x:=by kernel_rfl
theorem qtc:ConOK Tryz.prog 212 movetextOf_con :=
  qa (env:=qkM) ((EnvOK.cons (EnvOK.cons (EnvOK.cons (EnvOK.nil _) qnL) qg4) qp7)) mixed Tryz.func212 movetextOf_con qkL (by kernel_rfl) (fun h=>by first | rfl | cases h) (fun g hg=>by cases hg) qqQ
def qe8:Ann:=(.two .nil (.two (.two .nil (.joinE ⟨[],[],[]⟩ (.two (.loop ⟨[0,1,7],[(8,Zt62)],[]⟩ .nil) .nil))) .nil))
noncomputable def recordPrintable_con:Con:=⟨[.str,.str],true,[],.bool,fun x=>qbS x.1 x.2.1,none⟩
noncomputable def qfB:Env:=(223,.con qkK)::[]
theorem qlH (x:DL recordPrintable_con.ps):recordPrintable_con.φ x=denF Tryz.prog qfB qe8 Tryz.f175 recordPrintable_con.ps recordPrintable_con.one recordPrintable_con.res recordPrintable_con.ρ x:=by kernel_rfl
theorem qfX:ConOK Tryz.prog 175 recordPrintable_con :=
  qa (env:=qfB) ((EnvOK.cons (EnvOK.nil _) qtD)) mixed Tryz.func175 recordPrintable_con qe8 (by kernel_rfl) (fun h=>by first | rfl | cases h) (fun g hg=>by cases hg) qlH
def qkU:Ann:=(.two .nil (.two (.two .nil (.joinE ⟨[],[],[]⟩ (.two (.loop ⟨[1,6,7],[(8,Zt62)],[]⟩ (.two .nil (.two .nil (.two (.two (.two .nil (.two (.two .nil (.two .nil (.two .nil (.two .nil (.two .nil (.two .nil (.two (.two (.two .nil (.two (.two (.two .nil (.two (.two .nil (.joinE ⟨[],[],[]⟩ (.two (.loop ⟨[0,1,7],[(8,Zt62)],[]⟩ .nil) .nil))) .nil)) .nil) .nil)) .nil) .nil))))))) .nil)) .nil) .nil)))) .nil))) .nil))
noncomputable def recordTags_con:Con:=⟨[Zt18],true,[],Zt62,fun x=>qjZ x.1,none⟩
noncomputable def qkD:Env:=(177,.body Tryz.f177)::(224,.body Tryz.f224)::(176,.body Tryz.f176)::(175,.con recordPrintable_con)::(130,.con rulesName_con)::(159,.ck 197)::[]
theorem qq5 (x:DL recordTags_con.ps):recordTags_con.φ x=denF Tryz.prog qkD qkU Tryz.f120 recordTags_con.ps recordTags_con.one recordTags_con.res recordTags_con.ρ x:=by kernel_rfl
theorem qtp:ConOK Tryz.prog 120 recordTags_con :=
  qa (env:=qkD) ((EnvOK.body (EnvOK.body (EnvOK.body (EnvOK.cons (EnvOK.cons (EnvOK.check (EnvOK.nil _) qb) qoP) qfX) Tryz.func176) Tryz.func224) Tryz.func177)) mixed Tryz.func120 recordTags_con qkU (by kernel_rfl) (fun h=>by first | rfl | cases h) (fun g hg=>by cases hg) qq5
def qg9:Ann := .nil
noncomputable def recordComment_con:Con:=⟨[.str],true,[],Zt62,fun x=>qdi x.1,none⟩
noncomputable def qg2:Env:=(175,.con recordPrintable_con)::[]
theorem qnU (x:DL recordComment_con.ps):recordComment_con.φ x=denF Tryz.prog qg2 qg9 Tryz.f121 recordComment_con.ps recordComment_con.one recordComment_con.res recordComment_con.ρ x:=by kernel_rfl
theorem qhW:ConOK Tryz.prog 121 recordComment_con :=
  qa (env:=qg2) ((EnvOK.cons (EnvOK.nil _) qfX)) mixed Tryz.func121 recordComment_con qg9 (by kernel_rfl) (fun h=>by first | rfl | cases h) (fun g hg=>by cases hg) qnU
def qoS:Ann:=(.two .nil (.two (.two .nil (.joinE ⟨[1],[],[]⟩ (.two (.loop ⟨[1,3],[(7,Zt62)],[]⟩ .nil) .nil))) .nil))
noncomputable def recordOn_con:Con:=⟨[Zt18,Zt62,Zt62],true,[],.bool,fun x=>qlY x.1 x.2.1 x.2.2.1,none⟩
noncomputable def qor:Env:=[]
theorem qvv (x:DL recordOn_con.ps):recordOn_con.φ x=denF Tryz.prog qor qoS Tryz.f178 recordOn_con.ps recordOn_con.one recordOn_con.res recordOn_con.ρ x:=by kernel_rfl
theorem qv7:ConOK Tryz.prog 178 recordOn_con :=
  qa (env:=qor) ((EnvOK.nil _)) mixed Tryz.func178 recordOn_con qoS (by kernel_rfl) (fun h=>by first | rfl | cases h) (fun g hg=>by cases hg) qvv
def qmz:Ann:=(.two .nil (.two .nil (.two (.two .nil (.join ⟨[],[(5,Zt48)],[]⟩ (.two (.loop ⟨[2],[(5,Zt48),(6,Zt62)],[]⟩ .nil) .nil))) (.two (.two (.two .nil (.join ⟨[],[],[(1,some (.arr 41 Zt51))]⟩ (.two (.loop ⟨[0],[(2,Zt62),(3,Zt62)],[(1,some (.arr 41 Zt51))]⟩ (.two .nil (.two (.two (.any 24575 0 (.ord 0 0 .nil (.ord 1 0 .nil (.ord 2 0 .nil (.ord 3 0 .nil (.ord 4 0 .nil (.ord 5 0 .nil (.ord 6 0 .nil (.ord 7 3967 .nil (.ord 8 0 .nil (.ord 9 0 .nil (.ord 10 0 .nil (.ord 11 0 .nil (.ord 12 0 .nil (.ord 13 0 .nil (.ord 14 0 .nil (.ord 15 0 .nil .nil))))))))))))))))) .nil) .nil))) .nil))) .nil) .nil))))
noncomputable def recordWay_con:Con:=⟨[Zt18,Zt62],true,[],Zt48,fun x=>qah x.1 x.2.1,none⟩
noncomputable def qmQ:Env:=(123,.body Tryz.f123)::[]
theorem qsE (x:DL recordWay_con.ps):recordWay_con.φ x=denF Tryz.prog qmQ qmz Tryz.f58 recordWay_con.ps recordWay_con.one recordWay_con.res recordWay_con.ρ x:=by kernel_rfl
theorem qjf:ConOK Tryz.prog 58 recordWay_con :=
  qa (env:=qmQ) ((EnvOK.body (EnvOK.nil _) Tryz.func123)) mixed Tryz.func58 recordWay_con qmz (by kernel_rfl) (fun h=>by first | rfl | cases h) (fun g hg=>by cases hg) qsE
def qc7:Ann:=(.ord 4 0 .nil (.ord 5 0 .nil (.ord 6 0 .nil (.ord 7 0 .nil (.ord 8 0 .nil (.ord 10 0 .nil (.ord 11 0 .nil (.ord 12 0 .nil .nil))))))))
def qjn:Ann:=(.alt (.ord 4 0 .nil (.ord 5 0 .nil (.ord 6 0 .nil (.ord 7 0 .nil (.ord 8 0 .nil (.ord 9 0 .nil (.ord 10 0 .nil (.ord 11 0 .nil (.ord 12 0 .nil .nil))))))))) (.ord 9 0 .nil qc7))
def qks:Ann:=(.two .nil (.two .nil (.two .nil (.two .nil (.two (.two .nil (.join ⟨[2,3,4,5,9],[],[(0,some (.arr 3 Zt62))]⟩ .nil)) (.two (.two .nil (.joinE ⟨[2,3,4,5,9],[],[]⟩ (.two (.loop ⟨[2,3,4,5,9,54,55],[(56,Zt62)],[]⟩ (.two .nil (.two .nil (.two (.joinE ⟨[2,3,4,5,9,54,55,56],[],[]⟩ .nil) .nil)))) .nil))) (.two (.two (.two (.two .nil (.two (.two (.two .nil (.two (.two .nil (.joinE ⟨[],[],[]⟩ (.two (.loop ⟨[0,1,7],[(8,Zt62)],[]⟩ .nil) .nil))) .nil)) .nil) .nil)) .nil) (.sel 4 1000005 (.join ⟨[2,3,4,5],[],[(0,some (.arr 3 Zt62))]⟩ .nil) .nil)) (.two (.two (.join ⟨[2,3],[(15,Zt62)],[]⟩ (.any 6631 512 (.ord 1 517 .nil (.ord 2 0 .nil (.alt (.ord 0 0 .nil (.alt (.ord 3 0 .nil qjn) (.ord 9 0 .nil (.ord 3 0 .nil qc7)))) (.alt (.ord 3 0 .nil (.ord 0 526 .nil qjn)) (.ord 9 0 .nil (.alt (.ord 0 0 .nil (.ord 3 0 .nil qc7)) (.ord 3 0 .nil (.ord 0 0 .nil qc7)))))))))) .nil) .nil))))))))
noncomputable def recordNode_con:Roc:=⟨3,3,Zt62,[Zt12,Zt18,Zt62],true,[],Zt62,fun x=>qjJ x.1 x.2.1 x.2.2.1 x.2.2.2.1⟩
noncomputable def qkE:Env:=(20,.con plainRun_con)::(58,.con recordWay_con)::(180,.body Tryz.f180)::(225,.body Tryz.f225)::(179,.body Tryz.f179)::(178,.con recordOn_con)::(121,.con recordComment_con)::(159,.ck 197)::[]
theorem qq8 (x:DL (Zt59::[Zt12,Zt18,Zt62])):recordNode_con.φ x=denRO Tryz.prog qkE qks Tryz.f122 3 3 Zt62 [Zt12,Zt18,Zt62] true [] Zt62 x:=by kernel_rfl
theorem qsR:RocOK Tryz.prog 122 recordNode_con :=
  qyn (env:=qkE) ((EnvOK.cons (EnvOK.cons (EnvOK.body (EnvOK.body (EnvOK.body (EnvOK.cons (EnvOK.cons (EnvOK.check (EnvOK.nil _) qb) qhW) qv7) Tryz.func179) Tryz.func225) Tryz.func180) qjf) qhR)) mixed Tryz.func122 recordNode_con qks (by kernel_rfl) (fun h=>by first | rfl | cases h) qq8
def qiv:Ann:=(.two .nil (.two .nil (.two .nil (.two .nil (.two .nil (.two .nil (.two .nil (.two (.two .nil (.joinE ⟨[],[],[(2,some (.arr 3 Zt62))]⟩ (.two (.loop ⟨[2,3,8,51],[(52,Zt62)],[(2,some (.arr 3 Zt62))]⟩ .nil) .nil))) .nil))))))))
noncomputable def recordCheck_con:Con:=⟨[Zt12,Zt18],true,[],Zt62,fun x=>qdF x.1 x.2.1,none⟩
noncomputable def qir:Env:=(122,.ro recordNode_con)::(121,.con recordComment_con)::(120,.con recordTags_con)::(67,.con rulesCheck_con)::[]
theorem qqB (x:DL recordCheck_con.ps):recordCheck_con.φ x=denF Tryz.prog qir qiv Tryz.f56 recordCheck_con.ps recordCheck_con.one recordCheck_con.res recordCheck_con.ρ x:=by kernel_rfl
theorem qgu:ConOK Tryz.prog 56 recordCheck_con :=
  qa (env:=qir) ((EnvOK.rowio (EnvOK.cons (EnvOK.cons (EnvOK.cons (EnvOK.nil _) qhq) qtp) qhW) qsR)) mixed Tryz.func56 recordCheck_con qiv (by kernel_rfl) (fun h=>by first | rfl | cases h) (fun g hg=>by cases hg) qqB
def qkT:Ann:=(.two .nil (.two .nil (.two (.two .nil (.join ⟨[],[(5,Zt59)],[]⟩ (.two (.loop ⟨[1,9,10],[(5,Zt59),(11,Zt62)],[]⟩ (.two .nil (.two .nil (.two (.two (.two .nil (.two .nil (.join ⟨[1,9,10,11],[(5,Zt59)],[(1,none)]⟩ .nil))) .nil) .nil)))) .nil))) .nil)))
noncomputable def recordKids_con:Con:=⟨[Zt18,Zt62],true,[],Zt59,fun x=>qdy x.1 x.2.1,none⟩
noncomputable def qkj:Env:=(159,.ck 197)::[]
theorem qqW (x:DL recordKids_con.ps):recordKids_con.φ x=denF Tryz.prog qkj qkT Tryz.f57 recordKids_con.ps recordKids_con.one recordKids_con.res recordKids_con.ρ x:=by kernel_rfl
theorem qlJ:ConOK Tryz.prog 57 recordKids_con :=
  qa (env:=qkj) ((EnvOK.check (EnvOK.nil _) qb)) mixed Tryz.func57 recordKids_con qkT (by kernel_rfl) (fun h=>by first | rfl | cases h) (fun g hg=>by cases hg) qqW
def qdV:Ann := .nil
noncomputable def gamehalltopH10Tic_con:Con:=⟨[],true,[],Zt10,fun x=>qcr,some fun x=>gamehalltopH10Tic⟩
noncomputable def qea:Env:=(159,.ck 197)::[]
theorem qjv (x:DL gamehalltopH10Tic_con.ps):gamehalltopH10Tic_con.φ x=denF Tryz.prog qea qdV Tryz.f10 gamehalltopH10Tic_con.ps gamehalltopH10Tic_con.one gamehalltopH10Tic_con.res gamehalltopH10Tic_con.ρ x:=by kernel_rfl
theorem qj4:ConOK Tryz.prog 10 gamehalltopH10Tic_con :=
  qa (env:=qea) ((EnvOK.check (EnvOK.nil _) qb)) mixed Tryz.func10 gamehalltopH10Tic_con qdV (by kernel_rfl) (fun h=>by first | rfl | cases h) (fun g hg x=>by
    cases hg
    exact qkb ) qjv
def qcB:Ann := .nil
noncomputable def gamehalltopH10Minute_con:Con:=⟨[],true,[],Zt36,fun x=>qbp,some fun x=>gamehalltopH10Minute⟩
noncomputable def qcG:Env:=(159,.ck 197)::[]
theorem qgY (x:DL gamehalltopH10Minute_con.ps):gamehalltopH10Minute_con.φ x=denF Tryz.prog qcG qcB Tryz.f41 gamehalltopH10Minute_con.ps gamehalltopH10Minute_con.one gamehalltopH10Minute_con.res gamehalltopH10Minute_con.ρ x:=by kernel_rfl
theorem qhf:ConOK Tryz.prog 41 gamehalltopH10Minute_con :=
  qa (env:=qcG) ((EnvOK.check (EnvOK.nil _) qb)) mixed Tryz.func41 gamehalltopH10Minute_con qcB (by kernel_rfl) (fun h=>by first | rfl | cases h) (fun g hg x=>by
    cases hg
    exact qhP ) qgY
def qfv:Ann:=(.two .nil (.two (.any 6290431 2098176 (.ord 0 0 .nil (.ord 1 0 .nil (.ord 2 0 .nil (.ord 3 1048567 .nil (.ord 4 1048559 .nil (.ord 5 0 .nil (.ord 6 0 .nil (.ord 7 0 .nil (.ord 8 1047295 .nil (.ord 9 1047039 .nil (.ord 11 0 .nil (.ord 12 0 .nil (.ord 13 0 .nil (.ord 14 0 .nil (.ord 15 98303 .nil (.ord 16 0 .nil (.ord 17 0 .nil (.ord 18 0 .nil (.ord 19 524287 .nil (.ord 10 0 .nil (.ord 20 0 .nil (.ord 21 0 .nil (.ord 22 0 .nil .nil)))))))))))))))))))))))) (.two (.two .nil (.two .nil (.join ⟨[],[(7,Zt61)],[(3,none)]⟩ .nil))) .nil)))
noncomputable def recordWriterOne_con:Ioc:=⟨Zt8,[Zt29,Zt62],true,[],Zt61,fun x=>qaU x.1 x.2.1 x.2.2.1⟩
noncomputable def qfh:Env:=(212,.con movetextOf_con)::(137,.con movesList_con)::[]
theorem qle (x:DL (Zt8::[Zt29,Zt62])):recordWriterOne_con.φ x=denIO Tryz.prog qfh qfv Tryz.f161 Zt8 [Zt29,Zt62] true [] Zt61 x:=by kernel_rfl
theorem qlU:IocOK Tryz.prog 161 recordWriterOne_con :=
  qau (env:=qfh) ((EnvOK.cons (EnvOK.cons (EnvOK.nil _) qdZ) qtc)) mixed Tryz.func161 recordWriterOne_con qfv (by kernel_rfl) (fun h=>by first | rfl | cases h) qle
def qZ:Ann:=(.ord 10 0 .nil (.ord 11 0 .nil (.ord 12 0 .nil .nil)))
def qen:Ann:=(.two .nil (.two .nil (.two .nil (.two .nil (.two (.tail 5 .nil) (.two (.two .nil (.join ⟨[3,7,8],[(9,Zt61)],[(0,some (.box Zt9)),(4,none)]⟩ (.two (.loop ⟨[3,4,7,8,30,31],[(9,Zt61),(32,Zt62)],[(0,some (.box Zt9)),(4,none)]⟩ (.two .nil (.two .nil (.two (.two (.two .nil (.two (.join ⟨[3,4,7,8,9,30,31,32],[(12,Zt61)],[(0,some (.box Zt9))]⟩ (.any 2423 0 (.ord 0 374 .nil (.ord 1 373 .nil (.ord 2 0 .nil (.ord 5 0 .nil (.ord 6 0 .nil (.ord 8 0 .nil (.alt (.ord 3 0 .nil (.alt (.ord 4 0 .nil (.ord 7 0 (.two .nil (.two (.tail 14 .nil) .nil)) (.ord 9 0 .nil (.ord 10 0 .nil (.ord 11 0 .nil .nil))))) (.ord 7 0 (.two .nil (.two (.tail 14 .nil) .nil)) (.ord 4 0 .nil (.ord 9 0 .nil (.ord 10 0 .nil (.ord 11 0 .nil .nil))))))) (.ord 4 0 .nil (.ord 3 0 .nil (.ord 7 0 (.two .nil (.two (.tail 14 .nil) .nil)) (.ord 9 0 .nil (.ord 10 0 .nil (.ord 11 0 .nil .nil))))))))))))))) .nil)) .nil) .nil)))) .nil))) (.two (.join ⟨[],[(6,Zt61)],[(0,some (.box Zt9)),(5,none)]⟩ (.any 5055 0 (.ord 0 0 .nil (.ord 2 0 .nil (.ord 3 0 .nil (.ord 4 0 .nil (.ord 5 927 .nil (.ord 7 0 .nil (.ord 8 0 .nil (.alt (.ord 1 0 .nil (.alt (.ord 6 0 (.two .nil (.two (.tail 14 .nil) .nil)) (.ord 9 0 .nil qZ)) (.ord 9 0 .nil (.ord 6 0 (.two .nil (.two (.tail 14 .nil) .nil)) qZ)))) (.alt (.ord 6 0 (.two .nil (.two (.tail 14 .nil) .nil)) (.ord 1 1021 .nil (.ord 9 0 .nil qZ))) (.ord 9 0 .nil (.alt (.ord 1 0 .nil (.ord 6 0 (.two .nil (.two (.tail 14 .nil) .nil)) qZ)) (.ord 6 0 (.two .nil (.two (.tail 14 .nil) .nil)) (.ord 1 0 .nil qZ))))))))))))))) .nil)))))))
noncomputable def qd1:Ioc:=⟨Zt8,[Zt29,Zt62],true,[],Zt61,fun x=>qdx x.1 x.2.1 x.2.2.1⟩
noncomputable def qef (φ:DL (Zt8::[Zt29,Zt62])→Option (D Zt5)):Env:=(90,.con qjg)::(101,.io ⟨Zt8,[Zt29,Zt62],true,[],Zt61,φ⟩)::(63,.con movesMake_con)::(159,.ck 197)::(160,.body Tryz.f160)::(161,.io recordWriterOne_con)::(57,.con recordKids_con)::[]
theorem qiR (φ:DL (Zt8::[Zt29,Zt62])→Option (D Zt5)) (x:DL (Zt8::[Zt29,Zt62])):qab φ x=denIO Tryz.prog (qef φ) qen Tryz.f101 Zt8 [Zt29,Zt62] true [] Zt61 x:=by kernel_rfl
theorem qj5:IocOK Tryz.prog 101 qd1 :=
  ioc_fix (bx:=Zt8) (ps:=[Zt29,Zt62]) (ρ:=Zt61) (G:=qab) (by kernel_rfl) (fun h=>by first | rfl | cases h) fun φ hφ =>
  qau (env:=qef φ) ((EnvOK.cons (EnvOK.inout (EnvOK.cons (EnvOK.check (EnvOK.body (EnvOK.inout (EnvOK.cons (EnvOK.nil _) qlJ) qlU) Tryz.func160) qb) qgj) hφ) qty)) mixed Tryz.func101 ⟨Zt8,[Zt29,Zt62],true,[],Zt61,qab φ⟩ qen (by kernel_rfl) (fun h=>by first | rfl | cases h) (qiR φ)
def qg8:Ann := .nil
noncomputable def recordResults_con:Con:=⟨[],true,[],(.st .str (.st .str (.st .str (.st .str .nil)))),fun x=>qfk,some fun x=>qU⟩
noncomputable def qgW:Env:=(159,.ck 197)::[]
theorem qnD (x:DL recordResults_con.ps):recordResults_con.φ x=denF Tryz.prog qgW qg8 Tryz.f102 recordResults_con.ps recordResults_con.one recordResults_con.res recordResults_con.ρ x:=by kernel_rfl
theorem qpa:ConOK Tryz.prog 102 recordResults_con :=
  qa (env:=qgW) ((EnvOK.check (EnvOK.nil _) qb)) mixed Tryz.func102 recordResults_con qg8 (by kernel_rfl) (fun h=>by first | rfl | cases h) (fun g hg x=>by
    cases hg
    exact qo9 ) qnD
def qkF:Ann:=(.two .nil (.two .nil (.two .nil (.two (.two .nil (.join ⟨[2,3,7],[],[(2,some (.bld 197 5))]⟩ (.two (.loop ⟨[2,3,7,20,21],[(22,Zt62)],[(2,some (.bld 197 5))]⟩ .nil) .nil))) (.two .nil (.two (.two .nil (.join ⟨[2,3,7],[(10,Zt61)],[]⟩ .nil)) (.two .nil (.two .nil (.two (.any 415 32 (.ord 0 0 .nil (.ord 1 13 .nil (.ord 2 0 .nil (.ord 3 0 .nil (.ord 4 0 .nil (.ord 5 0 .nil (.ord 6 0 .nil (.ord 7 0 .nil (.ord 8 0 .nil (.ord 9 0 .nil .nil))))))))))) .nil)))))))))
noncomputable def recordText_con:Con:=⟨[Zt12,Zt18],false,[.str,Zt62],(.st .str Zt58),fun x=>qgN x.1 x.2.1,none⟩
noncomputable def qkY:Env:=(104,.bs 197 5)::(103,.body Tryz.f103)::(90,.con qjg)::(102,.con recordResults_con)::(101,.io qd1)::(17,.con placeBegin_con)::(100,.body Tryz.f100)::(159,.ck 197)::(56,.con recordCheck_con)::[]
theorem qqU (x:DL recordText_con.ps):recordText_con.φ x=denF Tryz.prog qkY qkF Tryz.f42 recordText_con.ps recordText_con.one recordText_con.res recordText_con.ρ x:=by kernel_rfl
theorem qtK:ConOK Tryz.prog 42 recordText_con :=
  qa (env:=qkY) ((EnvOK.string (EnvOK.body (EnvOK.cons (EnvOK.cons (EnvOK.inout (EnvOK.cons (EnvOK.body (EnvOK.check (EnvOK.cons (EnvOK.nil _) qgu) qb) Tryz.func100) qbY) qj5) qpa) qty) Tryz.func103) qoW)) mixed Tryz.func42 recordText_con qkF (by kernel_rfl) (fun h=>by first | rfl | cases h) (fun g hg=>by cases hg) qqU
def qde:Ann:=(.two .nil (.two (.two (.two .nil (.two (.two (.two .nil (.two .nil (.two .nil (.two (.frz [0,1,2,7,8,9] (.join ⟨[],[(2,Zt3),(3,Zt62)],[]⟩ (.any 213 42 (.ord 0 12 .nil (.alt (.ord 1 0 .nil (.ord 2 0 .nil (.ord 3 0 .nil (.ord 4 0 .nil (.ord 5 0 .nil (.ord 6 0 .nil (.ord 7 0 .nil .nil))))))) (.ord 2 0 .nil (.alt (.ord 1 0 .nil (.ord 3 0 .nil (.ord 4 0 .nil (.ord 5 0 .nil (.ord 6 0 .nil (.ord 7 0 .nil .nil)))))) (.ord 3 0 .nil (.ord 1 0 .nil (.ord 4 0 .nil (.ord 5 0 .nil (.ord 6 0 .nil (.ord 7 0 .nil .nil))))))))))))) .nil)))) .nil) (.two .nil (.two .nil (.two .nil (.two (.any 373 138 (.ord 0 52 .nil (.ord 2 51 .nil (.ord 4 0 .nil (.ord 5 0 .nil (.ord 1 0 .nil (.ord 3 0 .nil (.ord 6 0 .nil (.ord 7 0 .nil (.ord 8 0 .nil .nil)))))))))) (.two (.tail 6 .nil) .nil))))))) .nil) (.sel 14 1000010 (.two .nil (.two .nil (.two .nil (.two (.join ⟨[1,4],[(5,.str),(6,Zt62)],[]⟩ (.any 2038 9 (.ord 1 1 .nil (.ord 2 0 .nil (.alt (.ord 0 0 .nil (.ord 3 0 .nil (.ord 4 0 .nil (.ord 5 0 .nil (.ord 6 0 .nil (.ord 7 0 .nil (.ord 8 0 .nil (.ord 9 0 .nil (.ord 10 0 .nil .nil))))))))) (.ord 3 0 .nil (.ord 4 0 .nil (.ord 0 0 .nil (.ord 5 0 .nil (.ord 6 0 .nil (.ord 7 0 .nil (.ord 8 0 .nil (.ord 9 0 .nil (.ord 10 0 .nil .nil)))))))))))))) (.two (.join ⟨[],[(0,.bool)],[]⟩ (.two (.two .nil (.two .nil (.two (.any 11247 1040 (.ord 0 0 .nil (.ord 1 0 .nil (.ord 2 0 .nil (.ord 3 999 .nil (.ord 5 0 .nil (.ord 6 0 .nil (.ord 7 0 .nil (.ord 8 0 .nil (.ord 9 2559 .nil (.ord 4 0 .nil (.ord 11 0 .nil (.ord 10 0 .nil (.ord 12 0 .nil (.ord 13 0 .nil (.ord 14 0 .nil .nil)))))))))))))))) .nil))) .nil)) .nil))))) .nil)))
noncomputable def gamehalltopH10Plays_con:Con:=⟨[],true,[],.bool,fun x=>qa9,none⟩
noncomputable def qcX:Env:=(53,.con slicesClone_PremoveMove_con)::(52,.rd plainGameMoves_con)::(12,.body Tryz.f12)::(42,.con recordText_con)::(11,.io matchMatchDo_con)::(50,.io matchMatchOver_con)::(48,.con journalAppend_con)::(49,.con qqN)::(47,.con offerNew_con)::(46,.con clockCopy_con)::(44,.con clockStart_con)::(45,.con rulesCopy_con)::(159,.ck 197)::(17,.con placeBegin_con)::(43,.body Tryz.f43)::(9,.body Tryz.f9)::(41,.con gamehalltopH10Minute_con)::(10,.con gamehalltopH10Tic_con)::[]
theorem qhA (x:DL gamehalltopH10Plays_con.ps):gamehalltopH10Plays_con.φ x=denF Tryz.prog qcX qde Tryz.f8 gamehalltopH10Plays_con.ps gamehalltopH10Plays_con.one gamehalltopH10Plays_con.res gamehalltopH10Plays_con.ρ x:=by kernel_rfl
theorem qii:ConOK Tryz.prog 8 gamehalltopH10Plays_con :=
  qa (env:=qcX) ((EnvOK.cons (EnvOK.readonly (EnvOK.body (EnvOK.cons (EnvOK.inout (EnvOK.inout (EnvOK.cons (EnvOK.cons (EnvOK.cons (EnvOK.cons (EnvOK.cons (EnvOK.cons (EnvOK.check (EnvOK.cons (EnvOK.body (EnvOK.body (EnvOK.cons (EnvOK.cons (EnvOK.nil _) qj4) qhf) Tryz.func9) Tryz.func43) qbY) qb) qoR) qtS) qt6) qwv) qxj) qh0) qgR) qpv) qtK) Tryz.func12) qbX) qaD)) mixed Tryz.func8 gamehalltopH10Plays_con qde (by kernel_rfl) (fun h=>by first | rfl | cases h) (fun g hg=>by cases hg) qhA
def qfx:Ann := .nil
noncomputable def cmpIsNaN_uint64_con:Con:=⟨[Zt63],true,[],.bool,fun x=>qdB x.1,some fun x=>qM x.1⟩
noncomputable def qfu:Env:=[]
theorem qlG (x:DL cmpIsNaN_uint64_con.ps):cmpIsNaN_uint64_con.φ x=denF Tryz.prog qfu qfx Tryz.f183 cmpIsNaN_uint64_con.ps cmpIsNaN_uint64_con.one cmpIsNaN_uint64_con.res cmpIsNaN_uint64_con.ρ x:=by kernel_rfl
theorem qm3:ConOK Tryz.prog 183 cmpIsNaN_uint64_con :=
  qa (env:=qfu) ((EnvOK.nil _)) mixed Tryz.func183 cmpIsNaN_uint64_con qfx (by kernel_rfl) (fun h=>by first | rfl | cases h) (fun g hg x=>by
    cases hg
    exact qmU _) qlG
def qei:Ann := .nil
noncomputable def cmpCompare_uint64_con:Con:=⟨[Zt63,Zt63],true,[],Zt62,fun x=>qcs x.1 x.2.1,some fun x=>qat x.1 x.2.1⟩
noncomputable def qd2:Env:=(183,.con cmpIsNaN_uint64_con)::[]
theorem qi1 (x:DL cmpCompare_uint64_con.ps):cmpCompare_uint64_con.φ x=denF Tryz.prog qd2 qei Tryz.f128 cmpCompare_uint64_con.ps cmpCompare_uint64_con.one cmpCompare_uint64_con.res cmpCompare_uint64_con.ρ x:=by kernel_rfl
theorem qj8:ConOK Tryz.prog 128 cmpCompare_uint64_con :=
  qa (env:=qd2) ((EnvOK.cons (EnvOK.nil _) qm3)) mixed Tryz.func128 cmpCompare_uint64_con qei (by kernel_rfl) (fun h=>by first | rfl | cases h) (fun g hg x=>by
    cases hg
    exact qj0 _ _) qi1
def qlT:Ann:=(.two .nil (.two (.tail 26 .nil) .nil))
noncomputable def bookOrder_con:Con:=⟨[Zt34,Zt34],true,[],Zt62,fun x=>qbl x.1 x.2.1,none⟩
noncomputable def qmM:Env:=(127,.con cmpOr_int_con)::(129,.con cmpCompare_int_con)::(128,.con cmpCompare_uint64_con)::[]
theorem qsS (x:DL bookOrder_con.ps):bookOrder_con.φ x=denF Tryz.prog qmM qlT Tryz.f66 bookOrder_con.ps bookOrder_con.one bookOrder_con.res bookOrder_con.ρ x:=by kernel_rfl
theorem qjt:ConOK Tryz.prog 66 bookOrder_con :=
  qa (env:=qmM) ((EnvOK.cons (EnvOK.cons (EnvOK.cons (EnvOK.nil _) qj8) qnB) quk)) mixed Tryz.func66 bookOrder_con qlT (by kernel_rfl) (fun h=>by first | rfl | cases h) (fun g hg=>by cases hg) qsS
def qlZ:Ann:=(.two .nil (.two .nil (.two (.two .nil (.joinE ⟨[],[],[]⟩ (.two (.loop ⟨[0,8,9],[(10,Zt62)],[]⟩ .nil) .nil))) .nil)))
noncomputable def bookCheck_con:Con:=⟨[Zt33],true,[],Zt62,fun x=>qgQ x.1,none⟩
noncomputable def qmr:Env:=(66,.con bookOrder_con)::(159,.ck 197)::[]
theorem qtP (x:DL bookCheck_con.ps):bookCheck_con.φ x=denF Tryz.prog qmr qlZ Tryz.f59 bookCheck_con.ps bookCheck_con.one bookCheck_con.res bookCheck_con.ρ x:=by kernel_rfl
theorem qiU:ConOK Tryz.prog 59 bookCheck_con :=
  qa (env:=qmr) ((EnvOK.cons (EnvOK.check (EnvOK.nil _) qb) qjt)) mixed Tryz.func59 bookCheck_con qlZ (by kernel_rfl) (fun h=>by first | rfl | cases h) (fun g hg=>by cases hg) qtP
def qca:Ann := .nil
noncomputable def slicesClone_BookEntry_con:Con:=⟨[Zt33],true,[],Zt31,fun x=>qaJ x.1,none⟩
noncomputable def qcj:Env:=[]
theorem qgw (x:DL slicesClone_BookEntry_con.ps):slicesClone_BookEntry_con.φ x=denF Tryz.prog qcj qca Tryz.f60 slicesClone_BookEntry_con.ps slicesClone_BookEntry_con.one slicesClone_BookEntry_con.res slicesClone_BookEntry_con.ρ x:=by kernel_rfl
theorem qgU:ConOK Tryz.prog 60 slicesClone_BookEntry_con :=
  qa (env:=qcj) ((EnvOK.nil _)) mixed Tryz.func60 slicesClone_BookEntry_con qca (by kernel_rfl) (fun h=>by first | rfl | cases h) (fun g hg=>by cases hg) qgw
def qoT:Ann := .nil
noncomputable def bookFull_con:Con:=⟨[Zt33],false,[Zt33,Zt62],Zt26,fun x=>qgV x.1,some fun x=>qtd x.1⟩
noncomputable def qok:Env:=[]
theorem qvt (x:DL bookFull_con.ps):bookFull_con.φ x=denF Tryz.prog qok qoT Tryz.f64 bookFull_con.ps bookFull_con.one bookFull_con.res bookFull_con.ρ x:=by kernel_rfl
theorem qwE:ConOK Tryz.prog 64 bookFull_con :=
  qa (env:=qok) ((EnvOK.nil _)) mixed Tryz.func64 bookFull_con qoT (by kernel_rfl) (fun h=>by first | rfl | cases h) (fun g hg x=>by
    cases hg
    exact qwy _) qvt
def qpE:Ann:=(.two .nil (.two .nil (.two .nil (.two .nil (.two .nil (.two .nil (.two (.two .nil (.join ⟨[],[(16,Zt31)],[(5,none),(6,none),(7,none),(8,none),(9,some (.box Zt30))]⟩ (.two (.loop ⟨[4,5,17,58,59],[(16,Zt31),(60,Zt62)],[(5,none),(6,none),(7,none),(8,none),(9,some (.box Zt30))]⟩ (.two .nil (.two .nil (.two (.two (.two .nil (.two (.join ⟨[4,5,17,20,58,59,60],[(16,Zt31)],[(13,none)]⟩ (.tail 6 (.two (.two .nil (.two (.two (.two .nil (.two .nil (.two .nil (.two (.join ⟨[0,2,4,8],[(9,Zt62)],[]⟩ (.two (.loop ⟨[0,2,4,8],[(9,Zt62),(10,Zt62)],[]⟩ (.two .nil (.two (.two .nil (.two (.tail 6 .nil) (.join ⟨[0,2,4,8],[(9,Zt62),(10,Zt62)],[]⟩ .nil))) .nil))) .nil)) (.two (.join ⟨[],[(6,Zt62),(7,.bool)],[]⟩ (.any 63487 0 (.ord 0 0 .nil (.ord 1 0 .nil (.ord 2 0 .nil (.ord 3 0 .nil (.ord 4 0 .nil (.ord 5 0 .nil (.ord 6 0 .nil (.ord 7 0 .nil (.ord 8 0 .nil (.ord 9 1535 .nil (.ord 10 0 .nil (.ord 11 0 .nil (.ord 12 0 .nil (.ord 13 0 .nil (.ord 14 0 .nil (.ord 15 0 .nil .nil)))))))))))))))))) .nil))))) .nil) (.two .nil (.two (.tail 13 .nil) .nil)))) .nil))) .nil)) .nil) .nil)))) .nil))) .nil)))))))
noncomputable def bookAdd_con:Con:=⟨[Zt12,Zt33,Zt50,Zt62,Zt62],false,[Zt33,Zt62],Zt26,fun x=>qtO x.1 x.2.1 x.2.2.1 x.2.2.2.1 x.2.2.2.2.1,none⟩
noncomputable def qpO:Env:=(64,.con bookFull_con)::(63,.con movesMake_con)::(124,.ins insBook_ins)::(66,.con bookOrder_con)::(65,.body Tryz.f65)::(61,.body Tryz.f61)::(62,.con zobOf_con)::(17,.con placeBegin_con)::(60,.con slicesClone_BookEntry_con)::(159,.ck 197)::(20,.con plainRun_con)::(59,.con bookCheck_con)::[]
theorem qvM (x:DL bookAdd_con.ps):bookAdd_con.φ x=denF Tryz.prog qpO qpE Tryz.f15 bookAdd_con.ps bookAdd_con.one bookAdd_con.res bookAdd_con.ρ x:=by kernel_rfl
theorem qyC:ConOK Tryz.prog 15 bookAdd_con :=
  qa (env:=qpO) ((EnvOK.cons (EnvOK.cons (EnvOK.insert (EnvOK.cons (EnvOK.body (EnvOK.body (EnvOK.cons (EnvOK.cons (EnvOK.cons (EnvOK.check (EnvOK.cons (EnvOK.cons (EnvOK.nil _) qiU) qhR) qb) qgU) qbY) qpp) Tryz.func61) Tryz.func65) qjt) qx9) qgj) qwE)) mixed Tryz.func15 bookAdd_con qpE (by kernel_rfl) (fun h=>by first | rfl | cases h) (fun g hg=>by cases hg) qvM
def qgL:Ann:=(.two .nil (.two .nil (.two .nil (.two (.two .nil (.join ⟨[],[(7,Zt45)],[]⟩ (.two (.loop ⟨[3,17],[(7,Zt45),(18,Zt62)],[]⟩ (.two .nil (.two .nil (.two (.two (.two .nil (.two .nil (.join ⟨[3,17,18],[(7,Zt45)],[(2,none)]⟩ .nil))) .nil) .nil)))) .nil))) .nil))))
noncomputable def annotateLines_con:Con:=⟨[Zt12,Zt18],false,[Zt45,Zt62],(.st Zt45 Zt58),fun x=>qcM x.1 x.2.1,none⟩
noncomputable def qha:Env:=(58,.con recordWay_con)::(57,.con recordKids_con)::(56,.con recordCheck_con)::[]
theorem qnW (x:DL annotateLines_con.ps):annotateLines_con.φ x=denF Tryz.prog qha qgL Tryz.f14 annotateLines_con.ps annotateLines_con.one annotateLines_con.res annotateLines_con.ρ x:=by kernel_rfl
theorem qoX:ConOK Tryz.prog 14 annotateLines_con :=
  qa (env:=qha) ((EnvOK.cons (EnvOK.cons (EnvOK.cons (EnvOK.nil _) qgu) qlJ) qjf)) mixed Tryz.func14 annotateLines_con qgL (by kernel_rfl) (fun h=>by first | rfl | cases h) (fun g hg=>by cases hg) qnW
def qnb:Ann:=(.two .nil (.two .nil (.two .nil (.two .nil (.two (.two .nil (.joinE ⟨[2],[],[(5,none),(6,none),(7,none),(8,some (.box Zt30))]⟩ (.two (.loop ⟨[1,2,3,12,38,39],[(40,Zt62)],[(5,none),(6,none),(7,none),(8,some (.box Zt30))]⟩ (.two .nil (.two .nil (.two (.two (.two .nil (.two (.two (.any 2015 0 (.ord 0 0 .nil (.ord 1 9 .nil (.ord 2 11 .nil (.ord 3 0 .nil (.ord 4 0 .nil (.ord 5 0 (.two .nil (.two .nil (.two .nil (.two (.join ⟨[0,2,4,8],[(9,Zt62)],[]⟩ (.two (.loop ⟨[0,2,4,8],[(9,Zt62),(10,Zt62)],[]⟩ (.two .nil (.two (.two .nil (.two (.tail 6 .nil) (.join ⟨[0,2,4,8],[(9,Zt62),(10,Zt62)],[]⟩ .nil))) .nil))) .nil)) (.two (.join ⟨[],[(6,Zt62),(7,.bool)],[]⟩ (.any 63487 0 (.ord 0 0 .nil (.ord 1 0 .nil (.ord 2 0 .nil (.ord 3 0 .nil (.ord 4 0 .nil (.ord 5 0 .nil (.ord 6 0 .nil (.ord 7 0 .nil (.ord 8 0 .nil (.ord 9 1535 .nil (.ord 10 0 .nil (.ord 11 0 .nil (.ord 12 0 .nil (.ord 13 0 .nil (.ord 14 0 .nil (.ord 15 0 .nil .nil)))))))))))))))))) .nil))))) (.ord 6 0 .nil (.ord 7 0 .nil (.ord 8 0 .nil (.ord 9 0 .nil (.ord 10 0 .nil .nil)))))))))))) .nil) .nil)) .nil) .nil)))) .nil))) .nil)))))
noncomputable def bookCover_con:Con:=⟨[Zt12,Zt33,Zt50],false,[Zt62,Zt62],Zt54,fun x=>qmI x.1 x.2.1 x.2.2.1,none⟩
noncomputable def qmC:Env:=(63,.con movesMake_con)::(66,.con bookOrder_con)::(65,.body Tryz.f65)::(62,.con zobOf_con)::(17,.con placeBegin_con)::(159,.ck 197)::(20,.con plainRun_con)::(59,.con bookCheck_con)::[]
theorem qtL (x:DL bookCover_con.ps):bookCover_con.φ x=denF Tryz.prog qmC qnb Tryz.f16 bookCover_con.ps bookCover_con.one bookCover_con.res bookCover_con.ρ x:=by kernel_rfl
theorem qul:ConOK Tryz.prog 16 bookCover_con :=
  qa (env:=qmC) ((EnvOK.cons (EnvOK.cons (EnvOK.body (EnvOK.cons (EnvOK.cons (EnvOK.check (EnvOK.cons (EnvOK.cons (EnvOK.nil _) qiU) qhR) qb) qbY) qpp) Tryz.func65) qjt) qgj)) mixed Tryz.func16 bookCover_con qnb (by kernel_rfl) (fun h=>by first | rfl | cases h) (fun g hg=>by cases hg) qtL
def qon:Ann:=(.two .nil (.two (.tail 4 .nil) (.two .nil (.two (.two .nil (.join ⟨[],[(9,Zt31)],[]⟩ (.two (.loop ⟨[7,8,17,18],[(9,Zt31),(19,Zt62)],[]⟩ (.two .nil (.two .nil (.two (.two (.two .nil (.two .nil (.join ⟨[7,8,17,18,19],[(9,Zt31)],[(3,none)]⟩ .nil))) .nil) .nil)))) .nil))) .nil))))
noncomputable def bookList_con:Con:=⟨[Zt12,Zt33,Zt29],true,[],Zt31,fun x=>qpb x.1 x.2.1 x.2.2.1,none⟩
noncomputable def qoq:Env:=(98,.con slicesContains_Move_con)::(159,.ck 197)::(137,.con movesList_con)::(62,.con zobOf_con)::[]
theorem qvf (x:DL bookList_con.ps):bookList_con.φ x=denF Tryz.prog qoq qon Tryz.f136 bookList_con.ps bookList_con.one bookList_con.res bookList_con.ρ x:=by kernel_rfl
theorem qvZ:ConOK Tryz.prog 136 bookList_con :=
  qa (env:=qoq) ((EnvOK.cons (EnvOK.check (EnvOK.cons (EnvOK.cons (EnvOK.nil _) qpp) qdZ) qb) qaB)) mixed Tryz.func136 bookList_con qon (by kernel_rfl) (fun h=>by first | rfl | cases h) (fun g hg=>by cases hg) qvf
def qmv:Ann := .nil
noncomputable def bookMoves_con:Con:=⟨[Zt12,Zt33,Zt29],false,[Zt31,Zt62],(.st Zt31 Zt58),fun x=>qlV x.1 x.2.1 x.2.2.1,none⟩
noncomputable def ql0:Env:=(136,.con bookList_con)::(21,.con zobKey_con)::(59,.con bookCheck_con)::[]
theorem qsX (x:DL bookMoves_con.ps):bookMoves_con.φ x=denF Tryz.prog ql0 qmv Tryz.f69 bookMoves_con.ps bookMoves_con.one bookMoves_con.res bookMoves_con.ρ x:=by kernel_rfl
theorem qtY:ConOK Tryz.prog 69 bookMoves_con :=
  qa (env:=ql0) ((EnvOK.cons (EnvOK.cons (EnvOK.cons (EnvOK.nil _) qiU) qvd) qvZ)) mixed Tryz.func69 bookMoves_con qmv (by kernel_rfl) (fun h=>by first | rfl | cases h) (fun g hg=>by cases hg) qsX
def qkl:Ann:=(.two .nil (.two .nil (.two .nil (.two .nil (.two (.two .nil (.join ⟨[3,8,10],[(12,Zt62)],[]⟩ (.two (.loop ⟨[3,8,10,39,40],[(12,Zt62),(41,Zt62)],[]⟩ .nil) .nil))) (.two .nil (.two (.two .nil (.joinE ⟨[8],[],[(2,some (.box Zt51))]⟩ (.two (.loop ⟨[8,53,54],[(15,Zt62),(55,Zt62)],[(2,some (.box Zt51))]⟩ .nil) .nil))) .nil)))))))
noncomputable def bookChoose_con:Con:=⟨[Zt12,Zt33,Zt29,Zt62],false,[Zt51,Zt62],Zt40,fun x=>qjG x.1 x.2.1 x.2.2.1 x.2.2.2.1,none⟩
noncomputable def qkm:Env:=(69,.con bookMoves_con)::(159,.ck 197)::[]
theorem qrn (x:DL bookChoose_con.ps):bookChoose_con.φ x=denF Tryz.prog qkm qkl Tryz.f18 bookChoose_con.ps bookChoose_con.one bookChoose_con.res bookChoose_con.ρ x:=by kernel_rfl
theorem qtX:ConOK Tryz.prog 18 bookChoose_con :=
  qa (env:=qkm) ((EnvOK.cons (EnvOK.check (EnvOK.nil _) qb) qtY)) mixed Tryz.func18 bookChoose_con qkl (by kernel_rfl) (fun h=>by first | rfl | cases h) (fun g hg=>by cases hg) qrn
def qet:Ann:=(.two .nil (.two .nil (.two (.two .nil (.joinE ⟨[],[],[]⟩ (.two (.loop ⟨[0,1,12],[(13,Zt62)],[]⟩ .nil) .nil))) .nil)))
noncomputable def slicesEqual_Move_con:Con:=⟨[Zt50,Zt50],true,[],.bool,fun x=>qcp x.1 x.2.1,none⟩
noncomputable def qes:Env:=[]
theorem qj9 (x:DL slicesEqual_Move_con.ps):slicesEqual_Move_con.φ x=denF Tryz.prog qes qet Tryz.f70 slicesEqual_Move_con.ps slicesEqual_Move_con.one slicesEqual_Move_con.res slicesEqual_Move_con.ρ x:=by kernel_rfl
theorem qlA:ConOK Tryz.prog 70 slicesEqual_Move_con :=
  qa (env:=qes) ((EnvOK.nil _)) mixed Tryz.func70 slicesEqual_Move_con qet (by kernel_rfl) (fun h=>by first | rfl | cases h) (fun g hg=>by cases hg) qj9
def qie:Ann:=(.two .nil (.two .nil (.two (.two .nil (.joinE ⟨[],[],[]⟩ (.two (.loop ⟨[2,4,18],[(19,Zt62)],[]⟩ .nil) .nil))) .nil)))
noncomputable def annotateFind_con:Con:=⟨[Zt12,Zt18,Zt50],false,[Zt62,Zt62],Zt54,fun x=>qd4 x.1 x.2.1 x.2.2.1,none⟩
noncomputable def qhZ:Env:=(70,.con slicesEqual_Move_con)::(58,.con recordWay_con)::(56,.con recordCheck_con)::[]
theorem qoZ (x:DL annotateFind_con.ps):annotateFind_con.φ x=denF Tryz.prog qhZ qie Tryz.f19 annotateFind_con.ps annotateFind_con.one annotateFind_con.res annotateFind_con.ρ x:=by kernel_rfl
theorem qqz:ConOK Tryz.prog 19 annotateFind_con :=
  qa (env:=qhZ) ((EnvOK.cons (EnvOK.cons (EnvOK.cons (EnvOK.nil _) qgu) qjf) qlA)) mixed Tryz.func19 annotateFind_con qie (by kernel_rfl) (fun h=>by first | rfl | cases h) (fun g hg=>by cases hg) qoZ
def qdp:Ann:=(.two .nil (.two .nil (.two .nil (.two .nil (.two .nil (.two .nil (.two .nil (.two (.two .nil (.joinE ⟨[2,3,4,7],[(9,Zt33)],[]⟩ (.two (.loop ⟨[2,3,4,7,64,65],[(9,Zt33),(66,Zt62)],[]⟩ .nil) .nil))) (.two (.two .nil (.joinE ⟨[2,3,4,7,9],[],[]⟩ (.two (.loop ⟨[2,3,4,7,9,82,83],[(84,Zt62)],[]⟩ .nil) .nil))) (.two .nil (.two .nil (.two .nil (.two .nil (.two (.two .nil (.join ⟨[],[(22,Zt62)],[]⟩ (.two (.loop ⟨[3,17,19,131,132],[(22,Zt62),(133,Zt62)],[]⟩ (.two .nil (.two .nil (.two (.join ⟨[3,17,19,131,132,133],[(22,Zt62)],[]⟩ (.two (.two .nil (.two .nil (.join ⟨[3,17,19,131,132,133],[(22,Zt62)],[]⟩ (.two (.loop ⟨[3,17,19,24,131,132,133,138],[(22,Zt62),(139,Zt62)],[]⟩ (.two .nil (.two .nil (.two (.two (.two .nil (.two (.join ⟨[3,17,19,22,24,25,131,132,133,138,139],[(26,(.obx Zt27))],[]⟩ (.any 6639 528 (.ord 0 526 .nil (.ord 1 0 .nil (.ord 2 0 .nil (.ord 3 0 .nil (.alt (.ord 4 0 .nil (.ord 5 0 .nil (.ord 6 0 .nil (.ord 7 0 .nil (.ord 8 0 .nil (.ord 9 0 .nil (.ord 10 0 .nil (.ord 11 0 .nil (.ord 12 0 .nil .nil))))))))) (.ord 9 0 .nil (.ord 4 0 .nil (.ord 5 0 .nil (.ord 6 0 .nil (.ord 7 0 .nil (.ord 8 0 .nil (.ord 10 0 .nil (.ord 11 0 .nil (.ord 12 0 .nil .nil)))))))))))))))) (.two .nil (.two .nil (.two .nil (.join ⟨[3,17,19,24,131,132,133,138,139],[(22,Zt62)],[]⟩ .nil)))))) .nil) .nil)))) .nil)))) .nil)) .nil)))) .nil))) .nil))))))))))))))
noncomputable def gamehalltopTopBook_con:Con:=⟨[Zt12,Zt18,Zt62],true,[],.bool,fun x=>qcJ x.1 x.2.1 x.2.2.1,none⟩
noncomputable def qdq:Env:=(21,.con zobKey_con)::(20,.con plainRun_con)::(19,.con annotateFind_con)::(18,.con bookChoose_con)::(159,.ck 197)::(17,.con placeBegin_con)::(16,.con bookCover_con)::(15,.con bookAdd_con)::(14,.con annotateLines_con)::(8,.con gamehalltopH10Plays_con)::[]
theorem qil (x:DL gamehalltopTopBook_con.ps):gamehalltopTopBook_con.φ x=denF Tryz.prog qdq qdp Tryz.f4 gamehalltopTopBook_con.ps gamehalltopTopBook_con.one gamehalltopTopBook_con.res gamehalltopTopBook_con.ρ x:=by kernel_rfl
theorem gamehalltopTopBook_ok:ConOK Tryz.prog 4 gamehalltopTopBook_con :=
  qa (env:=qdq) ((EnvOK.cons (EnvOK.cons (EnvOK.cons (EnvOK.cons (EnvOK.check (EnvOK.cons (EnvOK.cons (EnvOK.cons (EnvOK.cons (EnvOK.cons (EnvOK.nil _) qii) qoX) qyC) qul) qbY) qb) qtX) qqz) qhR) qvd)) mixed Tryz.func4 gamehalltopTopBook_con qdp (by kernel_rfl) (fun h=>by first | rfl | cases h) (fun g hg=>by cases hg) qil
end Go.Proofs.YtijkabgijfdpfaaGreatDoor
