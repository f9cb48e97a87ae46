/- Several texts in one: TextC, RecordC, HtenC, TopJournalC. -/
import Derived.Test.YtlfpfiplndkofaaGreatDoorMAA
import Derived.Test.YtlfpfiplndkofaaGreatDoorMAH
import Derived.Test.YtlfpfiplndkofaaGreatDoorMAE
import Derived.Test.YtlfpfiplndkofaaGreatDoorMatchC
namespace Go.Proofs.YtlfpfiplndkofaaGreatDoor
open Go.Den
set_option linter.unusedVariables false
set_option maxRecDepth 100000
def qgq:Ann := .nil
noncomputable def movetextLetter_con:Con:=⟨[Zt13,Zt59],true,[],.str,fun x=>qep x.1 x.2.1,none⟩
noncomputable def qgs:Env:=[]
theorem qnM (x:DL movetextLetter_con.ps):movetextLetter_con.φ x=denF Tryz.prog qgs qgq Tryz.f202 movetextLetter_con.ps movetextLetter_con.one movetextLetter_con.res movetextLetter_con.ρ x:=by kernel_rfl
theorem qoy:ConOK Tryz.prog 202 movetextLetter_con :=
  qa (env:=qgs) ((EnvOK.nil _)) mixed Tryz.func202 movetextLetter_con qgq (by kernel_rfl) (fun h=>by first | rfl | cases h) (fun g hg=>by cases hg) qnM
def qgl:Ann := .nil
noncomputable def movetextColumn_con:Con:=⟨[Zt13,Zt59],true,[],.str,fun x=>qel x.1 x.2.1,none⟩
noncomputable def qgM:Env:=[]
theorem qm0 (x:DL movetextColumn_con.ps):movetextColumn_con.φ x=denF Tryz.prog qgM qgl Tryz.f235 movetextColumn_con.ps movetextColumn_con.one movetextColumn_con.res movetextColumn_con.ρ x:=by kernel_rfl
theorem qhA:ConOK Tryz.prog 235 movetextColumn_con :=
  qa (env:=qgM) ((EnvOK.nil _)) mixed Tryz.func235 movetextColumn_con qgl (by kernel_rfl) (fun h=>by first | rfl | cases h) (fun g hg=>by cases hg) qm0
def qjO:Ann := .nil
noncomputable def movetextRow_con:Con:=⟨[Zt13,Zt59],true,[],.str,fun x=>qh7 x.1 x.2.1,none⟩
noncomputable def qja:Env:=[]
theorem qqs (x:DL movetextRow_con.ps):movetextRow_con.φ x=denF Tryz.prog qja qjO Tryz.f236 movetextRow_con.ps movetextRow_con.one movetextRow_con.res movetextRow_con.ρ x:=by kernel_rfl
theorem qk2:ConOK Tryz.prog 236 movetextRow_con :=
  qa (env:=qja) ((EnvOK.nil _)) mixed Tryz.func236 movetextRow_con qjO (by kernel_rfl) (fun h=>by first | rfl | cases h) (fun g hg=>by cases hg) qqs
def qg6:Ann := .nil
noncomputable def movetextSquare_con:Con:=⟨[Zt13,Zt59],true,[],.str,fun x=>qei x.1 x.2.1,none⟩
noncomputable def qg2:Env:=(236,.con movetextRow_con)::(235,.con movetextColumn_con)::[]
theorem qm6 (x:DL movetextSquare_con.ps):movetextSquare_con.φ x=denF Tryz.prog qg2 qg6 Tryz.f203 movetextSquare_con.ps movetextSquare_con.one movetextSquare_con.res movetextSquare_con.ρ x:=by kernel_rfl
theorem qhj:ConOK Tryz.prog 203 movetextSquare_con :=
  qa (env:=qg2) ((EnvOK.cons (EnvOK.cons (EnvOK.nil _) qhA) qk2)) mixed Tryz.func203 movetextSquare_con qg6 (by kernel_rfl) (fun h=>by first | rfl | cases h) (fun g hg=>by cases hg) qm6
def qit:Ann:=(.two .nil (.two .nil (.two (.two .nil (.join ⟨[4,7,9],[],[(3,some (.box Zt53))]⟩ (.two (.loop ⟨[4,5,7,9,13,14],[(15,Zt59)],[(3,some (.box Zt53))]⟩ (.two .nil (.two .nil (.two (.two (.two .nil (.two .nil (.join ⟨[4,5,7,9,13,14,15],[],[(3,some (.box Zt53)),(4,none)]⟩ .nil))) .nil) .nil)))) .nil))) (.two .nil (.two (.two (.two .nil (.two .nil (.two (.two (.two .nil (.two (.two (.two .nil (.two (.two (.two .nil (.two (.two .nil (.joinE ⟨[],[],[]⟩ (.two (.loop ⟨[0,1,7],[(8,Zt59)],[]⟩ .nil) .nil))) .nil)) .nil) .nil)) .nil) .nil)) .nil) (.two .nil (.two (.two (.two .nil (.two (.two (.two .nil (.two (.two (.two .nil (.two (.two .nil (.joinE ⟨[],[],[]⟩ (.two (.loop ⟨[0,1,7],[(8,Zt59)],[]⟩ .nil) .nil))) .nil)) .nil) .nil)) .nil) .nil)) .nil) .nil))))) .nil) .nil)))))
noncomputable def movetextMark_con:Con:=⟨[Zt13,Zt30,Zt46,Zt47],true,[],.str,fun x=>qoI x.1 x.2.1 x.2.2.1 x.2.2.2.1,none⟩
noncomputable def qio:Env:=(203,.con movetextSquare_con)::(236,.con movetextRow_con)::(239,.body Tryz.f239)::(235,.con movetextColumn_con)::(238,.body Tryz.f238)::(197,.body Tryz.f197)::(142,.body Tryz.f142)::(237,.body Tryz.f237)::(57,.ck 86)::[]
theorem qpu (x:DL movetextMark_con.ps):movetextMark_con.φ x=denF Tryz.prog qio qit Tryz.f204 movetextMark_con.ps movetextMark_con.one movetextMark_con.res movetextMark_con.ρ x:=by kernel_rfl
theorem qq1:ConOK Tryz.prog 204 movetextMark_con :=
  qa (env:=qio) ((EnvOK.cons (EnvOK.cons (EnvOK.body (EnvOK.cons (EnvOK.body (EnvOK.body (EnvOK.body (EnvOK.body (EnvOK.check (EnvOK.nil _) qc) Tryz.func237) Tryz.func142) Tryz.func197) Tryz.func238) qhA) Tryz.func239) qk2) qhj)) mixed Tryz.func204 movetextMark_con qit (by kernel_rfl) (fun h=>by first | rfl | cases h) (fun g hg=>by cases hg) qpu
def qls:Ann:=(.two .nil (.two .nil (.two .nil (.two .nil (.two (.two .nil (.join ⟨[4,7,9],[(10,.str)],[]⟩ .nil)) (.two .nil (.two (.two .nil (.join ⟨[],[(10,.str)],[]⟩ .nil)) .nil)))))))
noncomputable def movetextOf_con:Con:=⟨[Zt13,Zt30,Zt46,Zt47],true,[],.str,fun x=>qkc x.1 x.2.1 x.2.2.1 x.2.2.2.1,none⟩
noncomputable def qlg:Env:=(204,.con movetextMark_con)::(203,.con movetextSquare_con)::(202,.con movetextLetter_con)::[]
theorem qrg (x:DL movetextOf_con.ps):movetextOf_con.φ x=denF Tryz.prog qlg qls Tryz.f153 movetextOf_con.ps movetextOf_con.one movetextOf_con.res movetextOf_con.ρ x:=by kernel_rfl
theorem qs2:ConOK Tryz.prog 153 movetextOf_con :=
  qa (env:=qlg) ((EnvOK.cons (EnvOK.cons (EnvOK.cons (EnvOK.nil _) qoy) qhj) qq1)) mixed Tryz.func153 movetextOf_con qls (by kernel_rfl) (fun h=>by first | rfl | cases h) (fun g hg=>by cases hg) qrg
def qfP:Ann:=(.two .nil (.two (.two .nil (.joinE ⟨[],[],[]⟩ (.two (.loop ⟨[0,1,7],[(8,Zt59)],[]⟩ .nil) .nil))) .nil))
noncomputable def recordPrintable_con:Con:=⟨[.str,.str],true,[],.bool,fun x=>qce x.1 x.2.1,none⟩
noncomputable def qfY:Env:=(198,.con qlb)::[]
theorem qmc (x:DL recordPrintable_con.ps):recordPrintable_con.φ x=denF Tryz.prog qfY qfP Tryz.f145 recordPrintable_con.ps recordPrintable_con.one recordPrintable_con.res recordPrintable_con.ρ x:=by kernel_rfl
theorem qgy:ConOK Tryz.prog 145 recordPrintable_con :=
  qa (env:=qfY) ((EnvOK.cons (EnvOK.nil _) qsT)) mixed Tryz.func145 recordPrintable_con qfP (by kernel_rfl) (fun h=>by first | rfl | cases h) (fun g hg=>by cases hg) qmc
def qlx:Ann:=(.two .nil (.two (.two .nil (.joinE ⟨[],[],[]⟩ (.two (.loop ⟨[1,6,7],[(8,Zt59)],[]⟩ (.two .nil (.two .nil (.two (.two (.two .nil (.two (.two .nil (.two .nil (.two .nil (.two .nil (.two .nil (.two .nil (.two (.two (.two .nil (.two (.two (.two .nil (.two (.two .nil (.joinE ⟨[],[],[]⟩ (.two (.loop ⟨[0,1,7],[(8,Zt59)],[]⟩ .nil) .nil))) .nil)) .nil) .nil)) .nil) .nil))))))) .nil)) .nil) .nil)))) .nil))) .nil))
noncomputable def recordTags_con:Con:=⟨[Zt19],true,[],Zt59,fun x=>qki x.1,none⟩
noncomputable def qlf:Env:=(147,.body Tryz.f147)::(199,.body Tryz.f199)::(146,.body Tryz.f146)::(145,.con recordPrintable_con)::(139,.con rulesName_con)::(57,.ck 86)::[]
theorem qrk (x:DL recordTags_con.ps):recordTags_con.φ x=denF Tryz.prog qlf qlx Tryz.f89 recordTags_con.ps recordTags_con.one recordTags_con.res recordTags_con.ρ x:=by kernel_rfl
theorem qtI:ConOK Tryz.prog 89 recordTags_con :=
  qa (env:=qlf) ((EnvOK.body (EnvOK.body (EnvOK.body (EnvOK.cons (EnvOK.cons (EnvOK.check (EnvOK.nil _) qc) qo7) qgy) Tryz.func146) Tryz.func199) Tryz.func147)) mixed Tryz.func89 recordTags_con qlx (by kernel_rfl) (fun h=>by first | rfl | cases h) (fun g hg=>by cases hg) qrk
def qhl:Ann := .nil
noncomputable def recordComment_con:Con:=⟨[.str],true,[],Zt59,fun x=>qdC x.1,none⟩
noncomputable def qhg:Env:=(145,.con recordPrintable_con)::[]
theorem qow (x:DL recordComment_con.ps):recordComment_con.φ x=denF Tryz.prog qhg qhl Tryz.f90 recordComment_con.ps recordComment_con.one recordComment_con.res recordComment_con.ρ x:=by kernel_rfl
theorem qiB:ConOK Tryz.prog 90 recordComment_con :=
  qa (env:=qhg) ((EnvOK.cons (EnvOK.nil _) qgy)) mixed Tryz.func90 recordComment_con qhl (by kernel_rfl) (fun h=>by first | rfl | cases h) (fun g hg=>by cases hg) qow
def qoR:Ann:=(.two .nil (.two (.two .nil (.joinE ⟨[1],[],[]⟩ (.two (.loop ⟨[1,3],[(7,Zt59)],[]⟩ .nil) .nil))) .nil))
noncomputable def recordOn_con:Con:=⟨[Zt19,Zt59,Zt59],true,[],.bool,fun x=>qmd x.1 x.2.1 x.2.2.1,none⟩
noncomputable def qoU:Env:=[]
theorem quR (x:DL recordOn_con.ps):recordOn_con.φ x=denF Tryz.prog qoU qoR Tryz.f148 recordOn_con.ps recordOn_con.one recordOn_con.res recordOn_con.ρ x:=by kernel_rfl
theorem qv5:ConOK Tryz.prog 148 recordOn_con :=
  qa (env:=qoU) ((EnvOK.nil _)) mixed Tryz.func148 recordOn_con qoR (by kernel_rfl) (fun h=>by first | rfl | cases h) (fun g hg=>by cases hg) quR
def qmw:Ann:=(.two .nil (.two .nil (.two (.two .nil (.join ⟨[],[(5,Zt44)],[]⟩ (.two (.loop ⟨[2],[(5,Zt44),(6,Zt59)],[]⟩ .nil) .nil))) (.two (.two (.two .nil (.join ⟨[],[],[(1,some (.arr 48 Zt47))]⟩ (.two (.loop ⟨[0],[(2,Zt59),(3,Zt59)],[(1,some (.arr 48 Zt47))]⟩ (.two .nil (.two (.two (.any 24575 0 (.ord 0 0 .nil (.ord 1 0 .nil (.ord 2 0 .nil (.ord 3 0 .nil (.ord 4 0 .nil (.ord 5 0 .nil (.ord 6 0 .nil (.ord 7 3967 .nil (.ord 8 0 .nil (.ord 9 0 .nil (.ord 10 0 .nil (.ord 11 0 .nil (.ord 12 0 .nil (.ord 13 0 .nil (.ord 14 0 .nil (.ord 15 0 .nil .nil))))))))))))))))) .nil) .nil))) .nil))) .nil) .nil))))
noncomputable def recordWay_con:Con:=⟨[Zt19,Zt59],true,[],Zt44,fun x=>qaF x.1 x.2.1,none⟩
noncomputable def qnl:Env:=(201,.body Tryz.f201)::[]
theorem qtq (x:DL recordWay_con.ps):recordWay_con.φ x=denF Tryz.prog qnl qmw Tryz.f152 recordWay_con.ps recordWay_con.one recordWay_con.res recordWay_con.ρ x:=by kernel_rfl
theorem qvn:ConOK Tryz.prog 152 recordWay_con :=
  qa (env:=qnl) ((EnvOK.body (EnvOK.nil _) Tryz.func201)) mixed Tryz.func152 recordWay_con qmw (by kernel_rfl) (fun h=>by first | rfl | cases h) (fun g hg=>by cases hg) qtq
def qdK:Ann:=(.ord 4 0 .nil (.ord 5 0 .nil (.ord 6 0 .nil (.ord 7 0 .nil (.ord 8 0 .nil (.ord 10 0 .nil (.ord 11 0 .nil (.ord 12 0 .nil .nil))))))))
def qjU:Ann:=(.alt (.ord 4 0 .nil (.ord 5 0 .nil (.ord 6 0 .nil (.ord 7 0 .nil (.ord 8 0 .nil (.ord 9 0 .nil (.ord 10 0 .nil (.ord 11 0 .nil (.ord 12 0 .nil .nil))))))))) (.ord 9 0 .nil qdK))
def qlr:Ann:=(.two .nil (.two .nil (.two .nil (.two .nil (.two (.two .nil (.join ⟨[2,3,4,5,9],[],[(0,some (.arr 3 Zt59))]⟩ .nil)) (.two (.two .nil (.joinE ⟨[2,3,4,5,9],[],[]⟩ (.two (.loop ⟨[2,3,4,5,9,54,55],[(56,Zt59)],[]⟩ (.two .nil (.two .nil (.two (.joinE ⟨[2,3,4,5,9,54,55,56],[],[]⟩ .nil) .nil)))) .nil))) (.two (.two (.two (.two .nil (.two (.two (.two .nil (.two (.two .nil (.joinE ⟨[],[],[]⟩ (.two (.loop ⟨[0,1,7],[(8,Zt59)],[]⟩ .nil) .nil))) .nil)) .nil) .nil)) .nil) (.sel 4 1000005 (.join ⟨[2,3,4,5],[],[(0,some (.arr 3 Zt59))]⟩ .nil) .nil)) (.two (.two (.join ⟨[2,3],[(15,Zt59)],[]⟩ (.any 6631 512 (.ord 1 517 .nil (.ord 2 0 .nil (.alt (.ord 0 0 .nil (.alt (.ord 3 0 .nil qjU) (.ord 9 0 .nil (.ord 3 0 .nil qdK)))) (.alt (.ord 3 0 .nil (.ord 0 526 .nil qjU)) (.ord 9 0 .nil (.alt (.ord 0 0 .nil (.ord 3 0 .nil qdK)) (.ord 3 0 .nil (.ord 0 0 .nil qdK)))))))))) .nil) .nil))))))))
noncomputable def recordNode_con:Roc:=⟨3,3,Zt59,[Zt13,Zt19,Zt59],true,[],Zt59,fun x=>qkw x.1 x.2.1 x.2.2.1 x.2.2.2.1⟩
noncomputable def qkW:Env:=(151,.con plainRun_con)::(152,.con recordWay_con)::(150,.body Tryz.f150)::(200,.body Tryz.f200)::(149,.body Tryz.f149)::(148,.con recordOn_con)::(90,.con recordComment_con)::(57,.ck 86)::[]
theorem qrd (x:DL (Zt56::[Zt13,Zt19,Zt59])):recordNode_con.φ x=denRO Tryz.prog qkW qlr Tryz.f91 3 3 Zt59 [Zt13,Zt19,Zt59] true [] Zt59 x:=by kernel_rfl
theorem qs6:RocOK Tryz.prog 91 recordNode_con :=
  qyi (env:=qkW) ((EnvOK.cons (EnvOK.cons (EnvOK.body (EnvOK.body (EnvOK.body (EnvOK.cons (EnvOK.cons (EnvOK.check (EnvOK.nil _) qc) qiB) qv5) Tryz.func149) Tryz.func200) Tryz.func150) qvn) qwg)) mixed Tryz.func91 recordNode_con qlr (by kernel_rfl) (fun h=>by first | rfl | cases h) qrd
def qjW:Ann:=(.two .nil (.two .nil (.two .nil (.two .nil (.two .nil (.two .nil (.two .nil (.two (.two .nil (.joinE ⟨[],[],[(2,some (.arr 3 Zt59))]⟩ (.two (.loop ⟨[2,3,8,51],[(52,Zt59)],[(2,some (.arr 3 Zt59))]⟩ .nil) .nil))) .nil))))))))
noncomputable def recordCheck_con:Con:=⟨[Zt13,Zt19],true,[],Zt59,fun x=>qih x.1 x.2.1,none⟩
noncomputable def qjL:Env:=(91,.ro recordNode_con)::(90,.con recordComment_con)::(89,.con recordTags_con)::(88,.con rulesCheck_con)::[]
theorem qpN (x:DL recordCheck_con.ps):recordCheck_con.φ x=denF Tryz.prog qjL qjW Tryz.f49 recordCheck_con.ps recordCheck_con.one recordCheck_con.res recordCheck_con.ρ x:=by kernel_rfl
theorem qrl:ConOK Tryz.prog 49 recordCheck_con :=
  qa (env:=qjL) ((EnvOK.rowio (EnvOK.cons (EnvOK.cons (EnvOK.cons (EnvOK.nil _) qhS) qtI) qiB) qs6)) mixed Tryz.func49 recordCheck_con qjW (by kernel_rfl) (fun h=>by first | rfl | cases h) (fun g hg=>by cases hg) qpN
def qkY:Ann:=(.two .nil (.two .nil (.two (.two .nil (.join ⟨[],[(5,Zt56)],[]⟩ (.two (.loop ⟨[1,9,10],[(5,Zt56),(11,Zt59)],[]⟩ (.two .nil (.two .nil (.two (.two (.two .nil (.two .nil (.join ⟨[1,9,10,11],[(5,Zt56)],[(1,none)]⟩ .nil))) .nil) .nil)))) .nil))) .nil)))
noncomputable def recordKids_con:Con:=⟨[Zt19,Zt59],true,[],Zt56,fun x=>qft x.1 x.2.1,none⟩
noncomputable def qkT:Env:=(57,.ck 86)::[]
theorem qrq (x:DL recordKids_con.ps):recordKids_con.φ x=denF Tryz.prog qkT qkY Tryz.f92 recordKids_con.ps recordKids_con.one recordKids_con.res recordKids_con.ρ x:=by kernel_rfl
theorem qt6:ConOK Tryz.prog 92 recordKids_con :=
  qa (env:=qkT) ((EnvOK.check (EnvOK.nil _) qc)) mixed Tryz.func92 recordKids_con qkY (by kernel_rfl) (fun h=>by first | rfl | cases h) (fun g hg=>by cases hg) qrq
def qeQ:Ann := .nil
noncomputable def gamehalltopH10Tic_con:Con:=⟨[],true,[],Zt11,fun x=>qcX,some fun x=>gamehalltopH10Tic⟩
noncomputable def qeC:Env:=(57,.ck 86)::[]
theorem qi5 (x:DL gamehalltopH10Tic_con.ps):gamehalltopH10Tic_con.φ x=denF Tryz.prog qeC qeQ Tryz.f17 gamehalltopH10Tic_con.ps gamehalltopH10Tic_con.one gamehalltopH10Tic_con.res gamehalltopH10Tic_con.ρ x:=by kernel_rfl
theorem qky:ConOK Tryz.prog 17 gamehalltopH10Tic_con :=
  qa (env:=qeC) ((EnvOK.check (EnvOK.nil _) qc)) mixed Tryz.func17 gamehalltopH10Tic_con qeQ (by kernel_rfl) (fun h=>by first | rfl | cases h) (fun g hg x=>by
    cases hg
    exact qkI ) qi5
def qc4:Ann := .nil
noncomputable def gamehalltopH10Minute_con:Con:=⟨[],true,[],Zt34,fun x=>qbM,some fun x=>gamehalltopH10Minute⟩
noncomputable def qc8:Env:=(57,.ck 86)::[]
theorem qhe (x:DL gamehalltopH10Minute_con.ps):gamehalltopH10Minute_con.φ x=denF Tryz.prog qc8 qc4 Tryz.f18 gamehalltopH10Minute_con.ps gamehalltopH10Minute_con.one gamehalltopH10Minute_con.res gamehalltopH10Minute_con.ρ x:=by kernel_rfl
theorem qic:ConOK Tryz.prog 18 gamehalltopH10Minute_con :=
  qa (env:=qc8) ((EnvOK.check (EnvOK.nil _) qc)) mixed Tryz.func18 gamehalltopH10Minute_con qc4 (by kernel_rfl) (fun h=>by first | rfl | cases h) (fun g hg x=>by
    cases hg
    exact qhL ) qhe
def qdT:Ann:=(.two .nil (.two .nil (.two (.two .nil (.joinE ⟨[],[],[]⟩ (.two (.loop ⟨[0,1,12],[(13,Zt59)],[]⟩ .nil) .nil))) .nil)))
noncomputable def gamehalltopH10Same_con:Con:=⟨[Zt46,Zt46],true,[],.bool,fun x=>qbW x.1 x.2.1,none⟩
noncomputable def qdW:Env:=[]
theorem qiQ (x:DL gamehalltopH10Same_con.ps):gamehalltopH10Same_con.φ x=denF Tryz.prog qdW qdT Tryz.f38 gamehalltopH10Same_con.ps gamehalltopH10Same_con.one gamehalltopH10Same_con.res gamehalltopH10Same_con.ρ x:=by kernel_rfl
theorem qj4:ConOK Tryz.prog 38 gamehalltopH10Same_con :=
  qa (env:=qdW) ((EnvOK.nil _)) mixed Tryz.func38 gamehalltopH10Same_con qdT (by kernel_rfl) (fun h=>by first | rfl | cases h) (fun g hg=>by cases hg) qiQ
def qdl:Ann:=(.two .nil (.two .nil (.two (.two .nil (.joinE ⟨[2,3],[],[]⟩ (.two (.loop ⟨[2,3,15],[(16,Zt59)],[]⟩ .nil) .nil))) .nil)))
noncomputable def gamehalltopH10Alike_con:Con:=⟨[Zt9,Zt9],true,[],.bool,fun x=>qbA x.1 x.2.1,none⟩
noncomputable def qdj:Env:=(38,.con gamehalltopH10Same_con)::[]
theorem qhZ (x:DL gamehalltopH10Alike_con.ps):gamehalltopH10Alike_con.φ x=denF Tryz.prog qdj qdl Tryz.f12 gamehalltopH10Alike_con.ps gamehalltopH10Alike_con.one gamehalltopH10Alike_con.res gamehalltopH10Alike_con.ρ x:=by kernel_rfl
theorem qiS:ConOK Tryz.prog 12 gamehalltopH10Alike_con :=
  qa (env:=qdj) ((EnvOK.cons (EnvOK.nil _) qj4)) mixed Tryz.func12 gamehalltopH10Alike_con qdl (by kernel_rfl) (fun h=>by first | rfl | cases h) (fun g hg=>by cases hg) qhZ
def qfO:Ann:=(.two .nil (.two (.any 6290431 2098176 (.ord 0 0 .nil (.ord 1 0 .nil (.ord 2 0 .nil (.ord 3 1048567 .nil (.ord 4 1048559 .nil (.ord 5 0 .nil (.ord 6 0 .nil (.ord 7 0 .nil (.ord 8 1047295 .nil (.ord 9 1047039 .nil (.ord 11 0 .nil (.ord 12 0 .nil (.ord 13 0 .nil (.ord 14 0 .nil (.ord 15 98303 .nil (.ord 16 0 .nil (.ord 17 0 .nil (.ord 18 0 .nil (.ord 19 524287 .nil (.ord 10 0 .nil (.ord 20 0 .nil (.ord 21 0 .nil (.ord 22 0 .nil .nil)))))))))))))))))))))))) (.two (.two .nil (.two .nil (.join ⟨[],[(7,Zt58)],[(3,none)]⟩ .nil))) .nil)))
noncomputable def recordWriterOne_con:Ioc:=⟨Zt8,[Zt30,Zt59],true,[],Zt58,fun x=>qa9 x.1 x.2.1 x.2.2.1⟩
noncomputable def qfB:Env:=(153,.con movetextOf_con)::(154,.con movesList_con)::[]
theorem ql9 (x:DL (Zt8::[Zt30,Zt59])):recordWriterOne_con.φ x=denIO Tryz.prog qfB qfO Tryz.f95 Zt8 [Zt30,Zt59] true [] Zt58 x:=by kernel_rfl
theorem qmB:IocOK Tryz.prog 95 recordWriterOne_con :=
  qaC (env:=qfB) ((EnvOK.cons (EnvOK.cons (EnvOK.nil _) qgG) qs2)) mixed Tryz.func95 recordWriterOne_con qfO (by kernel_rfl) (fun h=>by first | rfl | cases h) ql9
def qag:Ann:=(.ord 10 0 .nil (.ord 11 0 .nil (.ord 12 0 .nil .nil)))
def qeM:Ann:=(.two .nil (.two .nil (.two .nil (.two .nil (.two (.tail 5 .nil) (.two (.two .nil (.join ⟨[3,7,8],[(9,Zt58)],[(0,some (.box Zt10)),(4,none)]⟩ (.two (.loop ⟨[3,4,7,8,30,31],[(9,Zt58),(32,Zt59)],[(0,some (.box Zt10)),(4,none)]⟩ (.two .nil (.two .nil (.two (.two (.two .nil (.two (.join ⟨[3,4,7,8,9,30,31,32],[(12,Zt58)],[(0,some (.box Zt10))]⟩ (.any 2423 0 (.ord 0 374 .nil (.ord 1 373 .nil (.ord 2 0 .nil (.ord 5 0 .nil (.ord 6 0 .nil (.ord 8 0 .nil (.alt (.ord 3 0 .nil (.alt (.ord 4 0 .nil (.ord 7 0 (.two .nil (.two (.tail 14 .nil) .nil)) (.ord 9 0 .nil (.ord 10 0 .nil (.ord 11 0 .nil .nil))))) (.ord 7 0 (.two .nil (.two (.tail 14 .nil) .nil)) (.ord 4 0 .nil (.ord 9 0 .nil (.ord 10 0 .nil (.ord 11 0 .nil .nil))))))) (.ord 4 0 .nil (.ord 3 0 .nil (.ord 7 0 (.two .nil (.two (.tail 14 .nil) .nil)) (.ord 9 0 .nil (.ord 10 0 .nil (.ord 11 0 .nil .nil))))))))))))))) .nil)) .nil) .nil)))) .nil))) (.two (.join ⟨[],[(6,Zt58)],[(0,some (.box Zt10)),(5,none)]⟩ (.any 5055 0 (.ord 0 0 .nil (.ord 2 0 .nil (.ord 3 0 .nil (.ord 4 0 .nil (.ord 5 927 .nil (.ord 7 0 .nil (.ord 8 0 .nil (.alt (.ord 1 0 .nil (.alt (.ord 6 0 (.two .nil (.two (.tail 14 .nil) .nil)) (.ord 9 0 .nil qag)) (.ord 9 0 .nil (.ord 6 0 (.two .nil (.two (.tail 14 .nil) .nil)) qag)))) (.alt (.ord 6 0 (.two .nil (.two (.tail 14 .nil) .nil)) (.ord 1 1021 .nil (.ord 9 0 .nil qag))) (.ord 9 0 .nil (.alt (.ord 1 0 .nil (.ord 6 0 (.two .nil (.two (.tail 14 .nil) .nil)) qag)) (.ord 6 0 (.two .nil (.two (.tail 14 .nil) .nil)) (.ord 1 0 .nil qag))))))))))))))) .nil)))))))
noncomputable def qeK:Ioc:=⟨Zt8,[Zt30,Zt59],true,[],Zt58,fun x=>qeb x.1 x.2.1 x.2.2.1⟩
noncomputable def qeF (φ:DL (Zt8::[Zt30,Zt59])→Option (D Zt5)):Env:=(52,.con qjv)::(51,.io ⟨Zt8,[Zt30,Zt59],true,[],Zt58,φ⟩)::(94,.con movesMake_con)::(57,.ck 86)::(93,.body Tryz.f93)::(95,.io recordWriterOne_con)::(92,.con recordKids_con)::[]
theorem qiZ (φ:DL (Zt8::[Zt30,Zt59])→Option (D Zt5)) (x:DL (Zt8::[Zt30,Zt59])):qak φ x=denIO Tryz.prog (qeF φ) qeM Tryz.f51 Zt8 [Zt30,Zt59] true [] Zt58 x:=by kernel_rfl
theorem qkz:IocOK Tryz.prog 51 qeK :=
  ioc_fix (bx:=Zt8) (ps:=[Zt30,Zt59]) (ρ:=Zt58) (G:=qak) (by kernel_rfl) (fun h=>by first | rfl | cases h) fun φ hφ =>
  qaC (env:=qeF φ) ((EnvOK.cons (EnvOK.inout (EnvOK.cons (EnvOK.check (EnvOK.body (EnvOK.inout (EnvOK.cons (EnvOK.nil _) qt6) qmB) Tryz.func93) qc) qoP) hφ) qtw)) mixed Tryz.func51 ⟨Zt8,[Zt30,Zt59],true,[],Zt58,qak φ⟩ qeM (by kernel_rfl) (fun h=>by first | rfl | cases h) (qiZ φ)
def qhx:Ann := .nil
noncomputable def recordResults_con:Con:=⟨[],true,[],(.st .str (.st .str (.st .str (.st .str .nil)))),fun x=>qf0,some fun x=>qab⟩
noncomputable def qhk:Env:=(57,.ck 86)::[]
theorem qom (x:DL recordResults_con.ps):recordResults_con.φ x=denF Tryz.prog qhk qhx Tryz.f53 recordResults_con.ps recordResults_con.one recordResults_con.res recordResults_con.ρ x:=by kernel_rfl
theorem qph:ConOK Tryz.prog 53 recordResults_con :=
  qa (env:=qhk) ((EnvOK.check (EnvOK.nil _) qc)) mixed Tryz.func53 recordResults_con qhx (by kernel_rfl) (fun h=>by first | rfl | cases h) (fun g hg x=>by
    cases hg
    exact qpi ) qom
def qk8:Ann:=(.two .nil (.two .nil (.two .nil (.two (.two .nil (.join ⟨[2,3,7],[],[(2,some (.bld 86 5))]⟩ (.two (.loop ⟨[2,3,7,20,21],[(22,Zt59)],[(2,some (.bld 86 5))]⟩ .nil) .nil))) (.two .nil (.two (.two .nil (.join ⟨[2,3,7],[(10,Zt58)],[]⟩ .nil)) (.two .nil (.two .nil (.two (.any 415 32 (.ord 0 0 .nil (.ord 1 13 .nil (.ord 2 0 .nil (.ord 3 0 .nil (.ord 4 0 .nil (.ord 5 0 .nil (.ord 6 0 .nil (.ord 7 0 .nil (.ord 8 0 .nil (.ord 9 0 .nil .nil))))))))))) .nil)))))))))
noncomputable def recordText_con:Con:=⟨[Zt13,Zt19],false,[.str,Zt59],(.st .str Zt55),fun x=>qhm x.1 x.2.1,none⟩
noncomputable def qlp:Env:=(24,.bs 86 5)::(54,.body Tryz.f54)::(52,.con qjv)::(53,.con recordResults_con)::(51,.io qeK)::(50,.con placeBegin_con)::(22,.body Tryz.f22)::(57,.ck 86)::(49,.con recordCheck_con)::[]
theorem qrp (x:DL recordText_con.ps):recordText_con.φ x=denF Tryz.prog qlp qk8 Tryz.f19 recordText_con.ps recordText_con.one recordText_con.res recordText_con.ρ x:=by kernel_rfl
theorem qtf:ConOK Tryz.prog 19 recordText_con :=
  qa (env:=qlp) ((EnvOK.string (EnvOK.body (EnvOK.cons (EnvOK.cons (EnvOK.inout (EnvOK.cons (EnvOK.body (EnvOK.check (EnvOK.cons (EnvOK.nil _) qrl) qc) Tryz.func22) qfr) qkz) qph) qtw) Tryz.func54) qiF)) mixed Tryz.func19 recordText_con qk8 (by kernel_rfl) (fun h=>by first | rfl | cases h) (fun g hg=>by cases hg) qrp
def qdD:Ann:=(.two .nil (.two (.two (.two .nil (.two (.two (.two .nil (.two .nil (.two .nil (.two (.frz [0,1,2,7,8,9] (.join ⟨[],[(2,Zt3),(3,Zt59)],[]⟩ (.any 213 42 (.ord 0 12 .nil (.alt (.ord 1 0 .nil (.ord 2 0 .nil (.ord 3 0 .nil (.ord 4 0 .nil (.ord 5 0 .nil (.ord 6 0 .nil (.ord 7 0 .nil .nil))))))) (.ord 2 0 .nil (.alt (.ord 1 0 .nil (.ord 3 0 .nil (.ord 4 0 .nil (.ord 5 0 .nil (.ord 6 0 .nil (.ord 7 0 .nil .nil)))))) (.ord 3 0 .nil (.ord 1 0 .nil (.ord 4 0 .nil (.ord 5 0 .nil (.ord 6 0 .nil (.ord 7 0 .nil .nil))))))))))))) .nil)))) .nil) (.two .nil (.two .nil (.two .nil (.two (.any 373 138 (.ord 0 52 .nil (.ord 2 51 .nil (.ord 4 0 .nil (.ord 5 0 .nil (.ord 1 0 .nil (.ord 3 0 .nil (.ord 6 0 .nil (.ord 7 0 .nil (.ord 8 0 .nil .nil)))))))))) (.two (.tail 6 .nil) .nil))))))) .nil) (.sel 15 135 (.two .nil (.two .nil (.two .nil (.two (.join ⟨[1,4],[(5,.str),(6,Zt59)],[]⟩ (.any 2038 9 (.ord 1 1 .nil (.ord 2 0 .nil (.alt (.ord 0 0 .nil (.ord 3 0 .nil (.ord 4 0 .nil (.ord 5 0 .nil (.ord 6 0 .nil (.ord 7 0 .nil (.ord 8 0 .nil (.ord 9 0 .nil (.ord 10 0 .nil .nil))))))))) (.ord 3 0 .nil (.ord 4 0 .nil (.ord 0 0 .nil (.ord 5 0 .nil (.ord 6 0 .nil (.ord 7 0 .nil (.ord 8 0 .nil (.ord 9 0 .nil (.ord 10 0 .nil .nil)))))))))))))) (.two (.join ⟨[],[(0,.bool)],[]⟩ (.two (.two .nil (.two .nil (.two (.any 11247 1040 (.ord 0 0 .nil (.ord 1 0 .nil (.ord 2 0 .nil (.ord 3 999 .nil (.ord 5 0 .nil (.ord 6 0 .nil (.ord 7 0 .nil (.ord 8 0 .nil (.ord 9 2559 .nil (.ord 4 0 .nil (.ord 11 0 .nil (.ord 10 0 .nil (.ord 12 0 .nil (.ord 13 0 .nil (.ord 14 0 .nil .nil)))))))))))))))) .nil))) .nil)) .nil))))) .nil)))
noncomputable def gamehalltopH10Plays_con:Con:=⟨[],true,[],.bool,fun x=>qbs,none⟩
noncomputable def qdI:Env:=(40,.con slicesClone_PremoveMove_con)::(39,.rd plainGameMoves_con)::(13,.body Tryz.f13)::(19,.con recordText_con)::(11,.io matchMatchDo_con)::(37,.io matchMatchOver_con)::(35,.con journalAppend_con)::(48,.con qjk)::(47,.con offerNew_con)::(46,.con clockCopy_con)::(44,.con clockStart_con)::(45,.con rulesCopy_con)::(57,.ck 86)::(50,.con placeBegin_con)::(43,.body Tryz.f43)::(16,.body Tryz.f16)::(18,.con gamehalltopH10Minute_con)::(17,.con gamehalltopH10Tic_con)::[]
theorem qhY (x:DL gamehalltopH10Plays_con.ps):gamehalltopH10Plays_con.φ x=denF Tryz.prog qdI qdD Tryz.f4 gamehalltopH10Plays_con.ps gamehalltopH10Plays_con.one gamehalltopH10Plays_con.res gamehalltopH10Plays_con.ρ x:=by kernel_rfl
theorem qiT:ConOK Tryz.prog 4 gamehalltopH10Plays_con :=
  qa (env:=qdI) ((EnvOK.cons (EnvOK.readonly (EnvOK.body (EnvOK.cons (EnvOK.inout (EnvOK.inout (EnvOK.cons (EnvOK.cons (EnvOK.cons (EnvOK.cons (EnvOK.cons (EnvOK.cons (EnvOK.check (EnvOK.cons (EnvOK.body (EnvOK.body (EnvOK.cons (EnvOK.cons (EnvOK.nil _) qky) qic) Tryz.func16) Tryz.func43) qfr) qc) qjT) qnp) qoD) qqi) qpG) qeW) qd2) qjs) qtf) Tryz.func13) qbg) qaf)) mixed Tryz.func4 gamehalltopH10Plays_con qdD (by kernel_rfl) (fun h=>by first | rfl | cases h) (fun g hg=>by cases hg) qhY
def qcC:Ann:=(.two (.two .nil (.two .nil (.two .nil (.two .nil (.two .nil (.two .nil (.two (.two (.two .nil (.two (.two (.two .nil (.two .nil (.two .nil (.two (.frz [31,32,33] (.join ⟨[],[(2,Zt3),(3,Zt59)],[]⟩ (.any 213 42 (.ord 0 12 .nil (.alt (.ord 1 0 .nil (.ord 2 0 .nil (.ord 3 0 .nil (.ord 4 0 .nil (.ord 5 0 .nil (.ord 6 0 .nil (.ord 7 0 .nil .nil))))))) (.ord 2 0 .nil (.alt (.ord 1 0 .nil (.ord 3 0 .nil (.ord 4 0 .nil (.ord 5 0 .nil (.ord 6 0 .nil (.ord 7 0 .nil .nil)))))) (.ord 3 0 .nil (.ord 1 0 .nil (.ord 4 0 .nil (.ord 5 0 .nil (.ord 6 0 .nil (.ord 7 0 .nil .nil))))))))))))) .nil)))) .nil) (.two .nil (.two .nil (.two .nil (.two (.any 373 138 (.ord 0 52 .nil (.ord 2 51 .nil (.ord 4 0 .nil (.ord 5 0 .nil (.ord 1 0 .nil (.ord 3 0 .nil (.ord 6 0 .nil (.ord 7 0 .nil (.ord 8 0 .nil .nil)))))))))) (.two (.tail 6 .nil) .nil))))))) .nil) (.sel 39 135 (.two .nil (.two (.two .nil (.joinE ⟨[13],[],[(40,some (.box Zt2)),(42,none),(43,none),(44,none)]⟩ (.two (.loop ⟨[13,58,59],[(60,Zt59)],[(40,some (.box Zt2)),(42,none),(43,none),(44,none)]⟩ .nil) .nil))) .nil)) (.two .nil (.two (.two .nil (.two (.loop ⟨[],[(1000000,.nil)],[]⟩ .nil) .nil)) .nil)))))))))) .nil)
def qN:Ann:=(.two (.two (.join ⟨[9,13,17],[(98,.bool)],[]⟩ .nil) .nil) (.two (.two .nil (.two (.loop ⟨[],[(1000000,.nil)],[]⟩ .nil) .nil)) .nil))
def qcB:Ann:=(.two .nil (.two .nil (.two (.any 11247 1040 (.ord 0 0 .nil (.ord 1 0 .nil (.ord 2 0 .nil (.ord 3 999 .nil (.ord 5 0 .nil (.ord 6 0 .nil (.ord 7 0 .nil (.ord 8 0 .nil (.ord 9 2559 .nil (.ord 4 0 .nil (.ord 11 0 .nil (.ord 10 0 .nil (.ord 12 0 .nil (.ord 13 0 .nil (.ord 14 0 .nil .nil)))))))))))))))) .nil)))
def qcG:Ann:=(.two .nil (.two .nil (.two .nil (.two (.two (.two .nil (.two (.two (.two .nil (.two (.two (.two .nil (.two .nil (.two .nil (.two (.frz [7,8,9] (.join ⟨[],[(2,Zt3),(3,Zt59)],[]⟩ (.any 213 42 (.ord 0 12 .nil (.alt (.ord 1 0 .nil (.ord 2 0 .nil (.ord 3 0 .nil (.ord 4 0 .nil (.ord 5 0 .nil (.ord 6 0 .nil (.ord 7 0 .nil .nil))))))) (.ord 2 0 .nil (.alt (.ord 1 0 .nil (.ord 3 0 .nil (.ord 4 0 .nil (.ord 5 0 .nil (.ord 6 0 .nil (.ord 7 0 .nil .nil)))))) (.ord 3 0 .nil (.ord 1 0 .nil (.ord 4 0 .nil (.ord 5 0 .nil (.ord 6 0 .nil (.ord 7 0 .nil .nil))))))))))))) .nil)))) .nil) (.two .nil (.two .nil (.two .nil (.two (.any 373 138 (.ord 0 52 .nil (.ord 2 51 .nil (.ord 4 0 .nil (.ord 5 0 .nil (.ord 1 0 .nil (.ord 3 0 .nil (.ord 6 0 .nil (.ord 7 0 .nil (.ord 8 0 .nil .nil)))))))))) (.two (.tail 6 .nil) .nil))))))) .nil) (.sel 15 135 (.two .nil (.two (.two .nil (.join ⟨[8],[],[(16,some (.box Zt2)),(18,none),(19,none),(20,none)]⟩ (.two (.loop ⟨[8,24,25],[(26,Zt59)],[(16,some (.box Zt2)),(18,none),(19,none),(20,none)]⟩ .nil) .nil))) .nil)) (.two .nil (.two (.two .nil (.two (.loop ⟨[],[(1000000,.nil)],[]⟩ .nil) .nil)) .nil))))) .nil) (.sel 15 135 (.two .nil (.two .nil (.two .nil (.two .nil (.two .nil (.two (.two .nil (.two (.two (.frz [25] (.join ⟨[],[(16,Zt59)],[]⟩ qcC)) .nil) .nil)) (.two qcC (.sel 28 1000011 (.sel 35 1000010 qN (.sel 35 1000013 qN (.sel 38 1000010 (.sel 48 1000002 qN (.two .nil (.two (.two .nil (.joinE ⟨[9,17],[],[(40,some (.box Zt2)),(45,none),(46,none),(47,none)]⟩ (.two (.loop ⟨[9,17,103,104],[(105,Zt59)],[(40,some (.box Zt2)),(45,none),(46,none),(47,none)]⟩ (.two .nil (.two .nil (.two (.two (.two .nil (.two .nil (.two (.join ⟨[9,17,103,104,105],[(122,.bool)],[(40,some (.box Zt2)),(50,none),(51,none),(52,none)]⟩ .nil) .nil))) .nil) .nil)))) .nil))) (.two (.join ⟨[],[(8,.bool)],[]⟩ (.two qcB (.two qcB .nil))) .nil)))) qN))) qN)))))))) .nil)))))
noncomputable def gamehalltopTopJournal_con:Con:=⟨[Zt13,Zt35,(.sl Zt26),Zt59],true,[],.bool,fun x=>qci x.1 x.2.1 x.2.2.1 x.2.2.2.1,none⟩
noncomputable def qcL:Env:=(14,.con placeSame_con)::(42,.rd plainGamePosition_con)::(15,.body Tryz.f15)::(40,.con slicesClone_PremoveMove_con)::(39,.rd plainGameMoves_con)::(13,.body Tryz.f13)::(12,.con gamehalltopH10Alike_con)::(10,.con matchReadEntry_con)::(31,.con matchNumber_con)::(30,.con stringsCutPrefix_con)::(20,.con journalCheck_con)::(9,.body Tryz.f9)::(8,.con journalRecover_con)::(25,.con slicesClone_JournalEntry_con)::(7,.body Tryz.f7)::(6,.con journalWrite_con)::(11,.io matchMatchDo_con)::(37,.io matchMatchOver_con)::(35,.con journalAppend_con)::(48,.con qjk)::(47,.con offerNew_con)::(46,.con clockCopy_con)::(44,.con clockStart_con)::(45,.con rulesCopy_con)::(57,.ck 86)::(50,.con placeBegin_con)::(43,.body Tryz.f43)::(16,.body Tryz.f16)::(5,.body Tryz.f5)::(4,.con gamehalltopH10Plays_con)::[]
theorem qhd (x:DL gamehalltopTopJournal_con.ps):gamehalltopTopJournal_con.φ x=denF Tryz.prog qcL qcG Tryz.f3 gamehalltopTopJournal_con.ps gamehalltopTopJournal_con.one gamehalltopTopJournal_con.res gamehalltopTopJournal_con.ρ x:=by kernel_rfl
theorem gamehalltopTopJournal_ok:ConOK Tryz.prog 3 gamehalltopTopJournal_con :=
  qa (env:=qcL) ((EnvOK.cons (EnvOK.readonly (EnvOK.body (EnvOK.cons (EnvOK.readonly (EnvOK.body (EnvOK.cons (EnvOK.cons (EnvOK.cons (EnvOK.cons (EnvOK.cons (EnvOK.body (EnvOK.cons (EnvOK.cons (EnvOK.body (EnvOK.cons (EnvOK.inout (EnvOK.inout (EnvOK.cons (EnvOK.cons (EnvOK.cons (EnvOK.cons (EnvOK.cons (EnvOK.cons (EnvOK.check (EnvOK.cons (EnvOK.body (EnvOK.body (EnvOK.body (EnvOK.cons (EnvOK.nil _) qiT) Tryz.func5) Tryz.func16) Tryz.func43) qfr) qc) qjT) qnp) qoD) qqi) qpG) qeW) qd2) qjs) qq0) Tryz.func7) qcq) qob) Tryz.func9) qfW) qlZ) qkV) qod) qiS) Tryz.func13) qbg) qaf) Tryz.func15) qP) qpb)) mixed Tryz.func3 gamehalltopTopJournal_con qcG (by kernel_rfl) (fun h=>by first | rfl | cases h) (fun g hg=>by cases hg) qhd
end Go.Proofs.YtlfpfiplndkofaaGreatDoor
