/- Several texts in one: TextC, RecordC, HtenC, TopNotationC. -/
import Derived.Test.YthidcmjpbokeeaaGreatDoorMAA
import Derived.Test.YthidcmjpbokeeaaGreatDoorMAI
import Derived.Test.YthidcmjpbokeeaaGreatDoorMAF
import Derived.Test.YthidcmjpbokeeaaGreatDoorMatchC
namespace Go.Proofs.YthidcmjpbokeeaaGreatDoor
open Go.Den
set_option linter.unusedVariables false
set_option maxRecDepth 100000
def qfY:Ann := .nil
noncomputable def movetextLetter_con:Con:=⟨[Zt15,Zt60],true,[],.str,fun x=>qbv x.1 x.2.1,none⟩
noncomputable def qgt:Env:=[]
theorem ql3 (x:DL movetextLetter_con.ps):movetextLetter_con.φ x=denF Tryz.prog qgt qfY Tryz.f98 movetextLetter_con.ps movetextLetter_con.one movetextLetter_con.res movetextLetter_con.ρ x:=by kernel_rfl
theorem qno:ConOK Tryz.prog 98 movetextLetter_con :=
 qb (env:=qgt) ((EnvOK.nil _)) mixed Tryz.func98 movetextLetter_con qfY (by kernel_rfl) (fun h=>by first | rfl | cases h) (fun g hg=>by cases hg) ql3
def qgp:Ann := .nil
noncomputable def movetextColumn_con:Con:=⟨[Zt15,Zt60],true,[],.str,fun x=>qaZ x.1 x.2.1,none⟩
noncomputable def qgy:Env:=[]
theorem ql5 (x:DL movetextColumn_con.ps):movetextColumn_con.φ x=denF Tryz.prog qgy qgp Tryz.f160 movetextColumn_con.ps movetextColumn_con.one movetextColumn_con.res movetextColumn_con.ρ x:=by kernel_rfl
theorem qhq:ConOK Tryz.prog 160 movetextColumn_con :=
 qb (env:=qgy) ((EnvOK.nil _)) mixed Tryz.func160 movetextColumn_con qgp (by kernel_rfl) (fun h=>by first | rfl | cases h) (fun g hg=>by cases hg) ql5
def qiJ:Ann := .nil
noncomputable def movetextRow_con:Con:=⟨[Zt15,Zt60],true,[],.str,fun x=>qbN x.1 x.2.1,none⟩
noncomputable def qiW:Env:=[]
theorem qo7 (x:DL movetextRow_con.ps):movetextRow_con.φ x=denF Tryz.prog qiW qiJ Tryz.f161 movetextRow_con.ps movetextRow_con.one movetextRow_con.res movetextRow_con.ρ x:=by kernel_rfl
theorem qkM:ConOK Tryz.prog 161 movetextRow_con :=
 qb (env:=qiW) ((EnvOK.nil _)) mixed Tryz.func161 movetextRow_con qiJ (by kernel_rfl) (fun h=>by first | rfl | cases h) (fun g hg=>by cases hg) qo7
def qgo:Ann := .nil
noncomputable def movetextSquare_con:Con:=⟨[Zt15,Zt60],true,[],.str,fun x=>qa0 x.1 x.2.1,none⟩
noncomputable def qf8:Env:=(161,.con movetextRow_con)::(160,.con movetextColumn_con)::[]
theorem qmy (x:DL movetextSquare_con.ps):movetextSquare_con.φ x=denF Tryz.prog qf8 qgo Tryz.f99 movetextSquare_con.ps movetextSquare_con.one movetextSquare_con.res movetextSquare_con.ρ x:=by kernel_rfl
theorem qgX:ConOK Tryz.prog 99 movetextSquare_con :=
 qb (env:=qf8) ((EnvOK.cons (EnvOK.cons (EnvOK.nil _) qhq) qkM)) mixed Tryz.func99 movetextSquare_con qgo (by kernel_rfl) (fun h=>by first | rfl | cases h) (fun g hg=>by cases hg) qmy
def qiw:Ann:=(.two .nil (.two .nil (.two (.two .nil (.join ⟨[4,7,9],[],[(3,some (.box Zt55))]⟩ (.two (.loop ⟨[4,5,7,9,13,14],[(15,Zt60)],[(3,some (.box Zt55))]⟩ (.two .nil (.two .nil (.two (.two (.two .nil (.two .nil (.join ⟨[4,5,7,9,13,14,15],[],[(3,some (.box Zt55)),(4,none)]⟩ .nil))) .nil) .nil)))) .nil))) (.two .nil (.two (.two (.two .nil (.two .nil (.two (.two (.two .nil (.two (.two (.two .nil (.two (.two (.two .nil (.two (.two .nil (.joinE ⟨[],[],[]⟩ (.two (.loop ⟨[0,1,7],[(8,Zt60)],[]⟩ .nil) .nil))) .nil)) .nil) .nil)) .nil) .nil)) .nil) (.two .nil (.two (.two (.two .nil (.two (.two (.two .nil (.two (.two (.two .nil (.two (.two .nil (.joinE ⟨[],[],[]⟩ (.two (.loop ⟨[0,1,7],[(8,Zt60)],[]⟩ .nil) .nil))) .nil)) .nil) .nil)) .nil) .nil)) .nil) .nil))))) .nil) .nil)))))
noncomputable def movetextMark_con:Con:=⟨[Zt15,Zt29,Zt48,Zt49],true,[],.str,fun x=>qgF x.1 x.2.1 x.2.2.1 x.2.2.2.1,none⟩
noncomputable def qh7:Env:=(99,.con movetextSquare_con)::(161,.con movetextRow_con)::(164,.body Tryz.f164)::(160,.con movetextColumn_con)::(163,.body Tryz.f163)::(129,.body Tryz.f129)::(70,.body Tryz.f70)::(162,.body Tryz.f162)::(58,.ck 64)::[]
theorem qor (x:DL movetextMark_con.ps):movetextMark_con.φ x=denF Tryz.prog qh7 qiw Tryz.f100 movetextMark_con.ps movetextMark_con.one movetextMark_con.res movetextMark_con.ρ x:=by kernel_rfl
theorem qoV:ConOK Tryz.prog 100 movetextMark_con :=
 qb (env:=qh7) ((EnvOK.cons (EnvOK.cons (EnvOK.body (EnvOK.cons (EnvOK.body (EnvOK.body (EnvOK.body (EnvOK.body (EnvOK.check (EnvOK.nil _) qd) Tryz.func162) Tryz.func70) Tryz.func129) Tryz.func163) qhq) Tryz.func164) qkM) qgX)) mixed Tryz.func100 movetextMark_con qiw (by kernel_rfl) (fun h=>by first | rfl | cases h) (fun g hg=>by cases hg) qor
def qkQ:Ann:=(.two .nil (.two .nil (.two .nil (.two .nil (.two (.two .nil (.join ⟨[4,7,9],[(10,.str)],[]⟩ .nil)) (.two .nil (.two (.two .nil (.join ⟨[],[(10,.str)],[]⟩ .nil)) .nil)))))))
noncomputable def movetextOf_con:Con:=⟨[Zt15,Zt29,Zt48,Zt49],true,[],.str,fun x=>qcg x.1 x.2.1 x.2.2.1 x.2.2.2.1,none⟩
noncomputable def qkR:Env:=(100,.con movetextMark_con)::(99,.con movetextSquare_con)::(98,.con movetextLetter_con)::[]
theorem qqd (x:DL movetextOf_con.ps):movetextOf_con.φ x=denF Tryz.prog qkR qkQ Tryz.f48 movetextOf_con.ps movetextOf_con.one movetextOf_con.res movetextOf_con.ρ x:=by kernel_rfl
theorem qhD:ConOK Tryz.prog 48 movetextOf_con :=
 qb (env:=qkR) ((EnvOK.cons (EnvOK.cons (EnvOK.cons (EnvOK.nil _) qno) qgX) qoV)) mixed Tryz.func48 movetextOf_con qkQ (by kernel_rfl) (fun h=>by first | rfl | cases h) (fun g hg=>by cases hg) qqd
def qib:Ann:=(.two .nil (.two .nil (.two .nil (.two (.two (.two .nil (.two (.two .nil (.joinE ⟨[],[],[]⟩ (.two (.loop ⟨[0,1,7],[(8,Zt60)],[]⟩ .nil) .nil))) .nil)) .nil) .nil))))
noncomputable def movetextRead_con:Con:=⟨[Zt15,Zt29,.str],false,[Zt49,Zt60],(.st Zt49 Zt56),fun x=>qbd x.1 x.2.1 x.2.2.1,none⟩
noncomputable def qic:Env:=(48,.con movetextOf_con)::(112,.body Tryz.f112)::(111,.body Tryz.f111)::(110,.con movesAll_con)::(58,.ck 64)::[]
theorem qom (x:DL movetextRead_con.ps):movetextRead_con.φ x=denF Tryz.prog qic qib Tryz.f52 movetextRead_con.ps movetextRead_con.one movetextRead_con.res movetextRead_con.ρ x:=by kernel_rfl
theorem qiR:ConOK Tryz.prog 52 movetextRead_con :=
 qb (env:=qic) ((EnvOK.cons (EnvOK.body (EnvOK.body (EnvOK.cons (EnvOK.check (EnvOK.nil _) qd) qu9) Tryz.func111) Tryz.func112) qhD)) mixed Tryz.func52 movetextRead_con qib (by kernel_rfl) (fun h=>by first | rfl | cases h) (fun g hg=>by cases hg) qom
def qfF:Ann:=(.two .nil (.two (.two .nil (.joinE ⟨[],[],[]⟩ (.two (.loop ⟨[0,1,7],[(8,Zt60)],[]⟩ .nil) .nil))) .nil))
noncomputable def recordPrintable_con:Con:=⟨[.str,.str],true,[],.bool,fun x=>qb3 x.1 x.2.1,none⟩
noncomputable def qfl:Env:=(173,.con qkG)::[]
theorem qlx (x:DL recordPrintable_con.ps):recordPrintable_con.φ x=denF Tryz.prog qfl qfF Tryz.f114 recordPrintable_con.ps recordPrintable_con.one recordPrintable_con.res recordPrintable_con.ρ x:=by kernel_rfl
theorem qgJ:ConOK Tryz.prog 114 recordPrintable_con :=
 qb (env:=qfl) ((EnvOK.cons (EnvOK.nil _) qsS)) mixed Tryz.func114 recordPrintable_con qfF (by kernel_rfl) (fun h=>by first | rfl | cases h) (fun g hg=>by cases hg) qlx
def qkV:Ann:=(.two .nil (.two (.two .nil (.joinE ⟨[],[],[]⟩ (.two (.loop ⟨[1,6,7],[(8,Zt60)],[]⟩ (.two .nil (.two .nil (.two (.two (.two .nil (.two (.two .nil (.two .nil (.two .nil (.two .nil (.two .nil (.two .nil (.two (.two (.two .nil (.two (.two (.two .nil (.two (.two .nil (.joinE ⟨[],[],[]⟩ (.two (.loop ⟨[0,1,7],[(8,Zt60)],[]⟩ .nil) .nil))) .nil)) .nil) .nil)) .nil) .nil))))))) .nil)) .nil) .nil)))) .nil))) .nil))
noncomputable def recordTags_con:Con:=⟨[Zt21],true,[],Zt60,fun x=>qjQ x.1,none⟩
noncomputable def qko:Env:=(116,.body Tryz.f116)::(174,.body Tryz.f174)::(115,.body Tryz.f115)::(114,.con recordPrintable_con)::(67,.con rulesName_con)::(58,.ck 64)::[]
theorem qqh (x:DL recordTags_con.ps):recordTags_con.φ x=denF Tryz.prog qko qkV Tryz.f55 recordTags_con.ps recordTags_con.one recordTags_con.res recordTags_con.ρ x:=by kernel_rfl
theorem qsd:ConOK Tryz.prog 55 recordTags_con :=
 qb (env:=qko) ((EnvOK.body (EnvOK.body (EnvOK.body (EnvOK.cons (EnvOK.cons (EnvOK.check (EnvOK.nil _) qd) qn0) qgJ) Tryz.func115) Tryz.func174) Tryz.func116)) mixed Tryz.func55 recordTags_con qkV (by kernel_rfl) (fun h=>by first | rfl | cases h) (fun g hg=>by cases hg) qqh
def qgW:Ann := .nil
noncomputable def recordComment_con:Con:=⟨[.str],true,[],Zt60,fun x=>qdg x.1,none⟩
noncomputable def qhb:Env:=(114,.con recordPrintable_con)::[]
theorem qnm (x:DL recordComment_con.ps):recordComment_con.φ x=denF Tryz.prog qhb qgW Tryz.f56 recordComment_con.ps recordComment_con.one recordComment_con.res recordComment_con.ρ x:=by kernel_rfl
theorem qio:ConOK Tryz.prog 56 recordComment_con :=
 qb (env:=qhb) ((EnvOK.cons (EnvOK.nil _) qgJ)) mixed Tryz.func56 recordComment_con qgW (by kernel_rfl) (fun h=>by first | rfl | cases h) (fun g hg=>by cases hg) qnm
def qn4:Ann:=(.two .nil (.two (.two .nil (.joinE ⟨[1],[],[]⟩ (.two (.loop ⟨[1,3],[(7,Zt60)],[]⟩ .nil) .nil))) .nil))
noncomputable def recordOn_con:Con:=⟨[Zt21,Zt60,Zt60],true,[],.bool,fun x=>qj0 x.1 x.2.1 x.2.2.1,none⟩
noncomputable def qnP:Env:=[]
theorem qsX (x:DL recordOn_con.ps):recordOn_con.φ x=denF Tryz.prog qnP qn4 Tryz.f117 recordOn_con.ps recordOn_con.one recordOn_con.res recordOn_con.ρ x:=by kernel_rfl
theorem quS:ConOK Tryz.prog 117 recordOn_con :=
 qb (env:=qnP) ((EnvOK.nil _)) mixed Tryz.func117 recordOn_con qn4 (by kernel_rfl) (fun h=>by first | rfl | cases h) (fun g hg=>by cases hg) qsX
def qmB:Ann:=(.two .nil (.two .nil (.two (.two .nil (.join ⟨[],[(5,Zt45)],[]⟩ (.two (.loop ⟨[2],[(5,Zt45),(6,Zt60)],[]⟩ .nil) .nil))) (.two (.two (.two .nil (.join ⟨[],[],[(1,some (.arr 49 Zt49))]⟩ (.two (.loop ⟨[0],[(2,Zt60),(3,Zt60)],[(1,some (.arr 49 Zt49))]⟩ (.two .nil (.two (.two (.any 24575 0 (.ord 0 0 .nil (.ord 1 0 .nil (.ord 2 0 .nil (.ord 3 0 .nil (.ord 4 0 .nil (.ord 5 0 .nil (.ord 6 0 .nil (.ord 7 3967 .nil (.ord 8 0 .nil (.ord 9 0 .nil (.ord 10 0 .nil (.ord 11 0 .nil (.ord 12 0 .nil (.ord 13 0 .nil (.ord 14 0 .nil (.ord 15 0 .nil .nil))))))))))))))))) .nil) .nil))) .nil))) .nil) .nil))))
noncomputable def recordWay_con:Con:=⟨[Zt21,Zt60],true,[],Zt45,fun x=>qat x.1 x.2.1,none⟩
noncomputable def ql6:Env:=(176,.body Tryz.f176)::[]
theorem qsw (x:DL recordWay_con.ps):recordWay_con.φ x=denF Tryz.prog ql6 qmB Tryz.f120 recordWay_con.ps recordWay_con.one recordWay_con.res recordWay_con.ρ x:=by kernel_rfl
theorem qt0:ConOK Tryz.prog 120 recordWay_con :=
 qb (env:=ql6) ((EnvOK.body (EnvOK.nil _) Tryz.func176)) mixed Tryz.func120 recordWay_con qmB (by kernel_rfl) (fun h=>by first | rfl | cases h) (fun g hg=>by cases hg) qsw
def qc9:Ann:=(.ord 4 0 .nil (.ord 5 0 .nil (.ord 6 0 .nil (.ord 7 0 .nil (.ord 8 0 .nil (.ord 10 0 .nil (.ord 11 0 .nil (.ord 12 0 .nil .nil))))))))
def qiE:Ann:=(.alt (.ord 4 0 .nil (.ord 5 0 .nil (.ord 6 0 .nil (.ord 7 0 .nil (.ord 8 0 .nil (.ord 9 0 .nil (.ord 10 0 .nil (.ord 11 0 .nil (.ord 12 0 .nil .nil))))))))) (.ord 9 0 .nil qc9))
def qkg:Ann:=(.two .nil (.two .nil (.two .nil (.two .nil (.two (.two .nil (.join ⟨[2,3,4,5,9],[],[(0,some (.arr 3 Zt60))]⟩ .nil)) (.two (.two .nil (.joinE ⟨[2,3,4,5,9],[],[]⟩ (.two (.loop ⟨[2,3,4,5,9,54,55],[(56,Zt60)],[]⟩ (.two .nil (.two .nil (.two (.joinE ⟨[2,3,4,5,9,54,55,56],[],[]⟩ .nil) .nil)))) .nil))) (.two (.two (.two (.two .nil (.two (.two (.two .nil (.two (.two .nil (.joinE ⟨[],[],[]⟩ (.two (.loop ⟨[0,1,7],[(8,Zt60)],[]⟩ .nil) .nil))) .nil)) .nil) .nil)) .nil) (.sel 4 1000005 (.join ⟨[2,3,4,5],[],[(0,some (.arr 3 Zt60))]⟩ .nil) .nil)) (.two (.two (.join ⟨[2,3],[(15,Zt60)],[]⟩ (.any 6631 512 (.ord 1 517 .nil (.ord 2 0 .nil (.alt (.ord 0 0 .nil (.alt (.ord 3 0 .nil qiE) (.ord 9 0 .nil (.ord 3 0 .nil qc9)))) (.alt (.ord 3 0 .nil (.ord 0 526 .nil qiE)) (.ord 9 0 .nil (.alt (.ord 0 0 .nil (.ord 3 0 .nil qc9)) (.ord 3 0 .nil (.ord 0 0 .nil qc9)))))))))) .nil) .nil))))))))
noncomputable def recordNode_con:Roc:=⟨3,3,Zt60,[Zt15,Zt21,Zt60],true,[],Zt60,fun x=>qfa x.1 x.2.1 x.2.2.1 x.2.2.2.1⟩
noncomputable def qkp:Env:=(13,.con plainRun_con)::(120,.con recordWay_con)::(119,.body Tryz.f119)::(175,.body Tryz.f175)::(118,.body Tryz.f118)::(117,.con recordOn_con)::(56,.con recordComment_con)::(58,.ck 64)::[]
theorem qqH (x:DL (Zt57::[Zt15,Zt21,Zt60])):recordNode_con.φ x=denRO Tryz.prog qkp qkg Tryz.f57 3 3 Zt60 [Zt15,Zt21,Zt60] true [] Zt60 x:=by kernel_rfl
theorem qrU:RocOK Tryz.prog 57 recordNode_con :=
 qw7 (env:=qkp) ((EnvOK.cons (EnvOK.cons (EnvOK.body (EnvOK.body (EnvOK.body (EnvOK.cons (EnvOK.cons (EnvOK.check (EnvOK.nil _) qd) qio) quS) Tryz.func118) Tryz.func175) Tryz.func119) qt0) qlw)) mixed Tryz.func57 recordNode_con qkg (by kernel_rfl) (fun h=>by first | rfl | cases h) qqH
def qjv:Ann:=(.two .nil (.two .nil (.two .nil (.two .nil (.two .nil (.two .nil (.two .nil (.two (.two .nil (.joinE ⟨[],[],[(2,some (.arr 3 Zt60))]⟩ (.two (.loop ⟨[2,3,8,51],[(52,Zt60)],[(2,some (.arr 3 Zt60))]⟩ .nil) .nil))) .nil))))))))
noncomputable def recordCheck_con:Con:=⟨[Zt15,Zt21],true,[],Zt60,fun x=>qax x.1 x.2.1,none⟩
noncomputable def qiM:Env:=(57,.ro recordNode_con)::(56,.con recordComment_con)::(55,.con recordTags_con)::(36,.con rulesCheck_con)::[]
theorem qp8 (x:DL recordCheck_con.ps):recordCheck_con.φ x=denF Tryz.prog qiM qjv Tryz.f21 recordCheck_con.ps recordCheck_con.one recordCheck_con.res recordCheck_con.ρ x:=by kernel_rfl
theorem qgV:ConOK Tryz.prog 21 recordCheck_con :=
 qb (env:=qiM) ((EnvOK.rowio (EnvOK.cons (EnvOK.cons (EnvOK.cons (EnvOK.nil _) qe3) qsd) qio) qrU)) mixed Tryz.func21 recordCheck_con qjv (by kernel_rfl) (fun h=>by first | rfl | cases h) (fun g hg=>by cases hg) qp8
def qkK:Ann:=(.two .nil (.two .nil (.two (.two .nil (.join ⟨[],[(5,Zt57)],[]⟩ (.two (.loop ⟨[1,9,10],[(5,Zt57),(11,Zt60)],[]⟩ (.two .nil (.two .nil (.two (.two (.two .nil (.two .nil (.join ⟨[1,9,10,11],[(5,Zt57)],[(1,none)]⟩ .nil))) .nil) .nil)))) .nil))) .nil)))
noncomputable def recordKids_con:Con:=⟨[Zt21,Zt60],true,[],Zt57,fun x=>qdy x.1 x.2.1,none⟩
noncomputable def qkt:Env:=(58,.ck 64)::[]
theorem qql (x:DL recordKids_con.ps):recordKids_con.φ x=denF Tryz.prog qkt qkK Tryz.f60 recordKids_con.ps recordKids_con.one recordKids_con.res recordKids_con.ρ x:=by kernel_rfl
theorem qlM:ConOK Tryz.prog 60 recordKids_con :=
 qb (env:=qkt) ((EnvOK.check (EnvOK.nil _) qd)) mixed Tryz.func60 recordKids_con qkK (by kernel_rfl) (fun h=>by first | rfl | cases h) (fun g hg=>by cases hg) qql
def qdY:Ann := .nil
noncomputable def gamehalltopH10Tic_con:Con:=⟨[],true,[],Zt13,fun x=>qcI,some fun x=>qa⟩
noncomputable def qei:Env:=(58,.ck 64)::[]
theorem qjC (x:DL gamehalltopH10Tic_con.ps):gamehalltopH10Tic_con.φ x=denF Tryz.prog qei qdY Tryz.f39 gamehalltopH10Tic_con.ps gamehalltopH10Tic_con.one gamehalltopH10Tic_con.res gamehalltopH10Tic_con.ρ x:=by kernel_rfl
theorem qj5:ConOK Tryz.prog 39 gamehalltopH10Tic_con :=
 qb (env:=qei) ((EnvOK.check (EnvOK.nil _) qd)) mixed Tryz.func39 gamehalltopH10Tic_con qdY (by kernel_rfl) (fun h=>by first | rfl | cases h) (fun g hg x=>by
  cases hg
  exact qj3 ) qjC
def qcL:Ann := .nil
noncomputable def gamehalltopH10Minute_con:Con:=⟨[],true,[],Zt32,fun x=>qbz,some fun x=>gamehalltopH10Minute⟩
noncomputable def qcN:Env:=(58,.ck 64)::[]
theorem qg4 (x:DL gamehalltopH10Minute_con.ps):gamehalltopH10Minute_con.φ x=denF Tryz.prog qcN qcL Tryz.f40 gamehalltopH10Minute_con.ps gamehalltopH10Minute_con.one gamehalltopH10Minute_con.res gamehalltopH10Minute_con.ρ x:=by kernel_rfl
theorem qhK:ConOK Tryz.prog 40 gamehalltopH10Minute_con :=
 qb (env:=qcN) ((EnvOK.check (EnvOK.nil _) qd)) mixed Tryz.func40 gamehalltopH10Minute_con qcL (by kernel_rfl) (fun h=>by first | rfl | cases h) (fun g hg x=>by
  cases hg
  exact qhw ) qg4
def qdp:Ann:=(.two .nil (.two .nil (.two (.two .nil (.joinE ⟨[],[],[]⟩ (.two (.loop ⟨[0,1,12],[(13,Zt60)],[]⟩ .nil) .nil))) .nil)))
noncomputable def gamehalltopH10Same_con:Con:=⟨[Zt48,Zt48],true,[],.bool,fun x=>qaw x.1 x.2.1,none⟩
noncomputable def qdw:Env:=[]
theorem qiz (x:DL gamehalltopH10Same_con.ps):gamehalltopH10Same_con.φ x=denF Tryz.prog qdw qdp Tryz.f17 gamehalltopH10Same_con.ps gamehalltopH10Same_con.one gamehalltopH10Same_con.res gamehalltopH10Same_con.ρ x:=by kernel_rfl
theorem qiH:ConOK Tryz.prog 17 gamehalltopH10Same_con :=
 qb (env:=qdw) ((EnvOK.nil _)) mixed Tryz.func17 gamehalltopH10Same_con qdp (by kernel_rfl) (fun h=>by first | rfl | cases h) (fun g hg=>by cases hg) qiz
def qfv:Ann:=(.two .nil (.two (.any 6290431 2098176 (.ord 0 0 .nil (.ord 1 0 .nil (.ord 2 0 .nil (.ord 3 1048567 .nil (.ord 4 1048559 .nil (.ord 5 0 .nil (.ord 6 0 .nil (.ord 7 0 .nil (.ord 8 1047295 .nil (.ord 9 1047039 .nil (.ord 11 0 .nil (.ord 12 0 .nil (.ord 13 0 .nil (.ord 14 0 .nil (.ord 15 98303 .nil (.ord 16 0 .nil (.ord 17 0 .nil (.ord 18 0 .nil (.ord 19 524287 .nil (.ord 10 0 .nil (.ord 20 0 .nil (.ord 21 0 .nil (.ord 22 0 .nil .nil)))))))))))))))))))))))) (.two (.two .nil (.two .nil (.join ⟨[],[(7,Zt59)],[(3,none)]⟩ .nil))) .nil)))
noncomputable def recordWriterOne_con:Ioc:=⟨Zt10,[Zt29,Zt60],true,[],Zt59,fun x=>qa7 x.1 x.2.1 x.2.2.1⟩
noncomputable def qff:Env:=(48,.con movetextOf_con)::(49,.con movesList_con)::[]
theorem qlz (x:DL (Zt10::[Zt29,Zt60])):recordWriterOne_con.φ x=denIO Tryz.prog qff qfv Tryz.f62 Zt10 [Zt29,Zt60] true [] Zt59 x:=by kernel_rfl
theorem qlY:IocOK Tryz.prog 62 recordWriterOne_con :=
 qaG (env:=qff) ((EnvOK.cons (EnvOK.cons (EnvOK.nil _) qcQ) qhD)) mixed Tryz.func62 recordWriterOne_con qfv (by kernel_rfl) (fun h=>by first | rfl | cases h) qlz
def qak:Ann:=(.ord 10 0 .nil (.ord 11 0 .nil (.ord 12 0 .nil .nil)))
def qee:Ann:=(.two .nil (.two .nil (.two .nil (.two .nil (.two (.tail 5 .nil) (.two (.two .nil (.join ⟨[3,7,8],[(9,Zt59)],[(0,some (.box Zt12)),(4,none)]⟩ (.two (.loop ⟨[3,4,7,8,30,31],[(9,Zt59),(32,Zt60)],[(0,some (.box Zt12)),(4,none)]⟩ (.two .nil (.two .nil (.two (.two (.two .nil (.two (.join ⟨[3,4,7,8,9,30,31,32],[(12,Zt59)],[(0,some (.box Zt12))]⟩ (.any 2423 0 (.ord 0 374 .nil (.ord 1 373 .nil (.ord 2 0 .nil (.ord 5 0 .nil (.ord 6 0 .nil (.ord 8 0 .nil (.alt (.ord 3 0 .nil (.alt (.ord 4 0 .nil (.ord 7 0 (.two .nil (.two (.tail 14 .nil) .nil)) (.ord 9 0 .nil (.ord 10 0 .nil (.ord 11 0 .nil .nil))))) (.ord 7 0 (.two .nil (.two (.tail 14 .nil) .nil)) (.ord 4 0 .nil (.ord 9 0 .nil (.ord 10 0 .nil (.ord 11 0 .nil .nil))))))) (.ord 4 0 .nil (.ord 3 0 .nil (.ord 7 0 (.two .nil (.two (.tail 14 .nil) .nil)) (.ord 9 0 .nil (.ord 10 0 .nil (.ord 11 0 .nil .nil))))))))))))))) .nil)) .nil) .nil)))) .nil))) (.two (.join ⟨[],[(6,Zt59)],[(0,some (.box Zt12)),(5,none)]⟩ (.any 5055 0 (.ord 0 0 .nil (.ord 2 0 .nil (.ord 3 0 .nil (.ord 4 0 .nil (.ord 5 927 .nil (.ord 7 0 .nil (.ord 8 0 .nil (.alt (.ord 1 0 .nil (.alt (.ord 6 0 (.two .nil (.two (.tail 14 .nil) .nil)) (.ord 9 0 .nil qak)) (.ord 9 0 .nil (.ord 6 0 (.two .nil (.two (.tail 14 .nil) .nil)) qak)))) (.alt (.ord 6 0 (.two .nil (.two (.tail 14 .nil) .nil)) (.ord 1 1021 .nil (.ord 9 0 .nil qak))) (.ord 9 0 .nil (.alt (.ord 1 0 .nil (.ord 6 0 (.two .nil (.two (.tail 14 .nil) .nil)) qak)) (.ord 6 0 (.two .nil (.two (.tail 14 .nil) .nil)) (.ord 1 0 .nil qak))))))))))))))) .nil)))))))
noncomputable def qdX:Ioc:=⟨Zt10,[Zt29,Zt60],true,[],Zt59,fun x=>qcc x.1 x.2.1 x.2.2.1⟩
noncomputable def qdZ (φ:DL (Zt10::[Zt29,Zt60])→Option (D Zt6)):Env:=(25,.con qg9)::(24,.io ⟨Zt10,[Zt29,Zt60],true,[],Zt59,φ⟩)::(50,.con movesMake_con)::(58,.ck 64)::(61,.body Tryz.f61)::(62,.io recordWriterOne_con)::(60,.con recordKids_con)::[]
theorem qjs (φ:DL (Zt10::[Zt29,Zt60])→Option (D Zt6)) (x:DL (Zt10::[Zt29,Zt60])):qv φ x=denIO Tryz.prog (qdZ φ) qee Tryz.f24 Zt10 [Zt29,Zt60] true [] Zt59 x:=by kernel_rfl
theorem qj1:IocOK Tryz.prog 24 qdX :=
 ioc_fix (bx:=Zt10) (ps:=[Zt29,Zt60]) (ρ:=Zt59) (G:=qv) (by kernel_rfl) (fun h=>by first | rfl | cases h) fun φ hφ =>
 qaG (env:=qdZ φ) ((EnvOK.cons (EnvOK.inout (EnvOK.cons (EnvOK.check (EnvOK.body (EnvOK.inout (EnvOK.cons (EnvOK.nil _) qlM) qlY) Tryz.func61) qd) qgI) hφ) qoN)) mixed Tryz.func24 ⟨Zt10,[Zt29,Zt60],true,[],Zt59,qv φ⟩ qee (by kernel_rfl) (fun h=>by first | rfl | cases h) (qjs φ)
def qg6:Ann := .nil
noncomputable def recordResults_con:Con:=⟨[],true,[],(.st .str (.st .str (.st .str (.st .str .nil)))),fun x=>qfm,some fun x=>qt⟩
noncomputable def qhs:Env:=(58,.ck 64)::[]
theorem qnf (x:DL recordResults_con.ps):recordResults_con.φ x=denF Tryz.prog qhs qg6 Tryz.f26 recordResults_con.ps recordResults_con.one recordResults_con.res recordResults_con.ρ x:=by kernel_rfl
theorem qii:ConOK Tryz.prog 26 recordResults_con :=
 qb (env:=qhs) ((EnvOK.check (EnvOK.nil _) qd)) mixed Tryz.func26 recordResults_con qg6 (by kernel_rfl) (fun h=>by first | rfl | cases h) (fun g hg x=>by
  cases hg
  exact qov ) qnf
def qkn:Ann:=(.two .nil (.two .nil (.two .nil (.two (.two .nil (.join ⟨[2,3,7],[],[(2,some (.bld 64 5))]⟩ (.two (.loop ⟨[2,3,7,20,21],[(22,Zt60)],[(2,some (.bld 64 5))]⟩ .nil) .nil))) (.two .nil (.two (.two .nil (.join ⟨[2,3,7],[(10,Zt59)],[]⟩ .nil)) (.two .nil (.two .nil (.two (.any 415 32 (.ord 0 0 .nil (.ord 1 13 .nil (.ord 2 0 .nil (.ord 3 0 .nil (.ord 4 0 .nil (.ord 5 0 .nil (.ord 6 0 .nil (.ord 7 0 .nil (.ord 8 0 .nil (.ord 9 0 .nil .nil))))))))))) .nil)))))))))
noncomputable def recordText_con:Con:=⟨[Zt15,Zt21],false,[.str,Zt60],(.st .str Zt56),fun x=>qcM x.1 x.2.1,none⟩
noncomputable def qkY:Env:=(28,.bs 64 5)::(27,.body Tryz.f27)::(25,.con qg9)::(26,.con recordResults_con)::(24,.io qdX)::(23,.con placeBegin_con)::(22,.body Tryz.f22)::(58,.ck 64)::(21,.con recordCheck_con)::[]
theorem qqw (x:DL recordText_con.ps):recordText_con.φ x=denF Tryz.prog qkY qkn Tryz.f8 recordText_con.ps recordText_con.one recordText_con.res recordText_con.ρ x:=by kernel_rfl
theorem ql7:ConOK Tryz.prog 8 recordText_con :=
 qb (env:=qkY) ((EnvOK.string (EnvOK.body (EnvOK.cons (EnvOK.cons (EnvOK.inout (EnvOK.cons (EnvOK.body (EnvOK.check (EnvOK.cons (EnvOK.nil _) qgV) qd) Tryz.func22) qcb) qj1) qii) qoN) Tryz.func27) qot)) mixed Tryz.func8 recordText_con qkn (by kernel_rfl) (fun h=>by first | rfl | cases h) (fun g hg=>by cases hg) qqw
def qc2:Ann:=(.two .nil (.two (.two (.two .nil (.two (.two (.two .nil (.two .nil (.two .nil (.two (.frz [0,1,2,7,8,9] (.join ⟨[],[(2,Zt3),(3,Zt60)],[]⟩ (.any 213 42 (.ord 0 12 .nil (.alt (.ord 1 0 .nil (.ord 2 0 .nil (.ord 3 0 .nil (.ord 4 0 .nil (.ord 5 0 .nil (.ord 6 0 .nil (.ord 7 0 .nil .nil))))))) (.ord 2 0 .nil (.alt (.ord 1 0 .nil (.ord 3 0 .nil (.ord 4 0 .nil (.ord 5 0 .nil (.ord 6 0 .nil (.ord 7 0 .nil .nil)))))) (.ord 3 0 .nil (.ord 1 0 .nil (.ord 4 0 .nil (.ord 5 0 .nil (.ord 6 0 .nil (.ord 7 0 .nil .nil))))))))))))) .nil)))) .nil) (.two .nil (.two .nil (.two .nil (.two (.any 373 138 (.ord 0 52 .nil (.ord 2 51 .nil (.ord 4 0 .nil (.ord 5 0 .nil (.ord 1 0 .nil (.ord 3 0 .nil (.ord 6 0 .nil (.ord 7 0 .nil (.ord 8 0 .nil .nil)))))))))) (.two (.tail 6 .nil) .nil))))))) .nil) (.sel 15 171 (.two .nil (.two .nil (.two .nil (.two (.join ⟨[1,4],[(5,.str),(6,Zt60)],[]⟩ (.any 2038 9 (.ord 1 1 .nil (.ord 2 0 .nil (.alt (.ord 0 0 .nil (.ord 3 0 .nil (.ord 4 0 .nil (.ord 5 0 .nil (.ord 6 0 .nil (.ord 7 0 .nil (.ord 8 0 .nil (.ord 9 0 .nil (.ord 10 0 .nil .nil))))))))) (.ord 3 0 .nil (.ord 4 0 .nil (.ord 0 0 .nil (.ord 5 0 .nil (.ord 6 0 .nil (.ord 7 0 .nil (.ord 8 0 .nil (.ord 9 0 .nil (.ord 10 0 .nil .nil)))))))))))))) (.two (.join ⟨[],[(0,.bool)],[]⟩ (.two (.two .nil (.two .nil (.two (.any 11247 1040 (.ord 0 0 .nil (.ord 1 0 .nil (.ord 2 0 .nil (.ord 3 999 .nil (.ord 5 0 .nil (.ord 6 0 .nil (.ord 7 0 .nil (.ord 8 0 .nil (.ord 9 2559 .nil (.ord 4 0 .nil (.ord 11 0 .nil (.ord 10 0 .nil (.ord 12 0 .nil (.ord 13 0 .nil (.ord 14 0 .nil .nil)))))))))))))))) .nil))) .nil)) .nil))))) .nil)))
noncomputable def gamehalltopH10Plays_con:Con:=⟨[],true,[],.bool,fun x=>qbl,none⟩
noncomputable def qdb:Env:=(92,.con slicesClone_PremoveMove_con)::(53,.rd plainGameMoves_con)::(42,.body Tryz.f42)::(8,.con recordText_con)::(41,.io matchMatchDo_con)::(88,.io matchMatchOver_con)::(86,.con journalAppend_con)::(87,.con qps)::(85,.con offerNew_con)::(84,.con clockCopy_con)::(82,.con clockStart_con)::(83,.con rulesCopy_con)::(58,.ck 64)::(23,.con placeBegin_con)::(43,.body Tryz.f43)::(38,.body Tryz.f38)::(40,.con gamehalltopH10Minute_con)::(39,.con gamehalltopH10Tic_con)::[]
theorem qhv (x:DL gamehalltopH10Plays_con.ps):gamehalltopH10Plays_con.φ x=denF Tryz.prog qdb qc2 Tryz.f12 gamehalltopH10Plays_con.ps gamehalltopH10Plays_con.one gamehalltopH10Plays_con.res gamehalltopH10Plays_con.ρ x:=by kernel_rfl
theorem qiA:ConOK Tryz.prog 12 gamehalltopH10Plays_con :=
 qb (env:=qdb) ((EnvOK.cons (EnvOK.readonly (EnvOK.body (EnvOK.cons (EnvOK.inout (EnvOK.inout (EnvOK.cons (EnvOK.cons (EnvOK.cons (EnvOK.cons (EnvOK.cons (EnvOK.cons (EnvOK.check (EnvOK.cons (EnvOK.body (EnvOK.body (EnvOK.cons (EnvOK.cons (EnvOK.nil _) qj5) qhK) Tryz.func38) Tryz.func43) qcb) qd) qiP) qso) qtk) qu8) qwM) qil) qg8) qpl) ql7) Tryz.func42) qdH) qcm)) mixed Tryz.func12 gamehalltopH10Plays_con qc2 (by kernel_rfl) (fun h=>by first | rfl | cases h) (fun g hg=>by cases hg) qhv
def qel:Ann := .nil
noncomputable def recordReaderBlank_con:Ioc:=⟨Zt7,[],false,[],.nil,fun x=>qS x.1⟩
noncomputable def qem:Env:=(136,.con qq8)::[]
theorem qiQ (x:DL (Zt7::[])):recordReaderBlank_con.φ x=denIO Tryz.prog qem qel Tryz.f80 Zt7 [] false [] .nil x:=by kernel_rfl
theorem qcr:IocOK Tryz.prog 80 recordReaderBlank_con :=
 qaG (env:=qem) ((EnvOK.cons (EnvOK.nil _) trimLS_ok)) mixed Tryz.func80 recordReaderBlank_con qel (by kernel_rfl) (fun h=>by first | rfl | cases h) qiQ
def qfH:Ann := .nil
noncomputable def recordReaderGot_con:Ioc:=⟨Zt7,[(.int .u8)],true,[],.bool,fun x=>qab x.1 x.2.1⟩
noncomputable def qfq:Env:=(80,.io recordReaderBlank_con)::[]
theorem qk6 (x:DL (Zt7::[(.int .u8)])):recordReaderGot_con.φ x=denIO Tryz.prog qfq qfH Tryz.f74 Zt7 [(.int .u8)] true [] .bool x:=by kernel_rfl
theorem qc3:IocOK Tryz.prog 74 recordReaderGot_con :=
 qaG (env:=qfq) ((EnvOK.inout (EnvOK.nil _) qcr)) mixed Tryz.func74 recordReaderGot_con qfH (by kernel_rfl) (fun h=>by first | rfl | cases h) qk6
def qcn:Ann := .nil
noncomputable def internalstringsliteCut_con:Con:=⟨[.str,.str],false,[.str,.str,.bool],(.st .str (.st .str (.st .bool .nil))),fun x=>qds x.1 x.2.1,none⟩
noncomputable def qcp:Env:=(221,.con qtA)::[]
theorem qfQ (x:DL internalstringsliteCut_con.ps):internalstringsliteCut_con.φ x=denF Tryz.prog qcp qcn Tryz.f180 internalstringsliteCut_con.ps internalstringsliteCut_con.one internalstringsliteCut_con.res internalstringsliteCut_con.ρ x:=by kernel_rfl
theorem qgK:ConOK Tryz.prog 180 internalstringsliteCut_con :=
 qb (env:=qcp) ((EnvOK.cons (EnvOK.nil _) idx1S_ok)) mixed Tryz.func180 internalstringsliteCut_con qcn (by kernel_rfl) (fun h=>by first | rfl | cases h) (fun g hg=>by cases hg) qfQ
def qkF:Ann := .nil
noncomputable def stringsCut_con:Con:=⟨[.str,.str],false,[.str,.str,.bool],(.st .str (.st .str (.st .bool .nil))),fun x=>qrp x.1 x.2.1,none⟩
noncomputable def qkh:Env:=(180,.con internalstringsliteCut_con)::[]
theorem qqC (x:DL stringsCut_con.ps):stringsCut_con.φ x=denF Tryz.prog qkh qkF Tryz.f130 stringsCut_con.ps stringsCut_con.one stringsCut_con.res stringsCut_con.ρ x:=by kernel_rfl
theorem qsi:ConOK Tryz.prog 130 stringsCut_con :=
 qb (env:=qkh) ((EnvOK.cons (EnvOK.nil _) qgK)) mixed Tryz.func130 stringsCut_con qkF (by kernel_rfl) (fun h=>by first | rfl | cases h) (fun g hg=>by cases hg) qqC
def qih:Ann := .nil
noncomputable def stringsClone_con:Con:=⟨[.str],true,[],.str,fun x=>qn8 x.1,none⟩
noncomputable def qir:Env:=(181,.con qqX)::[]
theorem qoq (x:DL stringsClone_con.ps):stringsClone_con.φ x=denF Tryz.prog qir qih Tryz.f132 stringsClone_con.ps stringsClone_con.one stringsClone_con.res stringsClone_con.ρ x:=by kernel_rfl
theorem qpM:ConOK Tryz.prog 132 stringsClone_con :=
 qb (env:=qir) ((EnvOK.cons (EnvOK.nil _) cloneS_ok)) mixed Tryz.func132 stringsClone_con qih (by kernel_rfl) (fun h=>by first | rfl | cases h) (fun g hg=>by cases hg) qoq
def qew:Ann := .nil
noncomputable def recordReaderUpTo_con:Ioc:=⟨Zt7,[.str],true,[],.str,fun x=>qcH x.1 x.2.1⟩
noncomputable def qeB:Env:=(132,.con stringsClone_con)::(131,.body Tryz.f131)::(130,.con stringsCut_con)::[]
theorem qkb (x:DL (Zt7::[.str])):recordReaderUpTo_con.φ x=denIO Tryz.prog qeB qew Tryz.f75 Zt7 [.str] true [] .str x:=by kernel_rfl
theorem qfu:IocOK Tryz.prog 75 recordReaderUpTo_con :=
 qaG (env:=qeB) ((EnvOK.cons (EnvOK.body (EnvOK.cons (EnvOK.nil _) qsi) Tryz.func131) qpM)) mixed Tryz.func75 recordReaderUpTo_con qew (by kernel_rfl) (fun h=>by first | rfl | cases h) qkb
def qcW:Ann := .nil
noncomputable def recordReaderComment_con:Ioc:=⟨Zt7,[],true,[],.str,fun x=>qF x.1⟩
noncomputable def qcR:Env:=(131,.body Tryz.f131)::(75,.io recordReaderUpTo_con)::(74,.io recordReaderGot_con)::[]
theorem qhY (x:DL (Zt7::[])):recordReaderComment_con.φ x=denIO Tryz.prog qcR qcW Tryz.f76 Zt7 [] true [] .str x:=by kernel_rfl
theorem qdu:IocOK Tryz.prog 76 recordReaderComment_con :=
 qaG (env:=qcR) ((EnvOK.body (EnvOK.inout (EnvOK.inout (EnvOK.nil _) qc3) qfu) Tryz.func131)) mixed Tryz.func76 recordReaderComment_con qcW (by kernel_rfl) (fun h=>by first | rfl | cases h) qhY
def qev:Ann:=(.two .nil (.two .nil (.two .nil (.two (.two .nil (.join ⟨[0],[(3,Zt60)],[]⟩ .nil)) .nil))))
noncomputable def recordReaderWord_con:Ioc:=⟨Zt7,[],true,[],.str,fun x=>qQ x.1⟩
noncomputable def qeA:Env:=(135,.con qlS)::(80,.io recordReaderBlank_con)::[]
theorem qj8 (x:DL (Zt7::[])):recordReaderWord_con.φ x=denIO Tryz.prog qeA qev Tryz.f78 Zt7 [] true [] .str x:=by kernel_rfl
theorem qcJ:IocOK Tryz.prog 78 recordReaderWord_con :=
 qaG (env:=qeA) ((EnvOK.cons (EnvOK.inout (EnvOK.nil _) qcr) qsW)) mixed Tryz.func78 recordReaderWord_con qev (by kernel_rfl) (fun h=>by first | rfl | cases h) qj8
def qdr:Ann:=(.two .nil (.two (.two .nil (.joinE ⟨[],[],[]⟩ (.two (.loop ⟨[0,1,7],[(8,Zt60)],[]⟩ .nil) .nil))) .nil))
noncomputable def slicesIndex_string_con:Con:=⟨[(.sl .str),.str],true,[],Zt60,fun x=>qI x.1 x.2.1,none⟩
noncomputable def qdq:Env:=[]
theorem qiB (x:DL slicesIndex_string_con.ps):slicesIndex_string_con.φ x=denF Tryz.prog qdq qdr Tryz.f79 slicesIndex_string_con.ps slicesIndex_string_con.one slicesIndex_string_con.res slicesIndex_string_con.ρ x:=by kernel_rfl
theorem qek:ConOK Tryz.prog 79 slicesIndex_string_con :=
 qb (env:=qdq) ((EnvOK.nil _)) mixed Tryz.func79 slicesIndex_string_con qdr (by kernel_rfl) (fun h=>by first | rfl | cases h) (fun g hg=>by cases hg) qiB
def qcy:Ann := .nil
noncomputable def slicesContains_string_con:Con:=⟨[(.sl .str),.str],true,[],.bool,fun x=>qE x.1 x.2.1,none⟩
noncomputable def qcC:Env:=(79,.con slicesIndex_string_con)::[]
theorem qgM (x:DL slicesContains_string_con.ps):slicesContains_string_con.φ x=denF Tryz.prog qcC qcy Tryz.f133 slicesContains_string_con.ps slicesContains_string_con.one slicesContains_string_con.res slicesContains_string_con.ρ x:=by kernel_rfl
theorem qg3:ConOK Tryz.prog 133 slicesContains_string_con :=
 qb (env:=qcC) ((EnvOK.cons (EnvOK.nil _) qek)) mixed Tryz.func133 slicesContains_string_con qcy (by kernel_rfl) (fun h=>by first | rfl | cases h) (fun g hg=>by cases hg) qgM
def qeN:Ann:=(.two .nil (.two .nil (.two .nil (.two .nil (.two (.any 5119 1024 (.ord 0 0 .nil (.ord 1 0 .nil (.ord 2 0 .nil (.ord 3 1079 .nil (.ord 4 1071 .nil (.ord 5 0 .nil (.ord 6 1087 .nil (.ord 7 0 .nil (.ord 8 0 .nil (.ord 9 0 .nil (.ord 10 0 .nil (.ord 11 0 .nil (.ord 12 0 .nil .nil)))))))))))))) (.two .nil (.two .nil (.two (.join ⟨[],[(4,.ref)],[(0,some (.box Zt11)),(3,some (.ar 220 Zt40 (some 217))),(5,none),(6,none)]⟩ (.any 43 16 (.ord 1 0 .nil (.alt (.ord 0 0 .nil (.ord 2 0 .nil (.ord 3 0 .nil (.ord 4 0 .nil (.ord 5 0 .nil .nil))))) (.ord 2 0 .nil (.ord 0 0 .nil (.ord 3 0 .nil (.ord 4 0 .nil (.ord 5 0 .nil .nil))))))))) .nil))))))))
noncomputable def recordReaderMove_con:Goc:=⟨Zt4,.nil,[Zt29],[0,2],(some (220,Zt40,some 217)),none,true,[],.ref,fun x=>qaO x.1 x.2.2.1 x.2.2.2.1⟩
noncomputable def qey:Env:=(76,.io recordReaderComment_con)::(58,.ck 64)::(52,.con movetextRead_con)::(96,.con endsResult_con)::(131,.body Tryz.f131)::(78,.io recordReaderWord_con)::[]
theorem qj9 (x:DL (Zt4 :: .nil::arT (some (220,Zt40,some 217))::[Zt29])):recordReaderMove_con.φ x=denGO Tryz.prog qey qeN Tryz.f134 Zt4 .nil [Zt29] [0,2] (some (220,Zt40,some 217)) none true [] .ref x:=by kernel_rfl
theorem qlC:GocOK Tryz.prog 134 recordReaderMove_con :=
 qoZ (env:=qey) ((EnvOK.inout (EnvOK.check (EnvOK.cons (EnvOK.cons (EnvOK.body (EnvOK.inout (EnvOK.nil _) qcJ) Tryz.func131) qhx) qiR) qd) qdu)) mixed Tryz.func134 recordReaderMove_con qeN (by kernel_rfl) (fun h=>by first | rfl | cases h) qj9
def qef:Ann:=(.two .nil (.two .nil (.two (.two (.join ⟨[0,3],[(17,.bool)],[]⟩ .nil) .nil) (.two .nil (.two .nil (.two (.join ⟨[0,3,6],[(7,(.osl 217 .ref))],[(0,some (.box Zt11)),(7,none),(8,none),(9,some (.ar 220 Zt40 (some 217))),(10,none)]⟩ (.two (.loop ⟨[0,3,6],[(7,(.osl 217 .ref))],[(0,some (.box Zt11)),(7,none),(8,none),(9,some (.ar 220 Zt40 (some 217))),(10,none)]⟩ (.two .nil (.two (.two .nil (.two (.any 26623 2048 (.ord 0 0 .nil (.ord 1 0 .nil (.ord 2 0 .nil (.ord 3 0 .nil (.ord 4 0 .nil (.ord 5 2015 .nil (.ord 6 1983 .nil (.ord 7 0 .nil (.ord 8 0 .nil (.ord 9 0 .nil (.ord 10 0 .nil (.ord 11 0 .nil (.ord 12 0 .nil (.ord 13 0 .nil (.ord 14 0 .nil (.ord 15 0 .nil .nil))))))))))))))))) .nil)) .nil))) .nil)) (.two (.any 26623 2048 (.ord 0 0 .nil (.ord 1 0 .nil (.ord 2 0 .nil (.ord 3 0 .nil (.ord 4 0 .nil (.ord 5 2015 .nil (.ord 6 1983 .nil (.ord 7 0 .nil (.ord 8 0 .nil (.ord 9 0 .nil (.ord 10 0 .nil (.ord 11 0 .nil (.ord 12 0 .nil (.ord 13 0 .nil (.ord 14 0 .nil (.ord 15 0 .nil .nil))))))))))))))))) .nil)))))))
noncomputable def qed:Goc:=⟨Zt4,.nil,[Zt29],[0,2],(some (220,Zt40,some 217)),none,true,[],(.osl 217 .ref),fun x=>qcd x.1 x.2.2.1 x.2.2.2.1⟩
noncomputable def qd7 (φ:DL (Zt4 :: .nil::arT (some (220,Zt40,some 217))::[Zt29])→Option (D (.st Zt4 (.st (arT (some (220,Zt40,some 217))) (.osl 217 .ref))))):Env:=(131,.body Tryz.f131)::(77,.go ⟨Zt4,.nil,[Zt29],[0,2],(some (220,Zt40,some 217)),none,true,[],(.osl 217 .ref),φ⟩)::(50,.con movesMake_con)::(74,.io recordReaderGot_con)::(134,.go recordReaderMove_con)::(133,.con slicesContains_string_con)::(78,.io recordReaderWord_con)::[]
theorem qjl (φ:DL (Zt4 :: .nil::arT (some (220,Zt40,some 217))::[Zt29])→Option (D (.st Zt4 (.st (arT (some (220,Zt40,some 217))) (.osl 217 .ref))))) (x:DL (Zt4 :: .nil::arT (some (220,Zt40,some 217))::[Zt29])):qw φ x=denGO Tryz.prog (qd7 φ) qef Tryz.f77 Zt4 .nil [Zt29] [0,2] (some (220,Zt40,some 217)) none true [] (.osl 217 .ref) x:=by kernel_rfl
theorem qj4:GocOK Tryz.prog 77 qed :=
 go_fix (tp:=Zt4) (mv := .nil) (ps:=[Zt29]) (sg:=[0,2]) (ar:=(some (220,Zt40,some 217))) (cl:=none) (ρ:=(.osl 217 .ref)) (G:=qw) (by kernel_rfl) (by kernel_rfl) (fun h=>by first | rfl | cases h) fun φ hφ =>
 qoZ (env:=qd7 φ) ((EnvOK.body (EnvOK.general (EnvOK.cons (EnvOK.inout (EnvOK.general (EnvOK.cons (EnvOK.inout (EnvOK.nil _) qcJ) qg3) qlC) qc3) qgI) hφ) Tryz.func131)) mixed Tryz.func77 ⟨Zt4,.nil,[Zt29],[0,2],(some (220,Zt40,some 217)),none,true,[],(.osl 217 .ref),qw φ⟩ qef (by kernel_rfl) (fun h=>by first | rfl | cases h) (qjl φ)
def qez:Ann:=(.two .nil (.join ⟨[],[],[(0,some (.box Zt11)),(1,none),(2,none),(3,some (.ar 220 (.st Zt49 (.st .str (.st (.sl .ref) .nil))) none))]⟩ (.two (.loop ⟨[0,2,9,10],[(11,Zt60)],[(0,some (.box Zt11)),(1,none),(2,none),(3,some (.ar 220 (.st Zt49 (.st .str (.st (.sl .ref) .nil))) none))]⟩ (.two .nil (.two .nil (.two (.two (.two .nil (.two .nil (.two (.any 1900543 65536 (.ord 0 0 .nil (.ord 1 0 .nil (.ord 2 0 .nil (.ord 3 0 .nil (.ord 4 0 .nil (.ord 5 131039 .nil (.ord 6 0 .nil (.ord 7 0 .nil (.ord 8 0 .nil (.ord 9 0 .nil (.ord 10 31743 .nil (.ord 11 0 .nil (.ord 12 0 .nil (.ord 13 0 .nil (.ord 14 0 .nil (.ord 15 0 .nil (.ord 16 0 .nil (.ord 17 0 .nil (.ord 18 0 .nil (.ord 19 0 .nil (.ord 20 0 .nil (.ord 21 0 .nil .nil))))))))))))))))))))))) .nil))) .nil) .nil)))) .nil)))
noncomputable def qeD:Goc:=⟨Zt4,.nil,[(.sl .ref),Zt60],[0,2,2],(some (220,(.st Zt49 (.st .str (.st (.sl .ref) .nil))),none)),none,false,[],.nil,fun x=>qcF x.1 x.2.2.1 x.2.2.2.1 x.2.2.2.2.1⟩
noncomputable def qeG (φ:DL (Zt4 :: .nil::arT (some (220,(.st Zt49 (.st .str (.st (.sl .ref) .nil))),none))::[(.sl .ref),Zt60])→Option (D (.st Zt4 (.st (arT (some (220,(.st Zt49 (.st .str (.st (.sl .ref) .nil))),none))) .nil)))):Env:=(81,.go ⟨Zt4,.nil,[(.sl .ref),Zt60],[0,2,2],(some (220,(.st Zt49 (.st .str (.st (.sl .ref) .nil))),none)),none,false,[],.nil,φ⟩)::[]
theorem qkc (φ:DL (Zt4 :: .nil::arT (some (220,(.st Zt49 (.st .str (.st (.sl .ref) .nil))),none))::[(.sl .ref),Zt60])→Option (D (.st Zt4 (.st (arT (some (220,(.st Zt49 (.st .str (.st (.sl .ref) .nil))),none))) .nil)))) (x:DL (Zt4 :: .nil::arT (some (220,(.st Zt49 (.st .str (.st (.sl .ref) .nil))),none))::[(.sl .ref),Zt60])):qD φ x=denGO Tryz.prog (qeG φ) qez Tryz.f81 Zt4 .nil [(.sl .ref),Zt60] [0,2,2] (some (220,(.st Zt49 (.st .str (.st (.sl .ref) .nil))),none)) none false [] .nil x:=by kernel_rfl
theorem qlr:GocOK Tryz.prog 81 qeD :=
 go_fix (tp:=Zt4) (mv := .nil) (ps:=[(.sl .ref),Zt60]) (sg:=[0,2,2]) (ar:=(some (220,(.st Zt49 (.st .str (.st (.sl .ref) .nil))),none))) (cl:=none) (ρ := .nil) (G:=qD) (by kernel_rfl) (by kernel_rfl) (fun h=>by first | rfl | cases h) fun φ hφ =>
 qoZ (env:=qeG φ) ((EnvOK.general (EnvOK.nil _) hφ)) mixed Tryz.func81 ⟨Zt4,.nil,[(.sl .ref),Zt60],[0,2,2],(some (220,(.st Zt49 (.st .str (.st (.sl .ref) .nil))),none)),none,false,[],.nil,qD φ⟩ qez (by kernel_rfl) (fun h=>by first | rfl | cases h) (qkc φ)
def qkH:Ann:=(.two .nil (.two .nil (.two .nil (.two .nil (.two (.two (.two (.two .nil (.two .nil (.two (.join ⟨[0,2],[],[(3,some (.box Zt11))]⟩ (.two (.loop ⟨[0,2],[],[(3,some (.box Zt11))]⟩ (.two .nil (.two (.two .nil (.two .nil (.any 3711 128 (.ord 0 0 .nil (.ord 1 0 .nil (.ord 2 0 .nil (.ord 3 0 .nil (.ord 4 0 .nil (.ord 5 223 .nil (.ord 6 0 .nil (.ord 7 0 .nil (.ord 8 0 .nil (.ord 9 0 .nil (.ord 10 0 .nil (.ord 11 0 .nil (.ord 12 0 .nil .nil)))))))))))))))) .nil))) .nil)) (.two .nil (.two .nil (.two .nil (.two .nil (.two .nil (.two .nil (.two .nil (.two .nil (.two .nil (.two (.fra .nil) .nil))))))))))))) .nil) .nil) .nil)))))
noncomputable def recordRead_con:Con:=⟨[Zt15,.str],false,[Zt19,Zt60],(.st Zt19 Zt56),fun x=>qg2 x.1 x.2.1,none⟩
noncomputable def qkW:Env:=(21,.con recordCheck_con)::(81,.go qeD)::(80,.io recordReaderBlank_con)::(79,.con slicesIndex_string_con)::(26,.con recordResults_con)::(78,.io recordReaderWord_con)::(77,.go qed)::(23,.con placeBegin_con)::(76,.io recordReaderComment_con)::(75,.io recordReaderUpTo_con)::(74,.io recordReaderGot_con)::(37,.body Tryz.f37)::(36,.con rulesCheck_con)::(58,.ck 64)::[]
theorem qqu (x:DL recordRead_con.ps):recordRead_con.φ x=denA Tryz.prog qkW qkH Tryz.f11 (220,Zt40,some 217) recordRead_con.ps recordRead_con.one recordRead_con.res recordRead_con.ρ x:=by kernel_rfl
theorem qsv:ConOK Tryz.prog 11 recordRead_con :=
 qvb (env:=qkW) ((EnvOK.cons (EnvOK.general (EnvOK.inout (EnvOK.cons (EnvOK.cons (EnvOK.inout (EnvOK.general (EnvOK.cons (EnvOK.inout (EnvOK.inout (EnvOK.inout (EnvOK.body (EnvOK.cons (EnvOK.check (EnvOK.nil _) qd) qe3) Tryz.func37) qc3) qfu) qdu) qcb) qj4) qcJ) qii) qek) qcr) qlr) qgV)) mixed Tryz.func11 recordRead_con (220,Zt40,some 217) qkH (by kernel_rfl) (fun h=>by first | rfl | cases h) (fun g hg=>by cases hg) qqu
def qiu:Ann:=(.two .nil (.two .nil (.two (.two .nil (.join ⟨[],[(3,Zt57)],[(1,none)]⟩ (.two (.loop ⟨[1],[(3,Zt57),(4,Zt57)],[(1,none)]⟩ (.two .nil (.two .nil (.tail 4 .nil)))) .nil))) .nil)))
noncomputable def annotateLine_con:Con:=⟨[Zt21],true,[],Zt57,fun x=>qgk x.1,none⟩
noncomputable def qh8:Env:=(60,.con recordKids_con)::[]
theorem qoj (x:DL annotateLine_con.ps):annotateLine_con.φ x=denF Tryz.prog qh8 qiu Tryz.f47 annotateLine_con.ps annotateLine_con.one annotateLine_con.res annotateLine_con.ρ x:=by kernel_rfl
theorem qpH:ConOK Tryz.prog 47 annotateLine_con :=
 qb (env:=qh8) ((EnvOK.cons (EnvOK.nil _) qlM)) mixed Tryz.func47 annotateLine_con qiu (by kernel_rfl) (fun h=>by first | rfl | cases h) (fun g hg=>by cases hg) qoj
def qis:Ann:=(.two .nil (.two .nil (.two .nil (.two (.two .nil (.join ⟨[],[(7,Zt45)],[]⟩ (.two (.loop ⟨[3,17,18],[(7,Zt45),(19,Zt60)],[]⟩ .nil) .nil))) .nil))))
noncomputable def annotateMain_con:Con:=⟨[Zt15,Zt21],false,[Zt45,Zt60],Zt34,fun x=>qd8 x.1 x.2.1,none⟩
noncomputable def qh4:Env:=(47,.con annotateLine_con)::(21,.con recordCheck_con)::[]
theorem qoo (x:DL annotateMain_con.ps):annotateMain_con.φ x=denF Tryz.prog qh4 qis Tryz.f14 annotateMain_con.ps annotateMain_con.one annotateMain_con.res annotateMain_con.ρ x:=by kernel_rfl
theorem qpD:ConOK Tryz.prog 14 annotateMain_con :=
 qb (env:=qh4) ((EnvOK.cons (EnvOK.cons (EnvOK.nil _) qgV) qpH)) mixed Tryz.func14 annotateMain_con qis (by kernel_rfl) (fun h=>by first | rfl | cases h) (fun g hg=>by cases hg) qoo
def qij:Ann:=(.two .nil (.two .nil (.two .nil (.two .nil (.two (.two .nil (.join ⟨[],[(11,Zt59)],[(5,none),(6,none),(7,none),(8,some (.box Zt30))]⟩ (.two (.loop ⟨[2,9,29,30],[(11,Zt59),(31,Zt60)],[(5,none),(6,none),(7,none),(8,some (.box Zt30))]⟩ (.two .nil (.two .nil (.two (.two (.two .nil (.two (.any 1247 288 (.ord 0 0 .nil (.ord 1 125 .nil (.ord 2 123 .nil (.ord 3 87 .nil (.ord 4 79 .nil (.ord 6 63 .nil (.ord 5 0 .nil (.ord 7 0 .nil (.ord 8 0 .nil (.ord 9 0 .nil (.ord 10 0 .nil .nil)))))))))))) .nil)) .nil) .nil)))) .nil))) .nil)))))
noncomputable def movetextLine_con:Con:=⟨[Zt15,Zt48],false,[.str,Zt60],(.st .str Zt56),fun x=>qfV x.1 x.2.1,none⟩
noncomputable def qh6:Env:=(25,.con qg9)::(50,.con movesMake_con)::(48,.con movetextOf_con)::(49,.con movesList_con)::(23,.con placeBegin_con)::(58,.ck 64)::(13,.con plainRun_con)::[]
theorem qon (x:DL movetextLine_con.ps):movetextLine_con.φ x=denF Tryz.prog qh6 qij Tryz.f15 movetextLine_con.ps movetextLine_con.one movetextLine_con.res movetextLine_con.ρ x:=by kernel_rfl
theorem qpK:ConOK Tryz.prog 15 movetextLine_con :=
 qb (env:=qh6) ((EnvOK.cons (EnvOK.cons (EnvOK.cons (EnvOK.cons (EnvOK.cons (EnvOK.check (EnvOK.cons (EnvOK.nil _) qlw) qd) qcb) qcQ) qhD) qgI) qoN)) mixed Tryz.func15 movetextLine_con qij (by kernel_rfl) (fun h=>by first | rfl | cases h) (fun g hg=>by cases hg) qon
def qeK:Ann:=(.two .nil (.two (.two (.two .nil (.two .nil (.two .nil (.two (.frz [2,3,4] (.join ⟨[],[(2,Zt3),(3,Zt60)],[]⟩ (.any 213 42 (.ord 0 12 .nil (.alt (.ord 1 0 .nil (.ord 2 0 .nil (.ord 3 0 .nil (.ord 4 0 .nil (.ord 5 0 .nil (.ord 6 0 .nil (.ord 7 0 .nil .nil))))))) (.ord 2 0 .nil (.alt (.ord 1 0 .nil (.ord 3 0 .nil (.ord 4 0 .nil (.ord 5 0 .nil (.ord 6 0 .nil (.ord 7 0 .nil .nil)))))) (.ord 3 0 .nil (.ord 1 0 .nil (.ord 4 0 .nil (.ord 5 0 .nil (.ord 6 0 .nil (.ord 7 0 .nil .nil))))))))))))) .nil)))) .nil) (.sel 6 1000013 (.two .nil (.two .nil (.two .nil (.two (.two .nil (.joinE ⟨[6],[],[(6,some (.box Zt9)),(7,none),(8,none)]⟩ (.two (.loop ⟨[2,6,27,28],[(29,Zt60)],[(6,some (.box Zt9)),(7,none),(8,none)]⟩ (.two .nil (.two .nil (.two (.two (.two .nil (.two .nil (.two (.join ⟨[2,6,27,28,29],[(10,Zt47),(11,Zt60)],[]⟩ (.any 1275 260 (.ord 0 270 .nil (.ord 1 0 .nil (.ord 3 0 .nil (.alt (.ord 2 0 .nil (.ord 4 271 .nil (.ord 5 0 .nil (.ord 6 0 .nil (.ord 7 0 .nil (.ord 8 0 .nil (.ord 9 0 .nil (.ord 10 0 .nil .nil)))))))) (.ord 8 0 .nil (.ord 2 0 .nil (.ord 4 0 .nil (.ord 5 0 .nil (.ord 6 0 .nil (.ord 7 0 .nil (.ord 9 0 .nil (.ord 10 0 .nil .nil)))))))))))))) .nil))) .nil) .nil)))) .nil))) .nil)))) (.two .nil (.two .nil (.two .nil (.two (.two .nil (.joinE ⟨[6],[],[]⟩ (.two (.loop ⟨[2,6,27,28],[(29,Zt60)],[]⟩ .nil) .nil))) .nil)))))))
noncomputable def movetextReadLine_con:Con:=⟨[Zt15,.str],false,[Zt45,Zt60],Zt34,fun x=>qbs x.1 x.2.1,none⟩
noncomputable def qeL:Env:=(44,.io plainGamePlay_con)::(52,.con movetextRead_con)::(45,.rd plainGamePosition_con)::(53,.rd plainGameMoves_con)::(46,.rd plainGameResult_con)::(51,.con qrw)::(83,.con rulesCopy_con)::(58,.ck 64)::(23,.con placeBegin_con)::(43,.body Tryz.f43)::[]
theorem qj7 (x:DL movetextReadLine_con.ps):movetextReadLine_con.φ x=denF Tryz.prog qeL qeK Tryz.f16 movetextReadLine_con.ps movetextReadLine_con.one movetextReadLine_con.res movetextReadLine_con.ρ x:=by kernel_rfl
theorem qk5:ConOK Tryz.prog 16 movetextReadLine_con :=
 qb (env:=qeL) ((EnvOK.inout (EnvOK.cons (EnvOK.readonly (EnvOK.readonly (EnvOK.readonly (EnvOK.cons (EnvOK.cons (EnvOK.check (EnvOK.cons (EnvOK.body (EnvOK.nil _) Tryz.func43) qcb) qd) qiP) splitS_ok) qaS) qdH) qa2) qiR) qet)) mixed Tryz.func16 movetextReadLine_con qeK (by kernel_rfl) (fun h=>by first | rfl | cases h) (fun g hg=>by cases hg) qj7
def qco:Ann:=(.two .nil (.two .nil (.two .nil (.two .nil (.two .nil (.two .nil (.two .nil (.two (.two .nil (.join ⟨[1,2,5,6,8],[],[(5,some (.box Zt19))]⟩ (.two (.loop ⟨[1,2,5,6,8,46,47],[(48,Zt60)],[(5,some (.box Zt19))]⟩ .nil) .nil))) .nil))))))))
noncomputable def gamehalltopTopNotation_con:Con:=⟨[Zt15,Zt48],true,[],.bool,fun x=>qbB x.1 x.2.1,none⟩
noncomputable def qcq:Env:=(18,.con placeSame_con)::(17,.con gamehalltopH10Same_con)::(16,.con movetextReadLine_con)::(15,.con movetextLine_con)::(14,.con annotateMain_con)::(11,.con recordRead_con)::(8,.con recordText_con)::(58,.ck 64)::(13,.con plainRun_con)::(12,.con gamehalltopH10Plays_con)::[]
theorem qfS (x:DL gamehalltopTopNotation_con.ps):gamehalltopTopNotation_con.φ x=denF Tryz.prog qcq qco Tryz.f4 gamehalltopTopNotation_con.ps gamehalltopTopNotation_con.one gamehalltopTopNotation_con.res gamehalltopTopNotation_con.ρ x:=by kernel_rfl
theorem gamehalltopTopNotation_ok:ConOK Tryz.prog 4 gamehalltopTopNotation_con :=
 qb (env:=qcq) ((EnvOK.cons (EnvOK.cons (EnvOK.cons (EnvOK.cons (EnvOK.cons (EnvOK.cons (EnvOK.cons (EnvOK.check (EnvOK.cons (EnvOK.cons (EnvOK.nil _) qiA) qlw) qd) ql7) qsv) qpD) qpK) qk5) qiH) qnV)) mixed Tryz.func4 gamehalltopTopNotation_con qco (by kernel_rfl) (fun h=>by first | rfl | cases h) (fun g hg=>by cases hg) qfS
end Go.Proofs.YthidcmjpbokeeaaGreatDoor
