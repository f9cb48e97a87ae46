/- Contracts: Match. No condition of its own. -/
import Derived.Test.YtijkabgijfdpfaaGreatDoorMAA
import Derived.Test.YtijkabgijfdpfaaGreatDoorMAH
import Derived.Test.YtijkabgijfdpfaaGreatDoorMAE
import Derived.Test.YtijkabgijfdpfaaGreatDoorGameC
namespace Go.Proofs.YtijkabgijfdpfaaGreatDoor
open Go.Den
set_option linter.unusedVariables false
set_option maxRecDepth 100000
def qkv:Ann:=(.two .nil (.two .nil (.two (.two .nil (.join ⟨[],[(3,Zt61)],[]⟩ (.two (.loop ⟨[23],[(3,Zt61),(24,Zt62)],[]⟩ .nil) .nil))) .nil)))
noncomputable def matchEntry_con:Con:=⟨[Zt25],true,[],.str,fun x=>qjP x.1,none⟩
noncomputable def qk0:Env:=(90,.con qjg)::(49,.con qqN)::[]
theorem qrm (x:DL matchEntry_con.ps):matchEntry_con.φ x=denF Tryz.prog qk0 qkv Tryz.f28 matchEntry_con.ps matchEntry_con.one matchEntry_con.res matchEntry_con.ρ x:=by kernel_rfl
theorem qs2:ConOK Tryz.prog 28 matchEntry_con :=
  qa (env:=qk0) ((EnvOK.cons (EnvOK.cons (EnvOK.nil _) qxj) qty)) mixed Tryz.func28 matchEntry_con qkv (by kernel_rfl) (fun h=>by first | rfl | cases h) (fun g hg=>by cases hg) qrm
def qiu:Ann := .nil
noncomputable def clockWithin_con:Con:=⟨[Zt62,Zt62,Zt62],true,[],.bool,fun x=>qhj x.1 x.2.1 x.2.2.1,some fun x=>qf x.1 x.2.1 x.2.2.1⟩
noncomputable def qi8:Env:=[]
theorem qqd (x:DL clockWithin_con.ps):clockWithin_con.φ x=denF Tryz.prog qi8 qiu Tryz.f54 clockWithin_con.ps clockWithin_con.one clockWithin_con.res clockWithin_con.ρ x:=by kernel_rfl
theorem qdM:ConOK Tryz.prog 54 clockWithin_con :=
  qa (env:=qi8) ((EnvOK.nil _)) mixed Tryz.func54 clockWithin_con qiu (by kernel_rfl) (fun h=>by first | rfl | cases h) (fun g hg x=>by
    cases hg
    exact qqY _ _ _) qqd
def qkN:Ann:=(.two .nil (.two .nil (.two .nil (.two (.two .nil (.joinE ⟨[],[],[]⟩ (.two (.loop ⟨[1,21,22],[(23,Zt62)],[]⟩ .nil) .nil))) .nil))))
noncomputable def clockCheck_con:Con:=⟨[Zt37],true,[],Zt62,fun x=>qgA x.1,none⟩
noncomputable def qkO:Env:=(159,.ck 197)::(54,.con clockWithin_con)::[]
theorem qra (x:DL clockCheck_con.ps):clockCheck_con.φ x=denF Tryz.prog qkO qkN Tryz.f105 clockCheck_con.ps clockCheck_con.one clockCheck_con.res clockCheck_con.ρ x:=by kernel_rfl
theorem qlX:ConOK Tryz.prog 105 clockCheck_con :=
  qa (env:=qkO) ((EnvOK.check (EnvOK.cons (EnvOK.nil _) qdM) qb)) mixed Tryz.func105 clockCheck_con qkN (by kernel_rfl) (fun h=>by first | rfl | cases h) (fun g hg=>by cases hg) qra
def qkP:Ann:=(.two .nil (.two .nil (.two .nil (.two (.two .nil (.join ⟨[],[(6,.bool)],[]⟩ (.two (.loop ⟨[2,3],[(6,.bool),(26,Zt62)],[]⟩ .nil) .nil))) .nil))))
noncomputable def clockValid_con:Con:=⟨[Zt37,Zt15],true,[],Zt62,fun x=>qjT x.1 x.2.1,none⟩
noncomputable def qkZ:Env:=(54,.con clockWithin_con)::(105,.con clockCheck_con)::[]
theorem qq4 (x:DL clockValid_con.ps):clockValid_con.φ x=denF Tryz.prog qkZ qkP Tryz.f99 clockValid_con.ps clockValid_con.one clockValid_con.res clockValid_con.ρ x:=by kernel_rfl
theorem qsz:ConOK Tryz.prog 99 clockValid_con :=
  qa (env:=qkZ) ((EnvOK.cons (EnvOK.cons (EnvOK.nil _) qlX) qdM)) mixed Tryz.func99 clockValid_con qkP (by kernel_rfl) (fun h=>by first | rfl | cases h) (fun g hg=>by cases hg) qq4
def qlN:Ann := .nil
noncomputable def clockUsed_con:Con:=⟨[Zt37,Zt15,Zt62],true,[],Zt62,fun x=>qlf x.1 x.2.1 x.2.2.1,some fun x=>qw x.1 x.2.1 x.2.2.1⟩
noncomputable def qmk:Env:=[]
theorem qsD (x:DL clockUsed_con.ps):clockUsed_con.φ x=denF Tryz.prog qmk qlN Tryz.f55 clockUsed_con.ps clockUsed_con.one clockUsed_con.res clockUsed_con.ρ x:=by kernel_rfl
theorem qot:ConOK Tryz.prog 55 clockUsed_con :=
  qa (env:=qmk) ((EnvOK.nil _)) mixed Tryz.func55 clockUsed_con qlN (by kernel_rfl) (fun h=>by first | rfl | cases h) (fun g hg x=>by
    cases hg
    exact qux _ _ _) qsD
def qmE:Ann:=(.two .nil (.two .nil (.two .nil (.two (.two .nil (.join ⟨[4,6],[],[(1,some (.box Zt19))]⟩ .nil)) .nil))))
noncomputable def clockLook_con:Con:=⟨[Zt37,Zt15,Zt62],false,[Zt15,Zt62],Zt13,fun x=>qaX x.1 x.2.1 x.2.2.1,none⟩
noncomputable def qmS:Env:=(55,.con clockUsed_con)::(54,.con clockWithin_con)::(99,.con clockValid_con)::(159,.ck 197)::[]
theorem qtx (x:DL clockLook_con.ps):clockLook_con.φ x=denF Tryz.prog qmS qmE Tryz.f40 clockLook_con.ps clockLook_con.one clockLook_con.res clockLook_con.ρ x:=by kernel_rfl
theorem qit:ConOK Tryz.prog 40 clockLook_con :=
  qa (env:=qmS) ((EnvOK.cons (EnvOK.cons (EnvOK.cons (EnvOK.check (EnvOK.nil _) qb) qsz) qdM) qot)) mixed Tryz.func40 clockLook_con qmE (by kernel_rfl) (fun h=>by first | rfl | cases h) (fun g hg=>by cases hg) qtx
def qeB:Ann := .nil
noncomputable def slicesClone_Move_con:Con:=⟨[Zt50],true,[],Zt48,fun x=>qcl x.1,none⟩
noncomputable def qex:Env:=[]
theorem qka (x:DL slicesClone_Move_con.ps):slicesClone_Move_con.φ x=denF Tryz.prog qex qeB Tryz.f119 slicesClone_Move_con.ps slicesClone_Move_con.one slicesClone_Move_con.res slicesClone_Move_con.ρ x:=by kernel_rfl
theorem qlo:ConOK Tryz.prog 119 slicesClone_Move_con :=
  qa (env:=qex) ((EnvOK.nil _)) mixed Tryz.func119 slicesClone_Move_con qeB (by kernel_rfl) (fun h=>by first | rfl | cases h) (fun g hg=>by cases hg) qka
def qfJ:Ann := .nil
noncomputable def plainGameMoves_con:Con:=⟨[Zt6],true,[],Zt48,fun x=>qu x.1,none⟩
noncomputable def qfP:Env:=(119,.con slicesClone_Move_con)::[]
theorem qlS (x:DL plainGameMoves_con.ps):plainGameMoves_con.φ x=denB Tryz.prog qfP qfJ Tryz.f52 true plainGameMoves_con.ps plainGameMoves_con.one plainGameMoves_con.res plainGameMoves_con.ρ x:=by kernel_rfl
theorem qbX:qsp Tryz.prog 52 plainGameMoves_con :=
  qlW (env:=qfP) ((EnvOK.cons (EnvOK.nil _) qlo)) mixed Tryz.func52 plainGameMoves_con qfJ (by kernel_rfl) (fun h=>by first | rfl | cases h) (fun g hg=>by cases hg) qlS
def qkh:Ann := .nil
noncomputable def clockReady_con:Con:=⟨[Zt37,Zt15,Zt62,.bool],false,[Zt15,Zt62],Zt13,fun x=>qjC x.1 x.2.1 x.2.2.1 x.2.2.2.1,none⟩
noncomputable def qkt:Env:=(40,.con clockLook_con)::(159,.ck 197)::[]
theorem qri (x:DL clockReady_con.ps):clockReady_con.φ x=denF Tryz.prog qkt qkh Tryz.f201 clockReady_con.ps clockReady_con.one clockReady_con.res clockReady_con.ρ x:=by kernel_rfl
theorem qtj:ConOK Tryz.prog 201 clockReady_con :=
  qa (env:=qkt) ((EnvOK.cons (EnvOK.check (EnvOK.nil _) qb) qit)) mixed Tryz.func201 clockReady_con qkh (by kernel_rfl) (fun h=>by first | rfl | cases h) (fun g hg=>by cases hg) qri
def qkC:Ann:=(.two .nil (.two .nil (.two .nil (.two .nil (.two (.tail 16 .nil) (.two .nil (.two (.two .nil (.two .nil (.join ⟨[2,4,6,9],[],[(1,some (.box Zt19))]⟩ (.two (.two .nil (.two .nil (.tail 18 .nil))) .nil)))) .nil)))))))
noncomputable def clockPress_con:Con:=⟨[Zt37,Zt15,Zt62],false,[Zt15,Zt62],Zt13,fun x=>qjE x.1 x.2.1 x.2.2.1,none⟩
noncomputable def qkq:Env:=(55,.con clockUsed_con)::(201,.con clockReady_con)::(159,.ck 197)::[]
theorem qqS (x:DL clockPress_con.ps):clockPress_con.φ x=denF Tryz.prog qkq qkC Tryz.f145 clockPress_con.ps clockPress_con.one clockPress_con.res clockPress_con.ρ x:=by kernel_rfl
theorem qsW:ConOK Tryz.prog 145 clockPress_con :=
  qa (env:=qkq) ((EnvOK.cons (EnvOK.cons (EnvOK.check (EnvOK.nil _) qb) qtj) qot)) mixed Tryz.func145 clockPress_con qkC (by kernel_rfl) (fun h=>by first | rfl | cases h) (fun g hg=>by cases hg) qqS
def qkk:Ann:=(.two .nil (.two (.two .nil (.joinE ⟨[],[],[]⟩ (.two (.loop ⟨[1,8],[(9,Zt62)],[]⟩ (.two .nil (.two .nil (.two (.joinE ⟨[1,8,9],[],[]⟩ (.two (.two .nil (.two (.two (.join ⟨[1,3,4,8,9],[(16,Zt54),(17,Zt62)],[]⟩ .nil) (.joinE ⟨[1,3,4,8,9],[],[]⟩ (.two (.loop ⟨[1,3,4,8,9,16],[(17,Zt62)],[]⟩ .nil) .nil))) (.two .nil (.two (.join ⟨[1,8,9],[(43,.bool)],[]⟩ .nil) .nil)))) .nil)) .nil)))) .nil))) .nil))
noncomputable def offerCheck_con:Con:=⟨[Zt22],true,[],Zt62,fun x=>qjz x.1,none⟩
noncomputable def qkQ:Env:=[]
theorem qre (x:DL offerCheck_con.ps):offerCheck_con.φ x=denF Tryz.prog qkQ qkk Tryz.f202 offerCheck_con.ps offerCheck_con.one offerCheck_con.res offerCheck_con.ρ x:=by kernel_rfl
theorem qs9:ConOK Tryz.prog 202 offerCheck_con :=
  qa (env:=qkQ) ((EnvOK.nil _)) mixed Tryz.func202 offerCheck_con qkk (by kernel_rfl) (fun h=>by first | rfl | cases h) (fun g hg=>by cases hg) qre
def qh6:Ann := .nil
noncomputable def offerCheck_i_con:Con:=⟨[Zt22,Zt62,Zt62,Zt62],true,[],Zt62,fun x=>qbN x.1 x.2.1 x.2.2.1 x.2.2.2.1,none⟩
noncomputable def qh8:Env:=(202,.con offerCheck_con)::[]
theorem qoV (x:DL offerCheck_i_con.ps):offerCheck_i_con.φ x=denF Tryz.prog qh8 qh6 Tryz.f148 offerCheck_i_con.ps offerCheck_i_con.one offerCheck_i_con.res offerCheck_i_con.ρ x:=by kernel_rfl
theorem qcZ:ConOK Tryz.prog 148 offerCheck_i_con :=
  qa (env:=qh8) ((EnvOK.cons (EnvOK.nil _) qs9)) mixed Tryz.func148 offerCheck_i_con qh6 (by kernel_rfl) (fun h=>by first | rfl | cases h) (fun g hg=>by cases hg) qoV
def qmB:Ann:=(.two .nil (.two .nil (.two (.two .nil (.join ⟨[2,4],[],[(0,some (.box Zt32))]⟩ .nil)) .nil)))
noncomputable def offerMove_con:Con:=⟨[Zt22,Zt62],false,[Zt22,Zt62],Zt17,fun x=>qgE x.1 x.2.1,none⟩
noncomputable def qnj:Env:=(148,.con offerCheck_i_con)::(159,.ck 197)::[]
theorem qti (x:DL offerMove_con.ps):offerMove_con.φ x=denF Tryz.prog qnj qmB Tryz.f146 offerMove_con.ps offerMove_con.one offerMove_con.res offerMove_con.ρ x:=by kernel_rfl
theorem quF:ConOK Tryz.prog 146 offerMove_con :=
  qa (env:=qnj) ((EnvOK.cons (EnvOK.check (EnvOK.nil _) qb) qcZ)) mixed Tryz.func146 offerMove_con qmB (by kernel_rfl) (fun h=>by first | rfl | cases h) (fun g hg=>by cases hg) qti
def qgd:Ann:=(.two .nil (.two .nil (.two (.tail 5 .nil) (.two (.any 262143 0 (.ord 0 0 .nil (.ord 1 0 .nil (.ord 2 0 .nil (.ord 3 0 .nil (.ord 4 2031 .nil (.ord 5 0 .nil (.ord 6 0 .nil (.ord 7 0 .nil (.ord 8 0 .nil (.ord 9 1535 .nil (.ord 10 0 .nil (.ord 11 0 .nil (.ord 12 0 .nil (.ord 13 0 .nil (.ord 14 0 .nil (.ord 15 0 .nil (.ord 16 0 .nil (.ord 17 0 .nil (.ord 18 0 .nil .nil)))))))))))))))))))) .nil))))
noncomputable def matchMatchMove_con:Ioc:=⟨Zt1,[Zt51,Zt62],false,[],.nil,fun x=>qas x.1 x.2.1 x.2.2.1⟩
noncomputable def qfE:Env:=(146,.con offerMove_con)::(145,.con clockPress_con)::(71,.io plainGamePlay_con)::(72,.rd plainGamePosition_con)::(167,.body Tryz.f167)::[]
theorem qms (x:DL (Zt1::[Zt51,Zt62])):matchMatchMove_con.φ x=denIO Tryz.prog qfE qgd Tryz.f170 Zt1 [Zt51,Zt62] false [] .nil x:=by kernel_rfl
theorem qnZ:IocOK Tryz.prog 170 matchMatchMove_con :=
  qau (env:=qfE) ((EnvOK.cons (EnvOK.cons (EnvOK.inout (EnvOK.readonly (EnvOK.body (EnvOK.nil _) Tryz.func167) qV) qhV) qsW) quF)) mixed Tryz.func170 matchMatchMove_con qgd (by kernel_rfl) (fun h=>by first | rfl | cases h) qms
def qnr:Ann:=(.two .nil (.two .nil (.two (.two .nil (.join ⟨[],[(5,Zt48)],[]⟩ (.two (.loop ⟨[1,8,9],[(5,Zt48),(10,Zt62)],[]⟩ (.two .nil (.two .nil (.two (.two (.two .nil (.two .nil (.join ⟨[1,8,9,10],[(5,Zt48)],[(0,none)]⟩ .nil))) .nil) .nil)))) .nil))) .nil)))
noncomputable def premoveOf_con:Con:=⟨[Zt38,Zt62],true,[],Zt48,fun x=>qg1 x.1 x.2.1,none⟩
noncomputable def ql3:Env:=(159,.ck 197)::[]
theorem qtt (x:DL premoveOf_con.ps):premoveOf_con.φ x=denF Tryz.prog ql3 qnr Tryz.f222 premoveOf_con.ps premoveOf_con.one premoveOf_con.res premoveOf_con.ρ x:=by kernel_rfl
theorem qoD:ConOK Tryz.prog 222 premoveOf_con :=
  qa (env:=ql3) ((EnvOK.check (EnvOK.nil _) qb)) mixed Tryz.func222 premoveOf_con qnr (by kernel_rfl) (fun h=>by first | rfl | cases h) (fun g hg=>by cases hg) qtt
def qif:Ann:=(.two .nil (.two (.two (.join ⟨[0],[(12,.bool)],[]⟩ .nil) .nil) (.two (.two (.two (.two .nil (.two (.two (.two .nil (.two (.two .nil (.joinE ⟨[],[],[]⟩ (.two (.loop ⟨[0,1,7],[(8,Zt62)],[]⟩ .nil) .nil))) .nil)) .nil) .nil)) .nil) .nil) .nil)))
noncomputable def premoveCheck_con:Con:=⟨[Zt38],true,[],Zt62,fun x=>qeh x.1,none⟩
noncomputable def qhU:Env:=(260,.body Tryz.f260)::(252,.body Tryz.f252)::(259,.body Tryz.f259)::(222,.con premoveOf_con)::[]
theorem qoY (x:DL premoveCheck_con.ps):premoveCheck_con.φ x=denF Tryz.prog qhU qif Tryz.f221 premoveCheck_con.ps premoveCheck_con.one premoveCheck_con.res premoveCheck_con.ρ x:=by kernel_rfl
theorem qi6:ConOK Tryz.prog 221 premoveCheck_con :=
  qa (env:=qhU) ((EnvOK.body (EnvOK.body (EnvOK.body (EnvOK.cons (EnvOK.nil _) qoD) Tryz.func259) Tryz.func252) Tryz.func260)) mixed Tryz.func221 premoveCheck_con qif (by kernel_rfl) (fun h=>by first | rfl | cases h) (fun g hg=>by cases hg) qoY
def qga:Ann := .nil
noncomputable def premoveCheck_i_con:Con:=⟨[Zt12,Zt29,Zt38],true,[],Zt62,fun x=>qdU x.1 x.2.1 x.2.2.1,none⟩
noncomputable def qf5:Env:=(221,.con premoveCheck_con)::(74,.con placeCheck_con)::[]
theorem ql2 (x:DL premoveCheck_i_con.ps):premoveCheck_i_con.φ x=denF Tryz.prog qf5 qga Tryz.f218 premoveCheck_i_con.ps premoveCheck_i_con.one premoveCheck_i_con.res premoveCheck_i_con.ρ x:=by kernel_rfl
theorem qob:ConOK Tryz.prog 218 premoveCheck_i_con :=
  qa (env:=qf5) ((EnvOK.cons (EnvOK.cons (EnvOK.nil _) qhK) qi6)) mixed Tryz.func218 premoveCheck_i_con qga (by kernel_rfl) (fun h=>by first | rfl | cases h) (fun g hg=>by cases hg) ql2
def qbV:Ann := .nil
noncomputable def slicesClone_PremoveMove_con:Con:=⟨[Zt38],true,[],Zt35,fun x=>qA x.1,none⟩
noncomputable def qbM:Env:=[]
theorem qfr (x:DL slicesClone_PremoveMove_con.ps):slicesClone_PremoveMove_con.φ x=denF Tryz.prog qbM qbV Tryz.f53 slicesClone_PremoveMove_con.ps slicesClone_PremoveMove_con.one slicesClone_PremoveMove_con.res slicesClone_PremoveMove_con.ρ x:=by kernel_rfl
theorem qaD:ConOK Tryz.prog 53 slicesClone_PremoveMove_con :=
  qa (env:=qbM) ((EnvOK.nil _)) mixed Tryz.func53 slicesClone_PremoveMove_con qbV (by kernel_rfl) (fun h=>by first | rfl | cases h) (fun g hg=>by cases hg) qfr
def qfO:Ann:=(.two .nil (.two (.two (.two .nil (.two (.two (.two .nil (.two (.two .nil (.joinE ⟨[],[],[]⟩ (.two (.loop ⟨[0,1,7],[(8,Zt62)],[]⟩ .nil) .nil))) .nil)) .nil) (.sel 2 1000004 (.two .nil (.two (.two .nil (.join ⟨[0],[(5,Zt62)],[(1,some (.arr 139 Zt39))]⟩ (.two (.loop ⟨[0,1],[(5,Zt62),(6,Zt62)],[(1,some (.arr 139 Zt39))]⟩ (.two .nil (.two (.two (.two .nil (.two .nil (.join ⟨[0,1,6],[(5,Zt62)],[(1,some (.arr 139 Zt39))]⟩ .nil))) .nil) .nil))) .nil))) (.two (.own .nil) (.two (.own .nil) .nil)))) .nil))) .nil) .nil))
noncomputable def premoveWithout_con:Con:=⟨[Zt38,Zt62],true,[],Zt35,fun x=>qb7 x.1 x.2.1,none⟩
noncomputable def qfQ:Env:=(159,.ck 197)::(289,.body Tryz.f289)::(252,.body Tryz.f252)::(288,.body Tryz.f288)::(53,.con slicesClone_PremoveMove_con)::[]
theorem qmT (x:DL premoveWithout_con.ps):premoveWithout_con.φ x=denF Tryz.prog qfQ qfO Tryz.f254 premoveWithout_con.ps premoveWithout_con.one premoveWithout_con.res premoveWithout_con.ρ x:=by kernel_rfl
theorem qnI:ConOK Tryz.prog 254 premoveWithout_con :=
  qa (env:=qfQ) ((EnvOK.check (EnvOK.body (EnvOK.body (EnvOK.body (EnvOK.cons (EnvOK.nil _) qaD) Tryz.func288) Tryz.func252) Tryz.func289) qb)) mixed Tryz.func254 premoveWithout_con qfO (by kernel_rfl) (fun h=>by first | rfl | cases h) (fun g hg=>by cases hg) qmT
def qbA:Ann:=(.two .nil (.two .nil (.two (.two .nil (.join ⟨[0],[(3,Zt62)],[]⟩ (.two (.loop ⟨[0,9,10],[(3,Zt62),(11,Zt62)],[]⟩ .nil) .nil))) (.two (.two (.two .nil (.two .nil (.two (.two .nil (.two .nil (.join ⟨[],[(0,Zt35)],[]⟩ (.two (.own (.own .nil)) .nil)))) .nil))) .nil) (.two (.two .nil (.join ⟨[],[(6,Zt35)],[(0,none)]⟩ (.two (.loop ⟨[25,26],[(6,Zt35),(27,Zt62)],[(0,none)]⟩ .nil) .nil))) .nil)))))
noncomputable def slicesConcat_PremoveMove_con:Con:=⟨[(.sl Zt38)],true,[],Zt35,fun x=>qal x.1,none⟩
noncomputable def qbH:Env:=(290,.body Tryz.f290)::[]
theorem qeE (x:DL slicesConcat_PremoveMove_con.ps):slicesConcat_PremoveMove_con.φ x=denF Tryz.prog qbH qbA Tryz.f255 slicesConcat_PremoveMove_con.ps slicesConcat_PremoveMove_con.one slicesConcat_PremoveMove_con.res slicesConcat_PremoveMove_con.ρ x:=by kernel_rfl
theorem qfA:ConOK Tryz.prog 255 slicesConcat_PremoveMove_con :=
  qa (env:=qbH) ((EnvOK.body (EnvOK.nil _) Tryz.func290)) mixed Tryz.func255 slicesConcat_PremoveMove_con qbA (by kernel_rfl) (fun h=>by first | rfl | cases h) (fun g hg=>by cases hg) qeE
def qi3:Ann:=(.two .nil (.two (.two (.two .nil (.two (.two .nil (.joinE ⟨[],[],[]⟩ (.two (.loop ⟨[0,1,7],[(8,Zt62)],[]⟩ .nil) .nil))) .nil)) .nil) (.sel 3 1000004 (.two (.two (.join ⟨[2,4,6,9],[(26,.bool)],[]⟩ (.any 16351 32 (.ord 0 0 .nil (.ord 1 0 .nil (.ord 2 0 .nil (.ord 3 2007 .nil (.ord 4 1999 .nil (.ord 6 0 .nil (.ord 7 0 .nil (.ord 8 0 .nil (.ord 9 0 .nil (.ord 10 1023 .nil (.ord 5 0 .nil (.ord 11 0 .nil (.ord 12 0 .nil (.ord 13 0 .nil .nil)))))))))))))))) .nil) (.two (.any 102399 12288 (.ord 0 0 .nil (.ord 1 0 .nil (.ord 2 0 .nil (.ord 3 0 .nil (.ord 4 16367 .nil (.ord 5 0 .nil (.ord 6 0 .nil (.ord 7 0 .nil (.ord 8 0 .nil (.ord 9 0 .nil (.ord 10 0 .nil (.ord 11 0 .nil (.ord 12 0 .nil (.ord 13 0 .nil (.ord 14 0 .nil (.ord 15 0 .nil (.ord 16 0 .nil .nil)))))))))))))))))) .nil)) (.two (.two (.any 16351 32 (.ord 0 0 .nil (.ord 1 0 .nil (.ord 2 0 .nil (.ord 3 2007 .nil (.ord 4 1999 .nil (.ord 6 0 .nil (.ord 7 0 .nil (.ord 8 0 .nil (.ord 9 0 .nil (.ord 10 1023 .nil (.ord 5 0 .nil (.ord 11 0 .nil (.ord 12 0 .nil (.ord 13 0 .nil .nil))))))))))))))) .nil) .nil))))
noncomputable def premoveNext_con:Con:=⟨[Zt12,Zt29,Zt38],false,[Zt51,.bool,Zt35],(.st Zt51 (.st .bool (.st Zt35 .nil))),fun x=>qhD x.1 x.2.1 x.2.2.1,none⟩
noncomputable def qje:Env:=(255,.con slicesConcat_PremoveMove_con)::(254,.con premoveWithout_con)::(98,.con slicesContains_Move_con)::(168,.con endsMoves_con)::(253,.body Tryz.f253)::(252,.body Tryz.f252)::(159,.ck 197)::[]
theorem qqb (x:DL premoveNext_con.ps):premoveNext_con.φ x=denF Tryz.prog qje qi3 Tryz.f219 premoveNext_con.ps premoveNext_con.one premoveNext_con.res premoveNext_con.ρ x:=by kernel_rfl
theorem qq2:ConOK Tryz.prog 219 premoveNext_con :=
  qa (env:=qje) ((EnvOK.cons (EnvOK.cons (EnvOK.cons (EnvOK.cons (EnvOK.body (EnvOK.body (EnvOK.check (EnvOK.nil _) qb) Tryz.func252) Tryz.func253) qow) qaB) qnI) qfA)) mixed Tryz.func219 premoveNext_con qi3 (by kernel_rfl) (fun h=>by first | rfl | cases h) (fun g hg=>by cases hg) qqb
def qgO:Ann := .nil
noncomputable def premoveNext_i_con:Con:=⟨[Zt12,Zt29,Zt38],false,[Zt51,.bool,Zt35,Zt62],(.st Zt51 (.st .bool Zt28)),fun x=>qa7 x.1 x.2.1 x.2.2.1,none⟩
noncomputable def qgB:Env:=(219,.con premoveNext_con)::(218,.con premoveCheck_i_con)::(159,.ck 197)::[]
theorem qn0 (x:DL premoveNext_i_con.ps):premoveNext_i_con.φ x=denF Tryz.prog qgB qgO Tryz.f171 premoveNext_i_con.ps premoveNext_i_con.one premoveNext_i_con.res premoveNext_i_con.ρ x:=by kernel_rfl
theorem qo3:ConOK Tryz.prog 171 premoveNext_i_con :=
  qa (env:=qgB) ((EnvOK.cons (EnvOK.cons (EnvOK.check (EnvOK.nil _) qb) qob) qq2)) mixed Tryz.func171 premoveNext_i_con qgO (by kernel_rfl) (fun h=>by first | rfl | cases h) (fun g hg=>by cases hg) qn0
def qdW:Ann:=(.ord 14 0 .nil (.ord 15 0 .nil (.ord 16 0 .nil (.ord 17 0 .nil (.ord 18 0 .nil (.ord 19 0 .nil (.ord 21 0 .nil (.ord 22 0 .nil (.ord 23 0 .nil (.ord 24 0 .nil .nil))))))))))
def qev:Ann:=(.two .nil (.two (.two (.two (.join ⟨[0,3],[(9,.bool)],[]⟩ (.any 61 0 (.ord 0 0 .nil (.ord 2 0 .nil (.alt (.ord 1 0 .nil (.ord 3 0 .nil (.ord 4 0 .nil (.ord 5 0 .nil .nil)))) (.ord 3 0 .nil (.ord 1 0 .nil (.ord 4 0 .nil (.ord 5 0 .nil .nil))))))))) (.two .nil (.two (.any 31999 768 (.ord 0 0 .nil (.ord 1 0 .nil (.ord 2 0 .nil (.ord 3 3575 .nil (.ord 4 0 .nil (.ord 5 0 .nil (.ord 6 0 .nil (.ord 7 3199 .nil (.ord 10 0 .nil (.ord 11 2047 .nil (.ord 8 0 .nil (.ord 9 0 .nil (.ord 12 0 .nil (.ord 13 0 .nil (.ord 14 0 .nil .nil)))))))))))))))) .nil))) .nil) (.two .nil (.two (.join ⟨[],[],[(0,some (.box Zt2)),(10,none),(11,none),(12,none)]⟩ (.two (.loop ⟨[0,3],[],[(0,some (.box Zt2)),(10,none),(11,none),(12,none)]⟩ (.two (.two (.join ⟨[0,3],[(50,.bool)],[]⟩ .nil) .nil) (.two (.two (.join ⟨[0,3],[(5,(.obx Zt51)),(6,.bool),(7,Zt35)],[]⟩ (.any 30392063 1065216 (.ord 0 0 .nil (.ord 1 0 .nil (.ord 2 0 .nil (.ord 3 1064951 .nil (.ord 4 0 .nil (.ord 5 0 .nil (.ord 6 0 .nil (.ord 7 1064575 .nil (.ord 9 0 .nil (.ord 10 0 .nil (.ord 11 0 .nil (.ord 12 0 .nil (.ord 13 1056767 .nil (.alt (.ord 8 0 .nil (.alt (.ord 14 0 .nil (.ord 15 0 .nil (.ord 16 0 .nil (.ord 17 0 .nil (.ord 18 0 .nil (.ord 19 0 .nil (.ord 20 0 .nil (.ord 21 0 .nil (.ord 22 0 .nil (.ord 23 0 .nil (.ord 24 0 .nil .nil))))))))))) (.ord 20 0 .nil qdW))) (.ord 20 0 .nil (.ord 8 0 .nil qdW)))))))))))))))))) .nil) .nil))) .nil)) .nil))))
noncomputable def matchMatchDoMove_con:Ioc:=⟨Zt1,[Zt25],true,[],Zt62,fun x=>qaF x.1 x.2.1⟩
noncomputable def qey:Env:=(159,.ck 197)::(171,.con premoveNext_i_con)::(73,.rd plainGameResult_con)::(170,.io matchMatchMove_con)::(52,.rd plainGameMoves_con)::(169,.body Tryz.f169)::(98,.con slicesContains_Move_con)::(168,.con endsMoves_con)::(72,.rd plainGamePosition_con)::(167,.body Tryz.f167)::[]
theorem qj2 (x:DL (Zt1::[Zt25])):matchMatchDoMove_con.φ x=denIO Tryz.prog qey qev Tryz.f114 Zt1 [Zt25] true [] Zt62 x:=by kernel_rfl
theorem qlC:IocOK Tryz.prog 114 matchMatchDoMove_con :=
  qau (env:=qey) ((EnvOK.check (EnvOK.cons (EnvOK.readonly (EnvOK.inout (EnvOK.readonly (EnvOK.body (EnvOK.cons (EnvOK.cons (EnvOK.readonly (EnvOK.body (EnvOK.nil _) Tryz.func167) qV) qow) qaB) Tryz.func169) qbX) qnZ) qbC) qo3) qb)) mixed Tryz.func114 matchMatchDoMove_con qev (by kernel_rfl) (fun h=>by first | rfl | cases h) qj2
def qmt:Ann := .nil
noncomputable def offerTurn_con:Con:=⟨[Zt62],true,[],Zt62,fun x=>qls x.1,some fun x=>qin x.1⟩
noncomputable def qmw:Env:=[]
theorem qtV (x:DL offerTurn_con.ps):offerTurn_con.φ x=denF Tryz.prog qmw qmt Tryz.f203 offerTurn_con.ps offerTurn_con.one offerTurn_con.res offerTurn_con.ρ x:=by kernel_rfl
theorem que:ConOK Tryz.prog 203 offerTurn_con :=
  qa (env:=qmw) ((EnvOK.nil _)) mixed Tryz.func203 offerTurn_con qmt (by kernel_rfl) (fun h=>by first | rfl | cases h) (fun g hg x=>by
    cases hg
    exact quh _) qtV
def qkW:Ann:=(.two .nil (.two .nil (.two (.two .nil (.join ⟨[0,1],[(5,Zt62)],[]⟩ .nil)) .nil)))
noncomputable def offerPlies_con:Con:=⟨[Zt62,Zt62],true,[],Zt62,fun x=>qdz x.1 x.2.1,none⟩
noncomputable def qkV:Env:=(203,.con offerTurn_con)::[]
theorem qqR (x:DL offerPlies_con.ps):offerPlies_con.φ x=denF Tryz.prog qkV qkW Tryz.f149 offerPlies_con.ps offerPlies_con.one offerPlies_con.res offerPlies_con.ρ x:=by kernel_rfl
theorem qlK:ConOK Tryz.prog 149 offerPlies_con :=
  qa (env:=qkV) ((EnvOK.cons (EnvOK.nil _) que)) mixed Tryz.func149 offerPlies_con qkW (by kernel_rfl) (fun h=>by first | rfl | cases h) (fun g hg=>by cases hg) qqR
def qmg:Ann:=(.two .nil (.two .nil (.two (.two (.two .nil (.two .nil (.two .nil (.two .nil (.two (.join ⟨[1,2,3,4,8],[(28,.bool)],[]⟩ .nil) .nil))))) .nil) (.two (.join ⟨[4,8],[],[(0,some (.box Zt32))]⟩ (.any 1919 0 (.ord 0 0 .nil (.ord 1 0 .nil (.ord 2 0 .nil (.ord 3 0 .nil (.ord 4 0 .nil (.ord 5 0 .nil (.ord 6 0 .nil (.ord 8 0 .nil (.ord 9 0 .nil (.ord 7 0 .nil (.ord 10 0 .nil (.ord 11 0 .nil .nil)))))))))))))) .nil))))
noncomputable def offerMake_con:Con:=⟨[Zt22,Zt62,Zt62,Zt62],false,[Zt22,Zt62],Zt17,fun x=>qcI x.1 x.2.1 x.2.2.1 x.2.2.2.1,none⟩
noncomputable def qmi:Env:=(149,.con offerPlies_con)::(148,.con offerCheck_i_con)::(159,.ck 197)::[]
theorem qtb (x:DL offerMake_con.ps):offerMake_con.φ x=denF Tryz.prog qmi qmg Tryz.f83 offerMake_con.ps offerMake_con.one offerMake_con.res offerMake_con.ρ x:=by kernel_rfl
theorem qup:ConOK Tryz.prog 83 offerMake_con :=
  qa (env:=qmi) ((EnvOK.cons (EnvOK.cons (EnvOK.check (EnvOK.nil _) qb) qcZ) qlK)) mixed Tryz.func83 offerMake_con qmg (by kernel_rfl) (fun h=>by first | rfl | cases h) (fun g hg=>by cases hg) qtb
def qny:Ann := .nil
noncomputable def offerOpen_con:Con:=⟨[Zt22,Zt62,Zt62,Zt62],true,[],Zt62,fun x=>qiA x.1 x.2.1 x.2.2.1 x.2.2.2.1,none⟩
noncomputable def qm2:Env:=(148,.con offerCheck_i_con)::[]
theorem qtC (x:DL offerOpen_con.ps):offerOpen_con.φ x=denF Tryz.prog qm2 qny Tryz.f152 offerOpen_con.ps offerOpen_con.one offerOpen_con.res offerOpen_con.ρ x:=by kernel_rfl
theorem qoI:ConOK Tryz.prog 152 offerOpen_con :=
  qa (env:=qm2) ((EnvOK.cons (EnvOK.nil _) qcZ)) mixed Tryz.func152 offerOpen_con qny (by kernel_rfl) (fun h=>by first | rfl | cases h) (fun g hg=>by cases hg) qtC
def qhT:Ann := .nil
noncomputable def offerDecline_con:Con:=⟨[Zt22,Zt62,Zt62,Zt62],false,[Zt22,Zt62],Zt17,fun x=>qaL x.1 x.2.1 x.2.2.1 x.2.2.2.1,none⟩
noncomputable def qid:Env:=(152,.con offerOpen_con)::(159,.ck 197)::[]
theorem qoU (x:DL offerDecline_con.ps):offerDecline_con.φ x=denF Tryz.prog qid qhT Tryz.f85 offerDecline_con.ps offerDecline_con.one offerDecline_con.res offerDecline_con.ρ x:=by kernel_rfl
theorem qp1:ConOK Tryz.prog 85 offerDecline_con :=
  qa (env:=qid) ((EnvOK.cons (EnvOK.check (EnvOK.nil _) qb) qoI)) mixed Tryz.func85 offerDecline_con qhT (by kernel_rfl) (fun h=>by first | rfl | cases h) (fun g hg=>by cases hg) qoU
def qr:Ann:=(.ord 12 0 .nil (.ord 13 0 .nil (.ord 14 0 .nil (.ord 15 0 .nil (.ord 17 0 .nil (.ord 18 0 .nil .nil))))))
def qC:Ann:=(.alt (.ord 12 0 .nil (.ord 13 0 .nil (.ord 14 0 .nil (.ord 15 0 .nil (.ord 16 0 .nil (.ord 17 0 .nil (.ord 18 0 .nil .nil))))))) (.ord 16 0 .nil qr))
def qbu:Ann:=(.alt (.ord 9 0 .nil (.ord 11 0 .nil qr)) (.ord 11 0 .nil (.ord 9 0 .nil qr)))
def qbr:Ann:=(.alt (.ord 7 0 .nil (.ord 11 0 .nil qr)) (.ord 11 0 .nil (.ord 7 0 .nil qr)))
def qbq:Ann:=(.alt (.ord 5 0 .nil (.ord 11 0 .nil qr)) (.ord 11 0 .nil (.ord 5 0 .nil qr)))
def qbs:Ann:=(.alt (.ord 11 0 .nil qC) (.ord 16 0 .nil (.ord 11 0 .nil qr)))
def qdt:Ann:=(.alt (.ord 7 0 .nil qbu) (.alt (.ord 9 0 .nil qbr) (.ord 11 0 .nil (.ord 7 69503 .nil (.ord 9 0 .nil qr)))))
def qds:Ann:=(.alt (.ord 5 0 .nil qbr) (.alt (.ord 7 0 .nil qbq) (.ord 11 0 .nil (.ord 5 69599 .nil (.ord 7 0 .nil qr)))))
def qdn:Ann:=(.alt (.ord 5 0 .nil qbu) (.alt (.ord 9 0 .nil qbq) (.ord 11 0 .nil (.ord 5 69599 .nil (.ord 9 0 .nil qr)))))
def qcP:Ann:=(.alt (.ord 9 0 .nil qbs) (.alt (.ord 11 0 .nil (.ord 9 69119 .nil qC)) (.ord 16 0 .nil qbu)))
def qcT:Ann:=(.alt (.ord 7 0 .nil qbs) (.alt (.ord 11 0 .nil (.ord 7 69503 .nil qC)) (.ord 16 0 .nil qbr)))
def qcO:Ann:=(.alt (.ord 5 0 .nil qbs) (.alt (.ord 11 0 .nil (.ord 5 69599 .nil qC)) (.ord 16 0 .nil qbq)))
def qej:Ann:=(.two .nil (.two .nil (.two .nil (.two (.join ⟨[0],[(6,Zt20),(7,Zt62)],[]⟩ (.any 321535 65536 (.ord 0 0 .nil (.ord 1 0 .nil (.ord 2 0 .nil (.ord 3 0 .nil (.ord 4 0 .nil (.ord 6 0 .nil (.ord 8 0 .nil (.ord 10 0 .nil (.alt (.ord 5 0 .nil (.alt (.ord 7 0 .nil qcP) (.alt (.ord 9 0 .nil qcT) (.alt (.ord 11 0 .nil (.ord 7 69503 .nil (.ord 9 69119 .nil qC))) (.ord 16 0 .nil qdt))))) (.alt (.ord 7 0 .nil (.alt (.ord 5 0 .nil qcP) (.alt (.ord 9 0 .nil qcO) (.alt (.ord 11 0 .nil (.ord 5 69599 .nil (.ord 9 69119 .nil qC))) (.ord 16 0 .nil qdn))))) (.alt (.ord 9 0 .nil (.alt (.ord 5 0 .nil qcT) (.alt (.ord 7 0 .nil qcO) (.alt (.ord 11 0 .nil (.ord 5 69599 .nil (.ord 7 69503 .nil qC))) (.ord 16 0 .nil qds))))) (.alt (.ord 11 0 .nil (.ord 5 69599 .nil (.ord 7 69503 .nil (.ord 9 69119 .nil qC)))) (.ord 16 0 .nil (.alt (.ord 5 0 .nil qdt) (.alt (.ord 7 0 .nil qdn) (.alt (.ord 9 0 .nil qds) (.ord 11 0 .nil (.ord 5 69599 .nil (.ord 7 69503 .nil (.ord 9 0 .nil qr)))))))))))))))))))))) (.two (.two .nil (.join ⟨[7],[],[(0,some (.box Zt2)),(1,none),(2,none),(3,none)]⟩ .nil)) .nil)))))
noncomputable def matchMatchDoOffer_con:Ioc:=⟨Zt1,[Zt25],true,[],Zt62,fun x=>qaw x.1 x.2.1⟩
noncomputable def qd9:Env:=(83,.con offerMake_con)::(159,.ck 197)::(85,.con offerDecline_con)::(52,.rd plainGameMoves_con)::(169,.body Tryz.f169)::[]
theorem qi9 (x:DL (Zt1::[Zt25])):matchMatchDoOffer_con.φ x=denIO Tryz.prog qd9 qej Tryz.f115 Zt1 [Zt25] true [] Zt62 x:=by kernel_rfl
theorem qj7:IocOK Tryz.prog 115 matchMatchDoOffer_con :=
  qau (env:=qd9) ((EnvOK.cons (EnvOK.check (EnvOK.cons (EnvOK.readonly (EnvOK.body (EnvOK.nil _) Tryz.func169) qbX) qp1) qb) qup)) mixed Tryz.func115 matchMatchDoOffer_con qej (by kernel_rfl) (fun h=>by first | rfl | cases h) qi9
def qi2:Ann := .nil
noncomputable def offerAccept_con:Con:=⟨[Zt22,Zt62,Zt62,Zt62],false,[Zt22,Zt62],Zt17,fun x=>qdu x.1 x.2.1 x.2.2.1 x.2.2.2.1,none⟩
noncomputable def qiw:Env:=(152,.con offerOpen_con)::(159,.ck 197)::[]
theorem qpA (x:DL offerAccept_con.ps):offerAccept_con.φ x=denF Tryz.prog qiw qi2 Tryz.f150 offerAccept_con.ps offerAccept_con.one offerAccept_con.res offerAccept_con.ρ x:=by kernel_rfl
theorem qro:ConOK Tryz.prog 150 offerAccept_con :=
  qa (env:=qiw) ((EnvOK.cons (EnvOK.check (EnvOK.nil _) qb) qoI)) mixed Tryz.func150 offerAccept_con qi2 (by kernel_rfl) (fun h=>by first | rfl | cases h) (fun g hg=>by cases hg) qpA
def qg3:Ann:=(.two .nil (.two .nil (.two (.join ⟨[],[],[(0,some (.box Zt7)),(1,none),(2,none)]⟩ (.any 461369343 8392704 (.ord 0 0 .nil (.ord 1 0 .nil (.ord 2 0 .nil (.ord 3 0 .nil (.ord 4 0 .nil (.ord 5 16773087 .nil (.ord 6 0 .nil (.ord 7 0 .nil (.ord 8 0 .nil (.ord 9 16769535 .nil (.ord 10 0 .nil (.ord 11 0 .nil (.ord 13 0 .nil (.ord 14 0 .nil (.ord 15 0 .nil (.ord 16 8323071 .nil (.ord 17 0 .nil (.ord 18 0 .nil (.ord 19 0 .nil (.ord 20 1048575 .nil (.ord 21 0 .nil (.ord 22 0 .nil (.alt (.ord 12 0 (.own .nil) (.ord 24 0 .nil (.ord 25 0 .nil (.alt (.ord 23 0 (.own .nil) (.ord 26 0 .nil (.ord 27 0 .nil (.ord 28 0 .nil (.ord 29 0 .nil .nil))))) (.ord 26 0 .nil (.ord 23 0 (.own .nil) (.ord 27 0 .nil (.ord 28 0 .nil (.ord 29 0 .nil .nil))))))))) (.ord 23 0 (.own .nil) (.ord 12 0 (.own .nil) (.ord 24 0 .nil (.ord 25 0 .nil (.ord 26 0 .nil (.ord 27 0 .nil (.ord 28 0 .nil (.ord 29 0 .nil .nil))))))))))))))))))))))))))))))))) .nil)))
noncomputable def plainGameBack_con:Ioc:=⟨Zt4,[],true,[],Zt62,fun x=>qcW x.1⟩
noncomputable def qgG:Env:=[]
theorem qnS (x:DL (Zt4::[])):plainGameBack_con.φ x=denIO Tryz.prog qgG qg3 Tryz.f172 Zt4 [] true [] Zt62 x:=by kernel_rfl
theorem qo8:IocOK Tryz.prog 172 plainGameBack_con :=
  qau (env:=qgG) ((EnvOK.nil _)) mixed Tryz.func172 plainGameBack_con qg3 (by kernel_rfl) (fun h=>by first | rfl | cases h) qnS
def ql6:Ann:=(.two .nil (.two .nil (.two .nil (.two (.two .nil (.join ⟨[2,4],[],[(0,some (.box Zt32))]⟩ (.two (.loop ⟨[1,2,4],[(19,Zt62)],[(0,some (.box Zt32))]⟩ (.two .nil (.two .nil (.two (.join ⟨[1,2,4,19],[],[(0,some (.box Zt32))]⟩ (.two (.two .nil (.two (.join ⟨[1,2,4,7,19],[(25,Zt54),(26,Zt62)],[]⟩ .nil) (.join ⟨[1,2,4,19],[],[(0,some (.box Zt32))]⟩ (.two (.loop ⟨[1,2,4,7,19,25],[(26,Zt62)],[(0,some (.box Zt32))]⟩ (.two .nil (.two .nil (.two (.two (.two .nil (.join ⟨[1,2,4,7,19,25,26],[],[(0,some (.box Zt32))]⟩ .nil)) .nil) .nil)))) .nil)))) .nil)) .nil)))) .nil))) .nil))))
noncomputable def offerBack_con:Con:=⟨[Zt22,Zt62],false,[Zt22,Zt62],Zt17,fun x=>qfd x.1 x.2.1,none⟩
noncomputable def qmF:Env:=(148,.con offerCheck_i_con)::(159,.ck 197)::[]
theorem qs0 (x:DL offerBack_con.ps):offerBack_con.φ x=denF Tryz.prog qmF ql6 Tryz.f151 offerBack_con.ps offerBack_con.one offerBack_con.res offerBack_con.ρ x:=by kernel_rfl
theorem quQ:ConOK Tryz.prog 151 offerBack_con :=
  qa (env:=qmF) ((EnvOK.cons (EnvOK.check (EnvOK.nil _) qb) qcZ)) mixed Tryz.func151 offerBack_con ql6 (by kernel_rfl) (fun h=>by first | rfl | cases h) (fun g hg=>by cases hg) qs0
def qt:Ann:=(.ord 11 0 .nil (.ord 12 0 .nil (.ord 13 0 .nil (.ord 14 0 .nil (.ord 16 0 .nil (.ord 17 0 .nil .nil))))))
def qB:Ann:=(.ord 11 34815 .nil (.ord 12 0 .nil (.ord 13 0 .nil (.ord 14 0 .nil (.ord 15 0 .nil (.ord 16 0 .nil (.ord 17 0 .nil .nil)))))))
def qbc:Ann:=(.alt (.ord 8 0 .nil (.ord 10 0 .nil qt)) (.ord 10 0 .nil (.ord 8 0 .nil qt)))
def qbe:Ann:=(.alt (.ord 6 0 .nil (.ord 10 0 .nil qt)) (.ord 10 0 .nil (.ord 6 0 .nil qt)))
def qa8:Ann:=(.alt (.ord 4 0 .nil (.ord 10 0 .nil qt)) (.ord 10 0 .nil (.ord 4 0 .nil qt)))
def qa4:Ann:=(.alt (.ord 10 0 .nil qB) (.ord 15 0 .nil (.ord 10 0 .nil qt)))
def qbb:Ann:=(.ord 11 0 .nil (.ord 12 0 .nil (.ord 13 0 .nil (.ord 14 0 .nil (.ord 15 0 .nil .nil)))))
def qdc:Ann:=(.alt (.ord 6 0 .nil qbc) (.alt (.ord 8 0 .nil qbe) (.ord 10 0 .nil (.ord 6 34751 .nil (.ord 8 0 .nil qt)))))
def qc0:Ann:=(.alt (.ord 4 0 .nil qbe) (.alt (.ord 6 0 .nil qa8) (.ord 10 0 .nil (.ord 4 34799 .nil (.ord 6 0 .nil qt)))))
def qcw:Ann:=(.alt (.ord 4 0 .nil qbc) (.alt (.ord 8 0 .nil qa8) (.ord 10 0 .nil (.ord 4 34799 .nil (.ord 8 0 .nil qt)))))
def qcD:Ann:=(.alt (.ord 8 0 .nil qa4) (.alt (.ord 10 0 .nil (.ord 8 34559 .nil qB)) (.ord 15 0 .nil qbc)))
def qcE:Ann:=(.alt (.ord 6 0 .nil qa4) (.alt (.ord 10 0 .nil (.ord 6 34751 .nil qB)) (.ord 15 0 .nil qbe)))
def qcF:Ann:=(.alt (.ord 4 0 .nil qa4) (.alt (.ord 10 0 .nil (.ord 4 34799 .nil qB)) (.ord 15 0 .nil qa8)))
def qaV:Ann:=(.ord 8 0 .nil (.ord 9 0 .nil (.ord 10 0 .nil qbb)))
def qdr:Ann:=(.two .nil (.two (.join ⟨[0,3],[(5,Zt20),(6,Zt62)],[]⟩ (.any 162815 32768 (.ord 0 0 .nil (.ord 1 0 .nil (.ord 2 0 .nil (.ord 3 0 .nil (.ord 5 0 .nil (.ord 7 0 .nil (.ord 9 0 .nil (.alt (.ord 4 0 .nil (.alt (.ord 6 0 .nil qcD) (.alt (.ord 8 0 .nil qcE) (.alt (.ord 10 0 .nil (.ord 6 34751 .nil (.ord 8 34559 .nil qB))) (.ord 15 0 .nil qdc))))) (.alt (.ord 6 0 .nil (.alt (.ord 4 0 .nil qcD) (.alt (.ord 8 0 .nil qcF) (.alt (.ord 10 0 .nil (.ord 4 34799 .nil (.ord 8 34559 .nil qB))) (.ord 15 0 .nil qcw))))) (.alt (.ord 8 0 .nil (.alt (.ord 4 0 .nil qcE) (.alt (.ord 6 0 .nil qcF) (.alt (.ord 10 0 .nil (.ord 4 34799 .nil (.ord 6 34751 .nil qB))) (.ord 15 0 .nil qc0))))) (.alt (.ord 10 0 .nil (.ord 4 34799 .nil (.ord 6 34751 .nil (.ord 8 34559 .nil qB)))) (.ord 15 0 .nil (.alt (.ord 4 0 .nil qdc) (.alt (.ord 6 0 .nil qcw) (.alt (.ord 8 0 .nil qc0) (.ord 10 0 .nil (.ord 4 34799 .nil (.ord 6 34751 .nil (.ord 8 0 .nil qt))))))))))))))))))))) (.two .nil (.two .nil (.two .nil (.two (.two (.join ⟨[0,3],[(46,Zt62),(47,Zt62)],[]⟩ (.any 111 0 (.ord 0 0 .nil (.ord 3 0 .nil (.ord 6 0 .nil (.alt (.ord 1 0 .nil (.ord 2 0 .nil (.ord 4 0 .nil (.ord 5 0 .nil .nil)))) (.ord 4 0 .nil (.ord 1 0 .nil (.ord 2 0 .nil (.ord 5 0 .nil .nil)))))))))) (.join ⟨[0,3],[],[(1,some (.box Zt7)),(2,none),(3,none)]⟩ (.two (.loop ⟨[0,3,46],[(47,Zt62)],[(1,some (.box Zt7)),(2,none),(3,none)]⟩ .nil) .nil))) (.two (.join ⟨[0,3],[],[(0,some (.box Zt2)),(1,none),(6,none),(7,none)]⟩ (.any 32639 0 (.ord 0 0 .nil (.ord 1 0 .nil (.ord 2 0 .nil (.ord 3 0 .nil (.ord 4 0 .nil (.ord 6 0 .nil (.alt (.ord 5 0 .nil (.ord 7 0 .nil qaV)) (.ord 7 0 .nil (.ord 5 0 .nil qaV))))))))))) (.two (.join ⟨[0],[],[(0,some (.box Zt2)),(8,none),(9,none),(10,none)]⟩ (.any 31735 0 (.ord 0 0 .nil (.ord 1 0 .nil (.ord 2 0 .nil (.ord 4 0 .nil (.alt (.ord 3 0 .nil (.ord 6 0 .nil (.ord 7 0 .nil (.ord 8 0 .nil (.ord 9 0 .nil (.alt (.ord 5 0 .nil (.ord 10 0 .nil qbb)) (.ord 10 0 .nil (.ord 5 0 .nil qbb)))))))) (.ord 5 0 .nil (.ord 3 0 .nil (.ord 6 0 .nil (.ord 7 0 .nil qaV))))))))))) .nil))))))))
noncomputable def matchMatchDoAccept_con:Ioc:=⟨Zt1,[Zt25],true,[],Zt62,fun x=>qaH x.1 x.2.1⟩
noncomputable def qdo:Env:=(72,.rd plainGamePosition_con)::(167,.body Tryz.f167)::(151,.con offerBack_con)::(172,.io plainGameBack_con)::(149,.con offerPlies_con)::(159,.ck 197)::(52,.rd plainGameMoves_con)::(169,.body Tryz.f169)::(150,.con offerAccept_con)::[]
theorem qik (x:DL (Zt1::[Zt25])):matchMatchDoAccept_con.φ x=denIO Tryz.prog qdo qdr Tryz.f116 Zt1 [Zt25] true [] Zt62 x:=by kernel_rfl
theorem qjh:IocOK Tryz.prog 116 matchMatchDoAccept_con :=
  qau (env:=qdo) ((EnvOK.readonly (EnvOK.body (EnvOK.cons (EnvOK.inout (EnvOK.cons (EnvOK.check (EnvOK.readonly (EnvOK.body (EnvOK.cons (EnvOK.nil _) qro) Tryz.func169) qbX) qb) qlK) qo8) quQ) Tryz.func167) qV)) mixed Tryz.func116 matchMatchDoAccept_con qdr (by kernel_rfl) (fun h=>by first | rfl | cases h) qik
def qk1:Ann:=(.two .nil (.two .nil (.two .nil (.two (.two .nil (.join ⟨[1,2],[(6,Zt59),(7,Zt62)],[]⟩ (.two (.loop ⟨[1,2,13,14],[(6,Zt59),(7,Zt62),(15,Zt62)],[]⟩ (.two .nil (.two .nil (.two (.two (.two .nil (.two .nil (.join ⟨[1,2,13,14,15],[(6,Zt59),(7,Zt62)],[(1,none)]⟩ .nil))) .nil) .nil)))) .nil))) (.two (.two .nil (.join ⟨[],[(6,Zt59),(7,Zt62)],[(1,none)]⟩ (.two (.loop ⟨[40,41],[(6,Zt59),(7,Zt62),(42,Zt62)],[(1,none)]⟩ (.two .nil (.two .nil (.two (.two (.two .nil (.two .nil (.join ⟨[40,41,42],[(6,Zt59),(7,Zt62)],[(2,none)]⟩ .nil))) .nil) .nil)))) .nil))) .nil)))))
noncomputable def claimTypes_con:Con:=⟨[Zt29,Zt62],false,[Zt59,Zt62],(.st Zt59 Zt58),fun x=>qjV x.1 x.2.1,none⟩
noncomputable def qkI:Env:=[]
theorem qqZ (x:DL claimTypes_con.ps):claimTypes_con.φ x=denF Tryz.prog qkI qk1 Tryz.f291 claimTypes_con.ps claimTypes_con.one claimTypes_con.res claimTypes_con.ρ x:=by kernel_rfl
theorem qs6:ConOK Tryz.prog 291 claimTypes_con :=
  qa (env:=qkI) ((EnvOK.nil _)) mixed Tryz.func291 claimTypes_con qk1 (by kernel_rfl) (fun h=>by first | rfl | cases h) (fun g hg=>by cases hg) qqZ
def qh9:Ann:=(.two .nil (.two (.two .nil (.joinE ⟨[],[],[]⟩ (.two (.loop ⟨[2,3,10],[(1,Zt62),(11,Zt62)],[]⟩ .nil) .nil))) .nil))
noncomputable def claimBecomes_con:Con:=⟨[Zt12,Zt62,Zt62],true,[],.bool,fun x=>qip x.1 x.2.1 x.2.2.1,none⟩
noncomputable def qia:Env:=[]
theorem qo4 (x:DL claimBecomes_con.ps):claimBecomes_con.φ x=denF Tryz.prog qia qh9 Tryz.f293 claimBecomes_con.ps claimBecomes_con.one claimBecomes_con.res claimBecomes_con.ρ x:=by kernel_rfl
theorem qqs:ConOK Tryz.prog 293 claimBecomes_con :=
  qa (env:=qia) ((EnvOK.nil _)) mixed Tryz.func293 claimBecomes_con qh9 (by kernel_rfl) (fun h=>by first | rfl | cases h) (fun g hg=>by cases hg) qo4
def qlO:Ann:=(.two .nil (.two .nil (.two .nil (.two (.two (.join ⟨[4,9],[(42,.bool)],[]⟩ (.two (.two .nil (.two (.two (.two .nil (.two (.two .nil (.joinE ⟨[],[],[]⟩ (.two (.loop ⟨[0,1,7],[(8,Zt62)],[]⟩ .nil) .nil))) .nil)) .nil) .nil)) .nil)) .nil) (.two (.join ⟨[],[(8,.bool)],[]⟩ (.two (.two .nil (.two (.two (.two .nil (.two (.two .nil (.joinE ⟨[],[],[]⟩ (.two (.loop ⟨[0,1,7],[(8,Zt62)],[]⟩ (.two .nil (.two .nil (.two (.two (.two .nil (.two (.two (.two .nil (.two (.two (.two .nil (.two (.two (.two .nil (.two (.two .nil (.joinE ⟨[],[],[]⟩ (.two (.loop ⟨[0,1,7],[(8,Zt62)],[]⟩ .nil) .nil))) .nil)) .nil) .nil)) .nil) .nil)) .nil) .nil)) .nil) .nil)))) .nil))) .nil)) .nil) .nil)) .nil)) .nil)))))
noncomputable def claimAble_con:Con:=⟨[Zt12,Zt29,Zt46,Zt62],true,[],.bool,fun x=>qno x.1 x.2.1 x.2.2.1 x.2.2.2.1,none⟩
noncomputable def qnv:Env:=(296,.body Tryz.f296)::(306,.body Tryz.f306)::(295,.body Tryz.f295)::(294,.body Tryz.f294)::(293,.con claimBecomes_con)::(292,.body Tryz.f292)::(187,.body Tryz.f187)::(133,.body Tryz.f133)::(291,.con claimTypes_con)::[]
theorem qsF (x:DL claimAble_con.ps):claimAble_con.φ x=denF Tryz.prog qnv qlO Tryz.f258 claimAble_con.ps claimAble_con.one claimAble_con.res claimAble_con.ρ x:=by kernel_rfl
theorem quP:ConOK Tryz.prog 258 claimAble_con :=
  qa (env:=qnv) ((EnvOK.body (EnvOK.body (EnvOK.body (EnvOK.body (EnvOK.cons (EnvOK.body (EnvOK.body (EnvOK.body (EnvOK.cons (EnvOK.nil _) qs6) Tryz.func133) Tryz.func187) Tryz.func292) qqs) Tryz.func294) Tryz.func295) Tryz.func306) Tryz.func296)) mixed Tryz.func258 claimAble_con qlO (by kernel_rfl) (fun h=>by first | rfl | cases h) (fun g hg=>by cases hg) qsF
def qjo:Ann:=(.two .nil (.two .nil (.two .nil (.two (.join ⟨[],[(6,.bool),(7,Zt62)],[]⟩ (.two (.two .nil (.two (.two (.two .nil (.two (.two .nil (.joinE ⟨[],[],[]⟩ (.two (.loop ⟨[0,1,7],[(8,Zt62)],[]⟩ .nil) .nil))) .nil)) .nil) .nil)) .nil)) .nil))))
noncomputable def claimAble_i_con:Con:=⟨[Zt12,Zt29,Zt62],false,[.bool,Zt62],(.st .bool Zt58),fun x=>qe6 x.1 x.2.1 x.2.2.1,none⟩
noncomputable def qjb:Env:=(258,.con claimAble_con)::(257,.body Tryz.f257)::(194,.body Tryz.f194)::(256,.body Tryz.f256)::(74,.con placeCheck_con)::[]
theorem qpH (x:DL claimAble_i_con.ps):claimAble_i_con.φ x=denF Tryz.prog qjb qjo Tryz.f220 claimAble_i_con.ps claimAble_i_con.one claimAble_i_con.res claimAble_i_con.ρ x:=by kernel_rfl
theorem qqX:ConOK Tryz.prog 220 claimAble_i_con :=
  qa (env:=qjb) ((EnvOK.cons (EnvOK.body (EnvOK.body (EnvOK.body (EnvOK.cons (EnvOK.nil _) qhK) Tryz.func256) Tryz.func194) Tryz.func257) quP)) mixed Tryz.func220 claimAble_i_con qjo (by kernel_rfl) (fun h=>by first | rfl | cases h) (fun g hg=>by cases hg) qpH
def qix:Ann := .nil
noncomputable def claimFallen_con:Con:=⟨[Zt12,Zt29,Zt62],false,[Zt62,Zt62],Zt54,fun x=>qhs x.1 x.2.1 x.2.2.1,none⟩
noncomputable def qiP:Env:=(220,.con claimAble_i_con)::[]
theorem qpT (x:DL claimFallen_con.ps):claimFallen_con.φ x=denF Tryz.prog qiP qix Tryz.f173 claimFallen_con.ps claimFallen_con.one claimFallen_con.res claimFallen_con.ρ x:=by kernel_rfl
theorem qq6:ConOK Tryz.prog 173 claimFallen_con :=
  qa (env:=qiP) ((EnvOK.cons (EnvOK.nil _) qqX)) mixed Tryz.func173 claimFallen_con qix (by kernel_rfl) (fun h=>by first | rfl | cases h) (fun g hg=>by cases hg) qpT
def qdX:Ann:=(.two .nil (.two (.two .nil (.two (.two (.any 163839 32768 (.ord 0 0 .nil (.ord 1 0 .nil (.ord 2 0 .nil (.ord 3 34807 .nil (.ord 4 0 .nil (.ord 5 0 .nil (.ord 6 0 .nil (.ord 7 0 .nil (.ord 8 34559 .nil (.ord 9 0 .nil (.ord 10 33791 .nil (.ord 11 34815 .nil (.ord 12 0 .nil (.ord 13 0 .nil (.ord 14 0 .nil (.ord 15 0 .nil (.ord 16 0 .nil (.ord 17 0 .nil .nil))))))))))))))))))) (.two .nil (.two .nil (.two (.any 523775 512 (.ord 0 0 .nil (.ord 1 0 .nil (.ord 2 0 .nil (.ord 3 0 .nil (.ord 4 4079 .nil (.ord 5 0 .nil (.ord 6 0 .nil (.ord 7 0 .nil (.ord 8 3327 .nil (.ord 10 0 .nil (.ord 11 2047 .nil (.ord 9 0 .nil (.ord 12 0 .nil (.ord 13 0 .nil (.ord 14 0 .nil (.ord 15 0 .nil (.ord 16 0 .nil (.ord 17 0 .nil (.ord 18 0 .nil (.ord 19 0 .nil .nil))))))))))))))))))))) .nil)))) .nil)) (.two (.join ⟨[0,3],[(7,.bool)],[]⟩ .nil) (.two (.two (.two .nil (.two .nil (.two (.join ⟨[0,7],[(91,.bool)],[]⟩ (.any 61 0 (.ord 0 0 .nil (.ord 2 0 .nil (.alt (.ord 1 0 .nil (.ord 3 0 .nil (.ord 4 0 .nil (.ord 5 0 .nil .nil)))) (.ord 3 0 .nil (.ord 1 0 .nil (.ord 4 0 .nil (.ord 5 0 .nil .nil))))))))) .nil))) .nil) .nil))))
noncomputable def matchMatchDoClaim_con:Ioc:=⟨Zt1,[Zt25],true,[],Zt62,fun x=>qaT x.1 x.2.1⟩
noncomputable def qd3:Env:=(167,.body Tryz.f167)::(140,.rd plainGameCount_con)::(173,.con claimFallen_con)::(72,.rd plainGamePosition_con)::(159,.ck 197)::(40,.con clockLook_con)::[]
theorem qiZ (x:DL (Zt1::[Zt25])):matchMatchDoClaim_con.φ x=denIO Tryz.prog qd3 qdX Tryz.f117 Zt1 [Zt25] true [] Zt62 x:=by kernel_rfl
theorem qj3:IocOK Tryz.prog 117 matchMatchDoClaim_con :=
  qau (env:=qd3) ((EnvOK.body (EnvOK.readonly (EnvOK.cons (EnvOK.readonly (EnvOK.check (EnvOK.cons (EnvOK.nil _) qit) qb) qV) qq6) qg6) Tryz.func167)) mixed Tryz.func117 matchMatchDoClaim_con qdX (by kernel_rfl) (fun h=>by first | rfl | cases h) qiZ
def qkp:Ann:=(.two .nil (.two .nil (.two .nil (.two .nil (.two (.join ⟨[],[(6,Zt35),(7,Zt62)],[]⟩ (.any 413 34 (.ord 0 0 .nil (.ord 2 0 .nil (.ord 3 7 .nil (.ord 4 0 .nil (.alt (.ord 1 0 .nil (.ord 5 0 .nil (.ord 6 0 .nil (.ord 7 0 .nil (.ord 8 0 .nil .nil))))) (.ord 5 0 .nil (.ord 1 0 .nil (.ord 6 0 .nil (.ord 7 0 .nil (.ord 8 0 .nil .nil)))))))))))) .nil)))))
noncomputable def premoveAdd_con:Con:=⟨[Zt38,Zt62,Zt51],false,[Zt35,Zt62],Zt28,fun x=>qjX x.1 x.2.1 x.2.2.1,none⟩
noncomputable def qkR:Env:=(53,.con slicesClone_PremoveMove_con)::(222,.con premoveOf_con)::(221,.con premoveCheck_con)::[]
theorem qq3 (x:DL premoveAdd_con.ps):premoveAdd_con.φ x=denF Tryz.prog qkR qkp Tryz.f174 premoveAdd_con.ps premoveAdd_con.one premoveAdd_con.res premoveAdd_con.ρ x:=by kernel_rfl
theorem qsw:ConOK Tryz.prog 174 premoveAdd_con :=
  qa (env:=qkR) ((EnvOK.cons (EnvOK.cons (EnvOK.cons (EnvOK.nil _) qi6) qoD) qaD)) mixed Tryz.func174 premoveAdd_con qkp (by kernel_rfl) (fun h=>by first | rfl | cases h) (fun g hg=>by cases hg) qq3
def qc2:Ann:=(.two .nil (.two (.two (.join ⟨[0,3],[(11,.bool)],[]⟩ (.any 29 0 (.ord 0 0 .nil (.ord 2 0 .nil (.alt (.ord 1 0 .nil (.ord 3 0 .nil (.ord 4 0 .nil .nil))) (.ord 3 0 .nil (.ord 1 0 .nil (.ord 4 0 .nil .nil)))))))) .nil) (.two (.any 32255 512 (.ord 0 0 .nil (.ord 1 0 .nil (.ord 2 0 .nil (.ord 3 0 .nil (.ord 4 495 .nil (.ord 5 0 .nil (.ord 6 447 .nil (.ord 7 0 .nil (.ord 8 0 .nil (.ord 9 0 .nil (.ord 10 0 .nil (.ord 11 0 .nil (.ord 12 0 .nil (.ord 13 0 .nil (.ord 14 0 .nil .nil)))))))))))))))) (.two (.two .nil (.join ⟨[6],[],[(0,some (.box Zt2)),(1,none),(2,none),(3,none),(5,none)]⟩ .nil)) .nil))))
noncomputable def matchMatchDoPremove_con:Ioc:=⟨Zt1,[Zt25],true,[],Zt62,fun x=>qay x.1 x.2.1⟩
noncomputable def qcV:Env:=(174,.con premoveAdd_con)::(72,.rd plainGamePosition_con)::(167,.body Tryz.f167)::[]
theorem qhE (x:DL (Zt1::[Zt25])):matchMatchDoPremove_con.φ x=denIO Tryz.prog qcV qc2 Tryz.f118 Zt1 [Zt25] true [] Zt62 x:=by kernel_rfl
theorem qim:IocOK Tryz.prog 118 matchMatchDoPremove_con :=
  qau (env:=qcV) ((EnvOK.cons (EnvOK.readonly (EnvOK.body (EnvOK.nil _) Tryz.func167) qV) qsw)) mixed Tryz.func118 matchMatchDoPremove_con qc2 (by kernel_rfl) (fun h=>by first | rfl | cases h) qhE
def qf4:Ann:=(.two .nil (.two (.two .nil (.two (.two .nil (.two .nil (.two (.two .nil (.join ⟨[0,3,6],[(12,.bool)],[]⟩ .nil)) .nil))) .nil)) .nil))
noncomputable def matchMatchKind_con:Ioc:=⟨Zt1,[Zt25],true,[],Zt62,fun x=>qci x.1 x.2.1⟩
noncomputable def qfK:Env:=(118,.io matchMatchDoPremove_con)::(117,.io matchMatchDoClaim_con)::(116,.io matchMatchDoAccept_con)::(115,.io matchMatchDoOffer_con)::(114,.io matchMatchDoMove_con)::[]
theorem qmc (x:DL (Zt1::[Zt25])):matchMatchKind_con.φ x=denIO Tryz.prog qfK qf4 Tryz.f51 Zt1 [Zt25] true [] Zt62 x:=by kernel_rfl
theorem qnR:IocOK Tryz.prog 51 matchMatchKind_con :=
  qau (env:=qfK) ((EnvOK.inout (EnvOK.inout (EnvOK.inout (EnvOK.inout (EnvOK.inout (EnvOK.nil _) qlC) qj7) qjh) qj3) qim)) mixed Tryz.func51 matchMatchKind_con qf4 (by kernel_rfl) (fun h=>by first | rfl | cases h) qmc
def qjl:Ann := .nil
noncomputable def journalLast_con:Con:=⟨[Zt55],true,[],Zt63,fun x=>qdE x.1,none⟩
noncomputable def qiM:Env:=[]
theorem qpL (x:DL journalLast_con.ps):journalLast_con.φ x=denF Tryz.prog qiM qjl Tryz.f112 journalLast_con.ps journalLast_con.one journalLast_con.res journalLast_con.ρ x:=by kernel_rfl
theorem qgz:ConOK Tryz.prog 112 journalLast_con :=
  qa (env:=qiM) ((EnvOK.nil _)) mixed Tryz.func112 journalLast_con qjl (by kernel_rfl) (fun h=>by first | rfl | cases h) (fun g hg=>by cases hg) qpL
def qkA:Ann:=(.two .nil (.two .nil (.two (.two .nil (.join ⟨[1],[(5,Zt63)],[]⟩ (.two (.loop ⟨[1,10],[(5,Zt63),(11,Zt62)],[]⟩ .nil) .nil))) .nil)))
noncomputable def journalSum_con:Con:=⟨[Zt63,.str],true,[],Zt63,fun x=>qdD x.1 x.2.1,none⟩
noncomputable def qk2:Env:=[]
theorem qq7 (x:DL journalSum_con.ps):journalSum_con.φ x=denF Tryz.prog qk2 qkA Tryz.f111 journalSum_con.ps journalSum_con.one journalSum_con.res journalSum_con.ρ x:=by kernel_rfl
theorem qmL:ConOK Tryz.prog 111 journalSum_con :=
  qa (env:=qk2) ((EnvOK.nil _)) mixed Tryz.func111 journalSum_con qkA (by kernel_rfl) (fun h=>by first | rfl | cases h) (fun g hg=>by cases hg) qq7
def qh1:Ann := .nil
noncomputable def journalWrong_con:Con:=⟨[Zt63,Zt56],true,[],Zt62,fun x=>qd0 x.1 x.2.1,none⟩
noncomputable def qh4:Env:=(111,.con journalSum_con)::(110,.con qfa)::[]
theorem qo2 (x:DL journalWrong_con.ps):journalWrong_con.φ x=denF Tryz.prog qh4 qh1 Tryz.f163 journalWrong_con.ps journalWrong_con.one journalWrong_con.res journalWrong_con.ρ x:=by kernel_rfl
theorem qiW:ConOK Tryz.prog 163 journalWrong_con :=
  qa (env:=qh4) ((EnvOK.cons (EnvOK.cons (EnvOK.nil _) qkx) qmL)) mixed Tryz.func163 journalWrong_con qh1 (by kernel_rfl) (fun h=>by first | rfl | cases h) (fun g hg=>by cases hg) qo2
def qjw:Ann:=(.two .nil (.two (.two .nil (.joinE ⟨[0],[],[]⟩ (.two (.loop ⟨[0,5,6],[(7,Zt62)],[]⟩ .nil) .nil))) .nil))
noncomputable def journalGood_con:Con:=⟨[Zt55],true,[],Zt62,fun x=>qho x.1,none⟩
noncomputable def qju:Env:=(163,.con journalWrong_con)::(112,.con journalLast_con)::(159,.ck 197)::[]
theorem qqF (x:DL journalGood_con.ps):journalGood_con.φ x=denF Tryz.prog qju qjw Tryz.f162 journalGood_con.ps journalGood_con.one journalGood_con.res journalGood_con.ρ x:=by kernel_rfl
theorem qq1:ConOK Tryz.prog 162 journalGood_con :=
  qa (env:=qju) ((EnvOK.cons (EnvOK.cons (EnvOK.check (EnvOK.nil _) qb) qgz) qiW)) mixed Tryz.func162 journalGood_con qjw (by kernel_rfl) (fun h=>by first | rfl | cases h) (fun g hg=>by cases hg) qqF
def qic:Ann := .nil
noncomputable def journalCheck_con:Con:=⟨[Zt55],true,[],Zt62,fun x=>qfM x.1,none⟩
noncomputable def qh2:Env:=(163,.con journalWrong_con)::(112,.con journalLast_con)::(162,.con journalGood_con)::[]
theorem qo6 (x:DL journalCheck_con.ps):journalCheck_con.φ x=denF Tryz.prog qh2 qic Tryz.f109 journalCheck_con.ps journalCheck_con.one journalCheck_con.res journalCheck_con.ρ x:=by kernel_rfl
theorem qqP:ConOK Tryz.prog 109 journalCheck_con :=
  qa (env:=qh2) ((EnvOK.cons (EnvOK.cons (EnvOK.cons (EnvOK.nil _) qq1) qgz) qiW)) mixed Tryz.func109 journalCheck_con qic (by kernel_rfl) (fun h=>by first | rfl | cases h) (fun g hg=>by cases hg) qo6
def qby:Ann := .nil
noncomputable def slicesClone_JournalEntry_con:Con:=⟨[Zt55],true,[],Zt53,fun x=>qaj x.1,none⟩
noncomputable def qbF:Env:=[]
theorem qeO (x:DL slicesClone_JournalEntry_con.ps):slicesClone_JournalEntry_con.φ x=denF Tryz.prog qbF qby Tryz.f91 slicesClone_JournalEntry_con.ps slicesClone_JournalEntry_con.one slicesClone_JournalEntry_con.res slicesClone_JournalEntry_con.ρ x:=by kernel_rfl
theorem qfg:ConOK Tryz.prog 91 slicesClone_JournalEntry_con :=
  qa (env:=qbF) ((EnvOK.nil _)) mixed Tryz.func91 slicesClone_JournalEntry_con qby (by kernel_rfl) (fun h=>by first | rfl | cases h) (fun g hg=>by cases hg) qeO
def qgH:Ann := .nil
noncomputable def journalAppend_con:Con:=⟨[Zt55,.str],false,[Zt53,Zt62],(.st Zt53 Zt58),fun x=>qa5 x.1 x.2.1,none⟩
noncomputable def qgC:Env:=(111,.con journalSum_con)::(112,.con journalLast_con)::(91,.con slicesClone_JournalEntry_con)::(110,.con qfa)::(109,.con journalCheck_con)::[]
theorem qnG (x:DL journalAppend_con.ps):journalAppend_con.φ x=denF Tryz.prog qgC qgH Tryz.f48 journalAppend_con.ps journalAppend_con.one journalAppend_con.res journalAppend_con.ρ x:=by kernel_rfl
theorem qh0:ConOK Tryz.prog 48 journalAppend_con :=
  qa (env:=qgC) ((EnvOK.cons (EnvOK.cons (EnvOK.cons (EnvOK.cons (EnvOK.cons (EnvOK.nil _) qqP) qkx) qfg) qgz) qmL)) mixed Tryz.func48 journalAppend_con qgH (by kernel_rfl) (fun h=>by first | rfl | cases h) (fun g hg=>by cases hg) qnG
def qgo:Ann:=(.two .nil (.two .nil (.join ⟨[],[],[(0,some (.box Zt2)),(1,none),(2,none),(3,none)]⟩ .nil)))
noncomputable def matchMatchOver_con:Ioc:=⟨Zt1,[],false,[],.nil,fun x=>qbm x.1⟩
noncomputable def qgh:Env:=(73,.rd plainGameResult_con)::[]
theorem qnq (x:DL (Zt1::[])):matchMatchOver_con.φ x=denIO Tryz.prog qgh qgo Tryz.f50 Zt1 [] false [] .nil x:=by kernel_rfl
theorem qgR:IocOK Tryz.prog 50 matchMatchOver_con :=
  qau (env:=qgh) ((EnvOK.readonly (EnvOK.nil _) qbC)) mixed Tryz.func50 matchMatchOver_con qgo (by kernel_rfl) (fun h=>by first | rfl | cases h) qnq
def qib:Ann:=(.two .nil (.two .nil (.two (.any 163839 32768 (.ord 0 0 .nil (.ord 1 0 .nil (.ord 2 0 .nil (.ord 3 34807 .nil (.ord 4 0 .nil (.ord 5 0 .nil (.ord 6 0 .nil (.ord 7 0 .nil (.ord 8 34559 .nil (.ord 9 0 .nil (.ord 10 33791 .nil (.ord 11 34815 .nil (.ord 12 0 .nil (.ord 13 0 .nil (.ord 14 0 .nil (.ord 15 0 .nil (.ord 16 0 .nil (.ord 17 0 .nil .nil))))))))))))))))))) (.two .nil (.two .nil (.two .nil (.two (.any 8063 128 (.ord 0 0 .nil (.ord 1 0 .nil (.ord 2 0 .nil (.ord 3 0 .nil (.ord 4 111 .nil (.ord 5 0 .nil (.ord 6 0 .nil (.ord 7 0 .nil (.ord 8 0 .nil (.ord 9 0 .nil (.ord 10 0 .nil (.ord 11 0 .nil (.ord 12 0 .nil (.ord 13 0 .nil .nil))))))))))))))) .nil)))))))
noncomputable def matchMatchDo_con:Ioc:=⟨Zt1,[Zt25],true,[],Zt62,fun x=>qfN x.1 x.2.1⟩
noncomputable def qh5:Env:=(50,.io matchMatchOver_con)::(48,.con journalAppend_con)::(28,.con matchEntry_con)::(51,.io matchMatchKind_con)::(159,.ck 197)::(40,.con clockLook_con)::[]
theorem qo0 (x:DL (Zt1::[Zt25])):matchMatchDo_con.φ x=denIO Tryz.prog qh5 qib Tryz.f11 Zt1 [Zt25] true [] Zt62 x:=by kernel_rfl
theorem qpv:IocOK Tryz.prog 11 matchMatchDo_con :=
  qau (env:=qh5) ((EnvOK.inout (EnvOK.cons (EnvOK.cons (EnvOK.inout (EnvOK.check (EnvOK.cons (EnvOK.nil _) qit) qb) qnR) qs2) qh0) qgR)) mixed Tryz.func11 matchMatchDo_con qib (by kernel_rfl) (fun h=>by first | rfl | cases h) qo0
def qkw:Ann := .nil
noncomputable def clockStart_con:Con:=⟨[Zt37,Zt62],false,[Zt15,Zt62],Zt13,fun x=>qg5 x.1 x.2.1,none⟩
noncomputable def qkz:Env:=(54,.con clockWithin_con)::(105,.con clockCheck_con)::(159,.ck 197)::[]
theorem qrd (x:DL clockStart_con.ps):clockStart_con.φ x=denF Tryz.prog qkz qkw Tryz.f44 clockStart_con.ps clockStart_con.one clockStart_con.res clockStart_con.ρ x:=by kernel_rfl
theorem qtS:ConOK Tryz.prog 44 clockStart_con :=
  qa (env:=qkz) ((EnvOK.cons (EnvOK.cons (EnvOK.check (EnvOK.nil _) qb) qlX) qdM)) mixed Tryz.func44 clockStart_con qkw (by kernel_rfl) (fun h=>by first | rfl | cases h) (fun g hg=>by cases hg) qrd
def qbO:Ann := .nil
noncomputable def slicesClone_ClockPeriod_con:Con:=⟨[Zt52],true,[],(.osl 25 Zt54),fun x=>qaq x.1,none⟩
noncomputable def qbI:Env:=[]
theorem qfl (x:DL slicesClone_ClockPeriod_con.ps):slicesClone_ClockPeriod_con.φ x=denF Tryz.prog qbI qbO Tryz.f108 slicesClone_ClockPeriod_con.ps slicesClone_ClockPeriod_con.one slicesClone_ClockPeriod_con.res slicesClone_ClockPeriod_con.ρ x:=by kernel_rfl
theorem qfC:ConOK Tryz.prog 108 slicesClone_ClockPeriod_con :=
  qa (env:=qbI) ((EnvOK.nil _)) mixed Tryz.func108 slicesClone_ClockPeriod_con qbO (by kernel_rfl) (fun h=>by first | rfl | cases h) (fun g hg=>by cases hg) qfl
def qmx:Ann := .nil
noncomputable def clockCopy_con:Con:=⟨[Zt37],true,[],Zt36,fun x=>qjy x.1,none⟩
noncomputable def qmp:Env:=(108,.con slicesClone_ClockPeriod_con)::(159,.ck 197)::[]
theorem qtQ (x:DL clockCopy_con.ps):clockCopy_con.φ x=denF Tryz.prog qmp qmx Tryz.f46 clockCopy_con.ps clockCopy_con.one clockCopy_con.res clockCopy_con.ρ x:=by kernel_rfl
theorem qt6:ConOK Tryz.prog 46 clockCopy_con :=
  qa (env:=qmp) ((EnvOK.cons (EnvOK.check (EnvOK.nil _) qb) qfC)) mixed Tryz.func46 clockCopy_con qmx (by kernel_rfl) (fun h=>by first | rfl | cases h) (fun g hg=>by cases hg) qtQ
def qoF:Ann := .nil
noncomputable def offerNew_con:Con:=⟨[],true,[],Zt22,fun x=>qnC,some fun x=>qeM⟩
noncomputable def qoe:Env:=(159,.ck 197)::[]
theorem qva (x:DL offerNew_con.ps):offerNew_con.φ x=denF Tryz.prog qoe qoF Tryz.f47 offerNew_con.ps offerNew_con.one offerNew_con.res offerNew_con.ρ x:=by kernel_rfl
theorem qwv:ConOK Tryz.prog 47 offerNew_con :=
  qa (env:=qoe) ((EnvOK.check (EnvOK.nil _) qb)) mixed Tryz.func47 offerNew_con qoF (by kernel_rfl) (fun h=>by first | rfl | cases h) (fun g hg x=>by
    cases hg
    exact qvR ) qva
end Go.Proofs.YtijkabgijfdpfaaGreatDoor

