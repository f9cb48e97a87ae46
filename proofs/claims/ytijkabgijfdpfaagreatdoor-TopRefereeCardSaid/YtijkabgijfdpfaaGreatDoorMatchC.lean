/- Contracts: Match. No condition of its own. -/
import Derived.Test.YtijkabgijfdpfaaGreatDoorMAA
import Derived.Test.YtijkabgijfdpfaaGreatDoorMAH
import Derived.Test.YtijkabgijfdpfaaGreatDoorMAE
namespace Go.Proofs.YtijkabgijfdpfaaGreatDoor
open Go.Den
set_option linter.unusedVariables false
set_option maxRecDepth 100000
def qkX:Ann:=(.two .nil (.two .nil (.two (.two .nil (.join ⟨[],[(3,Zt62)],[]⟩ (.two (.loop ⟨[23],[(3,Zt62),(24,Zt63)],[]⟩ .nil) .nil))) .nil)))
noncomputable def matchEntry_con:Con:=⟨[Zt30],true,[],.str,fun x=>qj5 x.1,none⟩
noncomputable def qkC:Env:=(90,.con qiS)::(49,.con qg9)::[]
theorem qqV (x:DL matchEntry_con.ps):matchEntry_con.φ x=denF Tryz.prog qkC qkX Tryz.f28 matchEntry_con.ps matchEntry_con.one matchEntry_con.res matchEntry_con.ρ x:=by kernel_rfl
theorem qtt:ConOK Tryz.prog 28 matchEntry_con :=
  qa (env:=qkC) ((EnvOK.cons (EnvOK.cons (EnvOK.nil _) qnh) qtu)) mixed Tryz.func28 matchEntry_con qkX (by kernel_rfl) (fun h=>by first | rfl | cases h) (fun g hg=>by cases hg) qqV
def qi8:Ann := .nil
noncomputable def clockWithin_con:Con:=⟨[Zt63,Zt63,Zt63],true,[],.bool,fun x=>qhs x.1 x.2.1 x.2.2.1,some fun x=>qf x.1 x.2.1 x.2.2.1⟩
noncomputable def qiP:Env:=[]
theorem qp7 (x:DL clockWithin_con.ps):clockWithin_con.φ x=denF Tryz.prog qiP qi8 Tryz.f54 clockWithin_con.ps clockWithin_con.one clockWithin_con.res clockWithin_con.ρ x:=by kernel_rfl
theorem qcC:ConOK Tryz.prog 54 clockWithin_con :=
  qa (env:=qiP) ((EnvOK.nil _)) mixed Tryz.func54 clockWithin_con qi8 (by kernel_rfl) (fun h=>by first | rfl | cases h) (fun g hg x=>by
    cases hg
    exact qqN _ _ _) qp7
def qkI:Ann:=(.two .nil (.two .nil (.two .nil (.two (.two .nil (.joinE ⟨[],[],[]⟩ (.two (.loop ⟨[1,21,22],[(23,Zt63)],[]⟩ .nil) .nil))) .nil))))
noncomputable def clockCheck_con:Con:=⟨[Zt39],true,[],Zt63,fun x=>qgY x.1,none⟩
noncomputable def qk2:Env:=(159,.ck 197)::(54,.con clockWithin_con)::[]
theorem qqQ (x:DL clockCheck_con.ps):clockCheck_con.φ x=denF Tryz.prog qk2 qkI Tryz.f105 clockCheck_con.ps clockCheck_con.one clockCheck_con.res clockCheck_con.ρ x:=by kernel_rfl
theorem qnq:ConOK Tryz.prog 105 clockCheck_con :=
  qa (env:=qk2) ((EnvOK.check (EnvOK.cons (EnvOK.nil _) qcC) qc)) mixed Tryz.func105 clockCheck_con qkI (by kernel_rfl) (fun h=>by first | rfl | cases h) (fun g hg=>by cases hg) qqQ
def qkR:Ann:=(.two .nil (.two .nil (.two .nil (.two (.two .nil (.join ⟨[],[(6,.bool)],[]⟩ (.two (.loop ⟨[2,3],[(6,.bool),(26,Zt63)],[]⟩ .nil) .nil))) .nil))))
noncomputable def clockValid_con:Con:=⟨[Zt39,Zt20],true,[],Zt63,fun x=>qjR x.1 x.2.1,none⟩
noncomputable def qkY:Env:=(54,.con clockWithin_con)::(105,.con clockCheck_con)::[]
theorem qra (x:DL clockValid_con.ps):clockValid_con.φ x=denF Tryz.prog qkY qkR Tryz.f99 clockValid_con.ps clockValid_con.one clockValid_con.res clockValid_con.ρ x:=by kernel_rfl
theorem qsZ:ConOK Tryz.prog 99 clockValid_con :=
  qa (env:=qkY) ((EnvOK.cons (EnvOK.cons (EnvOK.nil _) qnq) qcC)) mixed Tryz.func99 clockValid_con qkR (by kernel_rfl) (fun h=>by first | rfl | cases h) (fun g hg=>by cases hg) qra
def qmD:Ann := .nil
noncomputable def clockUsed_con:Con:=⟨[Zt39,Zt20,Zt63],true,[],Zt63,fun x=>qls x.1 x.2.1 x.2.2.1,some fun x=>qw x.1 x.2.1 x.2.2.1⟩
noncomputable def qna:Env:=[]
theorem qs8 (x:DL clockUsed_con.ps):clockUsed_con.φ x=denF Tryz.prog qna qmD Tryz.f55 clockUsed_con.ps clockUsed_con.one clockUsed_con.res clockUsed_con.ρ x:=by kernel_rfl
theorem qjx:ConOK Tryz.prog 55 clockUsed_con :=
  qa (env:=qna) ((EnvOK.nil _)) mixed Tryz.func55 clockUsed_con qmD (by kernel_rfl) (fun h=>by first | rfl | cases h) (fun g hg x=>by
    cases hg
    exact qu0 _ _ _) qs8
def qmr:Ann:=(.two .nil (.two .nil (.two .nil (.two (.two .nil (.join ⟨[4,6],[],[(1,some (.box Zt24))]⟩ .nil)) .nil))))
noncomputable def clockLook_con:Con:=⟨[Zt39,Zt20,Zt63],false,[Zt20,Zt63],Zt18,fun x=>qaD x.1 x.2.1 x.2.2.1,none⟩
noncomputable def qlL:Env:=(55,.con clockUsed_con)::(54,.con clockWithin_con)::(99,.con clockValid_con)::(159,.ck 197)::[]
theorem qsl (x:DL clockLook_con.ps):clockLook_con.φ x=denF Tryz.prog qlL qmr Tryz.f40 clockLook_con.ps clockLook_con.one clockLook_con.res clockLook_con.ρ x:=by kernel_rfl
theorem qek:ConOK Tryz.prog 40 clockLook_con :=
  qa (env:=qlL) ((EnvOK.cons (EnvOK.cons (EnvOK.cons (EnvOK.check (EnvOK.nil _) qc) qsZ) qcC) qjx)) mixed Tryz.func40 clockLook_con qmr (by kernel_rfl) (fun h=>by first | rfl | cases h) (fun g hg=>by cases hg) qsl
def qeQ:Ann := .nil
noncomputable def slicesClone_Move_con:Con:=⟨[Zt50],true,[],Zt48,fun x=>qcJ x.1,none⟩
noncomputable def qeM:Env:=[]
theorem qkf (x:DL slicesClone_Move_con.ps):slicesClone_Move_con.φ x=denF Tryz.prog qeM qeQ Tryz.f119 slicesClone_Move_con.ps slicesClone_Move_con.one slicesClone_Move_con.res slicesClone_Move_con.ρ x:=by kernel_rfl
theorem qlB:ConOK Tryz.prog 119 slicesClone_Move_con :=
  qa (env:=qeM) ((EnvOK.nil _)) mixed Tryz.func119 slicesClone_Move_con qeQ (by kernel_rfl) (fun h=>by first | rfl | cases h) (fun g hg=>by cases hg) qkf
def qfS:Ann := .nil
noncomputable def plainGameMoves_con:Con:=⟨[Zt9],true,[],Zt48,fun x=>qr x.1,none⟩
noncomputable def qgq:Env:=(119,.con slicesClone_Move_con)::[]
theorem qmK (x:DL plainGameMoves_con.ps):plainGameMoves_con.φ x=denB Tryz.prog qgq qfS Tryz.f52 true plainGameMoves_con.ps plainGameMoves_con.one plainGameMoves_con.res plainGameMoves_con.ρ x:=by kernel_rfl
theorem qaz:qr4 Tryz.prog 52 plainGameMoves_con :=
  qms (env:=qgq) ((EnvOK.cons (EnvOK.nil _) qlB)) mixed Tryz.func52 plainGameMoves_con qfS (by kernel_rfl) (fun h=>by first | rfl | cases h) (fun g hg=>by cases hg) qmK
def qkV:Ann := .nil
noncomputable def clockReady_con:Con:=⟨[Zt39,Zt20,Zt63,.bool],false,[Zt20,Zt63],Zt18,fun x=>qjI x.1 x.2.1 x.2.2.1 x.2.2.2.1,none⟩
noncomputable def qkj:Env:=(40,.con clockLook_con)::(159,.ck 197)::[]
theorem qqX (x:DL clockReady_con.ps):clockReady_con.φ x=denF Tryz.prog qkj qkV Tryz.f201 clockReady_con.ps clockReady_con.one clockReady_con.res clockReady_con.ρ x:=by kernel_rfl
theorem qsu:ConOK Tryz.prog 201 clockReady_con :=
  qa (env:=qkj) ((EnvOK.cons (EnvOK.check (EnvOK.nil _) qc) qek)) mixed Tryz.func201 clockReady_con qkV (by kernel_rfl) (fun h=>by first | rfl | cases h) (fun g hg=>by cases hg) qqX
def qks:Ann:=(.two .nil (.two .nil (.two .nil (.two .nil (.two (.tail 16 .nil) (.two .nil (.two (.two .nil (.two .nil (.join ⟨[2,4,6,9],[],[(1,some (.box Zt24))]⟩ (.two (.two .nil (.two .nil (.tail 18 .nil))) .nil)))) .nil)))))))
noncomputable def clockPress_con:Con:=⟨[Zt39,Zt20,Zt63],false,[Zt20,Zt63],Zt18,fun x=>qjW x.1 x.2.1 x.2.2.1,none⟩
noncomputable def qki:Env:=(55,.con clockUsed_con)::(201,.con clockReady_con)::(159,.ck 197)::[]
theorem qqG (x:DL clockPress_con.ps):clockPress_con.φ x=denF Tryz.prog qki qks Tryz.f145 clockPress_con.ps clockPress_con.one clockPress_con.res clockPress_con.ρ x:=by kernel_rfl
theorem qs1:ConOK Tryz.prog 145 clockPress_con :=
  qa (env:=qki) ((EnvOK.cons (EnvOK.cons (EnvOK.check (EnvOK.nil _) qc) qsu) qjx)) mixed Tryz.func145 clockPress_con qks (by kernel_rfl) (fun h=>by first | rfl | cases h) (fun g hg=>by cases hg) qqG
def qkP:Ann:=(.two .nil (.two (.two .nil (.joinE ⟨[],[],[]⟩ (.two (.loop ⟨[1,8],[(9,Zt63)],[]⟩ (.two .nil (.two .nil (.two (.joinE ⟨[1,8,9],[],[]⟩ (.two (.two .nil (.two (.two (.join ⟨[1,3,4,8,9],[(16,Zt54),(17,Zt63)],[]⟩ .nil) (.joinE ⟨[1,3,4,8,9],[],[]⟩ (.two (.loop ⟨[1,3,4,8,9,16],[(17,Zt63)],[]⟩ .nil) .nil))) (.two .nil (.two (.join ⟨[1,8,9],[(43,.bool)],[]⟩ .nil) .nil)))) .nil)) .nil)))) .nil))) .nil))
noncomputable def offerCheck_con:Con:=⟨[Zt27],true,[],Zt63,fun x=>qjJ x.1,none⟩
noncomputable def qkZ:Env:=[]
theorem qq7 (x:DL offerCheck_con.ps):offerCheck_con.φ x=denF Tryz.prog qkZ qkP Tryz.f202 offerCheck_con.ps offerCheck_con.one offerCheck_con.res offerCheck_con.ρ x:=by kernel_rfl
theorem qs9:ConOK Tryz.prog 202 offerCheck_con :=
  qa (env:=qkZ) ((EnvOK.nil _)) mixed Tryz.func202 offerCheck_con qkP (by kernel_rfl) (fun h=>by first | rfl | cases h) (fun g hg=>by cases hg) qq7
def qib:Ann := .nil
noncomputable def offerCheck_i_con:Con:=⟨[Zt27,Zt63,Zt63,Zt63],true,[],Zt63,fun x=>qb4 x.1 x.2.1 x.2.2.1 x.2.2.2.1,none⟩
noncomputable def qin:Env:=(202,.con offerCheck_con)::[]
theorem qo2 (x:DL offerCheck_i_con.ps):offerCheck_i_con.φ x=denF Tryz.prog qin qib Tryz.f148 offerCheck_i_con.ps offerCheck_i_con.one offerCheck_i_con.res offerCheck_i_con.ρ x:=by kernel_rfl
theorem qdb:ConOK Tryz.prog 148 offerCheck_i_con :=
  qa (env:=qin) ((EnvOK.cons (EnvOK.nil _) qs9)) mixed Tryz.func148 offerCheck_i_con qib (by kernel_rfl) (fun h=>by first | rfl | cases h) (fun g hg=>by cases hg) qo2
def qmi:Ann:=(.two .nil (.two .nil (.two (.two .nil (.join ⟨[2,4],[],[(0,some (.box Zt36))]⟩ .nil)) .nil)))
noncomputable def offerMove_con:Con:=⟨[Zt27,Zt63],false,[Zt27,Zt63],Zt22,fun x=>qgU x.1 x.2.1,none⟩
noncomputable def ql6:Env:=(148,.con offerCheck_i_con)::(159,.ck 197)::[]
theorem qs4 (x:DL offerMove_con.ps):offerMove_con.φ x=denF Tryz.prog ql6 qmi Tryz.f146 offerMove_con.ps offerMove_con.one offerMove_con.res offerMove_con.ρ x:=by kernel_rfl
theorem qu4:ConOK Tryz.prog 146 offerMove_con :=
  qa (env:=ql6) ((EnvOK.cons (EnvOK.check (EnvOK.nil _) qc) qdb)) mixed Tryz.func146 offerMove_con qmi (by kernel_rfl) (fun h=>by first | rfl | cases h) (fun g hg=>by cases hg) qs4
def qge:Ann:=(.two .nil (.two .nil (.two (.tail 5 .nil) (.two (.any 262143 0 (.ord 0 0 .nil (.ord 1 0 .nil (.ord 2 0 .nil (.ord 3 0 .nil (.ord 4 2031 .nil (.ord 5 0 .nil (.ord 6 0 .nil (.ord 7 0 .nil (.ord 8 0 .nil (.ord 9 1535 .nil (.ord 10 0 .nil (.ord 11 0 .nil (.ord 12 0 .nil (.ord 13 0 .nil (.ord 14 0 .nil (.ord 15 0 .nil (.ord 16 0 .nil (.ord 17 0 .nil (.ord 18 0 .nil .nil)))))))))))))))))))) .nil))))
noncomputable def matchMatchMove_con:Ioc:=⟨Zt1,[Zt51,Zt63],false,[],.nil,fun x=>qav x.1 x.2.1 x.2.2.1⟩
noncomputable def qgf:Env:=(146,.con offerMove_con)::(145,.con clockPress_con)::(71,.io plainGamePlay_con)::(72,.rd plainGamePosition_con)::(167,.body Tryz.f167)::[]
theorem qmM (x:DL (Zt1::[Zt51,Zt63])):matchMatchMove_con.φ x=denIO Tryz.prog qgf qge Tryz.f170 Zt1 [Zt51,Zt63] false [] .nil x:=by kernel_rfl
theorem qn5:IocOK Tryz.prog 170 matchMatchMove_con :=
  qaB (env:=qgf) ((EnvOK.cons (EnvOK.cons (EnvOK.inout (EnvOK.readonly (EnvOK.body (EnvOK.nil _) Tryz.func167) qN) qh7) qs1) qu4)) mixed Tryz.func170 matchMatchMove_con qge (by kernel_rfl) (fun h=>by first | rfl | cases h) qmM
def ql4:Ann:=(.two .nil (.two .nil (.two (.two .nil (.join ⟨[],[(5,Zt48)],[]⟩ (.two (.loop ⟨[1,8,9],[(5,Zt48),(10,Zt63)],[]⟩ (.two .nil (.two .nil (.two (.two (.two .nil (.two .nil (.join ⟨[1,8,9,10],[(5,Zt48)],[(0,none)]⟩ .nil))) .nil) .nil)))) .nil))) .nil)))
noncomputable def premoveOf_con:Con:=⟨[Zt40,Zt63],true,[],Zt48,fun x=>qg1 x.1 x.2.1,none⟩
noncomputable def qmx:Env:=(159,.ck 197)::[]
theorem qsr (x:DL premoveOf_con.ps):premoveOf_con.φ x=denF Tryz.prog qmx ql4 Tryz.f222 premoveOf_con.ps premoveOf_con.one premoveOf_con.res premoveOf_con.ρ x:=by kernel_rfl
theorem qol:ConOK Tryz.prog 222 premoveOf_con :=
  qa (env:=qmx) ((EnvOK.check (EnvOK.nil _) qc)) mixed Tryz.func222 premoveOf_con ql4 (by kernel_rfl) (fun h=>by first | rfl | cases h) (fun g hg=>by cases hg) qsr
def qic:Ann:=(.two .nil (.two (.two (.join ⟨[0],[(12,.bool)],[]⟩ .nil) .nil) (.two (.two (.two (.two .nil (.two (.two (.two .nil (.two (.two .nil (.joinE ⟨[],[],[]⟩ (.two (.loop ⟨[0,1,7],[(8,Zt63)],[]⟩ .nil) .nil))) .nil)) .nil) .nil)) .nil) .nil) .nil)))
noncomputable def premoveCheck_con:Con:=⟨[Zt40],true,[],Zt63,fun x=>qex x.1,none⟩
noncomputable def qig:Env:=(260,.body Tryz.f260)::(252,.body Tryz.f252)::(259,.body Tryz.f259)::(222,.con premoveOf_con)::[]
theorem qoW (x:DL premoveCheck_con.ps):premoveCheck_con.φ x=denF Tryz.prog qig qic Tryz.f221 premoveCheck_con.ps premoveCheck_con.one premoveCheck_con.res premoveCheck_con.ρ x:=by kernel_rfl
theorem qiy:ConOK Tryz.prog 221 premoveCheck_con :=
  qa (env:=qig) ((EnvOK.body (EnvOK.body (EnvOK.body (EnvOK.cons (EnvOK.nil _) qol) Tryz.func259) Tryz.func252) Tryz.func260)) mixed Tryz.func221 premoveCheck_con qic (by kernel_rfl) (fun h=>by first | rfl | cases h) (fun g hg=>by cases hg) qoW
def qfU:Ann := .nil
noncomputable def premoveCheck_i_con:Con:=⟨[Zt17,Zt34,Zt40],true,[],Zt63,fun x=>qd5 x.1 x.2.1 x.2.2.1,none⟩
noncomputable def qf0:Env:=(221,.con premoveCheck_con)::(74,.con placeCheck_con)::[]
theorem qmY (x:DL premoveCheck_i_con.ps):premoveCheck_i_con.φ x=denF Tryz.prog qf0 qfU Tryz.f218 premoveCheck_i_con.ps premoveCheck_i_con.one premoveCheck_i_con.res premoveCheck_i_con.ρ x:=by kernel_rfl
theorem qnw:ConOK Tryz.prog 218 premoveCheck_i_con :=
  qa (env:=qf0) ((EnvOK.cons (EnvOK.cons (EnvOK.nil _) ql1) qiy)) mixed Tryz.func218 premoveCheck_i_con qfU (by kernel_rfl) (fun h=>by first | rfl | cases h) (fun g hg=>by cases hg) qmY
def qb6:Ann := .nil
noncomputable def slicesClone_PremoveMove_con:Con:=⟨[Zt40],true,[],Zt37,fun x=>qq x.1,none⟩
noncomputable def qbZ:Env:=[]
theorem qfu (x:DL slicesClone_PremoveMove_con.ps):slicesClone_PremoveMove_con.φ x=denF Tryz.prog qbZ qb6 Tryz.f53 slicesClone_PremoveMove_con.ps slicesClone_PremoveMove_con.one slicesClone_PremoveMove_con.res slicesClone_PremoveMove_con.ρ x:=by kernel_rfl
theorem qM:ConOK Tryz.prog 53 slicesClone_PremoveMove_con :=
  qa (env:=qbZ) ((EnvOK.nil _)) mixed Tryz.func53 slicesClone_PremoveMove_con qb6 (by kernel_rfl) (fun h=>by first | rfl | cases h) (fun g hg=>by cases hg) qfu
def qf5:Ann:=(.two .nil (.two (.two (.two .nil (.two (.two (.two .nil (.two (.two .nil (.joinE ⟨[],[],[]⟩ (.two (.loop ⟨[0,1,7],[(8,Zt63)],[]⟩ .nil) .nil))) .nil)) .nil) (.sel 2 1000004 (.two .nil (.two (.two .nil (.join ⟨[0],[(5,Zt63)],[(1,some (.arr 139 Zt41))]⟩ (.two (.loop ⟨[0,1],[(5,Zt63),(6,Zt63)],[(1,some (.arr 139 Zt41))]⟩ (.two .nil (.two (.two (.two .nil (.two .nil (.join ⟨[0,1,6],[(5,Zt63)],[(1,some (.arr 139 Zt41))]⟩ .nil))) .nil) .nil))) .nil))) (.two (.own .nil) (.two (.own .nil) .nil)))) .nil))) .nil) .nil))
noncomputable def premoveWithout_con:Con:=⟨[Zt40,Zt63],true,[],Zt37,fun x=>qct x.1 x.2.1,none⟩
noncomputable def qgh:Env:=(159,.ck 197)::(289,.body Tryz.f289)::(252,.body Tryz.f252)::(288,.body Tryz.f288)::(53,.con slicesClone_PremoveMove_con)::[]
theorem qmc (x:DL premoveWithout_con.ps):premoveWithout_con.φ x=denF Tryz.prog qgh qf5 Tryz.f254 premoveWithout_con.ps premoveWithout_con.one premoveWithout_con.res premoveWithout_con.ρ x:=by kernel_rfl
theorem qnD:ConOK Tryz.prog 254 premoveWithout_con :=
  qa (env:=qgh) ((EnvOK.check (EnvOK.body (EnvOK.body (EnvOK.body (EnvOK.cons (EnvOK.nil _) qM) Tryz.func288) Tryz.func252) Tryz.func289) qc)) mixed Tryz.func254 premoveWithout_con qf5 (by kernel_rfl) (fun h=>by first | rfl | cases h) (fun g hg=>by cases hg) qmc
def qbP:Ann:=(.two .nil (.two .nil (.two (.two .nil (.join ⟨[0],[(3,Zt63)],[]⟩ (.two (.loop ⟨[0,9,10],[(3,Zt63),(11,Zt63)],[]⟩ .nil) .nil))) (.two (.two (.two .nil (.two .nil (.two (.two .nil (.two .nil (.join ⟨[],[(0,Zt37)],[]⟩ (.two (.own (.own .nil)) .nil)))) .nil))) .nil) (.two (.two .nil (.join ⟨[],[(6,Zt37)],[(0,none)]⟩ (.two (.loop ⟨[25,26],[(6,Zt37),(27,Zt63)],[(0,none)]⟩ .nil) .nil))) .nil)))))
noncomputable def slicesConcat_PremoveMove_con:Con:=⟨[(.sl Zt40)],true,[],Zt37,fun x=>qan x.1,none⟩
noncomputable def qbR:Env:=(290,.body Tryz.f290)::[]
theorem qe7 (x:DL slicesConcat_PremoveMove_con.ps):slicesConcat_PremoveMove_con.φ x=denF Tryz.prog qbR qbP Tryz.f255 slicesConcat_PremoveMove_con.ps slicesConcat_PremoveMove_con.one slicesConcat_PremoveMove_con.res slicesConcat_PremoveMove_con.ρ x:=by kernel_rfl
theorem qfq:ConOK Tryz.prog 255 slicesConcat_PremoveMove_con :=
  qa (env:=qbR) ((EnvOK.body (EnvOK.nil _) Tryz.func290)) mixed Tryz.func255 slicesConcat_PremoveMove_con qbP (by kernel_rfl) (fun h=>by first | rfl | cases h) (fun g hg=>by cases hg) qe7
def qjl:Ann:=(.two .nil (.two (.two (.two .nil (.two (.two .nil (.joinE ⟨[],[],[]⟩ (.two (.loop ⟨[0,1,7],[(8,Zt63)],[]⟩ .nil) .nil))) .nil)) .nil) (.sel 3 1000004 (.two (.two (.join ⟨[2,4,6,9],[(26,.bool)],[]⟩ (.any 16351 32 (.ord 0 0 .nil (.ord 1 0 .nil (.ord 2 0 .nil (.ord 3 2007 .nil (.ord 4 1999 .nil (.ord 6 0 .nil (.ord 7 0 .nil (.ord 8 0 .nil (.ord 9 0 .nil (.ord 10 1023 .nil (.ord 5 0 .nil (.ord 11 0 .nil (.ord 12 0 .nil (.ord 13 0 .nil .nil)))))))))))))))) .nil) (.two (.any 102399 12288 (.ord 0 0 .nil (.ord 1 0 .nil (.ord 2 0 .nil (.ord 3 0 .nil (.ord 4 16367 .nil (.ord 5 0 .nil (.ord 6 0 .nil (.ord 7 0 .nil (.ord 8 0 .nil (.ord 9 0 .nil (.ord 10 0 .nil (.ord 11 0 .nil (.ord 12 0 .nil (.ord 13 0 .nil (.ord 14 0 .nil (.ord 15 0 .nil (.ord 16 0 .nil .nil)))))))))))))))))) .nil)) (.two (.two (.any 16351 32 (.ord 0 0 .nil (.ord 1 0 .nil (.ord 2 0 .nil (.ord 3 2007 .nil (.ord 4 1999 .nil (.ord 6 0 .nil (.ord 7 0 .nil (.ord 8 0 .nil (.ord 9 0 .nil (.ord 10 1023 .nil (.ord 5 0 .nil (.ord 11 0 .nil (.ord 12 0 .nil (.ord 13 0 .nil .nil))))))))))))))) .nil) .nil))))
noncomputable def premoveNext_con:Con:=⟨[Zt17,Zt34,Zt40],false,[Zt51,.bool,Zt37],(.st Zt51 (.st .bool (.st Zt37 .nil))),fun x=>qhm x.1 x.2.1 x.2.2.1,none⟩
noncomputable def qjj:Env:=(255,.con slicesConcat_PremoveMove_con)::(254,.con premoveWithout_con)::(98,.con slicesContains_Move_con)::(168,.con endsMoves_con)::(253,.body Tryz.f253)::(252,.body Tryz.f252)::(159,.ck 197)::[]
theorem qp5 (x:DL premoveNext_con.ps):premoveNext_con.φ x=denF Tryz.prog qjj qjl Tryz.f219 premoveNext_con.ps premoveNext_con.one premoveNext_con.res premoveNext_con.ρ x:=by kernel_rfl
theorem qqW:ConOK Tryz.prog 219 premoveNext_con :=
  qa (env:=qjj) ((EnvOK.cons (EnvOK.cons (EnvOK.cons (EnvOK.cons (EnvOK.body (EnvOK.body (EnvOK.check (EnvOK.nil _) qc) Tryz.func252) Tryz.func253) qok) qaL) qnD) qfq)) mixed Tryz.func219 premoveNext_con qjl (by kernel_rfl) (fun h=>by first | rfl | cases h) (fun g hg=>by cases hg) qp5
def qgR:Ann := .nil
noncomputable def premoveNext_i_con:Con:=⟨[Zt17,Zt34,Zt40],false,[Zt51,.bool,Zt37,Zt63],(.st Zt51 (.st .bool Zt33)),fun x=>qbk x.1 x.2.1 x.2.2.1,none⟩
noncomputable def qg0:Env:=(219,.con premoveNext_con)::(218,.con premoveCheck_i_con)::(159,.ck 197)::[]
theorem qnt (x:DL premoveNext_i_con.ps):premoveNext_i_con.φ x=denF Tryz.prog qg0 qgR Tryz.f171 premoveNext_i_con.ps premoveNext_i_con.one premoveNext_i_con.res premoveNext_i_con.ρ x:=by kernel_rfl
theorem qoQ:ConOK Tryz.prog 171 premoveNext_i_con :=
  qa (env:=qg0) ((EnvOK.cons (EnvOK.cons (EnvOK.check (EnvOK.nil _) qc) qnw) qqW)) mixed Tryz.func171 premoveNext_i_con qgR (by kernel_rfl) (fun h=>by first | rfl | cases h) (fun g hg=>by cases hg) qnt
def qeo:Ann:=(.ord 14 0 .nil (.ord 15 0 .nil (.ord 16 0 .nil (.ord 17 0 .nil (.ord 18 0 .nil (.ord 19 0 .nil (.ord 21 0 .nil (.ord 22 0 .nil (.ord 23 0 .nil (.ord 24 0 .nil .nil))))))))))
def qeK:Ann:=(.two .nil (.two (.two (.two (.join ⟨[0,3],[(9,.bool)],[]⟩ (.any 61 0 (.ord 0 0 .nil (.ord 2 0 .nil (.alt (.ord 1 0 .nil (.ord 3 0 .nil (.ord 4 0 .nil (.ord 5 0 .nil .nil)))) (.ord 3 0 .nil (.ord 1 0 .nil (.ord 4 0 .nil (.ord 5 0 .nil .nil))))))))) (.two .nil (.two (.any 31999 768 (.ord 0 0 .nil (.ord 1 0 .nil (.ord 2 0 .nil (.ord 3 3575 .nil (.ord 4 0 .nil (.ord 5 0 .nil (.ord 6 0 .nil (.ord 7 3199 .nil (.ord 10 0 .nil (.ord 11 2047 .nil (.ord 8 0 .nil (.ord 9 0 .nil (.ord 12 0 .nil (.ord 13 0 .nil (.ord 14 0 .nil .nil)))))))))))))))) .nil))) .nil) (.two .nil (.two (.join ⟨[],[],[(0,some (.box Zt2)),(10,none),(11,none),(12,none)]⟩ (.two (.loop ⟨[0,3],[],[(0,some (.box Zt2)),(10,none),(11,none),(12,none)]⟩ (.two (.two (.join ⟨[0,3],[(50,.bool)],[]⟩ .nil) .nil) (.two (.two (.join ⟨[0,3],[(5,(.obx Zt51)),(6,.bool),(7,Zt37)],[]⟩ (.any 30392063 1065216 (.ord 0 0 .nil (.ord 1 0 .nil (.ord 2 0 .nil (.ord 3 1064951 .nil (.ord 4 0 .nil (.ord 5 0 .nil (.ord 6 0 .nil (.ord 7 1064575 .nil (.ord 9 0 .nil (.ord 10 0 .nil (.ord 11 0 .nil (.ord 12 0 .nil (.ord 13 1056767 .nil (.alt (.ord 8 0 .nil (.alt (.ord 14 0 .nil (.ord 15 0 .nil (.ord 16 0 .nil (.ord 17 0 .nil (.ord 18 0 .nil (.ord 19 0 .nil (.ord 20 0 .nil (.ord 21 0 .nil (.ord 22 0 .nil (.ord 23 0 .nil (.ord 24 0 .nil .nil))))))))))) (.ord 20 0 .nil qeo))) (.ord 20 0 .nil (.ord 8 0 .nil qeo)))))))))))))))))) .nil) .nil))) .nil)) .nil))))
noncomputable def matchMatchDoMove_con:Ioc:=⟨Zt1,[Zt30],true,[],Zt63,fun x=>qaO x.1 x.2.1⟩
noncomputable def qeN:Env:=(159,.ck 197)::(171,.con premoveNext_i_con)::(73,.rd plainGameResult_con)::(170,.io matchMatchMove_con)::(52,.rd plainGameMoves_con)::(169,.body Tryz.f169)::(98,.con slicesContains_Move_con)::(168,.con endsMoves_con)::(72,.rd plainGamePosition_con)::(167,.body Tryz.f167)::[]
theorem qj7 (x:DL (Zt1::[Zt30])):matchMatchDoMove_con.φ x=denIO Tryz.prog qeN qeK Tryz.f114 Zt1 [Zt30] true [] Zt63 x:=by kernel_rfl
theorem qlC:IocOK Tryz.prog 114 matchMatchDoMove_con :=
  qaB (env:=qeN) ((EnvOK.check (EnvOK.cons (EnvOK.readonly (EnvOK.inout (EnvOK.readonly (EnvOK.body (EnvOK.cons (EnvOK.cons (EnvOK.readonly (EnvOK.body (EnvOK.nil _) Tryz.func167) qN) qok) qaL) Tryz.func169) qaz) qn5) qbN) qoQ) qc)) mixed Tryz.func114 matchMatchDoMove_con qeK (by kernel_rfl) (fun h=>by first | rfl | cases h) qj7
def qmE:Ann := .nil
noncomputable def offerTurn_con:Con:=⟨[Zt63],true,[],Zt63,fun x=>qln x.1,some fun x=>qjE x.1⟩
noncomputable def ql9:Env:=[]
theorem qsU (x:DL offerTurn_con.ps):offerTurn_con.φ x=denF Tryz.prog ql9 qmE Tryz.f203 offerTurn_con.ps offerTurn_con.one offerTurn_con.res offerTurn_con.ρ x:=by kernel_rfl
theorem qu2:ConOK Tryz.prog 203 offerTurn_con :=
  qa (env:=ql9) ((EnvOK.nil _)) mixed Tryz.func203 offerTurn_con qmE (by kernel_rfl) (fun h=>by first | rfl | cases h) (fun g hg x=>by
    cases hg
    exact qtT _) qsU
def qkh:Ann:=(.two .nil (.two .nil (.two (.two .nil (.join ⟨[0,1],[(5,Zt63)],[]⟩ .nil)) .nil)))
noncomputable def offerPlies_con:Con:=⟨[Zt63,Zt63],true,[],Zt63,fun x=>qd0 x.1 x.2.1,none⟩
noncomputable def qkE:Env:=(203,.con offerTurn_con)::[]
theorem qq2 (x:DL offerPlies_con.ps):offerPlies_con.φ x=denF Tryz.prog qkE qkh Tryz.f149 offerPlies_con.ps offerPlies_con.one offerPlies_con.res offerPlies_con.ρ x:=by kernel_rfl
theorem qlQ:ConOK Tryz.prog 149 offerPlies_con :=
  qa (env:=qkE) ((EnvOK.cons (EnvOK.nil _) qu2)) mixed Tryz.func149 offerPlies_con qkh (by kernel_rfl) (fun h=>by first | rfl | cases h) (fun g hg=>by cases hg) qq2
def qnk:Ann:=(.two .nil (.two .nil (.two (.two (.two .nil (.two .nil (.two .nil (.two .nil (.two (.join ⟨[1,2,3,4,8],[(28,.bool)],[]⟩ .nil) .nil))))) .nil) (.two (.join ⟨[4,8],[],[(0,some (.box Zt36))]⟩ (.any 1919 0 (.ord 0 0 .nil (.ord 1 0 .nil (.ord 2 0 .nil (.ord 3 0 .nil (.ord 4 0 .nil (.ord 5 0 .nil (.ord 6 0 .nil (.ord 8 0 .nil (.ord 9 0 .nil (.ord 7 0 .nil (.ord 10 0 .nil (.ord 11 0 .nil .nil)))))))))))))) .nil))))
noncomputable def offerMake_con:Con:=⟨[Zt27,Zt63,Zt63,Zt63],false,[Zt27,Zt63],Zt22,fun x=>qdk x.1 x.2.1 x.2.2.1 x.2.2.2.1,none⟩
noncomputable def qme:Env:=(149,.con offerPlies_con)::(148,.con offerCheck_i_con)::(159,.ck 197)::[]
theorem qth (x:DL offerMake_con.ps):offerMake_con.φ x=denF Tryz.prog qme qnk Tryz.f83 offerMake_con.ps offerMake_con.one offerMake_con.res offerMake_con.ρ x:=by kernel_rfl
theorem qup:ConOK Tryz.prog 83 offerMake_con :=
  qa (env:=qme) ((EnvOK.cons (EnvOK.cons (EnvOK.check (EnvOK.nil _) qc) qdb) qlQ)) mixed Tryz.func83 offerMake_con qnk (by kernel_rfl) (fun h=>by first | rfl | cases h) (fun g hg=>by cases hg) qth
def qma:Ann := .nil
noncomputable def offerOpen_con:Con:=⟨[Zt27,Zt63,Zt63,Zt63],true,[],Zt63,fun x=>qjb x.1 x.2.1 x.2.2.1 x.2.2.2.1,none⟩
noncomputable def qmt:Env:=(148,.con offerCheck_i_con)::[]
theorem qsA (x:DL offerOpen_con.ps):offerOpen_con.φ x=denF Tryz.prog qmt qma Tryz.f152 offerOpen_con.ps offerOpen_con.one offerOpen_con.res offerOpen_con.ρ x:=by kernel_rfl
theorem qoE:ConOK Tryz.prog 152 offerOpen_con :=
  qa (env:=qmt) ((EnvOK.cons (EnvOK.nil _) qdb)) mixed Tryz.func152 offerOpen_con qma (by kernel_rfl) (fun h=>by first | rfl | cases h) (fun g hg=>by cases hg) qsA
def qh9:Ann := .nil
noncomputable def offerDecline_con:Con:=⟨[Zt27,Zt63,Zt63,Zt63],false,[Zt27,Zt63],Zt22,fun x=>qaV x.1 x.2.1 x.2.2.1 x.2.2.2.1,none⟩
noncomputable def qip:Env:=(152,.con offerOpen_con)::(159,.ck 197)::[]
theorem qoO (x:DL offerDecline_con.ps):offerDecline_con.φ x=denF Tryz.prog qip qh9 Tryz.f85 offerDecline_con.ps offerDecline_con.one offerDecline_con.res offerDecline_con.ρ x:=by kernel_rfl
theorem qpO:ConOK Tryz.prog 85 offerDecline_con :=
  qa (env:=qip) ((EnvOK.cons (EnvOK.check (EnvOK.nil _) qc) qoE)) mixed Tryz.func85 offerDecline_con qh9 (by kernel_rfl) (fun h=>by first | rfl | cases h) (fun g hg=>by cases hg) qoO
def qt:Ann:=(.ord 12 0 .nil (.ord 13 0 .nil (.ord 14 0 .nil (.ord 15 0 .nil (.ord 17 0 .nil (.ord 18 0 .nil .nil))))))
def qC:Ann:=(.alt (.ord 12 0 .nil (.ord 13 0 .nil (.ord 14 0 .nil (.ord 15 0 .nil (.ord 16 0 .nil (.ord 17 0 .nil (.ord 18 0 .nil .nil))))))) (.ord 16 0 .nil qt))
def qbF:Ann:=(.alt (.ord 9 0 .nil (.ord 11 0 .nil qt)) (.ord 11 0 .nil (.ord 9 0 .nil qt)))
def qbG:Ann:=(.alt (.ord 7 0 .nil (.ord 11 0 .nil qt)) (.ord 11 0 .nil (.ord 7 0 .nil qt)))
def qbK:Ann:=(.alt (.ord 5 0 .nil (.ord 11 0 .nil qt)) (.ord 11 0 .nil (.ord 5 0 .nil qt)))
def qbL:Ann:=(.alt (.ord 11 0 .nil qC) (.ord 16 0 .nil (.ord 11 0 .nil qt)))
def qdI:Ann:=(.alt (.ord 7 0 .nil qbF) (.alt (.ord 9 0 .nil qbG) (.ord 11 0 .nil (.ord 7 69503 .nil (.ord 9 0 .nil qt)))))
def qdH:Ann:=(.alt (.ord 5 0 .nil qbG) (.alt (.ord 7 0 .nil qbK) (.ord 11 0 .nil (.ord 5 69599 .nil (.ord 7 0 .nil qt)))))
def qdN:Ann:=(.alt (.ord 5 0 .nil qbF) (.alt (.ord 9 0 .nil qbK) (.ord 11 0 .nil (.ord 5 69599 .nil (.ord 9 0 .nil qt)))))
def qdi:Ann:=(.alt (.ord 9 0 .nil qbL) (.alt (.ord 11 0 .nil (.ord 9 69119 .nil qC)) (.ord 16 0 .nil qbF)))
def qdC:Ann:=(.alt (.ord 7 0 .nil qbL) (.alt (.ord 11 0 .nil (.ord 7 69503 .nil qC)) (.ord 16 0 .nil qbG)))
def qc9:Ann:=(.alt (.ord 5 0 .nil qbL) (.alt (.ord 11 0 .nil (.ord 5 69599 .nil qC)) (.ord 16 0 .nil qbK)))
def qes:Ann:=(.two .nil (.two .nil (.two .nil (.two (.join ⟨[0],[(6,Zt25),(7,Zt63)],[]⟩ (.any 321535 65536 (.ord 0 0 .nil (.ord 1 0 .nil (.ord 2 0 .nil (.ord 3 0 .nil (.ord 4 0 .nil (.ord 6 0 .nil (.ord 8 0 .nil (.ord 10 0 .nil (.alt (.ord 5 0 .nil (.alt (.ord 7 0 .nil qdi) (.alt (.ord 9 0 .nil qdC) (.alt (.ord 11 0 .nil (.ord 7 69503 .nil (.ord 9 69119 .nil qC))) (.ord 16 0 .nil qdI))))) (.alt (.ord 7 0 .nil (.alt (.ord 5 0 .nil qdi) (.alt (.ord 9 0 .nil qc9) (.alt (.ord 11 0 .nil (.ord 5 69599 .nil (.ord 9 69119 .nil qC))) (.ord 16 0 .nil qdN))))) (.alt (.ord 9 0 .nil (.alt (.ord 5 0 .nil qdC) (.alt (.ord 7 0 .nil qc9) (.alt (.ord 11 0 .nil (.ord 5 69599 .nil (.ord 7 69503 .nil qC))) (.ord 16 0 .nil qdH))))) (.alt (.ord 11 0 .nil (.ord 5 69599 .nil (.ord 7 69503 .nil (.ord 9 69119 .nil qC)))) (.ord 16 0 .nil (.alt (.ord 5 0 .nil qdI) (.alt (.ord 7 0 .nil qdN) (.alt (.ord 9 0 .nil qdH) (.ord 11 0 .nil (.ord 5 69599 .nil (.ord 7 69503 .nil (.ord 9 0 .nil qt)))))))))))))))))))))) (.two (.two .nil (.join ⟨[7],[],[(0,some (.box Zt2)),(1,none),(2,none),(3,none)]⟩ .nil)) .nil)))))
noncomputable def matchMatchDoOffer_con:Ioc:=⟨Zt1,[Zt30],true,[],Zt63,fun x=>qaA x.1 x.2.1⟩
noncomputable def qep:Env:=(83,.con offerMake_con)::(159,.ck 197)::(85,.con offerDecline_con)::(52,.rd plainGameMoves_con)::(169,.body Tryz.f169)::[]
theorem qiQ (x:DL (Zt1::[Zt30])):matchMatchDoOffer_con.φ x=denIO Tryz.prog qep qes Tryz.f115 Zt1 [Zt30] true [] Zt63 x:=by kernel_rfl
theorem qkc:IocOK Tryz.prog 115 matchMatchDoOffer_con :=
  qaB (env:=qep) ((EnvOK.cons (EnvOK.check (EnvOK.cons (EnvOK.readonly (EnvOK.body (EnvOK.nil _) Tryz.func169) qaz) qpO) qc) qup)) mixed Tryz.func115 matchMatchDoOffer_con qes (by kernel_rfl) (fun h=>by first | rfl | cases h) qiQ
def qiI:Ann := .nil
noncomputable def offerAccept_con:Con:=⟨[Zt27,Zt63,Zt63,Zt63],false,[Zt27,Zt63],Zt22,fun x=>qdT x.1 x.2.1 x.2.2.1 x.2.2.2.1,none⟩
noncomputable def qjw:Env:=(152,.con offerOpen_con)::(159,.ck 197)::[]
theorem qqu (x:DL offerAccept_con.ps):offerAccept_con.φ x=denF Tryz.prog qjw qiI Tryz.f150 offerAccept_con.ps offerAccept_con.one offerAccept_con.res offerAccept_con.ρ x:=by kernel_rfl
theorem qq8:ConOK Tryz.prog 150 offerAccept_con :=
  qa (env:=qjw) ((EnvOK.cons (EnvOK.check (EnvOK.nil _) qc) qoE)) mixed Tryz.func150 offerAccept_con qiI (by kernel_rfl) (fun h=>by first | rfl | cases h) (fun g hg=>by cases hg) qqu
def qg5:Ann:=(.two .nil (.two .nil (.two (.join ⟨[],[],[(0,some (.box Zt10)),(1,none),(2,none)]⟩ (.any 461369343 8392704 (.ord 0 0 .nil (.ord 1 0 .nil (.ord 2 0 .nil (.ord 3 0 .nil (.ord 4 0 .nil (.ord 5 16773087 .nil (.ord 6 0 .nil (.ord 7 0 .nil (.ord 8 0 .nil (.ord 9 16769535 .nil (.ord 10 0 .nil (.ord 11 0 .nil (.ord 13 0 .nil (.ord 14 0 .nil (.ord 15 0 .nil (.ord 16 8323071 .nil (.ord 17 0 .nil (.ord 18 0 .nil (.ord 19 0 .nil (.ord 20 1048575 .nil (.ord 21 0 .nil (.ord 22 0 .nil (.alt (.ord 12 0 (.own .nil) (.ord 24 0 .nil (.ord 25 0 .nil (.alt (.ord 23 0 (.own .nil) (.ord 26 0 .nil (.ord 27 0 .nil (.ord 28 0 .nil (.ord 29 0 .nil .nil))))) (.ord 26 0 .nil (.ord 23 0 (.own .nil) (.ord 27 0 .nil (.ord 28 0 .nil (.ord 29 0 .nil .nil))))))))) (.ord 23 0 (.own .nil) (.ord 12 0 (.own .nil) (.ord 24 0 .nil (.ord 25 0 .nil (.ord 26 0 .nil (.ord 27 0 .nil (.ord 28 0 .nil (.ord 29 0 .nil .nil))))))))))))))))))))))))))))))))) .nil)))
noncomputable def plainGameBack_con:Ioc:=⟨Zt7,[],true,[],Zt63,fun x=>qdD x.1⟩
noncomputable def qgS:Env:=[]
theorem qnX (x:DL (Zt7::[])):plainGameBack_con.φ x=denIO Tryz.prog qgS qg5 Tryz.f172 Zt7 [] true [] Zt63 x:=by kernel_rfl
theorem qoT:IocOK Tryz.prog 172 plainGameBack_con :=
  qaB (env:=qgS) ((EnvOK.nil _)) mixed Tryz.func172 plainGameBack_con qg5 (by kernel_rfl) (fun h=>by first | rfl | cases h) qnX
def qnn:Ann:=(.two .nil (.two .nil (.two .nil (.two (.two .nil (.join ⟨[2,4],[],[(0,some (.box Zt36))]⟩ (.two (.loop ⟨[1,2,4],[(19,Zt63)],[(0,some (.box Zt36))]⟩ (.two .nil (.two .nil (.two (.join ⟨[1,2,4,19],[],[(0,some (.box Zt36))]⟩ (.two (.two .nil (.two (.join ⟨[1,2,4,7,19],[(25,Zt54),(26,Zt63)],[]⟩ .nil) (.join ⟨[1,2,4,19],[],[(0,some (.box Zt36))]⟩ (.two (.loop ⟨[1,2,4,7,19,25],[(26,Zt63)],[(0,some (.box Zt36))]⟩ (.two .nil (.two .nil (.two (.two (.two .nil (.join ⟨[1,2,4,7,19,25,26],[],[(0,some (.box Zt36))]⟩ .nil)) .nil) .nil)))) .nil)))) .nil)) .nil)))) .nil))) .nil))))
noncomputable def offerBack_con:Con:=⟨[Zt27,Zt63],false,[Zt27,Zt63],Zt22,fun x=>qfD x.1 x.2.1,none⟩
noncomputable def qlR:Env:=(148,.con offerCheck_i_con)::(159,.ck 197)::[]
theorem qsh (x:DL offerBack_con.ps):offerBack_con.φ x=denF Tryz.prog qlR qnn Tryz.f151 offerBack_con.ps offerBack_con.one offerBack_con.res offerBack_con.ρ x:=by kernel_rfl
theorem qu6:ConOK Tryz.prog 151 offerBack_con :=
  qa (env:=qlR) ((EnvOK.cons (EnvOK.check (EnvOK.nil _) qc) qdb)) mixed Tryz.func151 offerBack_con qnn (by kernel_rfl) (fun h=>by first | rfl | cases h) (fun g hg=>by cases hg) qsh
def qu:Ann:=(.ord 11 0 .nil (.ord 12 0 .nil (.ord 13 0 .nil (.ord 14 0 .nil (.ord 16 0 .nil (.ord 17 0 .nil .nil))))))
def qA:Ann:=(.ord 11 34815 .nil (.ord 12 0 .nil (.ord 13 0 .nil (.ord 14 0 .nil (.ord 15 0 .nil (.ord 16 0 .nil (.ord 17 0 .nil .nil)))))))
def qbs:Ann:=(.alt (.ord 8 0 .nil (.ord 10 0 .nil qu)) (.ord 10 0 .nil (.ord 8 0 .nil qu)))
def qbx:Ann:=(.alt (.ord 6 0 .nil (.ord 10 0 .nil qu)) (.ord 10 0 .nil (.ord 6 0 .nil qu)))
def qby:Ann:=(.alt (.ord 4 0 .nil (.ord 10 0 .nil qu)) (.ord 10 0 .nil (.ord 4 0 .nil qu)))
def qbj:Ann:=(.alt (.ord 10 0 .nil qA) (.ord 15 0 .nil (.ord 10 0 .nil qu)))
def qbr:Ann:=(.ord 11 0 .nil (.ord 12 0 .nil (.ord 13 0 .nil (.ord 14 0 .nil (.ord 15 0 .nil .nil)))))
def qdm:Ann:=(.alt (.ord 6 0 .nil qbs) (.alt (.ord 8 0 .nil qbx) (.ord 10 0 .nil (.ord 6 34751 .nil (.ord 8 0 .nil qu)))))
def qdy:Ann:=(.alt (.ord 4 0 .nil qbx) (.alt (.ord 6 0 .nil qby) (.ord 10 0 .nil (.ord 4 34799 .nil (.ord 6 0 .nil qu)))))
def qcO:Ann:=(.alt (.ord 4 0 .nil qbs) (.alt (.ord 8 0 .nil qby) (.ord 10 0 .nil (.ord 4 34799 .nil (.ord 8 0 .nil qu)))))
def qcU:Ann:=(.alt (.ord 8 0 .nil qbj) (.alt (.ord 10 0 .nil (.ord 8 34559 .nil qA)) (.ord 15 0 .nil qbs)))
def qcT:Ann:=(.alt (.ord 6 0 .nil qbj) (.alt (.ord 10 0 .nil (.ord 6 34751 .nil qA)) (.ord 15 0 .nil qbx)))
def qcW:Ann:=(.alt (.ord 4 0 .nil qbj) (.alt (.ord 10 0 .nil (.ord 4 34799 .nil qA)) (.ord 15 0 .nil qby)))
def qbb:Ann:=(.ord 8 0 .nil (.ord 9 0 .nil (.ord 10 0 .nil qbr)))
def qdM:Ann:=(.two .nil (.two (.join ⟨[0,3],[(5,Zt25),(6,Zt63)],[]⟩ (.any 162815 32768 (.ord 0 0 .nil (.ord 1 0 .nil (.ord 2 0 .nil (.ord 3 0 .nil (.ord 5 0 .nil (.ord 7 0 .nil (.ord 9 0 .nil (.alt (.ord 4 0 .nil (.alt (.ord 6 0 .nil qcU) (.alt (.ord 8 0 .nil qcT) (.alt (.ord 10 0 .nil (.ord 6 34751 .nil (.ord 8 34559 .nil qA))) (.ord 15 0 .nil qdm))))) (.alt (.ord 6 0 .nil (.alt (.ord 4 0 .nil qcU) (.alt (.ord 8 0 .nil qcW) (.alt (.ord 10 0 .nil (.ord 4 34799 .nil (.ord 8 34559 .nil qA))) (.ord 15 0 .nil qcO))))) (.alt (.ord 8 0 .nil (.alt (.ord 4 0 .nil qcT) (.alt (.ord 6 0 .nil qcW) (.alt (.ord 10 0 .nil (.ord 4 34799 .nil (.ord 6 34751 .nil qA))) (.ord 15 0 .nil qdy))))) (.alt (.ord 10 0 .nil (.ord 4 34799 .nil (.ord 6 34751 .nil (.ord 8 34559 .nil qA)))) (.ord 15 0 .nil (.alt (.ord 4 0 .nil qdm) (.alt (.ord 6 0 .nil qcO) (.alt (.ord 8 0 .nil qdy) (.ord 10 0 .nil (.ord 4 34799 .nil (.ord 6 34751 .nil (.ord 8 0 .nil qu))))))))))))))))))))) (.two .nil (.two .nil (.two .nil (.two (.two (.join ⟨[0,3],[(46,Zt63),(47,Zt63)],[]⟩ (.any 111 0 (.ord 0 0 .nil (.ord 3 0 .nil (.ord 6 0 .nil (.alt (.ord 1 0 .nil (.ord 2 0 .nil (.ord 4 0 .nil (.ord 5 0 .nil .nil)))) (.ord 4 0 .nil (.ord 1 0 .nil (.ord 2 0 .nil (.ord 5 0 .nil .nil)))))))))) (.join ⟨[0,3],[],[(1,some (.box Zt10)),(2,none),(3,none)]⟩ (.two (.loop ⟨[0,3,46],[(47,Zt63)],[(1,some (.box Zt10)),(2,none),(3,none)]⟩ .nil) .nil))) (.two (.join ⟨[0,3],[],[(0,some (.box Zt2)),(1,none),(6,none),(7,none)]⟩ (.any 32639 0 (.ord 0 0 .nil (.ord 1 0 .nil (.ord 2 0 .nil (.ord 3 0 .nil (.ord 4 0 .nil (.ord 6 0 .nil (.alt (.ord 5 0 .nil (.ord 7 0 .nil qbb)) (.ord 7 0 .nil (.ord 5 0 .nil qbb))))))))))) (.two (.join ⟨[0],[],[(0,some (.box Zt2)),(8,none),(9,none),(10,none)]⟩ (.any 31735 0 (.ord 0 0 .nil (.ord 1 0 .nil (.ord 2 0 .nil (.ord 4 0 .nil (.alt (.ord 3 0 .nil (.ord 6 0 .nil (.ord 7 0 .nil (.ord 8 0 .nil (.ord 9 0 .nil (.alt (.ord 5 0 .nil (.ord 10 0 .nil qbr)) (.ord 10 0 .nil (.ord 5 0 .nil qbr)))))))) (.ord 5 0 .nil (.ord 3 0 .nil (.ord 6 0 .nil (.ord 7 0 .nil qbb))))))))))) .nil))))))))
noncomputable def matchMatchDoAccept_con:Ioc:=⟨Zt1,[Zt30],true,[],Zt63,fun x=>qaU x.1 x.2.1⟩
noncomputable def qdK:Env:=(72,.rd plainGamePosition_con)::(167,.body Tryz.f167)::(151,.con offerBack_con)::(172,.io plainGameBack_con)::(149,.con offerPlies_con)::(159,.ck 197)::(52,.rd plainGameMoves_con)::(169,.body Tryz.f169)::(150,.con offerAccept_con)::[]
theorem qix (x:DL (Zt1::[Zt30])):matchMatchDoAccept_con.φ x=denIO Tryz.prog qdK qdM Tryz.f116 Zt1 [Zt30] true [] Zt63 x:=by kernel_rfl
theorem qi4:IocOK Tryz.prog 116 matchMatchDoAccept_con :=
  qaB (env:=qdK) ((EnvOK.readonly (EnvOK.body (EnvOK.cons (EnvOK.inout (EnvOK.cons (EnvOK.check (EnvOK.readonly (EnvOK.body (EnvOK.cons (EnvOK.nil _) qq8) Tryz.func169) qaz) qc) qlQ) qoT) qu6) Tryz.func167) qN)) mixed Tryz.func116 matchMatchDoAccept_con qdM (by kernel_rfl) (fun h=>by first | rfl | cases h) qix
def qkn:Ann:=(.two .nil (.two .nil (.two .nil (.two (.two .nil (.join ⟨[1,2],[(6,Zt60),(7,Zt63)],[]⟩ (.two (.loop ⟨[1,2,13,14],[(6,Zt60),(7,Zt63),(15,Zt63)],[]⟩ (.two .nil (.two .nil (.two (.two (.two .nil (.two .nil (.join ⟨[1,2,13,14,15],[(6,Zt60),(7,Zt63)],[(1,none)]⟩ .nil))) .nil) .nil)))) .nil))) (.two (.two .nil (.join ⟨[],[(6,Zt60),(7,Zt63)],[(1,none)]⟩ (.two (.loop ⟨[40,41],[(6,Zt60),(7,Zt63),(42,Zt63)],[(1,none)]⟩ (.two .nil (.two .nil (.two (.two (.two .nil (.two .nil (.join ⟨[40,41,42],[(6,Zt60),(7,Zt63)],[(2,none)]⟩ .nil))) .nil) .nil)))) .nil))) .nil)))))
noncomputable def claimTypes_con:Con:=⟨[Zt34,Zt63],false,[Zt60,Zt63],(.st Zt60 Zt59),fun x=>qj2 x.1 x.2.1,none⟩
noncomputable def qkN:Env:=[]
theorem qqL (x:DL claimTypes_con.ps):claimTypes_con.φ x=denF Tryz.prog qkN qkn Tryz.f291 claimTypes_con.ps claimTypes_con.one claimTypes_con.res claimTypes_con.ρ x:=by kernel_rfl
theorem qtd:ConOK Tryz.prog 291 claimTypes_con :=
  qa (env:=qkN) ((EnvOK.nil _)) mixed Tryz.func291 claimTypes_con qkn (by kernel_rfl) (fun h=>by first | rfl | cases h) (fun g hg=>by cases hg) qqL
def qh5:Ann:=(.two .nil (.two (.two .nil (.joinE ⟨[],[],[]⟩ (.two (.loop ⟨[2,3,10],[(1,Zt63),(11,Zt63)],[]⟩ .nil) .nil))) .nil))
noncomputable def claimBecomes_con:Con:=⟨[Zt17,Zt63,Zt63],true,[],.bool,fun x=>qjk x.1 x.2.1 x.2.2.1,none⟩
noncomputable def qio:Env:=[]
theorem qoV (x:DL claimBecomes_con.ps):claimBecomes_con.φ x=denF Tryz.prog qio qh5 Tryz.f293 claimBecomes_con.ps claimBecomes_con.one claimBecomes_con.res claimBecomes_con.ρ x:=by kernel_rfl
theorem qpl:ConOK Tryz.prog 293 claimBecomes_con :=
  qa (env:=qio) ((EnvOK.nil _)) mixed Tryz.func293 claimBecomes_con qh5 (by kernel_rfl) (fun h=>by first | rfl | cases h) (fun g hg=>by cases hg) qoV
def qmG:Ann:=(.two .nil (.two .nil (.two .nil (.two (.two (.join ⟨[4,9],[(42,.bool)],[]⟩ (.two (.two .nil (.two (.two (.two .nil (.two (.two .nil (.joinE ⟨[],[],[]⟩ (.two (.loop ⟨[0,1,7],[(8,Zt63)],[]⟩ .nil) .nil))) .nil)) .nil) .nil)) .nil)) .nil) (.two (.join ⟨[],[(8,.bool)],[]⟩ (.two (.two .nil (.two (.two (.two .nil (.two (.two .nil (.joinE ⟨[],[],[]⟩ (.two (.loop ⟨[0,1,7],[(8,Zt63)],[]⟩ (.two .nil (.two .nil (.two (.two (.two .nil (.two (.two (.two .nil (.two (.two (.two .nil (.two (.two (.two .nil (.two (.two .nil (.joinE ⟨[],[],[]⟩ (.two (.loop ⟨[0,1,7],[(8,Zt63)],[]⟩ .nil) .nil))) .nil)) .nil) .nil)) .nil) .nil)) .nil) .nil)) .nil) .nil)))) .nil))) .nil)) .nil) .nil)) .nil)) .nil)))))
noncomputable def claimAble_con:Con:=⟨[Zt17,Zt34,Zt46,Zt63],true,[],.bool,fun x=>qmZ x.1 x.2.1 x.2.2.1 x.2.2.2.1,none⟩
noncomputable def qlM:Env:=(296,.body Tryz.f296)::(306,.body Tryz.f306)::(295,.body Tryz.f295)::(294,.body Tryz.f294)::(293,.con claimBecomes_con)::(292,.body Tryz.f292)::(187,.body Tryz.f187)::(133,.body Tryz.f133)::(291,.con claimTypes_con)::[]
theorem qsS (x:DL claimAble_con.ps):claimAble_con.φ x=denF Tryz.prog qlM qmG Tryz.f258 claimAble_con.ps claimAble_con.one claimAble_con.res claimAble_con.ρ x:=by kernel_rfl
theorem qtP:ConOK Tryz.prog 258 claimAble_con :=
  qa (env:=qlM) ((EnvOK.body (EnvOK.body (EnvOK.body (EnvOK.body (EnvOK.cons (EnvOK.body (EnvOK.body (EnvOK.body (EnvOK.cons (EnvOK.nil _) qtd) Tryz.func133) Tryz.func187) Tryz.func292) qpl) Tryz.func294) Tryz.func295) Tryz.func306) Tryz.func296)) mixed Tryz.func258 claimAble_con qmG (by kernel_rfl) (fun h=>by first | rfl | cases h) (fun g hg=>by cases hg) qsS
def qja:Ann:=(.two .nil (.two .nil (.two .nil (.two (.join ⟨[],[(6,.bool),(7,Zt63)],[]⟩ (.two (.two .nil (.two (.two (.two .nil (.two (.two .nil (.joinE ⟨[],[],[]⟩ (.two (.loop ⟨[0,1,7],[(8,Zt63)],[]⟩ .nil) .nil))) .nil)) .nil) .nil)) .nil)) .nil))))
noncomputable def claimAble_i_con:Con:=⟨[Zt17,Zt34,Zt63],false,[.bool,Zt63],Zt56,fun x=>qfw x.1 x.2.1 x.2.2.1,none⟩
noncomputable def qiH:Env:=(258,.con claimAble_con)::(257,.body Tryz.f257)::(194,.body Tryz.f194)::(256,.body Tryz.f256)::(74,.con placeCheck_con)::[]
theorem qpR (x:DL claimAble_i_con.ps):claimAble_i_con.φ x=denF Tryz.prog qiH qja Tryz.f220 claimAble_i_con.ps claimAble_i_con.one claimAble_i_con.res claimAble_i_con.ρ x:=by kernel_rfl
theorem qq4:ConOK Tryz.prog 220 claimAble_i_con :=
  qa (env:=qiH) ((EnvOK.cons (EnvOK.body (EnvOK.body (EnvOK.body (EnvOK.cons (EnvOK.nil _) ql1) Tryz.func256) Tryz.func194) Tryz.func257) qtP)) mixed Tryz.func220 claimAble_i_con qja (by kernel_rfl) (fun h=>by first | rfl | cases h) (fun g hg=>by cases hg) qpR
def qjh:Ann := .nil
noncomputable def claimFallen_con:Con:=⟨[Zt17,Zt34,Zt63],false,[Zt63,Zt63],Zt54,fun x=>qhB x.1 x.2.1 x.2.2.1,none⟩
noncomputable def qiX:Env:=(220,.con claimAble_i_con)::[]
theorem qqa (x:DL claimFallen_con.ps):claimFallen_con.φ x=denF Tryz.prog qiX qjh Tryz.f173 claimFallen_con.ps claimFallen_con.one claimFallen_con.res claimFallen_con.ρ x:=by kernel_rfl
theorem qqJ:ConOK Tryz.prog 173 claimFallen_con :=
  qa (env:=qiX) ((EnvOK.cons (EnvOK.nil _) qq4)) mixed Tryz.func173 claimFallen_con qjh (by kernel_rfl) (fun h=>by first | rfl | cases h) (fun g hg=>by cases hg) qqa
def qet:Ann:=(.two .nil (.two (.two .nil (.two (.two (.any 163839 32768 (.ord 0 0 .nil (.ord 1 0 .nil (.ord 2 0 .nil (.ord 3 34807 .nil (.ord 4 0 .nil (.ord 5 0 .nil (.ord 6 0 .nil (.ord 7 0 .nil (.ord 8 34559 .nil (.ord 9 0 .nil (.ord 10 33791 .nil (.ord 11 34815 .nil (.ord 12 0 .nil (.ord 13 0 .nil (.ord 14 0 .nil (.ord 15 0 .nil (.ord 16 0 .nil (.ord 17 0 .nil .nil))))))))))))))))))) (.two .nil (.two .nil (.two (.any 523775 512 (.ord 0 0 .nil (.ord 1 0 .nil (.ord 2 0 .nil (.ord 3 0 .nil (.ord 4 4079 .nil (.ord 5 0 .nil (.ord 6 0 .nil (.ord 7 0 .nil (.ord 8 3327 .nil (.ord 10 0 .nil (.ord 11 2047 .nil (.ord 9 0 .nil (.ord 12 0 .nil (.ord 13 0 .nil (.ord 14 0 .nil (.ord 15 0 .nil (.ord 16 0 .nil (.ord 17 0 .nil (.ord 18 0 .nil (.ord 19 0 .nil .nil))))))))))))))))))))) .nil)))) .nil)) (.two (.join ⟨[0,3],[(7,.bool)],[]⟩ .nil) (.two (.two (.two .nil (.two .nil (.two (.join ⟨[0,7],[(91,.bool)],[]⟩ (.any 61 0 (.ord 0 0 .nil (.ord 2 0 .nil (.alt (.ord 1 0 .nil (.ord 3 0 .nil (.ord 4 0 .nil (.ord 5 0 .nil .nil)))) (.ord 3 0 .nil (.ord 1 0 .nil (.ord 4 0 .nil (.ord 5 0 .nil .nil))))))))) .nil))) .nil) .nil))))
noncomputable def matchMatchDoClaim_con:Ioc:=⟨Zt1,[Zt30],true,[],Zt63,fun x=>qa6 x.1 x.2.1⟩
noncomputable def qee:Env:=(167,.body Tryz.f167)::(140,.rd plainGameCount_con)::(173,.con claimFallen_con)::(72,.rd plainGamePosition_con)::(159,.ck 197)::(40,.con clockLook_con)::[]
theorem qiY (x:DL (Zt1::[Zt30])):matchMatchDoClaim_con.φ x=denIO Tryz.prog qee qet Tryz.f117 Zt1 [Zt30] true [] Zt63 x:=by kernel_rfl
theorem qj8:IocOK Tryz.prog 117 matchMatchDoClaim_con :=
  qaB (env:=qee) ((EnvOK.body (EnvOK.readonly (EnvOK.cons (EnvOK.readonly (EnvOK.check (EnvOK.cons (EnvOK.nil _) qek) qc) qN) qqJ) qgO) Tryz.func167)) mixed Tryz.func117 matchMatchDoClaim_con qet (by kernel_rfl) (fun h=>by first | rfl | cases h) qiY
def qkk:Ann:=(.two .nil (.two .nil (.two .nil (.two .nil (.two (.join ⟨[],[(6,Zt37),(7,Zt63)],[]⟩ (.any 413 34 (.ord 0 0 .nil (.ord 2 0 .nil (.ord 3 7 .nil (.ord 4 0 .nil (.alt (.ord 1 0 .nil (.ord 5 0 .nil (.ord 6 0 .nil (.ord 7 0 .nil (.ord 8 0 .nil .nil))))) (.ord 5 0 .nil (.ord 1 0 .nil (.ord 6 0 .nil (.ord 7 0 .nil (.ord 8 0 .nil .nil)))))))))))) .nil)))))
noncomputable def premoveAdd_con:Con:=⟨[Zt40,Zt63,Zt51],false,[Zt37,Zt63],Zt33,fun x=>qjY x.1 x.2.1 x.2.2.1,none⟩
noncomputable def qk4:Env:=(53,.con slicesClone_PremoveMove_con)::(222,.con premoveOf_con)::(221,.con premoveCheck_con)::[]
theorem qqK (x:DL premoveAdd_con.ps):premoveAdd_con.φ x=denF Tryz.prog qk4 qkk Tryz.f174 premoveAdd_con.ps premoveAdd_con.one premoveAdd_con.res premoveAdd_con.ρ x:=by kernel_rfl
theorem qs2:ConOK Tryz.prog 174 premoveAdd_con :=
  qa (env:=qk4) ((EnvOK.cons (EnvOK.cons (EnvOK.cons (EnvOK.nil _) qiy) qol) qM)) mixed Tryz.func174 premoveAdd_con qkk (by kernel_rfl) (fun h=>by first | rfl | cases h) (fun g hg=>by cases hg) qqK
def qc4:Ann:=(.two .nil (.two (.two (.join ⟨[0,3],[(11,.bool)],[]⟩ (.any 29 0 (.ord 0 0 .nil (.ord 2 0 .nil (.alt (.ord 1 0 .nil (.ord 3 0 .nil (.ord 4 0 .nil .nil))) (.ord 3 0 .nil (.ord 1 0 .nil (.ord 4 0 .nil .nil)))))))) .nil) (.two (.any 32255 512 (.ord 0 0 .nil (.ord 1 0 .nil (.ord 2 0 .nil (.ord 3 0 .nil (.ord 4 495 .nil (.ord 5 0 .nil (.ord 6 447 .nil (.ord 7 0 .nil (.ord 8 0 .nil (.ord 9 0 .nil (.ord 10 0 .nil (.ord 11 0 .nil (.ord 12 0 .nil (.ord 13 0 .nil (.ord 14 0 .nil .nil)))))))))))))))) (.two (.two .nil (.join ⟨[6],[],[(0,some (.box Zt2)),(1,none),(2,none),(3,none),(5,none)]⟩ .nil)) .nil))))
noncomputable def matchMatchDoPremove_con:Ioc:=⟨Zt1,[Zt30],true,[],Zt63,fun x=>qaG x.1 x.2.1⟩
noncomputable def qdx:Env:=(174,.con premoveAdd_con)::(72,.rd plainGamePosition_con)::(167,.body Tryz.f167)::[]
theorem qhQ (x:DL (Zt1::[Zt30])):matchMatchDoPremove_con.φ x=denIO Tryz.prog qdx qc4 Tryz.f118 Zt1 [Zt30] true [] Zt63 x:=by kernel_rfl
theorem qis:IocOK Tryz.prog 118 matchMatchDoPremove_con :=
  qaB (env:=qdx) ((EnvOK.cons (EnvOK.readonly (EnvOK.body (EnvOK.nil _) Tryz.func167) qN) qs2)) mixed Tryz.func118 matchMatchDoPremove_con qc4 (by kernel_rfl) (fun h=>by first | rfl | cases h) qhQ
def qgm:Ann:=(.two .nil (.two (.two .nil (.two (.two .nil (.two .nil (.two (.two .nil (.join ⟨[0,3,6],[(12,.bool)],[]⟩ .nil)) .nil))) .nil)) .nil))
noncomputable def matchMatchKind_con:Ioc:=⟨Zt1,[Zt30],true,[],Zt63,fun x=>qcy x.1 x.2.1⟩
noncomputable def qgy:Env:=(118,.io matchMatchDoPremove_con)::(117,.io matchMatchDoClaim_con)::(116,.io matchMatchDoAccept_con)::(115,.io matchMatchDoOffer_con)::(114,.io matchMatchDoMove_con)::[]
theorem qmw (x:DL (Zt1::[Zt30])):matchMatchKind_con.φ x=denIO Tryz.prog qgy qgm Tryz.f51 Zt1 [Zt30] true [] Zt63 x:=by kernel_rfl
theorem qnN:IocOK Tryz.prog 51 matchMatchKind_con :=
  qaB (env:=qgy) ((EnvOK.inout (EnvOK.inout (EnvOK.inout (EnvOK.inout (EnvOK.inout (EnvOK.nil _) qlC) qkc) qi4) qj8) qis)) mixed Tryz.func51 matchMatchKind_con qgm (by kernel_rfl) (fun h=>by first | rfl | cases h) qmw
def qjq:Ann := .nil
noncomputable def journalLast_con:Con:=⟨[Zt55],true,[],(.int .u64),fun x=>qdS x.1,none⟩
noncomputable def qjg:Env:=[]
theorem qqt (x:DL journalLast_con.ps):journalLast_con.φ x=denF Tryz.prog qjg qjq Tryz.f112 journalLast_con.ps journalLast_con.one journalLast_con.res journalLast_con.ρ x:=by kernel_rfl
theorem qgK:ConOK Tryz.prog 112 journalLast_con :=
  qa (env:=qjg) ((EnvOK.nil _)) mixed Tryz.func112 journalLast_con qjq (by kernel_rfl) (fun h=>by first | rfl | cases h) (fun g hg=>by cases hg) qqt
def qkz:Ann:=(.two .nil (.two .nil (.two (.two .nil (.join ⟨[1],[(5,(.int .u64))],[]⟩ (.two (.loop ⟨[1,10],[(5,(.int .u64)),(11,Zt63)],[]⟩ .nil) .nil))) .nil)))
noncomputable def journalSum_con:Con:=⟨[(.int .u64),.str],true,[],(.int .u64),fun x=>qdO x.1 x.2.1,none⟩
noncomputable def qkp:Env:=[]
theorem qq6 (x:DL journalSum_con.ps):journalSum_con.φ x=denF Tryz.prog qkp qkz Tryz.f111 journalSum_con.ps journalSum_con.one journalSum_con.res journalSum_con.ρ x:=by kernel_rfl
theorem qm9:ConOK Tryz.prog 111 journalSum_con :=
  qa (env:=qkp) ((EnvOK.nil _)) mixed Tryz.func111 journalSum_con qkz (by kernel_rfl) (fun h=>by first | rfl | cases h) (fun g hg=>by cases hg) qq6
def qhZ:Ann := .nil
noncomputable def journalWrong_con:Con:=⟨[(.int .u64),Zt57],true,[],Zt63,fun x=>qej x.1 x.2.1,none⟩
noncomputable def qia:Env:=(111,.con journalSum_con)::(110,.con qfs)::[]
theorem qo1 (x:DL journalWrong_con.ps):journalWrong_con.φ x=denF Tryz.prog qia qhZ Tryz.f163 journalWrong_con.ps journalWrong_con.one journalWrong_con.res journalWrong_con.ρ x:=by kernel_rfl
theorem qjc:ConOK Tryz.prog 163 journalWrong_con :=
  qa (env:=qia) ((EnvOK.cons (EnvOK.cons (EnvOK.nil _) qku) qm9)) mixed Tryz.func163 journalWrong_con qhZ (by kernel_rfl) (fun h=>by first | rfl | cases h) (fun g hg=>by cases hg) qo1
def qiV:Ann:=(.two .nil (.two (.two .nil (.joinE ⟨[0],[],[]⟩ (.two (.loop ⟨[0,5,6],[(7,Zt63)],[]⟩ .nil) .nil))) .nil))
noncomputable def journalGood_con:Con:=⟨[Zt55],true,[],Zt63,fun x=>qhJ x.1,none⟩
noncomputable def qiz:Env:=(163,.con journalWrong_con)::(112,.con journalLast_con)::(159,.ck 197)::[]
theorem qp6 (x:DL journalGood_con.ps):journalGood_con.φ x=denF Tryz.prog qiz qiV Tryz.f162 journalGood_con.ps journalGood_con.one journalGood_con.res journalGood_con.ρ x:=by kernel_rfl
theorem qq1:ConOK Tryz.prog 162 journalGood_con :=
  qa (env:=qiz) ((EnvOK.cons (EnvOK.cons (EnvOK.check (EnvOK.nil _) qc) qgK) qjc)) mixed Tryz.func162 journalGood_con qiV (by kernel_rfl) (fun h=>by first | rfl | cases h) (fun g hg=>by cases hg) qp6
def qh2:Ann := .nil
noncomputable def journalCheck_con:Con:=⟨[Zt55],true,[],Zt63,fun x=>qcV x.1,none⟩
noncomputable def qik:Env:=(163,.con journalWrong_con)::(112,.con journalLast_con)::(162,.con journalGood_con)::[]
theorem qoP (x:DL journalCheck_con.ps):journalCheck_con.φ x=denF Tryz.prog qik qh2 Tryz.f109 journalCheck_con.ps journalCheck_con.one journalCheck_con.res journalCheck_con.ρ x:=by kernel_rfl
theorem qiK:ConOK Tryz.prog 109 journalCheck_con :=
  qa (env:=qik) ((EnvOK.cons (EnvOK.cons (EnvOK.cons (EnvOK.nil _) qq1) qgK) qjc)) mixed Tryz.func109 journalCheck_con qh2 (by kernel_rfl) (fun h=>by first | rfl | cases h) (fun g hg=>by cases hg) qoP
def qbW:Ann := .nil
noncomputable def slicesClone_JournalEntry_con:Con:=⟨[Zt55],true,[],Zt53,fun x=>qX x.1,none⟩
noncomputable def qbX:Env:=[]
theorem qeW (x:DL slicesClone_JournalEntry_con.ps):slicesClone_JournalEntry_con.φ x=denF Tryz.prog qbX qbW Tryz.f91 slicesClone_JournalEntry_con.ps slicesClone_JournalEntry_con.one slicesClone_JournalEntry_con.res slicesClone_JournalEntry_con.ρ x:=by kernel_rfl
theorem qce:ConOK Tryz.prog 91 slicesClone_JournalEntry_con :=
  qa (env:=qbX) ((EnvOK.nil _)) mixed Tryz.func91 slicesClone_JournalEntry_con qbW (by kernel_rfl) (fun h=>by first | rfl | cases h) (fun g hg=>by cases hg) qeW
def qhi:Ann := .nil
noncomputable def journalAppend_con:Con:=⟨[Zt55,.str],false,[Zt53,Zt63],(.st Zt53 Zt59),fun x=>qL x.1 x.2.1,none⟩
noncomputable def qhg:Env:=(111,.con journalSum_con)::(112,.con journalLast_con)::(91,.con slicesClone_JournalEntry_con)::(110,.con qfs)::(109,.con journalCheck_con)::[]
theorem qn2 (x:DL journalAppend_con.ps):journalAppend_con.φ x=denF Tryz.prog qhg qhi Tryz.f48 journalAppend_con.ps journalAppend_con.one journalAppend_con.res journalAppend_con.ρ x:=by kernel_rfl
theorem qcK:ConOK Tryz.prog 48 journalAppend_con :=
  qa (env:=qhg) ((EnvOK.cons (EnvOK.cons (EnvOK.cons (EnvOK.cons (EnvOK.cons (EnvOK.nil _) qiK) qku) qce) qgK) qm9)) mixed Tryz.func48 journalAppend_con qhi (by kernel_rfl) (fun h=>by first | rfl | cases h) (fun g hg=>by cases hg) qn2
def qfX:Ann:=(.two .nil (.two .nil (.join ⟨[],[],[(0,some (.box Zt2)),(1,none),(2,none),(3,none)]⟩ .nil)))
noncomputable def matchMatchOver_con:Ioc:=⟨Zt1,[],false,[],.nil,fun x=>qak x.1⟩
noncomputable def qgt:Env:=(73,.rd plainGameResult_con)::[]
theorem qmB (x:DL (Zt1::[])):matchMatchOver_con.φ x=denIO Tryz.prog qgt qfX Tryz.f50 Zt1 [] false [] .nil x:=by kernel_rfl
theorem qcj:IocOK Tryz.prog 50 matchMatchOver_con :=
  qaB (env:=qgt) ((EnvOK.readonly (EnvOK.nil _) qbN)) mixed Tryz.func50 matchMatchOver_con qfX (by kernel_rfl) (fun h=>by first | rfl | cases h) qmB
def qh4:Ann:=(.two .nil (.two .nil (.two (.any 163839 32768 (.ord 0 0 .nil (.ord 1 0 .nil (.ord 2 0 .nil (.ord 3 34807 .nil (.ord 4 0 .nil (.ord 5 0 .nil (.ord 6 0 .nil (.ord 7 0 .nil (.ord 8 34559 .nil (.ord 9 0 .nil (.ord 10 33791 .nil (.ord 11 34815 .nil (.ord 12 0 .nil (.ord 13 0 .nil (.ord 14 0 .nil (.ord 15 0 .nil (.ord 16 0 .nil (.ord 17 0 .nil .nil))))))))))))))))))) (.two .nil (.two .nil (.two .nil (.two (.any 8063 128 (.ord 0 0 .nil (.ord 1 0 .nil (.ord 2 0 .nil (.ord 3 0 .nil (.ord 4 111 .nil (.ord 5 0 .nil (.ord 6 0 .nil (.ord 7 0 .nil (.ord 8 0 .nil (.ord 9 0 .nil (.ord 10 0 .nil (.ord 11 0 .nil (.ord 12 0 .nil (.ord 13 0 .nil .nil))))))))))))))) .nil)))))))
noncomputable def matchMatchDo_con:Ioc:=⟨Zt1,[Zt30],true,[],Zt63,fun x=>qbh x.1 x.2.1⟩
noncomputable def qim:Env:=(50,.io matchMatchOver_con)::(48,.con journalAppend_con)::(28,.con matchEntry_con)::(51,.io matchMatchKind_con)::(159,.ck 197)::(40,.con clockLook_con)::[]
theorem qoU (x:DL (Zt1::[Zt30])):matchMatchDo_con.φ x=denIO Tryz.prog qim qh4 Tryz.f11 Zt1 [Zt30] true [] Zt63 x:=by kernel_rfl
theorem qfA:IocOK Tryz.prog 11 matchMatchDo_con :=
  qaB (env:=qim) ((EnvOK.inout (EnvOK.cons (EnvOK.cons (EnvOK.inout (EnvOK.check (EnvOK.cons (EnvOK.nil _) qek) qc) qnN) qtt) qcK) qcj)) mixed Tryz.func11 matchMatchDo_con qh4 (by kernel_rfl) (fun h=>by first | rfl | cases h) qoU
def qk0:Ann := .nil
noncomputable def clockStart_con:Con:=⟨[Zt39,Zt63],false,[Zt20,Zt63],Zt18,fun x=>qa9 x.1 x.2.1,none⟩
noncomputable def qkU:Env:=(54,.con clockWithin_con)::(105,.con clockCheck_con)::(159,.ck 197)::[]
theorem qqS (x:DL clockStart_con.ps):clockStart_con.φ x=denF Tryz.prog qkU qk0 Tryz.f44 clockStart_con.ps clockStart_con.one clockStart_con.res clockStart_con.ρ x:=by kernel_rfl
theorem qhN:ConOK Tryz.prog 44 clockStart_con :=
  qa (env:=qkU) ((EnvOK.cons (EnvOK.cons (EnvOK.check (EnvOK.nil _) qc) qnq) qcC)) mixed Tryz.func44 clockStart_con qk0 (by kernel_rfl) (fun h=>by first | rfl | cases h) (fun g hg=>by cases hg) qqS
def qb2:Ann := .nil
noncomputable def slicesClone_ClockPeriod_con:Con:=⟨[Zt52],true,[],(.osl 25 Zt54),fun x=>qat x.1,none⟩
noncomputable def qcf:Env:=[]
theorem qfL (x:DL slicesClone_ClockPeriod_con.ps):slicesClone_ClockPeriod_con.φ x=denF Tryz.prog qcf qb2 Tryz.f108 slicesClone_ClockPeriod_con.ps slicesClone_ClockPeriod_con.one slicesClone_ClockPeriod_con.res slicesClone_ClockPeriod_con.ρ x:=by kernel_rfl
theorem qfM:ConOK Tryz.prog 108 slicesClone_ClockPeriod_con :=
  qa (env:=qcf) ((EnvOK.nil _)) mixed Tryz.func108 slicesClone_ClockPeriod_con qb2 (by kernel_rfl) (fun h=>by first | rfl | cases h) (fun g hg=>by cases hg) qfL
def qmP:Ann := .nil
noncomputable def clockCopy_con:Con:=⟨[Zt39],true,[],Zt38,fun x=>qb3 x.1,none⟩
noncomputable def qm1:Env:=(108,.con slicesClone_ClockPeriod_con)::(159,.ck 197)::[]
theorem qsL (x:DL clockCopy_con.ps):clockCopy_con.φ x=denF Tryz.prog qm1 qmP Tryz.f46 clockCopy_con.ps clockCopy_con.one clockCopy_con.res clockCopy_con.ρ x:=by kernel_rfl
theorem qiG:ConOK Tryz.prog 46 clockCopy_con :=
  qa (env:=qm1) ((EnvOK.cons (EnvOK.check (EnvOK.nil _) qc) qfM)) mixed Tryz.func46 clockCopy_con qmP (by kernel_rfl) (fun h=>by first | rfl | cases h) (fun g hg=>by cases hg) qsL
def qmQ:Ann := .nil
noncomputable def clockLeft_con:Con:=⟨[Zt39,Zt20,Zt63,Zt63],false,[Zt63,Zt63],Zt54,fun x=>quh x.1 x.2.1 x.2.2.1 x.2.2.2.1,none⟩
noncomputable def qno:Env:=(55,.con clockUsed_con)::(40,.con clockLook_con)::(54,.con clockWithin_con)::[]
theorem qs0 (x:DL clockLeft_con.ps):clockLeft_con.φ x=denF Tryz.prog qno qmQ Tryz.f13 clockLeft_con.ps clockLeft_con.one clockLeft_con.res clockLeft_con.ρ x:=by kernel_rfl
theorem qua:ConOK Tryz.prog 13 clockLeft_con :=
  qa (env:=qno) ((EnvOK.cons (EnvOK.cons (EnvOK.cons (EnvOK.nil _) qcC) qek) qjx)) mixed Tryz.func13 clockLeft_con qmQ (by kernel_rfl) (fun h=>by first | rfl | cases h) (fun g hg=>by cases hg) qs0
def qoC:Ann := .nil
noncomputable def offerNew_con:Con:=⟨[],true,[],Zt27,fun x=>qnQ,some fun x=>qK⟩
noncomputable def qoJ:Env:=(159,.ck 197)::[]
theorem qt4 (x:DL offerNew_con.ps):offerNew_con.φ x=denF Tryz.prog qoJ qoC Tryz.f47 offerNew_con.ps offerNew_con.one offerNew_con.res offerNew_con.ρ x:=by kernel_rfl
theorem qlA:ConOK Tryz.prog 47 offerNew_con :=
  qa (env:=qoJ) ((EnvOK.check (EnvOK.nil _) qc)) mixed Tryz.func47 offerNew_con qoC (by kernel_rfl) (fun h=>by first | rfl | cases h) (fun g hg x=>by
    cases hg
    exact qvU ) qt4
def qi3:Ann := .nil
noncomputable def matchNumber_con:Con:=⟨[.str],false,[Zt63,.bool],(.st Zt63 (.st .bool .nil)),fun x=>qdQ x.1,none⟩
noncomputable def qjd:Env:=(49,.con qg9)::(155,.con quJ)::[]
theorem qpw (x:DL matchNumber_con.ps):matchNumber_con.φ x=denF Tryz.prog qjd qi3 Tryz.f89 matchNumber_con.ps matchNumber_con.one matchNumber_con.res matchNumber_con.ρ x:=by kernel_rfl
theorem qkO:ConOK Tryz.prog 89 matchNumber_con :=
  qa (env:=qjd) ((EnvOK.cons (EnvOK.cons (EnvOK.nil _) atoiS_ok) qnh)) mixed Tryz.func89 matchNumber_con qi3 (by kernel_rfl) (fun h=>by first | rfl | cases h) (fun g hg=>by cases hg) qpw
def qfT:Ann:=(.two .nil (.two .nil (.two .nil (.two .nil (.two (.two .nil (.joinE ⟨[2,5],[],[(0,some (.box Zt32)),(1,some (.box Zt32))]⟩ (.two (.loop ⟨[2,5,15,16],[(17,Zt63)],[(0,some (.box Zt32)),(1,some (.box Zt32))]⟩ .nil) .nil))) .nil)))))
noncomputable def matchReadEntry_con:Con:=⟨[.str],false,[Zt30,Zt63],(.st Zt30 Zt59),fun x=>qbC x.1,none⟩
noncomputable def qgo:Env:=(89,.con matchNumber_con)::(88,.con qrO)::(159,.ck 197)::[]
theorem qnj (x:DL matchReadEntry_con.ps):matchReadEntry_con.φ x=denF Tryz.prog qgo qfT Tryz.f27 matchReadEntry_con.ps matchReadEntry_con.one matchReadEntry_con.res matchReadEntry_con.ρ x:=by kernel_rfl
theorem qnI:ConOK Tryz.prog 27 matchReadEntry_con :=
  qa (env:=qgo) ((EnvOK.cons (EnvOK.cons (EnvOK.check (EnvOK.nil _) qc) splitS_ok) qkO)) mixed Tryz.func27 matchReadEntry_con qfT (by kernel_rfl) (fun h=>by first | rfl | cases h) (fun g hg=>by cases hg) qnj
def qaZ:Ann := .nil
noncomputable def internalstringsliteHasPrefix_con:Con:=⟨[.str,.str],true,[],.bool,fun x=>qau x.1 x.2.1,none⟩
noncomputable def qa1:Env:=[]
theorem qdG (x:DL internalstringsliteHasPrefix_con.ps):internalstringsliteHasPrefix_con.φ x=denF Tryz.prog qa1 qaZ Tryz.f280 internalstringsliteHasPrefix_con.ps internalstringsliteHasPrefix_con.one internalstringsliteHasPrefix_con.res internalstringsliteHasPrefix_con.ρ x:=by kernel_rfl
theorem qdV:ConOK Tryz.prog 280 internalstringsliteHasPrefix_con :=
  qa (env:=qa1) ((EnvOK.nil _)) mixed Tryz.func280 internalstringsliteHasPrefix_con qaZ (by kernel_rfl) (fun h=>by first | rfl | cases h) (fun g hg=>by cases hg) qdG
def qa3:Ann := .nil
noncomputable def internalstringsliteCutPrefix_con:Con:=⟨[.str,.str],false,[.str,.bool],(.st .str (.st .bool .nil)),fun x=>qas x.1 x.2.1,none⟩
noncomputable def qa2:Env:=(280,.con internalstringsliteHasPrefix_con)::[]
theorem qdF (x:DL internalstringsliteCutPrefix_con.ps):internalstringsliteCutPrefix_con.φ x=denF Tryz.prog qa2 qa3 Tryz.f243 internalstringsliteCutPrefix_con.ps internalstringsliteCutPrefix_con.one internalstringsliteCutPrefix_con.res internalstringsliteCutPrefix_con.ρ x:=by kernel_rfl
theorem qdY:ConOK Tryz.prog 243 internalstringsliteCutPrefix_con :=
  qa (env:=qa2) ((EnvOK.cons (EnvOK.nil _) qdV)) mixed Tryz.func243 internalstringsliteCutPrefix_con qa3 (by kernel_rfl) (fun h=>by first | rfl | cases h) (fun g hg=>by cases hg) qdF
def qeO:Ann := .nil
noncomputable def stringsCutPrefix_con:Con:=⟨[.str,.str],false,[.str,.bool],(.st .str (.st .bool .nil)),fun x=>qap x.1 x.2.1,none⟩
noncomputable def qeL:Env:=(243,.con internalstringsliteCutPrefix_con)::[]
theorem qke (x:DL stringsCutPrefix_con.ps):stringsCutPrefix_con.φ x=denF Tryz.prog qeL qeO Tryz.f210 stringsCutPrefix_con.ps stringsCutPrefix_con.one stringsCutPrefix_con.res stringsCutPrefix_con.ρ x:=by kernel_rfl
theorem qlk:ConOK Tryz.prog 210 stringsCutPrefix_con :=
  qa (env:=qeL) ((EnvOK.cons (EnvOK.nil _) qdY)) mixed Tryz.func210 stringsCutPrefix_con qeO (by kernel_rfl) (fun h=>by first | rfl | cases h) (fun g hg=>by cases hg) qke
end Go.Proofs.YtijkabgijfdpfaaGreatDoor

