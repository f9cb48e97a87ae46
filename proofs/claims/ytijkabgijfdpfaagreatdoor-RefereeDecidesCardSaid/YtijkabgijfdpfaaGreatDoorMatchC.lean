/- Contracts: Match. No condition of its own. -/
import Derived.Test.YtijkabgijfdpfaaGreatDoorMAA
import Derived.Test.YtijkabgijfdpfaaGreatDoorMAI
import Derived.Test.YtijkabgijfdpfaaGreatDoorMAE
import Derived.Test.YtijkabgijfdpfaaGreatDoorGameC
namespace Go.Proofs.YtijkabgijfdpfaaGreatDoor
open Go.Den
set_option linter.unusedVariables false
set_option maxRecDepth 100000
def qko:Ann:=(.two .nil (.two .nil (.two (.two .nil (.join ⟨[],[(3,(.osl 9 .str))],[]⟩ (.two (.loop ⟨[23],[(3,(.osl 9 .str)),(24,Zt68)],[]⟩ .nil) .nil))) .nil)))
noncomputable def matchEntry_con:Con:=⟨[Zt34],true,[],.str,fun x=>qjY x.1,none⟩
noncomputable def qks:Env:=(90,.con qp5)::(49,.con qg9)::[]
theorem qq4 (x:DL matchEntry_con.ps):matchEntry_con.φ x=denF Tryz.prog qks qko Tryz.f28 matchEntry_con.ps matchEntry_con.one matchEntry_con.res matchEntry_con.ρ x:=by kernel_rfl
theorem qsW:ConOK Tryz.prog 28 matchEntry_con :=
  qc (env:=qks) ((EnvOK.cons (EnvOK.cons (EnvOK.nil _) qmE) joinS_ok)) mixed Tryz.func28 matchEntry_con qko (by kernel_rfl) (fun h=>by first | rfl | cases h) (fun g hg=>by cases hg) qq4
def qiN:Ann := .nil
noncomputable def clockWithin_con:Con:=⟨[Zt68,Zt68,Zt68],true,[],.bool,fun x=>qhB x.1 x.2.1 x.2.2.1,some fun x=>qf x.1 x.2.1 x.2.2.1⟩
noncomputable def qiR:Env:=[]
theorem qpT (x:DL clockWithin_con.ps):clockWithin_con.φ x=denF Tryz.prog qiR qiN Tryz.f54 clockWithin_con.ps clockWithin_con.one clockWithin_con.res clockWithin_con.ρ x:=by kernel_rfl
theorem qcx:ConOK Tryz.prog 54 clockWithin_con :=
  qc (env:=qiR) ((EnvOK.nil _)) mixed Tryz.func54 clockWithin_con qiN (by kernel_rfl) (fun h=>by first | rfl | cases h) (fun g hg x=>by
    cases hg
    exact qq8 _ _ _) qpT
def qkg:Ann:=(.two .nil (.two .nil (.two .nil (.two (.two .nil (.joinE ⟨[],[],[]⟩ (.two (.loop ⟨[1,21,22],[(23,Zt68)],[]⟩ .nil) .nil))) .nil))))
noncomputable def clockCheck_con:Con:=⟨[Zt45],true,[],Zt68,fun x=>qdZ x.1,none⟩
noncomputable def qkr:Env:=(159,.ck 197)::(54,.con clockWithin_con)::[]
theorem qrc (x:DL clockCheck_con.ps):clockCheck_con.φ x=denF Tryz.prog qkr qkg Tryz.f105 clockCheck_con.ps clockCheck_con.one clockCheck_con.res clockCheck_con.ρ x:=by kernel_rfl
theorem qne:ConOK Tryz.prog 105 clockCheck_con :=
  qc (env:=qkr) ((EnvOK.check (EnvOK.cons (EnvOK.nil _) qcx) qd)) mixed Tryz.func105 clockCheck_con qkg (by kernel_rfl) (fun h=>by first | rfl | cases h) (fun g hg=>by cases hg) qrc
def qkF:Ann:=(.two .nil (.two .nil (.two .nil (.two (.two .nil (.join ⟨[],[(6,.bool)],[]⟩ (.two (.loop ⟨[2,3],[(6,.bool),(26,Zt68)],[]⟩ .nil) .nil))) .nil))))
noncomputable def clockValid_con:Con:=⟨[Zt45,Zt24],true,[],Zt68,fun x=>qjK x.1 x.2.1,none⟩
noncomputable def qkM:Env:=(54,.con clockWithin_con)::(105,.con clockCheck_con)::[]
theorem qqZ (x:DL clockValid_con.ps):clockValid_con.φ x=denF Tryz.prog qkM qkF Tryz.f99 clockValid_con.ps clockValid_con.one clockValid_con.res clockValid_con.ρ x:=by kernel_rfl
theorem qts:ConOK Tryz.prog 99 clockValid_con :=
  qc (env:=qkM) ((EnvOK.cons (EnvOK.cons (EnvOK.nil _) qne) qcx)) mixed Tryz.func99 clockValid_con qkF (by kernel_rfl) (fun h=>by first | rfl | cases h) (fun g hg=>by cases hg) qqZ
def qmg:Ann := .nil
noncomputable def clockUsed_con:Con:=⟨[Zt45,Zt24,Zt68],true,[],Zt68,fun x=>qlE x.1 x.2.1 x.2.2.1,some fun x=>qB x.1 x.2.1 x.2.2.1⟩
noncomputable def qmn:Env:=[]
theorem qti (x:DL clockUsed_con.ps):clockUsed_con.φ x=denF Tryz.prog qmn qmg Tryz.f55 clockUsed_con.ps clockUsed_con.one clockUsed_con.res clockUsed_con.ρ x:=by kernel_rfl
theorem qiy:ConOK Tryz.prog 55 clockUsed_con :=
  qc (env:=qmn) ((EnvOK.nil _)) mixed Tryz.func55 clockUsed_con qmg (by kernel_rfl) (fun h=>by first | rfl | cases h) (fun g hg x=>by
    cases hg
    exact qt7 _ _ _) qti
def qlR:Ann:=(.two .nil (.two .nil (.two .nil (.two (.two .nil (.join ⟨[4,6],[],[(1,some (.box Zt27))]⟩ .nil)) .nil))))
noncomputable def clockLook_con:Con:=⟨[Zt45,Zt24,Zt68],false,[Zt24,Zt68],Zt22,fun x=>qai x.1 x.2.1 x.2.2.1,none⟩
noncomputable def qlW:Env:=(55,.con clockUsed_con)::(54,.con clockWithin_con)::(99,.con clockValid_con)::(159,.ck 197)::[]
theorem qtq (x:DL clockLook_con.ps):clockLook_con.φ x=denF Tryz.prog qlW qlR Tryz.f40 clockLook_con.ps clockLook_con.one clockLook_con.res clockLook_con.ρ x:=by kernel_rfl
theorem qb2:ConOK Tryz.prog 40 clockLook_con :=
  qc (env:=qlW) ((EnvOK.cons (EnvOK.cons (EnvOK.cons (EnvOK.check (EnvOK.nil _) qd) qts) qcx) qiy)) mixed Tryz.func40 clockLook_con qlR (by kernel_rfl) (fun h=>by first | rfl | cases h) (fun g hg=>by cases hg) qtq
def qeT:Ann := .nil
noncomputable def slicesClone_Move_con:Con:=⟨[Zt57],true,[],Zt55,fun x=>qcJ x.1,none⟩
noncomputable def qeW:Env:=[]
theorem qj8 (x:DL slicesClone_Move_con.ps):slicesClone_Move_con.φ x=denF Tryz.prog qeW qeT Tryz.f119 slicesClone_Move_con.ps slicesClone_Move_con.one slicesClone_Move_con.res slicesClone_Move_con.ρ x:=by kernel_rfl
theorem qla:ConOK Tryz.prog 119 slicesClone_Move_con :=
  qc (env:=qeW) ((EnvOK.nil _)) mixed Tryz.func119 slicesClone_Move_con qeT (by kernel_rfl) (fun h=>by first | rfl | cases h) (fun g hg=>by cases hg) qj8
def qgm:Ann := .nil
noncomputable def plainGameMoves_con:Con:=⟨[Zt13],true,[],Zt55,fun x=>qx x.1,none⟩
noncomputable def qge:Env:=(119,.con slicesClone_Move_con)::[]
theorem qnj (x:DL plainGameMoves_con.ps):plainGameMoves_con.φ x=denB Tryz.prog qge qgm Tryz.f52 true plainGameMoves_con.ps plainGameMoves_con.one plainGameMoves_con.res plainGameMoves_con.ρ x:=by kernel_rfl
theorem qcr:qrH Tryz.prog 52 plainGameMoves_con :=
  qmD (env:=qge) ((EnvOK.cons (EnvOK.nil _) qla)) mixed Tryz.func52 plainGameMoves_con qgm (by kernel_rfl) (fun h=>by first | rfl | cases h) (fun g hg=>by cases hg) qnj
def qk0:Ann := .nil
noncomputable def clockReady_con:Con:=⟨[Zt45,Zt24,Zt68,.bool],false,[Zt24,Zt68],Zt22,fun x=>qj0 x.1 x.2.1 x.2.2.1 x.2.2.2.1,none⟩
noncomputable def qkG:Env:=(40,.con clockLook_con)::(159,.ck 197)::[]
theorem qrf (x:DL clockReady_con.ps):clockReady_con.φ x=denF Tryz.prog qkG qk0 Tryz.f201 clockReady_con.ps clockReady_con.one clockReady_con.res clockReady_con.ρ x:=by kernel_rfl
theorem qsS:ConOK Tryz.prog 201 clockReady_con :=
  qc (env:=qkG) ((EnvOK.cons (EnvOK.check (EnvOK.nil _) qd) qb2)) mixed Tryz.func201 clockReady_con qk0 (by kernel_rfl) (fun h=>by first | rfl | cases h) (fun g hg=>by cases hg) qrf
def qkN:Ann:=(.two .nil (.two .nil (.two .nil (.two .nil (.two (.tail 16 .nil) (.two .nil (.two (.two .nil (.two .nil (.join ⟨[2,4,6,9],[],[(1,some (.box Zt27))]⟩ (.two (.two .nil (.two .nil (.tail 18 .nil))) .nil)))) .nil)))))))
noncomputable def clockPress_con:Con:=⟨[Zt45,Zt24,Zt68],false,[Zt24,Zt68],Zt22,fun x=>qgT x.1 x.2.1 x.2.2.1,none⟩
noncomputable def qkY:Env:=(55,.con clockUsed_con)::(201,.con clockReady_con)::(159,.ck 197)::[]
theorem qqU (x:DL clockPress_con.ps):clockPress_con.φ x=denF Tryz.prog qkY qkN Tryz.f145 clockPress_con.ps clockPress_con.one clockPress_con.res clockPress_con.ρ x:=by kernel_rfl
theorem qng:ConOK Tryz.prog 145 clockPress_con :=
  qc (env:=qkY) ((EnvOK.cons (EnvOK.cons (EnvOK.check (EnvOK.nil _) qd) qsS) qiy)) mixed Tryz.func145 clockPress_con qkN (by kernel_rfl) (fun h=>by first | rfl | cases h) (fun g hg=>by cases hg) qqU
def qk1:Ann:=(.two .nil (.two (.two .nil (.joinE ⟨[],[],[]⟩ (.two (.loop ⟨[1,8],[(9,Zt68)],[]⟩ (.two .nil (.two .nil (.two (.joinE ⟨[1,8,9],[],[]⟩ (.two (.two .nil (.two (.two (.join ⟨[1,3,4,8,9],[(16,Zt61),(17,Zt68)],[]⟩ .nil) (.joinE ⟨[1,3,4,8,9],[],[]⟩ (.two (.loop ⟨[1,3,4,8,9,16],[(17,Zt68)],[]⟩ .nil) .nil))) (.two .nil (.two (.join ⟨[1,8,9],[(43,.bool)],[]⟩ .nil) .nil)))) .nil)) .nil)))) .nil))) .nil))
noncomputable def offerCheck_con:Con:=⟨[Zt31],true,[],Zt68,fun x=>qjM x.1,none⟩
noncomputable def qkj:Env:=[]
theorem qrk (x:DL offerCheck_con.ps):offerCheck_con.φ x=denF Tryz.prog qkj qk1 Tryz.f202 offerCheck_con.ps offerCheck_con.one offerCheck_con.res offerCheck_con.ρ x:=by kernel_rfl
theorem qsE:ConOK Tryz.prog 202 offerCheck_con :=
  qc (env:=qkj) ((EnvOK.nil _)) mixed Tryz.func202 offerCheck_con qk1 (by kernel_rfl) (fun h=>by first | rfl | cases h) (fun g hg=>by cases hg) qrk
def qib:Ann := .nil
noncomputable def offerCheck_i_con:Con:=⟨[Zt31,Zt68,Zt68,Zt68],true,[],Zt68,fun x=>qb9 x.1 x.2.1 x.2.2.1 x.2.2.2.1,none⟩
noncomputable def qie:Env:=(202,.con offerCheck_con)::[]
theorem qoV (x:DL offerCheck_i_con.ps):offerCheck_i_con.φ x=denF Tryz.prog qie qib Tryz.f148 offerCheck_i_con.ps offerCheck_i_con.one offerCheck_i_con.res offerCheck_i_con.ρ x:=by kernel_rfl
theorem qdE:ConOK Tryz.prog 148 offerCheck_i_con :=
  qc (env:=qie) ((EnvOK.cons (EnvOK.nil _) qsE)) mixed Tryz.func148 offerCheck_i_con qib (by kernel_rfl) (fun h=>by first | rfl | cases h) (fun g hg=>by cases hg) qoV
def qmB:Ann:=(.two .nil (.two .nil (.two (.two .nil (.join ⟨[2,4],[],[(0,some (.box Zt42))]⟩ .nil)) .nil)))
noncomputable def offerMove_con:Con:=⟨[Zt31,Zt68],false,[Zt31,Zt68],Zt26,fun x=>qft x.1 x.2.1,none⟩
noncomputable def qlS:Env:=(148,.con offerCheck_i_con)::(159,.ck 197)::[]
theorem qsC (x:DL offerMove_con.ps):offerMove_con.φ x=denF Tryz.prog qlS qmB Tryz.f146 offerMove_con.ps offerMove_con.one offerMove_con.res offerMove_con.ρ x:=by kernel_rfl
theorem qn9:ConOK Tryz.prog 146 offerMove_con :=
  qc (env:=qlS) ((EnvOK.cons (EnvOK.check (EnvOK.nil _) qd) qdE)) mixed Tryz.func146 offerMove_con qmB (by kernel_rfl) (fun h=>by first | rfl | cases h) (fun g hg=>by cases hg) qsC
def qf2:Ann:=(.two .nil (.two .nil (.two (.tail 5 .nil) (.two (.any 262143 0 (.ord 0 0 .nil (.ord 1 0 .nil (.ord 2 0 .nil (.ord 3 0 .nil (.ord 4 2031 .nil (.ord 5 0 .nil (.ord 6 0 .nil (.ord 7 0 .nil (.ord 8 0 .nil (.ord 9 1535 .nil (.ord 10 0 .nil (.ord 11 0 .nil (.ord 12 0 .nil (.ord 13 0 .nil (.ord 14 0 .nil (.ord 15 0 .nil (.ord 16 0 .nil (.ord 17 0 .nil (.ord 18 0 .nil .nil)))))))))))))))))))) .nil))))
noncomputable def matchMatchMove_con:Ioc:=⟨Zt1,[Zt58,Zt68],false,[],.nil,fun x=>qaK x.1 x.2.1 x.2.2.1⟩
noncomputable def qfZ:Env:=(146,.con offerMove_con)::(145,.con clockPress_con)::(71,.io plainGamePlay_con)::(72,.rd plainGamePosition_con)::(167,.body Tryz.f167)::[]
theorem qmk (x:DL (Zt1::[Zt58,Zt68])):matchMatchMove_con.φ x=denIO Tryz.prog qfZ qf2 Tryz.f170 Zt1 [Zt58,Zt68] false [] .nil x:=by kernel_rfl
theorem qnY:IocOK Tryz.prog 170 matchMatchMove_con :=
  qac (env:=qfZ) ((EnvOK.cons (EnvOK.cons (EnvOK.inout (EnvOK.readonly (EnvOK.body (EnvOK.nil _) Tryz.func167) qag) qoX) qng) qn9)) mixed Tryz.func170 matchMatchMove_con qf2 (by kernel_rfl) (fun h=>by first | rfl | cases h) qmk
def qnh:Ann:=(.two .nil (.two .nil (.two (.two .nil (.join ⟨[],[(5,Zt55)],[]⟩ (.two (.loop ⟨[1,8,9],[(5,Zt55),(10,Zt68)],[]⟩ (.two .nil (.two .nil (.two (.two (.two .nil (.two .nil (.join ⟨[1,8,9,10],[(5,Zt55)],[(0,none)]⟩ .nil))) .nil) .nil)))) .nil))) .nil)))
noncomputable def premoveOf_con:Con:=⟨[Zt46,Zt68],true,[],Zt55,fun x=>qhg x.1 x.2.1,none⟩
noncomputable def qm2:Env:=(159,.ck 197)::[]
theorem qsM (x:DL premoveOf_con.ps):premoveOf_con.φ x=denF Tryz.prog qm2 qnh Tryz.f222 premoveOf_con.ps premoveOf_con.one premoveOf_con.res premoveOf_con.ρ x:=by kernel_rfl
theorem qoJ:ConOK Tryz.prog 222 premoveOf_con :=
  qc (env:=qm2) ((EnvOK.check (EnvOK.nil _) qd)) mixed Tryz.func222 premoveOf_con qnh (by kernel_rfl) (fun h=>by first | rfl | cases h) (fun g hg=>by cases hg) qsM
def qig:Ann:=(.two .nil (.two (.two (.join ⟨[0],[(12,.bool)],[]⟩ .nil) .nil) (.two (.two (.two (.two .nil (.two (.two (.two .nil (.two (.two .nil (.joinE ⟨[],[],[]⟩ (.two (.loop ⟨[0,1,7],[(8,Zt68)],[]⟩ .nil) .nil))) .nil)) .nil) .nil)) .nil) .nil) .nil)))
noncomputable def premoveCheck_con:Con:=⟨[Zt46],true,[],Zt68,fun x=>qeq x.1,none⟩
noncomputable def qh6:Env:=(260,.body Tryz.f260)::(252,.body Tryz.f252)::(259,.body Tryz.f259)::(222,.con premoveOf_con)::[]
theorem qoP (x:DL premoveCheck_con.ps):premoveCheck_con.φ x=denF Tryz.prog qh6 qig Tryz.f221 premoveCheck_con.ps premoveCheck_con.one premoveCheck_con.res premoveCheck_con.ρ x:=by kernel_rfl
theorem qji:ConOK Tryz.prog 221 premoveCheck_con :=
  qc (env:=qh6) ((EnvOK.body (EnvOK.body (EnvOK.body (EnvOK.cons (EnvOK.nil _) qoJ) Tryz.func259) Tryz.func252) Tryz.func260)) mixed Tryz.func221 premoveCheck_con qig (by kernel_rfl) (fun h=>by first | rfl | cases h) (fun g hg=>by cases hg) qoP
def qgo:Ann := .nil
noncomputable def premoveCheck_i_con:Con:=⟨[Zt21,Zt40,Zt46],true,[],Zt68,fun x=>qef x.1 x.2.1 x.2.2.1,none⟩
noncomputable def qgn:Env:=(221,.con premoveCheck_con)::(74,.con placeCheck_con)::[]
theorem qnf (x:DL premoveCheck_i_con.ps):premoveCheck_i_con.φ x=denF Tryz.prog qgn qgo Tryz.f218 premoveCheck_i_con.ps premoveCheck_i_con.one premoveCheck_i_con.res premoveCheck_i_con.ρ x:=by kernel_rfl
theorem qnP:ConOK Tryz.prog 218 premoveCheck_i_con :=
  qc (env:=qgn) ((EnvOK.cons (EnvOK.cons (EnvOK.nil _) qe3) qji)) mixed Tryz.func218 premoveCheck_i_con qgo (by kernel_rfl) (fun h=>by first | rfl | cases h) (fun g hg=>by cases hg) qnf
def qci:Ann := .nil
noncomputable def slicesClone_PremoveMove_con:Con:=⟨[Zt46],true,[],Zt43,fun x=>qz x.1,none⟩
noncomputable def qcd:Env:=[]
theorem qfs (x:DL slicesClone_PremoveMove_con.ps):slicesClone_PremoveMove_con.φ x=denF Tryz.prog qcd qci Tryz.f53 slicesClone_PremoveMove_con.ps slicesClone_PremoveMove_con.one slicesClone_PremoveMove_con.res slicesClone_PremoveMove_con.ρ x:=by kernel_rfl
theorem qaY:ConOK Tryz.prog 53 slicesClone_PremoveMove_con :=
  qc (env:=qcd) ((EnvOK.nil _)) mixed Tryz.func53 slicesClone_PremoveMove_con qci (by kernel_rfl) (fun h=>by first | rfl | cases h) (fun g hg=>by cases hg) qfs
def qfX:Ann:=(.two .nil (.two (.two (.two .nil (.two (.two (.two .nil (.two (.two .nil (.joinE ⟨[],[],[]⟩ (.two (.loop ⟨[0,1,7],[(8,Zt68)],[]⟩ .nil) .nil))) .nil)) .nil) (.sel 2 1000004 (.two .nil (.two (.two .nil (.join ⟨[0],[(5,Zt68)],[(1,some (.arr 139 Zt47))]⟩ (.two (.loop ⟨[0,1],[(5,Zt68),(6,Zt68)],[(1,some (.arr 139 Zt47))]⟩ (.two .nil (.two (.two (.two .nil (.two .nil (.join ⟨[0,1,6],[(5,Zt68)],[(1,some (.arr 139 Zt47))]⟩ .nil))) .nil) .nil))) .nil))) (.two (.own .nil) (.two (.own .nil) .nil)))) .nil))) .nil) .nil))
noncomputable def premoveWithout_con:Con:=⟨[Zt46,Zt68],true,[],Zt43,fun x=>qcz x.1 x.2.1,none⟩
noncomputable def qgr:Env:=(159,.ck 197)::(289,.body Tryz.f289)::(252,.body Tryz.f252)::(288,.body Tryz.f288)::(53,.con slicesClone_PremoveMove_con)::[]
theorem qmr (x:DL premoveWithout_con.ps):premoveWithout_con.φ x=denF Tryz.prog qgr qfX Tryz.f254 premoveWithout_con.ps premoveWithout_con.one premoveWithout_con.res premoveWithout_con.ρ x:=by kernel_rfl
theorem qnU:ConOK Tryz.prog 254 premoveWithout_con :=
  qc (env:=qgr) ((EnvOK.check (EnvOK.body (EnvOK.body (EnvOK.body (EnvOK.cons (EnvOK.nil _) qaY) Tryz.func288) Tryz.func252) Tryz.func289) qd)) mixed Tryz.func254 premoveWithout_con qfX (by kernel_rfl) (fun h=>by first | rfl | cases h) (fun g hg=>by cases hg) qmr
def qbX:Ann:=(.two .nil (.two .nil (.two (.two .nil (.join ⟨[0],[(3,Zt68)],[]⟩ (.two (.loop ⟨[0,9,10],[(3,Zt68),(11,Zt68)],[]⟩ .nil) .nil))) (.two (.two (.two .nil (.two .nil (.two (.two .nil (.two .nil (.join ⟨[],[(0,Zt43)],[]⟩ (.two (.own (.own .nil)) .nil)))) .nil))) .nil) (.two (.two .nil (.join ⟨[],[(6,Zt43)],[(0,none)]⟩ (.two (.loop ⟨[25,26],[(6,Zt43),(27,Zt68)],[(0,none)]⟩ .nil) .nil))) .nil)))))
noncomputable def slicesConcat_PremoveMove_con:Con:=⟨[(.sl Zt46)],true,[],Zt43,fun x=>qax x.1,none⟩
noncomputable def qbV:Env:=(290,.body Tryz.f290)::[]
theorem qe8 (x:DL slicesConcat_PremoveMove_con.ps):slicesConcat_PremoveMove_con.φ x=denF Tryz.prog qbV qbX Tryz.f255 slicesConcat_PremoveMove_con.ps slicesConcat_PremoveMove_con.one slicesConcat_PremoveMove_con.res slicesConcat_PremoveMove_con.ρ x:=by kernel_rfl
theorem qfC:ConOK Tryz.prog 255 slicesConcat_PremoveMove_con :=
  qc (env:=qbV) ((EnvOK.body (EnvOK.nil _) Tryz.func290)) mixed Tryz.func255 slicesConcat_PremoveMove_con qbX (by kernel_rfl) (fun h=>by first | rfl | cases h) (fun g hg=>by cases hg) qe8
def qis:Ann:=(.two .nil (.two (.two (.two .nil (.two (.two .nil (.joinE ⟨[],[],[]⟩ (.two (.loop ⟨[0,1,7],[(8,Zt68)],[]⟩ .nil) .nil))) .nil)) .nil) (.sel 3 1000004 (.two (.two (.join ⟨[2,4,6,9],[(26,.bool)],[]⟩ (.any 16351 32 (.ord 0 0 .nil (.ord 1 0 .nil (.ord 2 0 .nil (.ord 3 2007 .nil (.ord 4 1999 .nil (.ord 6 0 .nil (.ord 7 0 .nil (.ord 8 0 .nil (.ord 9 0 .nil (.ord 10 1023 .nil (.ord 5 0 .nil (.ord 11 0 .nil (.ord 12 0 .nil (.ord 13 0 .nil .nil)))))))))))))))) .nil) (.two (.any 102399 12288 (.ord 0 0 .nil (.ord 1 0 .nil (.ord 2 0 .nil (.ord 3 0 .nil (.ord 4 16367 .nil (.ord 5 0 .nil (.ord 6 0 .nil (.ord 7 0 .nil (.ord 8 0 .nil (.ord 9 0 .nil (.ord 10 0 .nil (.ord 11 0 .nil (.ord 12 0 .nil (.ord 13 0 .nil (.ord 14 0 .nil (.ord 15 0 .nil (.ord 16 0 .nil .nil)))))))))))))))))) .nil)) (.two (.two (.any 16351 32 (.ord 0 0 .nil (.ord 1 0 .nil (.ord 2 0 .nil (.ord 3 2007 .nil (.ord 4 1999 .nil (.ord 6 0 .nil (.ord 7 0 .nil (.ord 8 0 .nil (.ord 9 0 .nil (.ord 10 1023 .nil (.ord 5 0 .nil (.ord 11 0 .nil (.ord 12 0 .nil (.ord 13 0 .nil .nil))))))))))))))) .nil) .nil))))
noncomputable def premoveNext_con:Con:=⟨[Zt21,Zt40,Zt46],false,[Zt58,.bool,Zt43],(.st Zt58 (.st .bool (.st Zt43 .nil))),fun x=>qhj x.1 x.2.1 x.2.2.1,none⟩
noncomputable def qiL:Env:=(255,.con slicesConcat_PremoveMove_con)::(254,.con premoveWithout_con)::(98,.con slicesContains_Move_con)::(168,.con endsMoves_con)::(253,.body Tryz.f253)::(252,.body Tryz.f252)::(159,.ck 197)::[]
theorem qqd (x:DL premoveNext_con.ps):premoveNext_con.φ x=denF Tryz.prog qiL qis Tryz.f219 premoveNext_con.ps premoveNext_con.one premoveNext_con.res premoveNext_con.ρ x:=by kernel_rfl
theorem qrh:ConOK Tryz.prog 219 premoveNext_con :=
  qc (env:=qiL) ((EnvOK.cons (EnvOK.cons (EnvOK.cons (EnvOK.cons (EnvOK.body (EnvOK.body (EnvOK.check (EnvOK.nil _) qd) Tryz.func252) Tryz.func253) qoH) qah) qnU) qfC)) mixed Tryz.func219 premoveNext_con qis (by kernel_rfl) (fun h=>by first | rfl | cases h) (fun g hg=>by cases hg) qqd
def qg6:Ann := .nil
noncomputable def premoveNext_i_con:Con:=⟨[Zt21,Zt40,Zt46],false,[Zt58,.bool,Zt43,Zt68],(.st Zt58 (.st .bool Zt39)),fun x=>qbw x.1 x.2.1 x.2.2.1,none⟩
noncomputable def qgW:Env:=(219,.con premoveNext_con)::(218,.con premoveCheck_i_con)::(159,.ck 197)::[]
theorem qnK (x:DL premoveNext_i_con.ps):premoveNext_i_con.φ x=denF Tryz.prog qgW qg6 Tryz.f171 premoveNext_i_con.ps premoveNext_i_con.one premoveNext_i_con.res premoveNext_i_con.ρ x:=by kernel_rfl
theorem qoU:ConOK Tryz.prog 171 premoveNext_i_con :=
  qc (env:=qgW) ((EnvOK.cons (EnvOK.cons (EnvOK.check (EnvOK.nil _) qd) qnP) qrh)) mixed Tryz.func171 premoveNext_i_con qg6 (by kernel_rfl) (fun h=>by first | rfl | cases h) (fun g hg=>by cases hg) qnK
def qes:Ann:=(.ord 14 0 .nil (.ord 15 0 .nil (.ord 16 0 .nil (.ord 17 0 .nil (.ord 18 0 .nil (.ord 19 0 .nil (.ord 21 0 .nil (.ord 22 0 .nil (.ord 23 0 .nil (.ord 24 0 .nil .nil))))))))))
def qeR:Ann:=(.two .nil (.two (.two (.two (.join ⟨[0,3],[(9,.bool)],[]⟩ (.any 61 0 (.ord 0 0 .nil (.ord 2 0 .nil (.alt (.ord 1 0 .nil (.ord 3 0 .nil (.ord 4 0 .nil (.ord 5 0 .nil .nil)))) (.ord 3 0 .nil (.ord 1 0 .nil (.ord 4 0 .nil (.ord 5 0 .nil .nil))))))))) (.two .nil (.two (.any 31999 768 (.ord 0 0 .nil (.ord 1 0 .nil (.ord 2 0 .nil (.ord 3 3575 .nil (.ord 4 0 .nil (.ord 5 0 .nil (.ord 6 0 .nil (.ord 7 3199 .nil (.ord 10 0 .nil (.ord 11 2047 .nil (.ord 8 0 .nil (.ord 9 0 .nil (.ord 12 0 .nil (.ord 13 0 .nil (.ord 14 0 .nil .nil)))))))))))))))) .nil))) .nil) (.two .nil (.two (.join ⟨[],[],[(0,some (.box Zt2)),(10,none),(11,none),(12,none)]⟩ (.two (.loop ⟨[0,3],[],[(0,some (.box Zt2)),(10,none),(11,none),(12,none)]⟩ (.two (.two (.join ⟨[0,3],[(50,.bool)],[]⟩ .nil) .nil) (.two (.two (.join ⟨[0,3],[(5,(.obx Zt58)),(6,.bool),(7,Zt43)],[]⟩ (.any 30392063 1065216 (.ord 0 0 .nil (.ord 1 0 .nil (.ord 2 0 .nil (.ord 3 1064951 .nil (.ord 4 0 .nil (.ord 5 0 .nil (.ord 6 0 .nil (.ord 7 1064575 .nil (.ord 9 0 .nil (.ord 10 0 .nil (.ord 11 0 .nil (.ord 12 0 .nil (.ord 13 1056767 .nil (.alt (.ord 8 0 .nil (.alt (.ord 14 0 .nil (.ord 15 0 .nil (.ord 16 0 .nil (.ord 17 0 .nil (.ord 18 0 .nil (.ord 19 0 .nil (.ord 20 0 .nil (.ord 21 0 .nil (.ord 22 0 .nil (.ord 23 0 .nil (.ord 24 0 .nil .nil))))))))))) (.ord 20 0 .nil qes))) (.ord 20 0 .nil (.ord 8 0 .nil qes)))))))))))))))))) .nil) .nil))) .nil)) .nil))))
noncomputable def matchMatchDoMove_con:Ioc:=⟨Zt1,[Zt34],true,[],Zt68,fun x=>qaZ x.1 x.2.1⟩
noncomputable def qe0:Env:=(159,.ck 197)::(171,.con premoveNext_i_con)::(73,.rd plainGameResult_con)::(170,.io matchMatchMove_con)::(52,.rd plainGameMoves_con)::(169,.body Tryz.f169)::(98,.con slicesContains_Move_con)::(168,.con endsMoves_con)::(72,.rd plainGamePosition_con)::(167,.body Tryz.f167)::[]
theorem qj9 (x:DL (Zt1::[Zt34])):matchMatchDoMove_con.φ x=denIO Tryz.prog qe0 qeR Tryz.f114 Zt1 [Zt34] true [] Zt68 x:=by kernel_rfl
theorem qli:IocOK Tryz.prog 114 matchMatchDoMove_con :=
  qac (env:=qe0) ((EnvOK.check (EnvOK.cons (EnvOK.readonly (EnvOK.inout (EnvOK.readonly (EnvOK.body (EnvOK.cons (EnvOK.cons (EnvOK.readonly (EnvOK.body (EnvOK.nil _) Tryz.func167) qag) qoH) qah) Tryz.func169) qcr) qnY) qc2) qoU) qd)) mixed Tryz.func114 matchMatchDoMove_con qeR (by kernel_rfl) (fun h=>by first | rfl | cases h) qj9
def qm7:Ann := .nil
noncomputable def offerTurn_con:Con:=⟨[Zt68],true,[],Zt68,fun x=>qlB x.1,some fun x=>qi8 x.1⟩
noncomputable def qmd:Env:=[]
theorem qs8 (x:DL offerTurn_con.ps):offerTurn_con.φ x=denF Tryz.prog qmd qm7 Tryz.f203 offerTurn_con.ps offerTurn_con.one offerTurn_con.res offerTurn_con.ρ x:=by kernel_rfl
theorem qtL:ConOK Tryz.prog 203 offerTurn_con :=
  qc (env:=qmd) ((EnvOK.nil _)) mixed Tryz.func203 offerTurn_con qm7 (by kernel_rfl) (fun h=>by first | rfl | cases h) (fun g hg x=>by
    cases hg
    exact quA _) qs8
def qky:Ann:=(.two .nil (.two .nil (.two (.two .nil (.join ⟨[0,1],[(5,Zt68)],[]⟩ .nil)) .nil)))
noncomputable def offerPlies_con:Con:=⟨[Zt68,Zt68],true,[],Zt68,fun x=>qcW x.1 x.2.1,none⟩
noncomputable def qkA:Env:=(203,.con offerTurn_con)::[]
theorem qrb (x:DL offerPlies_con.ps):offerPlies_con.φ x=denF Tryz.prog qkA qky Tryz.f149 offerPlies_con.ps offerPlies_con.one offerPlies_con.res offerPlies_con.ρ x:=by kernel_rfl
theorem qhx:ConOK Tryz.prog 149 offerPlies_con :=
  qc (env:=qkA) ((EnvOK.cons (EnvOK.nil _) qtL)) mixed Tryz.func149 offerPlies_con qky (by kernel_rfl) (fun h=>by first | rfl | cases h) (fun g hg=>by cases hg) qrb
def qmq:Ann:=(.two .nil (.two .nil (.two (.two (.two .nil (.two .nil (.two .nil (.two .nil (.two (.join ⟨[1,2,3,4,8],[(28,.bool)],[]⟩ .nil) .nil))))) .nil) (.two (.join ⟨[4,8],[],[(0,some (.box Zt42))]⟩ (.any 1919 0 (.ord 0 0 .nil (.ord 1 0 .nil (.ord 2 0 .nil (.ord 3 0 .nil (.ord 4 0 .nil (.ord 5 0 .nil (.ord 6 0 .nil (.ord 8 0 .nil (.ord 9 0 .nil (.ord 7 0 .nil (.ord 10 0 .nil (.ord 11 0 .nil .nil)))))))))))))) .nil))))
noncomputable def offerMake_con:Con:=⟨[Zt31,Zt68,Zt68,Zt68],false,[Zt31,Zt68],Zt26,fun x=>qcw x.1 x.2.1 x.2.2.1 x.2.2.2.1,none⟩
noncomputable def qnk:Env:=(149,.con offerPlies_con)::(148,.con offerCheck_i_con)::(159,.ck 197)::[]
theorem qtd (x:DL offerMake_con.ps):offerMake_con.φ x=denF Tryz.prog qnk qmq Tryz.f83 offerMake_con.ps offerMake_con.one offerMake_con.res offerMake_con.ρ x:=by kernel_rfl
theorem qoN:ConOK Tryz.prog 83 offerMake_con :=
  qc (env:=qnk) ((EnvOK.cons (EnvOK.cons (EnvOK.check (EnvOK.nil _) qd) qdE) qhx)) mixed Tryz.func83 offerMake_con qmq (by kernel_rfl) (fun h=>by first | rfl | cases h) (fun g hg=>by cases hg) qtd
def qnc:Ann := .nil
noncomputable def offerOpen_con:Con:=⟨[Zt31,Zt68,Zt68,Zt68],true,[],Zt68,fun x=>qi2 x.1 x.2.1 x.2.2.1 x.2.2.2.1,none⟩
noncomputable def ql5:Env:=(148,.con offerCheck_i_con)::[]
theorem qsr (x:DL offerOpen_con.ps):offerOpen_con.φ x=denF Tryz.prog ql5 qnc Tryz.f152 offerOpen_con.ps offerOpen_con.one offerOpen_con.res offerOpen_con.ρ x:=by kernel_rfl
theorem qoq:ConOK Tryz.prog 152 offerOpen_con :=
  qc (env:=ql5) ((EnvOK.cons (EnvOK.nil _) qdE)) mixed Tryz.func152 offerOpen_con qnc (by kernel_rfl) (fun h=>by first | rfl | cases h) (fun g hg=>by cases hg) qsr
def qia:Ann := .nil
noncomputable def offerDecline_con:Con:=⟨[Zt31,Zt68,Zt68,Zt68],false,[Zt31,Zt68],Zt26,fun x=>qaM x.1 x.2.1 x.2.2.1 x.2.2.2.1,none⟩
noncomputable def qil:Env:=(152,.con offerOpen_con)::(159,.ck 197)::[]
theorem qo1 (x:DL offerDecline_con.ps):offerDecline_con.φ x=denF Tryz.prog qil qia Tryz.f85 offerDecline_con.ps offerDecline_con.one offerDecline_con.res offerDecline_con.ρ x:=by kernel_rfl
theorem qiC:ConOK Tryz.prog 85 offerDecline_con :=
  qc (env:=qil) ((EnvOK.cons (EnvOK.check (EnvOK.nil _) qd) qoq)) mixed Tryz.func85 offerDecline_con qia (by kernel_rfl) (fun h=>by first | rfl | cases h) (fun g hg=>by cases hg) qo1
def qv:Ann:=(.ord 12 0 .nil (.ord 13 0 .nil (.ord 14 0 .nil (.ord 15 0 .nil (.ord 17 0 .nil (.ord 18 0 .nil .nil))))))
def qH:Ann:=(.alt (.ord 12 0 .nil (.ord 13 0 .nil (.ord 14 0 .nil (.ord 15 0 .nil (.ord 16 0 .nil (.ord 17 0 .nil (.ord 18 0 .nil .nil))))))) (.ord 16 0 .nil qv))
def qbO:Ann:=(.alt (.ord 9 0 .nil (.ord 11 0 .nil qv)) (.ord 11 0 .nil (.ord 9 0 .nil qv)))
def qbS:Ann:=(.alt (.ord 7 0 .nil (.ord 11 0 .nil qv)) (.ord 11 0 .nil (.ord 7 0 .nil qv)))
def qbQ:Ann:=(.alt (.ord 5 0 .nil (.ord 11 0 .nil qv)) (.ord 11 0 .nil (.ord 5 0 .nil qv)))
def qbP:Ann:=(.alt (.ord 11 0 .nil qH) (.ord 16 0 .nil (.ord 11 0 .nil qv)))
def qdT:Ann:=(.alt (.ord 7 0 .nil qbO) (.alt (.ord 9 0 .nil qbS) (.ord 11 0 .nil (.ord 7 69503 .nil (.ord 9 0 .nil qv)))))
def qdV:Ann:=(.alt (.ord 5 0 .nil qbS) (.alt (.ord 7 0 .nil qbQ) (.ord 11 0 .nil (.ord 5 69599 .nil (.ord 7 0 .nil qv)))))
def qdY:Ann:=(.alt (.ord 5 0 .nil qbO) (.alt (.ord 9 0 .nil qbQ) (.ord 11 0 .nil (.ord 5 69599 .nil (.ord 9 0 .nil qv)))))
def qdr:Ann:=(.alt (.ord 9 0 .nil qbP) (.alt (.ord 11 0 .nil (.ord 9 69119 .nil qH)) (.ord 16 0 .nil qbO)))
def qdo:Ann:=(.alt (.ord 7 0 .nil qbP) (.alt (.ord 11 0 .nil (.ord 7 69503 .nil qH)) (.ord 16 0 .nil qbS)))
def qdu:Ann:=(.alt (.ord 5 0 .nil qbP) (.alt (.ord 11 0 .nil (.ord 5 69599 .nil qH)) (.ord 16 0 .nil qbQ)))
def qeG:Ann:=(.two .nil (.two .nil (.two .nil (.two (.join ⟨[0],[(6,Zt28),(7,Zt68)],[]⟩ (.any 321535 65536 (.ord 0 0 .nil (.ord 1 0 .nil (.ord 2 0 .nil (.ord 3 0 .nil (.ord 4 0 .nil (.ord 6 0 .nil (.ord 8 0 .nil (.ord 10 0 .nil (.alt (.ord 5 0 .nil (.alt (.ord 7 0 .nil qdr) (.alt (.ord 9 0 .nil qdo) (.alt (.ord 11 0 .nil (.ord 7 69503 .nil (.ord 9 69119 .nil qH))) (.ord 16 0 .nil qdT))))) (.alt (.ord 7 0 .nil (.alt (.ord 5 0 .nil qdr) (.alt (.ord 9 0 .nil qdu) (.alt (.ord 11 0 .nil (.ord 5 69599 .nil (.ord 9 69119 .nil qH))) (.ord 16 0 .nil qdY))))) (.alt (.ord 9 0 .nil (.alt (.ord 5 0 .nil qdo) (.alt (.ord 7 0 .nil qdu) (.alt (.ord 11 0 .nil (.ord 5 69599 .nil (.ord 7 69503 .nil qH))) (.ord 16 0 .nil qdV))))) (.alt (.ord 11 0 .nil (.ord 5 69599 .nil (.ord 7 69503 .nil (.ord 9 69119 .nil qH)))) (.ord 16 0 .nil (.alt (.ord 5 0 .nil qdT) (.alt (.ord 7 0 .nil qdY) (.alt (.ord 9 0 .nil qdV) (.ord 11 0 .nil (.ord 5 69599 .nil (.ord 7 69503 .nil (.ord 9 0 .nil qv)))))))))))))))))))))) (.two (.two .nil (.join ⟨[7],[],[(0,some (.box Zt2)),(1,none),(2,none),(3,none)]⟩ .nil)) .nil)))))
noncomputable def matchMatchDoOffer_con:Ioc:=⟨Zt1,[Zt34],true,[],Zt68,fun x=>qaP x.1 x.2.1⟩
noncomputable def qeo:Env:=(83,.con offerMake_con)::(159,.ck 197)::(85,.con offerDecline_con)::(52,.rd plainGameMoves_con)::(169,.body Tryz.f169)::[]
theorem qjw (x:DL (Zt1::[Zt34])):matchMatchDoOffer_con.φ x=denIO Tryz.prog qeo qeG Tryz.f115 Zt1 [Zt34] true [] Zt68 x:=by kernel_rfl
theorem qj6:IocOK Tryz.prog 115 matchMatchDoOffer_con :=
  qac (env:=qeo) ((EnvOK.cons (EnvOK.check (EnvOK.cons (EnvOK.readonly (EnvOK.body (EnvOK.nil _) Tryz.func169) qcr) qiC) qd) qoN)) mixed Tryz.func115 matchMatchDoOffer_con qeG (by kernel_rfl) (fun h=>by first | rfl | cases h) qjw
def qiG:Ann := .nil
noncomputable def offerAccept_con:Con:=⟨[Zt31,Zt68,Zt68,Zt68],false,[Zt31,Zt68],Zt26,fun x=>qcL x.1 x.2.1 x.2.2.1 x.2.2.2.1,none⟩
noncomputable def qix:Env:=(152,.con offerOpen_con)::(159,.ck 197)::[]
theorem qqM (x:DL offerAccept_con.ps):offerAccept_con.φ x=denF Tryz.prog qix qiG Tryz.f150 offerAccept_con.ps offerAccept_con.one offerAccept_con.res offerAccept_con.ρ x:=by kernel_rfl
theorem qkZ:ConOK Tryz.prog 150 offerAccept_con :=
  qc (env:=qix) ((EnvOK.cons (EnvOK.check (EnvOK.nil _) qd) qoq)) mixed Tryz.func150 offerAccept_con qiG (by kernel_rfl) (fun h=>by first | rfl | cases h) (fun g hg=>by cases hg) qqM
def qg2:Ann:=(.two .nil (.two .nil (.two (.join ⟨[],[],[(0,some (.box Zt14)),(1,none),(2,none)]⟩ (.any 461369343 8392704 (.ord 0 0 .nil (.ord 1 0 .nil (.ord 2 0 .nil (.ord 3 0 .nil (.ord 4 0 .nil (.ord 5 16773087 .nil (.ord 6 0 .nil (.ord 7 0 .nil (.ord 8 0 .nil (.ord 9 16769535 .nil (.ord 10 0 .nil (.ord 11 0 .nil (.ord 13 0 .nil (.ord 14 0 .nil (.ord 15 0 .nil (.ord 16 8323071 .nil (.ord 17 0 .nil (.ord 18 0 .nil (.ord 19 0 .nil (.ord 20 1048575 .nil (.ord 21 0 .nil (.ord 22 0 .nil (.alt (.ord 12 0 (.own .nil) (.ord 24 0 .nil (.ord 25 0 .nil (.alt (.ord 23 0 (.own .nil) (.ord 26 0 .nil (.ord 27 0 .nil (.ord 28 0 .nil (.ord 29 0 .nil .nil))))) (.ord 26 0 .nil (.ord 23 0 (.own .nil) (.ord 27 0 .nil (.ord 28 0 .nil (.ord 29 0 .nil .nil))))))))) (.ord 23 0 (.own .nil) (.ord 12 0 (.own .nil) (.ord 24 0 .nil (.ord 25 0 .nil (.ord 26 0 .nil (.ord 27 0 .nil (.ord 28 0 .nil (.ord 29 0 .nil .nil))))))))))))))))))))))))))))))))) .nil)))
noncomputable def plainGameBack_con:Ioc:=⟨Zt12,[],true,[],Zt68,fun x=>qdF x.1⟩
noncomputable def qgO:Env:=[]
theorem qn2 (x:DL (Zt12::[])):plainGameBack_con.φ x=denIO Tryz.prog qgO qg2 Tryz.f172 Zt12 [] true [] Zt68 x:=by kernel_rfl
theorem qoT:IocOK Tryz.prog 172 plainGameBack_con :=
  qac (env:=qgO) ((EnvOK.nil _)) mixed Tryz.func172 plainGameBack_con qg2 (by kernel_rfl) (fun h=>by first | rfl | cases h) qn2
def qm4:Ann:=(.two .nil (.two .nil (.two .nil (.two (.two .nil (.join ⟨[2,4],[],[(0,some (.box Zt42))]⟩ (.two (.loop ⟨[1,2,4],[(19,Zt68)],[(0,some (.box Zt42))]⟩ (.two .nil (.two .nil (.two (.join ⟨[1,2,4,19],[],[(0,some (.box Zt42))]⟩ (.two (.two .nil (.two (.join ⟨[1,2,4,7,19],[(25,Zt61),(26,Zt68)],[]⟩ .nil) (.join ⟨[1,2,4,19],[],[(0,some (.box Zt42))]⟩ (.two (.loop ⟨[1,2,4,7,19,25],[(26,Zt68)],[(0,some (.box Zt42))]⟩ (.two .nil (.two .nil (.two (.two (.two .nil (.join ⟨[1,2,4,7,19,25,26],[],[(0,some (.box Zt42))]⟩ .nil)) .nil) .nil)))) .nil)))) .nil)) .nil)))) .nil))) .nil))))
noncomputable def offerBack_con:Con:=⟨[Zt31,Zt68],false,[Zt31,Zt68],Zt26,fun x=>qeF x.1 x.2.1,none⟩
noncomputable def qlI:Env:=(148,.con offerCheck_i_con)::(159,.ck 197)::[]
theorem qs2 (x:DL offerBack_con.ps):offerBack_con.φ x=denF Tryz.prog qlI qm4 Tryz.f151 offerBack_con.ps offerBack_con.one offerBack_con.res offerBack_con.ρ x:=by kernel_rfl
theorem qob:ConOK Tryz.prog 151 offerBack_con :=
  qc (env:=qlI) ((EnvOK.cons (EnvOK.check (EnvOK.nil _) qd) qdE)) mixed Tryz.func151 offerBack_con qm4 (by kernel_rfl) (fun h=>by first | rfl | cases h) (fun g hg=>by cases hg) qs2
def qw:Ann:=(.ord 11 0 .nil (.ord 12 0 .nil (.ord 13 0 .nil (.ord 14 0 .nil (.ord 16 0 .nil (.ord 17 0 .nil .nil))))))
def qF:Ann:=(.ord 11 34815 .nil (.ord 12 0 .nil (.ord 13 0 .nil (.ord 14 0 .nil (.ord 15 0 .nil (.ord 16 0 .nil (.ord 17 0 .nil .nil)))))))
def qbt:Ann:=(.alt (.ord 8 0 .nil (.ord 10 0 .nil qw)) (.ord 10 0 .nil (.ord 8 0 .nil qw)))
def qbz:Ann:=(.alt (.ord 6 0 .nil (.ord 10 0 .nil qw)) (.ord 10 0 .nil (.ord 6 0 .nil qw)))
def qbu:Ann:=(.alt (.ord 4 0 .nil (.ord 10 0 .nil qw)) (.ord 10 0 .nil (.ord 4 0 .nil qw)))
def qbA:Ann:=(.alt (.ord 10 0 .nil qF) (.ord 15 0 .nil (.ord 10 0 .nil qw)))
def qbC:Ann:=(.ord 11 0 .nil (.ord 12 0 .nil (.ord 13 0 .nil (.ord 14 0 .nil (.ord 15 0 .nil .nil)))))
def qdg:Ann:=(.alt (.ord 6 0 .nil qbt) (.alt (.ord 8 0 .nil qbz) (.ord 10 0 .nil (.ord 6 34751 .nil (.ord 8 0 .nil qw)))))
def qdv:Ann:=(.alt (.ord 4 0 .nil qbz) (.alt (.ord 6 0 .nil qbu) (.ord 10 0 .nil (.ord 4 34799 .nil (.ord 6 0 .nil qw)))))
def qcT:Ann:=(.alt (.ord 4 0 .nil qbt) (.alt (.ord 8 0 .nil qbu) (.ord 10 0 .nil (.ord 4 34799 .nil (.ord 8 0 .nil qw)))))
def qcV:Ann:=(.alt (.ord 8 0 .nil qbA) (.alt (.ord 10 0 .nil (.ord 8 34559 .nil qF)) (.ord 15 0 .nil qbt)))
def qcS:Ann:=(.alt (.ord 6 0 .nil qbA) (.alt (.ord 10 0 .nil (.ord 6 34751 .nil qF)) (.ord 15 0 .nil qbz)))
def qcY:Ann:=(.alt (.ord 4 0 .nil qbA) (.alt (.ord 10 0 .nil (.ord 4 34799 .nil qF)) (.ord 15 0 .nil qbu)))
def qbj:Ann:=(.ord 8 0 .nil (.ord 9 0 .nil (.ord 10 0 .nil qbC)))
def qdR:Ann:=(.two .nil (.two (.join ⟨[0,3],[(5,Zt28),(6,Zt68)],[]⟩ (.any 162815 32768 (.ord 0 0 .nil (.ord 1 0 .nil (.ord 2 0 .nil (.ord 3 0 .nil (.ord 5 0 .nil (.ord 7 0 .nil (.ord 9 0 .nil (.alt (.ord 4 0 .nil (.alt (.ord 6 0 .nil qcV) (.alt (.ord 8 0 .nil qcS) (.alt (.ord 10 0 .nil (.ord 6 34751 .nil (.ord 8 34559 .nil qF))) (.ord 15 0 .nil qdg))))) (.alt (.ord 6 0 .nil (.alt (.ord 4 0 .nil qcV) (.alt (.ord 8 0 .nil qcY) (.alt (.ord 10 0 .nil (.ord 4 34799 .nil (.ord 8 34559 .nil qF))) (.ord 15 0 .nil qcT))))) (.alt (.ord 8 0 .nil (.alt (.ord 4 0 .nil qcS) (.alt (.ord 6 0 .nil qcY) (.alt (.ord 10 0 .nil (.ord 4 34799 .nil (.ord 6 34751 .nil qF))) (.ord 15 0 .nil qdv))))) (.alt (.ord 10 0 .nil (.ord 4 34799 .nil (.ord 6 34751 .nil (.ord 8 34559 .nil qF)))) (.ord 15 0 .nil (.alt (.ord 4 0 .nil qdg) (.alt (.ord 6 0 .nil qcT) (.alt (.ord 8 0 .nil qdv) (.ord 10 0 .nil (.ord 4 34799 .nil (.ord 6 34751 .nil (.ord 8 0 .nil qw))))))))))))))))))))) (.two .nil (.two .nil (.two .nil (.two (.two (.join ⟨[0,3],[(46,Zt68),(47,Zt68)],[]⟩ (.any 111 0 (.ord 0 0 .nil (.ord 3 0 .nil (.ord 6 0 .nil (.alt (.ord 1 0 .nil (.ord 2 0 .nil (.ord 4 0 .nil (.ord 5 0 .nil .nil)))) (.ord 4 0 .nil (.ord 1 0 .nil (.ord 2 0 .nil (.ord 5 0 .nil .nil)))))))))) (.join ⟨[0,3],[],[(1,some (.box Zt14)),(2,none),(3,none)]⟩ (.two (.loop ⟨[0,3,46],[(47,Zt68)],[(1,some (.box Zt14)),(2,none),(3,none)]⟩ .nil) .nil))) (.two (.join ⟨[0,3],[],[(0,some (.box Zt2)),(1,none),(6,none),(7,none)]⟩ (.any 32639 0 (.ord 0 0 .nil (.ord 1 0 .nil (.ord 2 0 .nil (.ord 3 0 .nil (.ord 4 0 .nil (.ord 6 0 .nil (.alt (.ord 5 0 .nil (.ord 7 0 .nil qbj)) (.ord 7 0 .nil (.ord 5 0 .nil qbj))))))))))) (.two (.join ⟨[0],[],[(0,some (.box Zt2)),(8,none),(9,none),(10,none)]⟩ (.any 31735 0 (.ord 0 0 .nil (.ord 1 0 .nil (.ord 2 0 .nil (.ord 4 0 .nil (.alt (.ord 3 0 .nil (.ord 6 0 .nil (.ord 7 0 .nil (.ord 8 0 .nil (.ord 9 0 .nil (.alt (.ord 5 0 .nil (.ord 10 0 .nil qbC)) (.ord 10 0 .nil (.ord 5 0 .nil qbC)))))))) (.ord 5 0 .nil (.ord 3 0 .nil (.ord 6 0 .nil (.ord 7 0 .nil qbj))))))))))) .nil))))))))
noncomputable def matchMatchDoAccept_con:Ioc:=⟨Zt1,[Zt34],true,[],Zt68,fun x=>qa0 x.1 x.2.1⟩
noncomputable def qdP:Env:=(72,.rd plainGamePosition_con)::(167,.body Tryz.f167)::(151,.con offerBack_con)::(172,.io plainGameBack_con)::(149,.con offerPlies_con)::(159,.ck 197)::(52,.rd plainGameMoves_con)::(169,.body Tryz.f169)::(150,.con offerAccept_con)::[]
theorem qin (x:DL (Zt1::[Zt34])):matchMatchDoAccept_con.φ x=denIO Tryz.prog qdP qdR Tryz.f116 Zt1 [Zt34] true [] Zt68 x:=by kernel_rfl
theorem qjz:IocOK Tryz.prog 116 matchMatchDoAccept_con :=
  qac (env:=qdP) ((EnvOK.readonly (EnvOK.body (EnvOK.cons (EnvOK.inout (EnvOK.cons (EnvOK.check (EnvOK.readonly (EnvOK.body (EnvOK.cons (EnvOK.nil _) qkZ) Tryz.func169) qcr) qd) qhx) qoT) qob) Tryz.func167) qag)) mixed Tryz.func116 matchMatchDoAccept_con qdR (by kernel_rfl) (fun h=>by first | rfl | cases h) qin
def qkJ:Ann:=(.two .nil (.two .nil (.two .nil (.two (.two .nil (.join ⟨[1,2],[(6,Zt66),(7,Zt68)],[]⟩ (.two (.loop ⟨[1,2,13,14],[(6,Zt66),(7,Zt68),(15,Zt68)],[]⟩ (.two .nil (.two .nil (.two (.two (.two .nil (.two .nil (.join ⟨[1,2,13,14,15],[(6,Zt66),(7,Zt68)],[(1,none)]⟩ .nil))) .nil) .nil)))) .nil))) (.two (.two .nil (.join ⟨[],[(6,Zt66),(7,Zt68)],[(1,none)]⟩ (.two (.loop ⟨[40,41],[(6,Zt66),(7,Zt68),(42,Zt68)],[(1,none)]⟩ (.two .nil (.two .nil (.two (.two (.two .nil (.two .nil (.join ⟨[40,41,42],[(6,Zt66),(7,Zt68)],[(2,none)]⟩ .nil))) .nil) .nil)))) .nil))) .nil)))))
noncomputable def claimTypes_con:Con:=⟨[Zt40,Zt68],false,[Zt66,Zt68],(.st Zt66 Zt65),fun x=>qjL x.1 x.2.1,none⟩
noncomputable def qkU:Env:=[]
theorem qro (x:DL claimTypes_con.ps):claimTypes_con.φ x=denF Tryz.prog qkU qkJ Tryz.f291 claimTypes_con.ps claimTypes_con.one claimTypes_con.res claimTypes_con.ρ x:=by kernel_rfl
theorem qsq:ConOK Tryz.prog 291 claimTypes_con :=
  qc (env:=qkU) ((EnvOK.nil _)) mixed Tryz.func291 claimTypes_con qkJ (by kernel_rfl) (fun h=>by first | rfl | cases h) (fun g hg=>by cases hg) qro
def qh5:Ann:=(.two .nil (.two (.two .nil (.joinE ⟨[],[],[]⟩ (.two (.loop ⟨[2,3,10],[(1,Zt68),(11,Zt68)],[]⟩ .nil) .nil))) .nil))
noncomputable def claimBecomes_con:Con:=⟨[Zt21,Zt68,Zt68],true,[],.bool,fun x=>qiz x.1 x.2.1 x.2.2.1,none⟩
noncomputable def qhV:Env:=[]
theorem qoS (x:DL claimBecomes_con.ps):claimBecomes_con.φ x=denF Tryz.prog qhV qh5 Tryz.f293 claimBecomes_con.ps claimBecomes_con.one claimBecomes_con.res claimBecomes_con.ρ x:=by kernel_rfl
theorem qqJ:ConOK Tryz.prog 293 claimBecomes_con :=
  qc (env:=qhV) ((EnvOK.nil _)) mixed Tryz.func293 claimBecomes_con qh5 (by kernel_rfl) (fun h=>by first | rfl | cases h) (fun g hg=>by cases hg) qoS
def qlN:Ann:=(.two .nil (.two .nil (.two .nil (.two (.two (.join ⟨[4,9],[(42,.bool)],[]⟩ (.two (.two .nil (.two (.two (.two .nil (.two (.two .nil (.joinE ⟨[],[],[]⟩ (.two (.loop ⟨[0,1,7],[(8,Zt68)],[]⟩ .nil) .nil))) .nil)) .nil) .nil)) .nil)) .nil) (.two (.join ⟨[],[(8,.bool)],[]⟩ (.two (.two .nil (.two (.two (.two .nil (.two (.two .nil (.joinE ⟨[],[],[]⟩ (.two (.loop ⟨[0,1,7],[(8,Zt68)],[]⟩ (.two .nil (.two .nil (.two (.two (.two .nil (.two (.two (.two .nil (.two (.two (.two .nil (.two (.two (.two .nil (.two (.two .nil (.joinE ⟨[],[],[]⟩ (.two (.loop ⟨[0,1,7],[(8,Zt68)],[]⟩ .nil) .nil))) .nil)) .nil) .nil)) .nil) .nil)) .nil) .nil)) .nil) .nil)))) .nil))) .nil)) .nil) .nil)) .nil)) .nil)))))
noncomputable def claimAble_con:Con:=⟨[Zt21,Zt40,Zt53,Zt68],true,[],.bool,fun x=>qmh x.1 x.2.1 x.2.2.1 x.2.2.2.1,none⟩
noncomputable def qm1:Env:=(296,.body Tryz.f296)::(306,.body Tryz.f306)::(295,.body Tryz.f295)::(294,.body Tryz.f294)::(293,.con claimBecomes_con)::(292,.body Tryz.f292)::(187,.body Tryz.f187)::(133,.body Tryz.f133)::(291,.con claimTypes_con)::[]
theorem qs7 (x:DL claimAble_con.ps):claimAble_con.φ x=denF Tryz.prog qm1 qlN Tryz.f258 claimAble_con.ps claimAble_con.one claimAble_con.res claimAble_con.ρ x:=by kernel_rfl
theorem qtT:ConOK Tryz.prog 258 claimAble_con :=
  qc (env:=qm1) ((EnvOK.body (EnvOK.body (EnvOK.body (EnvOK.body (EnvOK.cons (EnvOK.body (EnvOK.body (EnvOK.body (EnvOK.cons (EnvOK.nil _) qsq) Tryz.func133) Tryz.func187) Tryz.func292) qqJ) Tryz.func294) Tryz.func295) Tryz.func306) Tryz.func296)) mixed Tryz.func258 claimAble_con qlN (by kernel_rfl) (fun h=>by first | rfl | cases h) (fun g hg=>by cases hg) qs7
def qiX:Ann:=(.two .nil (.two .nil (.two .nil (.two (.join ⟨[],[(6,.bool),(7,Zt68)],[]⟩ (.two (.two .nil (.two (.two (.two .nil (.two (.two .nil (.joinE ⟨[],[],[]⟩ (.two (.loop ⟨[0,1,7],[(8,Zt68)],[]⟩ .nil) .nil))) .nil)) .nil) .nil)) .nil)) .nil))))
noncomputable def claimAble_i_con:Con:=⟨[Zt21,Zt40,Zt68],false,[.bool,Zt68],Zt63,fun x=>qfw x.1 x.2.1 x.2.2.1,none⟩
noncomputable def qiP:Env:=(258,.con claimAble_con)::(257,.body Tryz.f257)::(194,.body Tryz.f194)::(256,.body Tryz.f256)::(74,.con placeCheck_con)::[]
theorem qpz (x:DL claimAble_i_con.ps):claimAble_i_con.φ x=denF Tryz.prog qiP qiX Tryz.f220 claimAble_i_con.ps claimAble_i_con.one claimAble_i_con.res claimAble_i_con.ρ x:=by kernel_rfl
theorem qrl:ConOK Tryz.prog 220 claimAble_i_con :=
  qc (env:=qiP) ((EnvOK.cons (EnvOK.body (EnvOK.body (EnvOK.body (EnvOK.cons (EnvOK.nil _) qe3) Tryz.func256) Tryz.func194) Tryz.func257) qtT)) mixed Tryz.func220 claimAble_i_con qiX (by kernel_rfl) (fun h=>by first | rfl | cases h) (fun g hg=>by cases hg) qpz
def qiW:Ann := .nil
noncomputable def claimFallen_con:Con:=⟨[Zt21,Zt40,Zt68],false,[Zt68,Zt68],Zt61,fun x=>qhy x.1 x.2.1 x.2.2.1,none⟩
noncomputable def qi0:Env:=(220,.con claimAble_i_con)::[]
theorem qqj (x:DL claimFallen_con.ps):claimFallen_con.φ x=denF Tryz.prog qi0 qiW Tryz.f173 claimFallen_con.ps claimFallen_con.one claimFallen_con.res claimFallen_con.ρ x:=by kernel_rfl
theorem qrm:ConOK Tryz.prog 173 claimFallen_con :=
  qc (env:=qi0) ((EnvOK.cons (EnvOK.nil _) qrl)) mixed Tryz.func173 claimFallen_con qiW (by kernel_rfl) (fun h=>by first | rfl | cases h) (fun g hg=>by cases hg) qqj
def qeu:Ann:=(.two .nil (.two (.two .nil (.two (.two (.any 163839 32768 (.ord 0 0 .nil (.ord 1 0 .nil (.ord 2 0 .nil (.ord 3 34807 .nil (.ord 4 0 .nil (.ord 5 0 .nil (.ord 6 0 .nil (.ord 7 0 .nil (.ord 8 34559 .nil (.ord 9 0 .nil (.ord 10 33791 .nil (.ord 11 34815 .nil (.ord 12 0 .nil (.ord 13 0 .nil (.ord 14 0 .nil (.ord 15 0 .nil (.ord 16 0 .nil (.ord 17 0 .nil .nil))))))))))))))))))) (.two .nil (.two .nil (.two (.any 523775 512 (.ord 0 0 .nil (.ord 1 0 .nil (.ord 2 0 .nil (.ord 3 0 .nil (.ord 4 4079 .nil (.ord 5 0 .nil (.ord 6 0 .nil (.ord 7 0 .nil (.ord 8 3327 .nil (.ord 10 0 .nil (.ord 11 2047 .nil (.ord 9 0 .nil (.ord 12 0 .nil (.ord 13 0 .nil (.ord 14 0 .nil (.ord 15 0 .nil (.ord 16 0 .nil (.ord 17 0 .nil (.ord 18 0 .nil (.ord 19 0 .nil .nil))))))))))))))))))))) .nil)))) .nil)) (.two (.join ⟨[0,3],[(7,.bool)],[]⟩ .nil) (.two (.two (.two .nil (.two .nil (.two (.join ⟨[0,7],[(91,.bool)],[]⟩ (.any 61 0 (.ord 0 0 .nil (.ord 2 0 .nil (.alt (.ord 1 0 .nil (.ord 3 0 .nil (.ord 4 0 .nil (.ord 5 0 .nil .nil)))) (.ord 3 0 .nil (.ord 1 0 .nil (.ord 4 0 .nil (.ord 5 0 .nil .nil))))))))) .nil))) .nil) .nil))))
noncomputable def matchMatchDoClaim_con:Ioc:=⟨Zt1,[Zt34],true,[],Zt68,fun x=>qbl x.1 x.2.1⟩
noncomputable def qeB:Env:=(167,.body Tryz.f167)::(140,.rd plainGameCount_con)::(173,.con claimFallen_con)::(72,.rd plainGamePosition_con)::(159,.ck 197)::(40,.con clockLook_con)::[]
theorem qje (x:DL (Zt1::[Zt34])):matchMatchDoClaim_con.φ x=denIO Tryz.prog qeB qeu Tryz.f117 Zt1 [Zt34] true [] Zt68 x:=by kernel_rfl
theorem qkc:IocOK Tryz.prog 117 matchMatchDoClaim_con :=
  qac (env:=qeB) ((EnvOK.body (EnvOK.readonly (EnvOK.cons (EnvOK.readonly (EnvOK.check (EnvOK.cons (EnvOK.nil _) qb2) qd) qag) qrm) qgZ) Tryz.func167)) mixed Tryz.func117 matchMatchDoClaim_con qeu (by kernel_rfl) (fun h=>by first | rfl | cases h) qje
def qkl:Ann:=(.two .nil (.two .nil (.two .nil (.two .nil (.two (.join ⟨[],[(6,Zt43),(7,Zt68)],[]⟩ (.any 413 34 (.ord 0 0 .nil (.ord 2 0 .nil (.ord 3 7 .nil (.ord 4 0 .nil (.alt (.ord 1 0 .nil (.ord 5 0 .nil (.ord 6 0 .nil (.ord 7 0 .nil (.ord 8 0 .nil .nil))))) (.ord 5 0 .nil (.ord 1 0 .nil (.ord 6 0 .nil (.ord 7 0 .nil (.ord 8 0 .nil .nil)))))))))))) .nil)))))
noncomputable def premoveAdd_con:Con:=⟨[Zt46,Zt68,Zt58],false,[Zt43,Zt68],Zt39,fun x=>qjP x.1 x.2.1 x.2.2.1,none⟩
noncomputable def qkW:Env:=(53,.con slicesClone_PremoveMove_con)::(222,.con premoveOf_con)::(221,.con premoveCheck_con)::[]
theorem qqW (x:DL premoveAdd_con.ps):premoveAdd_con.φ x=denF Tryz.prog qkW qkl Tryz.f174 premoveAdd_con.ps premoveAdd_con.one premoveAdd_con.res premoveAdd_con.ρ x:=by kernel_rfl
theorem qtu:ConOK Tryz.prog 174 premoveAdd_con :=
  qc (env:=qkW) ((EnvOK.cons (EnvOK.cons (EnvOK.cons (EnvOK.nil _) qji) qoJ) qaY)) mixed Tryz.func174 premoveAdd_con qkl (by kernel_rfl) (fun h=>by first | rfl | cases h) (fun g hg=>by cases hg) qqW
def qdl:Ann:=(.two .nil (.two (.two (.join ⟨[0,3],[(11,.bool)],[]⟩ (.any 29 0 (.ord 0 0 .nil (.ord 2 0 .nil (.alt (.ord 1 0 .nil (.ord 3 0 .nil (.ord 4 0 .nil .nil))) (.ord 3 0 .nil (.ord 1 0 .nil (.ord 4 0 .nil .nil)))))))) .nil) (.two (.any 32255 512 (.ord 0 0 .nil (.ord 1 0 .nil (.ord 2 0 .nil (.ord 3 0 .nil (.ord 4 495 .nil (.ord 5 0 .nil (.ord 6 447 .nil (.ord 7 0 .nil (.ord 8 0 .nil (.ord 9 0 .nil (.ord 10 0 .nil (.ord 11 0 .nil (.ord 12 0 .nil (.ord 13 0 .nil (.ord 14 0 .nil .nil)))))))))))))))) (.two (.two .nil (.join ⟨[6],[],[(0,some (.box Zt2)),(1,none),(2,none),(3,none),(5,none)]⟩ .nil)) .nil))))
noncomputable def matchMatchDoPremove_con:Ioc:=⟨Zt1,[Zt34],true,[],Zt68,fun x=>qaR x.1 x.2.1⟩
noncomputable def qdn:Env:=(174,.con premoveAdd_con)::(72,.rd plainGamePosition_con)::(167,.body Tryz.f167)::[]
theorem qhu (x:DL (Zt1::[Zt34])):matchMatchDoPremove_con.φ x=denIO Tryz.prog qdn qdl Tryz.f118 Zt1 [Zt34] true [] Zt68 x:=by kernel_rfl
theorem qiq:IocOK Tryz.prog 118 matchMatchDoPremove_con :=
  qac (env:=qdn) ((EnvOK.cons (EnvOK.readonly (EnvOK.body (EnvOK.nil _) Tryz.func167) qag) qtu)) mixed Tryz.func118 matchMatchDoPremove_con qdl (by kernel_rfl) (fun h=>by first | rfl | cases h) qhu
def qgl:Ann:=(.two .nil (.two (.two .nil (.two (.two .nil (.two .nil (.two (.two .nil (.join ⟨[0,3,6],[(12,.bool)],[]⟩ .nil)) .nil))) .nil)) .nil))
noncomputable def matchMatchKind_con:Ioc:=⟨Zt1,[Zt34],true,[],Zt68,fun x=>qct x.1 x.2.1⟩
noncomputable def qgt:Env:=(118,.io matchMatchDoPremove_con)::(117,.io matchMatchDoClaim_con)::(116,.io matchMatchDoAccept_con)::(115,.io matchMatchDoOffer_con)::(114,.io matchMatchDoMove_con)::[]
theorem qmI (x:DL (Zt1::[Zt34])):matchMatchKind_con.φ x=denIO Tryz.prog qgt qgl Tryz.f51 Zt1 [Zt34] true [] Zt68 x:=by kernel_rfl
theorem qnJ:IocOK Tryz.prog 51 matchMatchKind_con :=
  qac (env:=qgt) ((EnvOK.inout (EnvOK.inout (EnvOK.inout (EnvOK.inout (EnvOK.inout (EnvOK.nil _) qli) qj6) qjz) qkc) qiq)) mixed Tryz.func51 matchMatchKind_con qgl (by kernel_rfl) (fun h=>by first | rfl | cases h) qmI
def qjv:Ann := .nil
noncomputable def journalLast_con:Con:=⟨[Zt62],true,[],(.int .u64),fun x=>qeb x.1,none⟩
noncomputable def qja:Env:=[]
theorem qqB (x:DL journalLast_con.ps):journalLast_con.φ x=denF Tryz.prog qja qjv Tryz.f112 journalLast_con.ps journalLast_con.one journalLast_con.res journalLast_con.ρ x:=by kernel_rfl
theorem qgH:ConOK Tryz.prog 112 journalLast_con :=
  qc (env:=qja) ((EnvOK.nil _)) mixed Tryz.func112 journalLast_con qjv (by kernel_rfl) (fun h=>by first | rfl | cases h) (fun g hg=>by cases hg) qqB
def qkE:Ann:=(.two .nil (.two .nil (.two (.two .nil (.join ⟨[1],[(5,(.int .u64))],[]⟩ (.two (.loop ⟨[1,10],[(5,(.int .u64)),(11,Zt68)],[]⟩ .nil) .nil))) .nil)))
noncomputable def journalSum_con:Con:=⟨[(.int .u64),.str],true,[],(.int .u64),fun x=>qd2 x.1 x.2.1,none⟩
noncomputable def qkT:Env:=[]
theorem qqQ (x:DL journalSum_con.ps):journalSum_con.φ x=denF Tryz.prog qkT qkE Tryz.f111 journalSum_con.ps journalSum_con.one journalSum_con.res journalSum_con.ρ x:=by kernel_rfl
theorem ql6:ConOK Tryz.prog 111 journalSum_con :=
  qc (env:=qkT) ((EnvOK.nil _)) mixed Tryz.func111 journalSum_con qkE (by kernel_rfl) (fun h=>by first | rfl | cases h) (fun g hg=>by cases hg) qqQ
def qhX:Ann := .nil
noncomputable def journalWrong_con:Con:=⟨[(.int .u64),Zt64],true,[],Zt68,fun x=>qey x.1 x.2.1,none⟩
noncomputable def qic:Env:=(111,.con journalSum_con)::(110,.con qfG)::[]
theorem qoZ (x:DL journalWrong_con.ps):journalWrong_con.φ x=denF Tryz.prog qic qhX Tryz.f163 journalWrong_con.ps journalWrong_con.one journalWrong_con.res journalWrong_con.ρ x:=by kernel_rfl
theorem qjh:ConOK Tryz.prog 163 journalWrong_con :=
  qc (env:=qic) ((EnvOK.cons (EnvOK.cons (EnvOK.nil _) qkP) ql6)) mixed Tryz.func163 journalWrong_con qhX (by kernel_rfl) (fun h=>by first | rfl | cases h) (fun g hg=>by cases hg) qoZ
def qiU:Ann:=(.two .nil (.two (.two .nil (.joinE ⟨[0],[],[]⟩ (.two (.loop ⟨[0,5,6],[(7,Zt68)],[]⟩ .nil) .nil))) .nil))
noncomputable def journalGood_con:Con:=⟨[Zt62],true,[],Zt68,fun x=>qhn x.1,none⟩
noncomputable def qi9:Env:=(163,.con journalWrong_con)::(112,.con journalLast_con)::(159,.ck 197)::[]
theorem qqE (x:DL journalGood_con.ps):journalGood_con.φ x=denF Tryz.prog qi9 qiU Tryz.f162 journalGood_con.ps journalGood_con.one journalGood_con.res journalGood_con.ρ x:=by kernel_rfl
theorem qqY:ConOK Tryz.prog 162 journalGood_con :=
  qc (env:=qi9) ((EnvOK.cons (EnvOK.cons (EnvOK.check (EnvOK.nil _) qd) qgH) qjh)) mixed Tryz.func162 journalGood_con qiU (by kernel_rfl) (fun h=>by first | rfl | cases h) (fun g hg=>by cases hg) qqE
def qh9:Ann := .nil
noncomputable def journalCheck_con:Con:=⟨[Zt62],true,[],Zt68,fun x=>qcQ x.1,none⟩
noncomputable def qh1:Env:=(163,.con journalWrong_con)::(112,.con journalLast_con)::(162,.con journalGood_con)::[]
theorem qoR (x:DL journalCheck_con.ps):journalCheck_con.φ x=denF Tryz.prog qh1 qh9 Tryz.f109 journalCheck_con.ps journalCheck_con.one journalCheck_con.res journalCheck_con.ρ x:=by kernel_rfl
theorem qjf:ConOK Tryz.prog 109 journalCheck_con :=
  qc (env:=qh1) ((EnvOK.cons (EnvOK.cons (EnvOK.cons (EnvOK.nil _) qqY) qgH) qjh)) mixed Tryz.func109 journalCheck_con qh9 (by kernel_rfl) (fun h=>by first | rfl | cases h) (fun g hg=>by cases hg) qoR
def qbW:Ann := .nil
noncomputable def slicesClone_JournalEntry_con:Con:=⟨[Zt62],true,[],Zt60,fun x=>qM x.1,none⟩
noncomputable def qb0:Env:=[]
theorem qe4 (x:DL slicesClone_JournalEntry_con.ps):slicesClone_JournalEntry_con.φ x=denF Tryz.prog qb0 qbW Tryz.f91 slicesClone_JournalEntry_con.ps slicesClone_JournalEntry_con.one slicesClone_JournalEntry_con.res slicesClone_JournalEntry_con.ρ x:=by kernel_rfl
theorem qaS:ConOK Tryz.prog 91 slicesClone_JournalEntry_con :=
  qc (env:=qb0) ((EnvOK.nil _)) mixed Tryz.func91 slicesClone_JournalEntry_con qbW (by kernel_rfl) (fun h=>by first | rfl | cases h) (fun g hg=>by cases hg) qe4
def qg8:Ann := .nil
noncomputable def journalAppend_con:Con:=⟨[Zt62,.str],false,[Zt60,Zt68],(.st Zt60 Zt65),fun x=>qS x.1 x.2.1,none⟩
noncomputable def qhf:Env:=(111,.con journalSum_con)::(112,.con journalLast_con)::(91,.con slicesClone_JournalEntry_con)::(110,.con qfG)::(109,.con journalCheck_con)::[]
theorem qnn (x:DL journalAppend_con.ps):journalAppend_con.φ x=denF Tryz.prog qhf qg8 Tryz.f48 journalAppend_con.ps journalAppend_con.one journalAppend_con.res journalAppend_con.ρ x:=by kernel_rfl
theorem qcE:ConOK Tryz.prog 48 journalAppend_con :=
  qc (env:=qhf) ((EnvOK.cons (EnvOK.cons (EnvOK.cons (EnvOK.cons (EnvOK.cons (EnvOK.nil _) qjf) qkP) qaS) qgH) ql6)) mixed Tryz.func48 journalAppend_con qg8 (by kernel_rfl) (fun h=>by first | rfl | cases h) (fun g hg=>by cases hg) qnn
def qgi:Ann:=(.two .nil (.two .nil (.join ⟨[],[],[(0,some (.box Zt2)),(1,none),(2,none),(3,none)]⟩ .nil)))
noncomputable def matchMatchOver_con:Ioc:=⟨Zt1,[],false,[],.nil,fun x=>qao x.1⟩
noncomputable def qgB:Env:=(73,.rd plainGameResult_con)::[]
theorem qlT (x:DL (Zt1::[])):matchMatchOver_con.φ x=denIO Tryz.prog qgB qgi Tryz.f50 Zt1 [] false [] .nil x:=by kernel_rfl
theorem qcl:IocOK Tryz.prog 50 matchMatchOver_con :=
  qac (env:=qgB) ((EnvOK.readonly (EnvOK.nil _) qc2)) mixed Tryz.func50 matchMatchOver_con qgi (by kernel_rfl) (fun h=>by first | rfl | cases h) qlT
def qii:Ann:=(.two .nil (.two .nil (.two (.any 163839 32768 (.ord 0 0 .nil (.ord 1 0 .nil (.ord 2 0 .nil (.ord 3 34807 .nil (.ord 4 0 .nil (.ord 5 0 .nil (.ord 6 0 .nil (.ord 7 0 .nil (.ord 8 34559 .nil (.ord 9 0 .nil (.ord 10 33791 .nil (.ord 11 34815 .nil (.ord 12 0 .nil (.ord 13 0 .nil (.ord 14 0 .nil (.ord 15 0 .nil (.ord 16 0 .nil (.ord 17 0 .nil .nil))))))))))))))))))) (.two .nil (.two .nil (.two .nil (.two (.any 8063 128 (.ord 0 0 .nil (.ord 1 0 .nil (.ord 2 0 .nil (.ord 3 0 .nil (.ord 4 111 .nil (.ord 5 0 .nil (.ord 6 0 .nil (.ord 7 0 .nil (.ord 8 0 .nil (.ord 9 0 .nil (.ord 10 0 .nil (.ord 11 0 .nil (.ord 12 0 .nil (.ord 13 0 .nil .nil))))))))))))))) .nil)))))))
noncomputable def matchMatchDo_con:Ioc:=⟨Zt1,[Zt34],true,[],Zt68,fun x=>qch x.1 x.2.1⟩
noncomputable def qid:Env:=(50,.io matchMatchOver_con)::(48,.con journalAppend_con)::(28,.con matchEntry_con)::(51,.io matchMatchKind_con)::(159,.ck 197)::(40,.con clockLook_con)::[]
theorem qo3 (x:DL (Zt1::[Zt34])):matchMatchDo_con.φ x=denIO Tryz.prog qid qii Tryz.f11 Zt1 [Zt34] true [] Zt68 x:=by kernel_rfl
theorem qjm:IocOK Tryz.prog 11 matchMatchDo_con :=
  qac (env:=qid) ((EnvOK.inout (EnvOK.cons (EnvOK.cons (EnvOK.inout (EnvOK.check (EnvOK.cons (EnvOK.nil _) qb2) qd) qnJ) qsW) qcE) qcl)) mixed Tryz.func11 matchMatchDo_con qii (by kernel_rfl) (fun h=>by first | rfl | cases h) qo3
def qkf:Ann := .nil
noncomputable def clockStart_con:Con:=⟨[Zt45,Zt68],false,[Zt24,Zt68],Zt22,fun x=>qbk x.1 x.2.1,none⟩
noncomputable def qkL:Env:=(54,.con clockWithin_con)::(105,.con clockCheck_con)::(159,.ck 197)::[]
theorem qqS (x:DL clockStart_con.ps):clockStart_con.φ x=denF Tryz.prog qkL qkf Tryz.f44 clockStart_con.ps clockStart_con.one clockStart_con.res clockStart_con.ρ x:=by kernel_rfl
theorem qhp:ConOK Tryz.prog 44 clockStart_con :=
  qc (env:=qkL) ((EnvOK.cons (EnvOK.cons (EnvOK.check (EnvOK.nil _) qd) qne) qcx)) mixed Tryz.func44 clockStart_con qkf (by kernel_rfl) (fun h=>by first | rfl | cases h) (fun g hg=>by cases hg) qqS
def qb4:Ann := .nil
noncomputable def slicesClone_ClockPeriod_con:Con:=⟨[Zt59],true,[],(.osl 25 Zt61),fun x=>qaH x.1,none⟩
noncomputable def qb6:Env:=[]
theorem qfN (x:DL slicesClone_ClockPeriod_con.ps):slicesClone_ClockPeriod_con.φ x=denF Tryz.prog qb6 qb4 Tryz.f108 slicesClone_ClockPeriod_con.ps slicesClone_ClockPeriod_con.one slicesClone_ClockPeriod_con.res slicesClone_ClockPeriod_con.ρ x:=by kernel_rfl
theorem qfQ:ConOK Tryz.prog 108 slicesClone_ClockPeriod_con :=
  qc (env:=qb6) ((EnvOK.nil _)) mixed Tryz.func108 slicesClone_ClockPeriod_con qb4 (by kernel_rfl) (fun h=>by first | rfl | cases h) (fun g hg=>by cases hg) qfN
def qmo:Ann := .nil
noncomputable def clockCopy_con:Con:=⟨[Zt45],true,[],Zt44,fun x=>qcf x.1,none⟩
noncomputable def qlX:Env:=(108,.con slicesClone_ClockPeriod_con)::(159,.ck 197)::[]
theorem qs0 (x:DL clockCopy_con.ps):clockCopy_con.φ x=denF Tryz.prog qlX qmo Tryz.f46 clockCopy_con.ps clockCopy_con.one clockCopy_con.res clockCopy_con.ρ x:=by kernel_rfl
theorem qjr:ConOK Tryz.prog 46 clockCopy_con :=
  qc (env:=qlX) ((EnvOK.cons (EnvOK.check (EnvOK.nil _) qd) qfQ)) mixed Tryz.func46 clockCopy_con qmo (by kernel_rfl) (fun h=>by first | rfl | cases h) (fun g hg=>by cases hg) qs0
def qlZ:Ann := .nil
noncomputable def clockLeft_con:Con:=⟨[Zt45,Zt24,Zt68,Zt68],false,[Zt68,Zt68],Zt61,fun x=>qhb x.1 x.2.1 x.2.2.1 x.2.2.2.1,none⟩
noncomputable def qlF:Env:=(55,.con clockUsed_con)::(40,.con clockLook_con)::(54,.con clockWithin_con)::[]
theorem qtF (x:DL clockLeft_con.ps):clockLeft_con.φ x=denF Tryz.prog qlF qlZ Tryz.f13 clockLeft_con.ps clockLeft_con.one clockLeft_con.res clockLeft_con.ρ x:=by kernel_rfl
theorem qoD:ConOK Tryz.prog 13 clockLeft_con :=
  qc (env:=qlF) ((EnvOK.cons (EnvOK.cons (EnvOK.cons (EnvOK.nil _) qcx) qb2) qiy)) mixed Tryz.func13 clockLeft_con qlZ (by kernel_rfl) (fun h=>by first | rfl | cases h) (fun g hg=>by cases hg) qtF
def qok:Ann := .nil
noncomputable def offerNew_con:Con:=⟨[],true,[],Zt31,fun x=>qnr,some fun x=>qQ⟩
noncomputable def qoM:Env:=(159,.ck 197)::[]
theorem quH (x:DL offerNew_con.ps):offerNew_con.φ x=denF Tryz.prog qoM qok Tryz.f47 offerNew_con.ps offerNew_con.one offerNew_con.res offerNew_con.ρ x:=by kernel_rfl
theorem qle:ConOK Tryz.prog 47 offerNew_con :=
  qc (env:=qoM) ((EnvOK.check (EnvOK.nil _) qd)) mixed Tryz.func47 offerNew_con qok (by kernel_rfl) (fun h=>by first | rfl | cases h) (fun g hg x=>by
    cases hg
    exact qv9 ) quH
def qi4:Ann := .nil
noncomputable def matchNumber_con:Con:=⟨[.str],false,[Zt68,.bool],(.st Zt68 (.st .bool .nil)),fun x=>qea x.1,none⟩
noncomputable def qjy:Env:=(49,.con qg9)::(155,.con qtR)::[]
theorem qqN (x:DL matchNumber_con.ps):matchNumber_con.φ x=denF Tryz.prog qjy qi4 Tryz.f89 matchNumber_con.ps matchNumber_con.one matchNumber_con.res matchNumber_con.ρ x:=by kernel_rfl
theorem qkz:ConOK Tryz.prog 89 matchNumber_con :=
  qc (env:=qjy) ((EnvOK.cons (EnvOK.cons (EnvOK.nil _) atoiS_ok) qmE)) mixed Tryz.func89 matchNumber_con qi4 (by kernel_rfl) (fun h=>by first | rfl | cases h) (fun g hg=>by cases hg) qqN
def qf7:Ann:=(.two .nil (.two .nil (.two .nil (.two .nil (.two (.two .nil (.joinE ⟨[2,5],[],[(0,some (.box Zt37)),(1,some (.box Zt37))]⟩ (.two (.loop ⟨[2,5,15,16],[(17,Zt68)],[(0,some (.box Zt37)),(1,some (.box Zt37))]⟩ .nil) .nil))) .nil)))))
noncomputable def matchReadEntry_con:Con:=⟨[.str],false,[Zt34,Zt68],(.st Zt34 Zt65),fun x=>qbL x.1,none⟩
noncomputable def qgf:Env:=(89,.con matchNumber_con)::(88,.con qrD)::(159,.ck 197)::[]
theorem qmb (x:DL matchReadEntry_con.ps):matchReadEntry_con.φ x=denF Tryz.prog qgf qf7 Tryz.f27 matchReadEntry_con.ps matchReadEntry_con.one matchReadEntry_con.res matchReadEntry_con.ρ x:=by kernel_rfl
theorem qnT:ConOK Tryz.prog 27 matchReadEntry_con :=
  qc (env:=qgf) ((EnvOK.cons (EnvOK.cons (EnvOK.check (EnvOK.nil _) qd) splitS_ok) qkz)) mixed Tryz.func27 matchReadEntry_con qf7 (by kernel_rfl) (fun h=>by first | rfl | cases h) (fun g hg=>by cases hg) qmb
def qba:Ann := .nil
noncomputable def internalstringsliteHasPrefix_con:Con:=⟨[.str,.str],true,[],.bool,fun x=>qaF x.1 x.2.1,none⟩
noncomputable def qbc:Env:=[]
theorem qdN (x:DL internalstringsliteHasPrefix_con.ps):internalstringsliteHasPrefix_con.φ x=denF Tryz.prog qbc qba Tryz.f280 internalstringsliteHasPrefix_con.ps internalstringsliteHasPrefix_con.one internalstringsliteHasPrefix_con.res internalstringsliteHasPrefix_con.ρ x:=by kernel_rfl
theorem qd0:ConOK Tryz.prog 280 internalstringsliteHasPrefix_con :=
  qc (env:=qbc) ((EnvOK.nil _)) mixed Tryz.func280 internalstringsliteHasPrefix_con qba (by kernel_rfl) (fun h=>by first | rfl | cases h) (fun g hg=>by cases hg) qdN
def qbb:Ann := .nil
noncomputable def internalstringsliteCutPrefix_con:Con:=⟨[.str,.str],false,[.str,.bool],(.st .str (.st .bool .nil)),fun x=>qaG x.1 x.2.1,none⟩
noncomputable def qbd:Env:=(280,.con internalstringsliteHasPrefix_con)::[]
theorem qdO (x:DL internalstringsliteCutPrefix_con.ps):internalstringsliteCutPrefix_con.φ x=denF Tryz.prog qbd qbb Tryz.f243 internalstringsliteCutPrefix_con.ps internalstringsliteCutPrefix_con.one internalstringsliteCutPrefix_con.res internalstringsliteCutPrefix_con.ρ x:=by kernel_rfl
theorem qd8:ConOK Tryz.prog 243 internalstringsliteCutPrefix_con :=
  qc (env:=qbd) ((EnvOK.cons (EnvOK.nil _) qd0)) mixed Tryz.func243 internalstringsliteCutPrefix_con qbb (by kernel_rfl) (fun h=>by first | rfl | cases h) (fun g hg=>by cases hg) qdO
def qeS:Ann := .nil
noncomputable def stringsCutPrefix_con:Con:=⟨[.str,.str],false,[.str,.bool],(.st .str (.st .bool .nil)),fun x=>qaC x.1 x.2.1,none⟩
noncomputable def qeY:Env:=(243,.con internalstringsliteCutPrefix_con)::[]
theorem qkb (x:DL stringsCutPrefix_con.ps):stringsCutPrefix_con.φ x=denF Tryz.prog qeY qeS Tryz.f210 stringsCutPrefix_con.ps stringsCutPrefix_con.one stringsCutPrefix_con.res stringsCutPrefix_con.ρ x:=by kernel_rfl
theorem qlt:ConOK Tryz.prog 210 stringsCutPrefix_con :=
  qc (env:=qeY) ((EnvOK.cons (EnvOK.nil _) qd8)) mixed Tryz.func210 stringsCutPrefix_con qeS (by kernel_rfl) (fun h=>by first | rfl | cases h) (fun g hg=>by cases hg) qkb
end Go.Proofs.YtijkabgijfdpfaaGreatDoor

