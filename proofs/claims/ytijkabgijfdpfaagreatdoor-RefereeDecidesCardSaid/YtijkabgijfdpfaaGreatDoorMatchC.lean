/- Contracts: Match. No condition of its own. -/
import Derived.Test.YtijkabgijfdpfaaGreatDoorMAA
import Derived.Test.YtijkabgijfdpfaaGreatDoorMAI
import Derived.Test.YtijkabgijfdpfaaGreatDoorMAE
import Derived.Test.YtijkabgijfdpfaaGreatDoorGameC
namespace Go.Proofs.YtijkabgijfdpfaaGreatDoor
open Go.Den
set_option linter.unusedVariables false
set_option maxRecDepth 100000
def qkX:Ann:=(.two .nil (.two .nil (.two (.two .nil (.join ⟨[],[(3,(.osl 9 .str))],[]⟩ (.two (.loop ⟨[23],[(3,(.osl 9 .str)),(24,Zt68)],[]⟩ .nil) .nil))) .nil)))
noncomputable def matchEntry_con:Con:=⟨[Zt34],true,[],.str,fun x=>qjH x.1,none⟩
noncomputable def qkO:Env:=(90,.con qpF)::(49,.con qg0)::[]
theorem qrc (x:DL matchEntry_con.ps):matchEntry_con.φ x=denF Tryz.prog qkO qkX Tryz.f28 matchEntry_con.ps matchEntry_con.one matchEntry_con.res matchEntry_con.ρ x:=by kernel_rfl
theorem qtD:ConOK Tryz.prog 28 matchEntry_con :=
  qc (env:=qkO) ((EnvOK.cons (EnvOK.cons (EnvOK.nil _) qmA) joinS_ok)) mixed Tryz.func28 matchEntry_con qkX (by kernel_rfl) (fun h=>by first | rfl | cases h) (fun g hg=>by cases hg) qrc
def qit:Ann := .nil
noncomputable def clockWithin_con:Con:=⟨[Zt68,Zt68,Zt68],true,[],.bool,fun x=>qhx x.1 x.2.1 x.2.2.1,some fun x=>qf x.1 x.2.1 x.2.2.1⟩
noncomputable def qiC:Env:=[]
theorem qqC (x:DL clockWithin_con.ps):clockWithin_con.φ x=denF Tryz.prog qiC qit Tryz.f54 clockWithin_con.ps clockWithin_con.one clockWithin_con.res clockWithin_con.ρ x:=by kernel_rfl
theorem qcx:ConOK Tryz.prog 54 clockWithin_con :=
  qc (env:=qiC) ((EnvOK.nil _)) mixed Tryz.func54 clockWithin_con qit (by kernel_rfl) (fun h=>by first | rfl | cases h) (fun g hg x=>by
    cases hg
    exact qq1 _ _ _) qqC
def qkj:Ann:=(.two .nil (.two .nil (.two .nil (.two (.two .nil (.joinE ⟨[],[],[]⟩ (.two (.loop ⟨[1,21,22],[(23,Zt68)],[]⟩ .nil) .nil))) .nil))))
noncomputable def clockCheck_con:Con:=⟨[Zt45],true,[],Zt68,fun x=>qd9 x.1,none⟩
noncomputable def qkQ:Env:=(159,.ck 197)::(54,.con clockWithin_con)::[]
theorem qq0 (x:DL clockCheck_con.ps):clockCheck_con.φ x=denF Tryz.prog qkQ qkj Tryz.f105 clockCheck_con.ps clockCheck_con.one clockCheck_con.res clockCheck_con.ρ x:=by kernel_rfl
theorem qmC:ConOK Tryz.prog 105 clockCheck_con :=
  qc (env:=qkQ) ((EnvOK.check (EnvOK.cons (EnvOK.nil _) qcx) qd)) mixed Tryz.func105 clockCheck_con qkj (by kernel_rfl) (fun h=>by first | rfl | cases h) (fun g hg=>by cases hg) qq0
def qkl:Ann:=(.two .nil (.two .nil (.two .nil (.two (.two .nil (.join ⟨[],[(6,.bool)],[]⟩ (.two (.loop ⟨[2,3],[(6,.bool),(26,Zt68)],[]⟩ .nil) .nil))) .nil))))
noncomputable def clockValid_con:Con:=⟨[Zt45,Zt24],true,[],Zt68,fun x=>qjQ x.1 x.2.1,none⟩
noncomputable def qkF:Env:=(54,.con clockWithin_con)::(105,.con clockCheck_con)::[]
theorem qri (x:DL clockValid_con.ps):clockValid_con.φ x=denF Tryz.prog qkF qkl Tryz.f99 clockValid_con.ps clockValid_con.one clockValid_con.res clockValid_con.ρ x:=by kernel_rfl
theorem qts:ConOK Tryz.prog 99 clockValid_con :=
  qc (env:=qkF) ((EnvOK.cons (EnvOK.cons (EnvOK.nil _) qmC) qcx)) mixed Tryz.func99 clockValid_con qkl (by kernel_rfl) (fun h=>by first | rfl | cases h) (fun g hg=>by cases hg) qri
def ql4:Ann := .nil
noncomputable def clockUsed_con:Con:=⟨[Zt45,Zt24,Zt68],true,[],Zt68,fun x=>qld x.1 x.2.1 x.2.2.1,some fun x=>qB x.1 x.2.1 x.2.2.1⟩
noncomputable def ql3:Env:=[]
theorem qtB (x:DL clockUsed_con.ps):clockUsed_con.φ x=denF Tryz.prog ql3 ql4 Tryz.f55 clockUsed_con.ps clockUsed_con.one clockUsed_con.res clockUsed_con.ρ x:=by kernel_rfl
theorem qi0:ConOK Tryz.prog 55 clockUsed_con :=
  qc (env:=ql3) ((EnvOK.nil _)) mixed Tryz.func55 clockUsed_con ql4 (by kernel_rfl) (fun h=>by first | rfl | cases h) (fun g hg x=>by
    cases hg
    exact qva _ _ _) qtB
def qlW:Ann:=(.two .nil (.two .nil (.two .nil (.two (.two .nil (.join ⟨[4,6],[],[(1,some (.box Zt27))]⟩ .nil)) .nil))))
noncomputable def clockLook_con:Con:=⟨[Zt45,Zt24,Zt68],false,[Zt24,Zt68],Zt22,fun x=>qak x.1 x.2.1 x.2.2.1,none⟩
noncomputable def qmt:Env:=(55,.con clockUsed_con)::(54,.con clockWithin_con)::(99,.con clockValid_con)::(159,.ck 197)::[]
theorem qtH (x:DL clockLook_con.ps):clockLook_con.φ x=denF Tryz.prog qmt qlW Tryz.f40 clockLook_con.ps clockLook_con.one clockLook_con.res clockLook_con.ρ x:=by kernel_rfl
theorem qcj:ConOK Tryz.prog 40 clockLook_con :=
  qc (env:=qmt) ((EnvOK.cons (EnvOK.cons (EnvOK.cons (EnvOK.check (EnvOK.nil _) qd) qts) qcx) qi0)) mixed Tryz.func40 clockLook_con qlW (by kernel_rfl) (fun h=>by first | rfl | cases h) (fun g hg=>by cases hg) qtH
def qe1:Ann := .nil
noncomputable def slicesClone_Move_con:Con:=⟨[Zt57],true,[],Zt55,fun x=>qcI x.1,none⟩
noncomputable def qeU:Env:=[]
theorem qkb (x:DL slicesClone_Move_con.ps):slicesClone_Move_con.φ x=denF Tryz.prog qeU qe1 Tryz.f119 slicesClone_Move_con.ps slicesClone_Move_con.one slicesClone_Move_con.res slicesClone_Move_con.ρ x:=by kernel_rfl
theorem qla:ConOK Tryz.prog 119 slicesClone_Move_con :=
  qc (env:=qeU) ((EnvOK.nil _)) mixed Tryz.func119 slicesClone_Move_con qe1 (by kernel_rfl) (fun h=>by first | rfl | cases h) (fun g hg=>by cases hg) qkb
def qgh:Ann := .nil
noncomputable def plainGameMoves_con:Con:=⟨[Zt13],true,[],Zt55,fun x=>qx x.1,none⟩
noncomputable def qgm:Env:=(119,.con slicesClone_Move_con)::[]
theorem qmR (x:DL plainGameMoves_con.ps):plainGameMoves_con.φ x=denB Tryz.prog qgm qgh Tryz.f52 true plainGameMoves_con.ps plainGameMoves_con.one plainGameMoves_con.res plainGameMoves_con.ρ x:=by kernel_rfl
theorem qck:qrD Tryz.prog 52 plainGameMoves_con :=
  qnh (env:=qgm) ((EnvOK.cons (EnvOK.nil _) qla)) mixed Tryz.func52 plainGameMoves_con qgh (by kernel_rfl) (fun h=>by first | rfl | cases h) (fun g hg=>by cases hg) qmR
def qky:Ann := .nil
noncomputable def clockReady_con:Con:=⟨[Zt45,Zt24,Zt68,.bool],false,[Zt24,Zt68],Zt22,fun x=>qj4 x.1 x.2.1 x.2.2.1 x.2.2.2.1,none⟩
noncomputable def qkE:Env:=(40,.con clockLook_con)::(159,.ck 197)::[]
theorem qqX (x:DL clockReady_con.ps):clockReady_con.φ x=denF Tryz.prog qkE qky Tryz.f201 clockReady_con.ps clockReady_con.one clockReady_con.res clockReady_con.ρ x:=by kernel_rfl
theorem qsJ:ConOK Tryz.prog 201 clockReady_con :=
  qc (env:=qkE) ((EnvOK.cons (EnvOK.check (EnvOK.nil _) qd) qcj)) mixed Tryz.func201 clockReady_con qky (by kernel_rfl) (fun h=>by first | rfl | cases h) (fun g hg=>by cases hg) qqX
def qkn:Ann:=(.two .nil (.two .nil (.two .nil (.two .nil (.two (.tail 16 .nil) (.two .nil (.two (.two .nil (.two .nil (.join ⟨[2,4,6,9],[],[(1,some (.box Zt27))]⟩ (.two (.two .nil (.two .nil (.tail 18 .nil))) .nil)))) .nil)))))))
noncomputable def clockPress_con:Con:=⟨[Zt45,Zt24,Zt68],false,[Zt24,Zt68],Zt22,fun x=>qg9 x.1 x.2.1 x.2.2.1,none⟩
noncomputable def qki:Env:=(55,.con clockUsed_con)::(201,.con clockReady_con)::(159,.ck 197)::[]
theorem qq4 (x:DL clockPress_con.ps):clockPress_con.φ x=denF Tryz.prog qki qkn Tryz.f145 clockPress_con.ps clockPress_con.one clockPress_con.res clockPress_con.ρ x:=by kernel_rfl
theorem qmh:ConOK Tryz.prog 145 clockPress_con :=
  qc (env:=qki) ((EnvOK.cons (EnvOK.cons (EnvOK.check (EnvOK.nil _) qd) qsJ) qi0)) mixed Tryz.func145 clockPress_con qkn (by kernel_rfl) (fun h=>by first | rfl | cases h) (fun g hg=>by cases hg) qq4
def qkN:Ann:=(.two .nil (.two (.two .nil (.joinE ⟨[],[],[]⟩ (.two (.loop ⟨[1,8],[(9,Zt68)],[]⟩ (.two .nil (.two .nil (.two (.joinE ⟨[1,8,9],[],[]⟩ (.two (.two .nil (.two (.two (.join ⟨[1,3,4,8,9],[(16,Zt61),(17,Zt68)],[]⟩ .nil) (.joinE ⟨[1,3,4,8,9],[],[]⟩ (.two (.loop ⟨[1,3,4,8,9,16],[(17,Zt68)],[]⟩ .nil) .nil))) (.two .nil (.two (.join ⟨[1,8,9],[(43,.bool)],[]⟩ .nil) .nil)))) .nil)) .nil)))) .nil))) .nil))
noncomputable def offerCheck_con:Con:=⟨[Zt31],true,[],Zt68,fun x=>qj0 x.1,none⟩
noncomputable def qkU:Env:=[]
theorem qrg (x:DL offerCheck_con.ps):offerCheck_con.φ x=denF Tryz.prog qkU qkN Tryz.f202 offerCheck_con.ps offerCheck_con.one offerCheck_con.res offerCheck_con.ρ x:=by kernel_rfl
theorem qsw:ConOK Tryz.prog 202 offerCheck_con :=
  qc (env:=qkU) ((EnvOK.nil _)) mixed Tryz.func202 offerCheck_con qkN (by kernel_rfl) (fun h=>by first | rfl | cases h) (fun g hg=>by cases hg) qrg
def qh8:Ann := .nil
noncomputable def offerCheck_i_con:Con:=⟨[Zt31,Zt68,Zt68,Zt68],true,[],Zt68,fun x=>qci x.1 x.2.1 x.2.2.1 x.2.2.2.1,none⟩
noncomputable def qhZ:Env:=(202,.con offerCheck_con)::[]
theorem qoU (x:DL offerCheck_i_con.ps):offerCheck_i_con.φ x=denF Tryz.prog qhZ qh8 Tryz.f148 offerCheck_i_con.ps offerCheck_i_con.one offerCheck_i_con.res offerCheck_i_con.ρ x:=by kernel_rfl
theorem qdm:ConOK Tryz.prog 148 offerCheck_i_con :=
  qc (env:=qhZ) ((EnvOK.cons (EnvOK.nil _) qsw)) mixed Tryz.func148 offerCheck_i_con qh8 (by kernel_rfl) (fun h=>by first | rfl | cases h) (fun g hg=>by cases hg) qoU
def qmI:Ann:=(.two .nil (.two .nil (.two (.two .nil (.join ⟨[2,4],[],[(0,some (.box Zt42))]⟩ .nil)) .nil)))
noncomputable def offerMove_con:Con:=⟨[Zt31,Zt68],false,[Zt31,Zt68],Zt26,fun x=>qfk x.1 x.2.1,none⟩
noncomputable def qm4:Env:=(148,.con offerCheck_i_con)::(159,.ck 197)::[]
theorem qtk (x:DL offerMove_con.ps):offerMove_con.φ x=denF Tryz.prog qm4 qmI Tryz.f146 offerMove_con.ps offerMove_con.one offerMove_con.res offerMove_con.ρ x:=by kernel_rfl
theorem qoJ:ConOK Tryz.prog 146 offerMove_con :=
  qc (env:=qm4) ((EnvOK.cons (EnvOK.check (EnvOK.nil _) qd) qdm)) mixed Tryz.func146 offerMove_con qmI (by kernel_rfl) (fun h=>by first | rfl | cases h) (fun g hg=>by cases hg) qtk
def qgy:Ann:=(.two .nil (.two .nil (.two (.tail 5 .nil) (.two (.any 262143 0 (.ord 0 0 .nil (.ord 1 0 .nil (.ord 2 0 .nil (.ord 3 0 .nil (.ord 4 2031 .nil (.ord 5 0 .nil (.ord 6 0 .nil (.ord 7 0 .nil (.ord 8 0 .nil (.ord 9 1535 .nil (.ord 10 0 .nil (.ord 11 0 .nil (.ord 12 0 .nil (.ord 13 0 .nil (.ord 14 0 .nil (.ord 15 0 .nil (.ord 16 0 .nil (.ord 17 0 .nil (.ord 18 0 .nil .nil)))))))))))))))))))) .nil))))
noncomputable def matchMatchMove_con:Ioc:=⟨Zt1,[Zt58,Zt68],false,[],.nil,fun x=>qaL x.1 x.2.1 x.2.2.1⟩
noncomputable def qfS:Env:=(146,.con offerMove_con)::(145,.con clockPress_con)::(71,.io plainGamePlay_con)::(72,.rd plainGamePosition_con)::(167,.body Tryz.f167)::[]
theorem qmf (x:DL (Zt1::[Zt58,Zt68])):matchMatchMove_con.φ x=denIO Tryz.prog qfS qgy Tryz.f170 Zt1 [Zt58,Zt68] false [] .nil x:=by kernel_rfl
theorem qny:IocOK Tryz.prog 170 matchMatchMove_con :=
  qad (env:=qfS) ((EnvOK.cons (EnvOK.cons (EnvOK.inout (EnvOK.readonly (EnvOK.body (EnvOK.nil _) Tryz.func167) qag) qoP) qmh) qoJ)) mixed Tryz.func170 matchMatchMove_con qgy (by kernel_rfl) (fun h=>by first | rfl | cases h) qmf
def qlK:Ann:=(.two .nil (.two .nil (.two (.two .nil (.join ⟨[],[(5,Zt55)],[]⟩ (.two (.loop ⟨[1,8,9],[(5,Zt55),(10,Zt68)],[]⟩ (.two .nil (.two .nil (.two (.two (.two .nil (.two .nil (.join ⟨[1,8,9,10],[(5,Zt55)],[(0,none)]⟩ .nil))) .nil) .nil)))) .nil))) .nil)))
noncomputable def premoveOf_con:Con:=⟨[Zt46,Zt68],true,[],Zt55,fun x=>qhf x.1 x.2.1,none⟩
noncomputable def qlL:Env:=(159,.ck 197)::[]
theorem qtv (x:DL premoveOf_con.ps):premoveOf_con.φ x=denF Tryz.prog qlL qlK Tryz.f222 premoveOf_con.ps premoveOf_con.one premoveOf_con.res premoveOf_con.ρ x:=by kernel_rfl
theorem qos:ConOK Tryz.prog 222 premoveOf_con :=
  qc (env:=qlL) ((EnvOK.check (EnvOK.nil _) qd)) mixed Tryz.func222 premoveOf_con qlK (by kernel_rfl) (fun h=>by first | rfl | cases h) (fun g hg=>by cases hg) qtv
def qhW:Ann:=(.two .nil (.two (.two (.join ⟨[0],[(12,.bool)],[]⟩ .nil) .nil) (.two (.two (.two (.two .nil (.two (.two (.two .nil (.two (.two .nil (.joinE ⟨[],[],[]⟩ (.two (.loop ⟨[0,1,7],[(8,Zt68)],[]⟩ .nil) .nil))) .nil)) .nil) .nil)) .nil) .nil) .nil)))
noncomputable def premoveCheck_con:Con:=⟨[Zt46],true,[],Zt68,fun x=>qev x.1,none⟩
noncomputable def qh7:Env:=(260,.body Tryz.f260)::(252,.body Tryz.f252)::(259,.body Tryz.f259)::(222,.con premoveOf_con)::[]
theorem qoR (x:DL premoveCheck_con.ps):premoveCheck_con.φ x=denF Tryz.prog qh7 qhW Tryz.f221 premoveCheck_con.ps premoveCheck_con.one premoveCheck_con.res premoveCheck_con.ρ x:=by kernel_rfl
theorem qiH:ConOK Tryz.prog 221 premoveCheck_con :=
  qc (env:=qh7) ((EnvOK.body (EnvOK.body (EnvOK.body (EnvOK.cons (EnvOK.nil _) qos) Tryz.func259) Tryz.func252) Tryz.func260)) mixed Tryz.func221 premoveCheck_con qhW (by kernel_rfl) (fun h=>by first | rfl | cases h) (fun g hg=>by cases hg) qoR
def qfU:Ann := .nil
noncomputable def premoveCheck_i_con:Con:=⟨[Zt21,Zt40,Zt46],true,[],Zt68,fun x=>qei x.1 x.2.1 x.2.2.1,none⟩
noncomputable def qgr:Env:=(221,.con premoveCheck_con)::(74,.con placeCheck_con)::[]
theorem qlJ (x:DL premoveCheck_i_con.ps):premoveCheck_i_con.φ x=denF Tryz.prog qgr qfU Tryz.f218 premoveCheck_i_con.ps premoveCheck_i_con.one premoveCheck_i_con.res premoveCheck_i_con.ρ x:=by kernel_rfl
theorem qnD:ConOK Tryz.prog 218 premoveCheck_i_con :=
  qc (env:=qgr) ((EnvOK.cons (EnvOK.cons (EnvOK.nil _) qe5) qiH)) mixed Tryz.func218 premoveCheck_i_con qfU (by kernel_rfl) (fun h=>by first | rfl | cases h) (fun g hg=>by cases hg) qlJ
def qb3:Ann := .nil
noncomputable def slicesClone_PremoveMove_con:Con:=⟨[Zt46],true,[],Zt43,fun x=>qz x.1,none⟩
noncomputable def qb2:Env:=[]
theorem qfA (x:DL slicesClone_PremoveMove_con.ps):slicesClone_PremoveMove_con.φ x=denF Tryz.prog qb2 qb3 Tryz.f53 slicesClone_PremoveMove_con.ps slicesClone_PremoveMove_con.one slicesClone_PremoveMove_con.res slicesClone_PremoveMove_con.ρ x:=by kernel_rfl
theorem qaY:ConOK Tryz.prog 53 slicesClone_PremoveMove_con :=
  qc (env:=qb2) ((EnvOK.nil _)) mixed Tryz.func53 slicesClone_PremoveMove_con qb3 (by kernel_rfl) (fun h=>by first | rfl | cases h) (fun g hg=>by cases hg) qfA
def qgC:Ann:=(.two .nil (.two (.two (.two .nil (.two (.two (.two .nil (.two (.two .nil (.joinE ⟨[],[],[]⟩ (.two (.loop ⟨[0,1,7],[(8,Zt68)],[]⟩ .nil) .nil))) .nil)) .nil) (.sel 2 1000004 (.two .nil (.two (.two .nil (.join ⟨[0],[(5,Zt68)],[(1,some (.arr 139 Zt47))]⟩ (.two (.loop ⟨[0,1],[(5,Zt68),(6,Zt68)],[(1,some (.arr 139 Zt47))]⟩ (.two .nil (.two (.two (.two .nil (.two .nil (.join ⟨[0,1,6],[(5,Zt68)],[(1,some (.arr 139 Zt47))]⟩ .nil))) .nil) .nil))) .nil))) (.two (.own .nil) (.two (.own .nil) .nil)))) .nil))) .nil) .nil))
noncomputable def premoveWithout_con:Con:=⟨[Zt46,Zt68],true,[],Zt43,fun x=>qcw x.1 x.2.1,none⟩
noncomputable def qf0:Env:=(159,.ck 197)::(289,.body Tryz.f289)::(252,.body Tryz.f252)::(288,.body Tryz.f288)::(53,.con slicesClone_PremoveMove_con)::[]
theorem qmk (x:DL premoveWithout_con.ps):premoveWithout_con.φ x=denF Tryz.prog qf0 qgC Tryz.f254 premoveWithout_con.ps premoveWithout_con.one premoveWithout_con.res premoveWithout_con.ρ x:=by kernel_rfl
theorem qnK:ConOK Tryz.prog 254 premoveWithout_con :=
  qc (env:=qf0) ((EnvOK.check (EnvOK.body (EnvOK.body (EnvOK.body (EnvOK.cons (EnvOK.nil _) qaY) Tryz.func288) Tryz.func252) Tryz.func289) qd)) mixed Tryz.func254 premoveWithout_con qgC (by kernel_rfl) (fun h=>by first | rfl | cases h) (fun g hg=>by cases hg) qmk
def qbV:Ann:=(.two .nil (.two .nil (.two (.two .nil (.join ⟨[0],[(3,Zt68)],[]⟩ (.two (.loop ⟨[0,9,10],[(3,Zt68),(11,Zt68)],[]⟩ .nil) .nil))) (.two (.two (.two .nil (.two .nil (.two (.two .nil (.two .nil (.join ⟨[],[(0,Zt43)],[]⟩ (.two (.own (.own .nil)) .nil)))) .nil))) .nil) (.two (.two .nil (.join ⟨[],[(6,Zt43)],[(0,none)]⟩ (.two (.loop ⟨[25,26],[(6,Zt43),(27,Zt68)],[(0,none)]⟩ .nil) .nil))) .nil)))))
noncomputable def slicesConcat_PremoveMove_con:Con:=⟨[(.sl Zt46)],true,[],Zt43,fun x=>qay x.1,none⟩
noncomputable def qbW:Env:=(290,.body Tryz.f290)::[]
theorem qe9 (x:DL slicesConcat_PremoveMove_con.ps):slicesConcat_PremoveMove_con.φ x=denF Tryz.prog qbW qbV Tryz.f255 slicesConcat_PremoveMove_con.ps slicesConcat_PremoveMove_con.one slicesConcat_PremoveMove_con.res slicesConcat_PremoveMove_con.ρ x:=by kernel_rfl
theorem qft:ConOK Tryz.prog 255 slicesConcat_PremoveMove_con :=
  qc (env:=qbW) ((EnvOK.body (EnvOK.nil _) Tryz.func290)) mixed Tryz.func255 slicesConcat_PremoveMove_con qbV (by kernel_rfl) (fun h=>by first | rfl | cases h) (fun g hg=>by cases hg) qe9
def qje:Ann:=(.two .nil (.two (.two (.two .nil (.two (.two .nil (.joinE ⟨[],[],[]⟩ (.two (.loop ⟨[0,1,7],[(8,Zt68)],[]⟩ .nil) .nil))) .nil)) .nil) (.sel 3 1000004 (.two (.two (.join ⟨[2,4,6,9],[(26,.bool)],[]⟩ (.any 16351 32 (.ord 0 0 .nil (.ord 1 0 .nil (.ord 2 0 .nil (.ord 3 2007 .nil (.ord 4 1999 .nil (.ord 6 0 .nil (.ord 7 0 .nil (.ord 8 0 .nil (.ord 9 0 .nil (.ord 10 1023 .nil (.ord 5 0 .nil (.ord 11 0 .nil (.ord 12 0 .nil (.ord 13 0 .nil .nil)))))))))))))))) .nil) (.two (.any 102399 12288 (.ord 0 0 .nil (.ord 1 0 .nil (.ord 2 0 .nil (.ord 3 0 .nil (.ord 4 16367 .nil (.ord 5 0 .nil (.ord 6 0 .nil (.ord 7 0 .nil (.ord 8 0 .nil (.ord 9 0 .nil (.ord 10 0 .nil (.ord 11 0 .nil (.ord 12 0 .nil (.ord 13 0 .nil (.ord 14 0 .nil (.ord 15 0 .nil (.ord 16 0 .nil .nil)))))))))))))))))) .nil)) (.two (.two (.any 16351 32 (.ord 0 0 .nil (.ord 1 0 .nil (.ord 2 0 .nil (.ord 3 2007 .nil (.ord 4 1999 .nil (.ord 6 0 .nil (.ord 7 0 .nil (.ord 8 0 .nil (.ord 9 0 .nil (.ord 10 1023 .nil (.ord 5 0 .nil (.ord 11 0 .nil (.ord 12 0 .nil (.ord 13 0 .nil .nil))))))))))))))) .nil) .nil))))
noncomputable def premoveNext_con:Con:=⟨[Zt21,Zt40,Zt46],false,[Zt58,.bool,Zt43],(.st Zt58 (.st .bool (.st Zt43 .nil))),fun x=>qhs x.1 x.2.1 x.2.2.1,none⟩
noncomputable def qiI:Env:=(255,.con slicesConcat_PremoveMove_con)::(254,.con premoveWithout_con)::(98,.con slicesContains_Move_con)::(168,.con endsMoves_con)::(253,.body Tryz.f253)::(252,.body Tryz.f252)::(159,.ck 197)::[]
theorem qpC (x:DL premoveNext_con.ps):premoveNext_con.φ x=denF Tryz.prog qiI qje Tryz.f219 premoveNext_con.ps premoveNext_con.one premoveNext_con.res premoveNext_con.ρ x:=by kernel_rfl
theorem qqZ:ConOK Tryz.prog 219 premoveNext_con :=
  qc (env:=qiI) ((EnvOK.cons (EnvOK.cons (EnvOK.cons (EnvOK.cons (EnvOK.body (EnvOK.body (EnvOK.check (EnvOK.nil _) qd) Tryz.func252) Tryz.func253) qop) qai) qnK) qft)) mixed Tryz.func219 premoveNext_con qje (by kernel_rfl) (fun h=>by first | rfl | cases h) (fun g hg=>by cases hg) qpC
def qgX:Ann := .nil
noncomputable def premoveNext_i_con:Con:=⟨[Zt21,Zt40,Zt46],false,[Zt58,.bool,Zt43,Zt68],(.st Zt58 (.st .bool Zt39)),fun x=>qbx x.1 x.2.1 x.2.2.1,none⟩
noncomputable def qg8:Env:=(219,.con premoveNext_con)::(218,.con premoveCheck_i_con)::(159,.ck 197)::[]
theorem qn2 (x:DL premoveNext_i_con.ps):premoveNext_i_con.φ x=denF Tryz.prog qg8 qgX Tryz.f171 premoveNext_i_con.ps premoveNext_i_con.one premoveNext_i_con.res premoveNext_i_con.ρ x:=by kernel_rfl
theorem qo0:ConOK Tryz.prog 171 premoveNext_i_con :=
  qc (env:=qg8) ((EnvOK.cons (EnvOK.cons (EnvOK.check (EnvOK.nil _) qd) qnD) qqZ)) mixed Tryz.func171 premoveNext_i_con qgX (by kernel_rfl) (fun h=>by first | rfl | cases h) (fun g hg=>by cases hg) qn2
def qeC:Ann:=(.ord 14 0 .nil (.ord 15 0 .nil (.ord 16 0 .nil (.ord 17 0 .nil (.ord 18 0 .nil (.ord 19 0 .nil (.ord 21 0 .nil (.ord 22 0 .nil (.ord 23 0 .nil (.ord 24 0 .nil .nil))))))))))
def qeZ:Ann:=(.two .nil (.two (.two (.two (.join ⟨[0,3],[(9,.bool)],[]⟩ (.any 61 0 (.ord 0 0 .nil (.ord 2 0 .nil (.alt (.ord 1 0 .nil (.ord 3 0 .nil (.ord 4 0 .nil (.ord 5 0 .nil .nil)))) (.ord 3 0 .nil (.ord 1 0 .nil (.ord 4 0 .nil (.ord 5 0 .nil .nil))))))))) (.two .nil (.two (.any 31999 768 (.ord 0 0 .nil (.ord 1 0 .nil (.ord 2 0 .nil (.ord 3 3575 .nil (.ord 4 0 .nil (.ord 5 0 .nil (.ord 6 0 .nil (.ord 7 3199 .nil (.ord 10 0 .nil (.ord 11 2047 .nil (.ord 8 0 .nil (.ord 9 0 .nil (.ord 12 0 .nil (.ord 13 0 .nil (.ord 14 0 .nil .nil)))))))))))))))) .nil))) .nil) (.two .nil (.two (.join ⟨[],[],[(0,some (.box Zt2)),(10,none),(11,none),(12,none)]⟩ (.two (.loop ⟨[0,3],[],[(0,some (.box Zt2)),(10,none),(11,none),(12,none)]⟩ (.two (.two (.join ⟨[0,3],[(50,.bool)],[]⟩ .nil) .nil) (.two (.two (.join ⟨[0,3],[(5,(.obx Zt58)),(6,.bool),(7,Zt43)],[]⟩ (.any 30392063 1065216 (.ord 0 0 .nil (.ord 1 0 .nil (.ord 2 0 .nil (.ord 3 1064951 .nil (.ord 4 0 .nil (.ord 5 0 .nil (.ord 6 0 .nil (.ord 7 1064575 .nil (.ord 9 0 .nil (.ord 10 0 .nil (.ord 11 0 .nil (.ord 12 0 .nil (.ord 13 1056767 .nil (.alt (.ord 8 0 .nil (.alt (.ord 14 0 .nil (.ord 15 0 .nil (.ord 16 0 .nil (.ord 17 0 .nil (.ord 18 0 .nil (.ord 19 0 .nil (.ord 20 0 .nil (.ord 21 0 .nil (.ord 22 0 .nil (.ord 23 0 .nil (.ord 24 0 .nil .nil))))))))))) (.ord 20 0 .nil qeC))) (.ord 20 0 .nil (.ord 8 0 .nil qeC)))))))))))))))))) .nil) .nil))) .nil)) .nil))))
noncomputable def matchMatchDoMove_con:Ioc:=⟨Zt1,[Zt34],true,[],Zt68,fun x=>qaZ x.1 x.2.1⟩
noncomputable def qeS:Env:=(159,.ck 197)::(171,.con premoveNext_i_con)::(73,.rd plainGameResult_con)::(170,.io matchMatchMove_con)::(52,.rd plainGameMoves_con)::(169,.body Tryz.f169)::(98,.con slicesContains_Move_con)::(168,.con endsMoves_con)::(72,.rd plainGamePosition_con)::(167,.body Tryz.f167)::[]
theorem qka (x:DL (Zt1::[Zt34])):matchMatchDoMove_con.φ x=denIO Tryz.prog qeS qeZ Tryz.f114 Zt1 [Zt34] true [] Zt68 x:=by kernel_rfl
theorem qlt:IocOK Tryz.prog 114 matchMatchDoMove_con :=
  qad (env:=qeS) ((EnvOK.check (EnvOK.cons (EnvOK.readonly (EnvOK.inout (EnvOK.readonly (EnvOK.body (EnvOK.cons (EnvOK.cons (EnvOK.readonly (EnvOK.body (EnvOK.nil _) Tryz.func167) qag) qop) qai) Tryz.func169) qck) qny) qc7) qo0) qd)) mixed Tryz.func114 matchMatchDoMove_con qeZ (by kernel_rfl) (fun h=>by first | rfl | cases h) qka
def ql8:Ann := .nil
noncomputable def offerTurn_con:Con:=⟨[Zt68],true,[],Zt68,fun x=>qlw x.1,some fun x=>qiG x.1⟩
noncomputable def qlP:Env:=[]
theorem qtb (x:DL offerTurn_con.ps):offerTurn_con.φ x=denF Tryz.prog qlP ql8 Tryz.f203 offerTurn_con.ps offerTurn_con.one offerTurn_con.res offerTurn_con.ρ x:=by kernel_rfl
theorem qus:ConOK Tryz.prog 203 offerTurn_con :=
  qc (env:=qlP) ((EnvOK.nil _)) mixed Tryz.func203 offerTurn_con ql8 (by kernel_rfl) (fun h=>by first | rfl | cases h) (fun g hg x=>by
    cases hg
    exact quL _) qtb
def qkK:Ann:=(.two .nil (.two .nil (.two (.two .nil (.join ⟨[0,1],[(5,Zt68)],[]⟩ .nil)) .nil)))
noncomputable def offerPlies_con:Con:=⟨[Zt68,Zt68],true,[],Zt68,fun x=>qcQ x.1 x.2.1,none⟩
noncomputable def qkh:Env:=(203,.con offerTurn_con)::[]
theorem qrh (x:DL offerPlies_con.ps):offerPlies_con.φ x=denF Tryz.prog qkh qkK Tryz.f149 offerPlies_con.ps offerPlies_con.one offerPlies_con.res offerPlies_con.ρ x:=by kernel_rfl
theorem qhJ:ConOK Tryz.prog 149 offerPlies_con :=
  qc (env:=qkh) ((EnvOK.cons (EnvOK.nil _) qus)) mixed Tryz.func149 offerPlies_con qkK (by kernel_rfl) (fun h=>by first | rfl | cases h) (fun g hg=>by cases hg) qrh
def qmx:Ann:=(.two .nil (.two .nil (.two (.two (.two .nil (.two .nil (.two .nil (.two .nil (.two (.join ⟨[1,2,3,4,8],[(28,.bool)],[]⟩ .nil) .nil))))) .nil) (.two (.join ⟨[4,8],[],[(0,some (.box Zt42))]⟩ (.any 1919 0 (.ord 0 0 .nil (.ord 1 0 .nil (.ord 2 0 .nil (.ord 3 0 .nil (.ord 4 0 .nil (.ord 5 0 .nil (.ord 6 0 .nil (.ord 8 0 .nil (.ord 9 0 .nil (.ord 7 0 .nil (.ord 10 0 .nil (.ord 11 0 .nil .nil)))))))))))))) .nil))))
noncomputable def offerMake_con:Con:=⟨[Zt31,Zt68,Zt68,Zt68],false,[Zt31,Zt68],Zt26,fun x=>qcu x.1 x.2.1 x.2.2.1 x.2.2.2.1,none⟩
noncomputable def qnd:Env:=(149,.con offerPlies_con)::(148,.con offerCheck_i_con)::(159,.ck 197)::[]
theorem qta (x:DL offerMake_con.ps):offerMake_con.φ x=denF Tryz.prog qnd qmx Tryz.f83 offerMake_con.ps offerMake_con.one offerMake_con.res offerMake_con.ρ x:=by kernel_rfl
theorem qog:ConOK Tryz.prog 83 offerMake_con :=
  qc (env:=qnd) ((EnvOK.cons (EnvOK.cons (EnvOK.check (EnvOK.nil _) qd) qdm) qhJ)) mixed Tryz.func83 offerMake_con qmx (by kernel_rfl) (fun h=>by first | rfl | cases h) (fun g hg=>by cases hg) qta
def qmT:Ann := .nil
noncomputable def offerOpen_con:Con:=⟨[Zt31,Zt68,Zt68,Zt68],true,[],Zt68,fun x=>qi7 x.1 x.2.1 x.2.2.1 x.2.2.2.1,none⟩
noncomputable def qmU:Env:=(148,.con offerCheck_i_con)::[]
theorem qtj (x:DL offerOpen_con.ps):offerOpen_con.φ x=denF Tryz.prog qmU qmT Tryz.f152 offerOpen_con.ps offerOpen_con.one offerOpen_con.res offerOpen_con.ρ x:=by kernel_rfl
theorem qou:ConOK Tryz.prog 152 offerOpen_con :=
  qc (env:=qmU) ((EnvOK.cons (EnvOK.nil _) qdm)) mixed Tryz.func152 offerOpen_con qmT (by kernel_rfl) (fun h=>by first | rfl | cases h) (fun g hg=>by cases hg) qtj
def qh1:Ann := .nil
noncomputable def offerDecline_con:Con:=⟨[Zt31,Zt68,Zt68,Zt68],false,[Zt31,Zt68],Zt26,fun x=>qaN x.1 x.2.1 x.2.2.1 x.2.2.2.1,none⟩
noncomputable def qhY:Env:=(152,.con offerOpen_con)::(159,.ck 197)::[]
theorem qoV (x:DL offerDecline_con.ps):offerDecline_con.φ x=denF Tryz.prog qhY qh1 Tryz.f85 offerDecline_con.ps offerDecline_con.one offerDecline_con.res offerDecline_con.ρ x:=by kernel_rfl
theorem qi6:ConOK Tryz.prog 85 offerDecline_con :=
  qc (env:=qhY) ((EnvOK.cons (EnvOK.check (EnvOK.nil _) qd) qou)) mixed Tryz.func85 offerDecline_con qh1 (by kernel_rfl) (fun h=>by first | rfl | cases h) (fun g hg=>by cases hg) qoV
def qv:Ann:=(.ord 12 0 .nil (.ord 13 0 .nil (.ord 14 0 .nil (.ord 15 0 .nil (.ord 17 0 .nil (.ord 18 0 .nil .nil))))))
def qH:Ann:=(.alt (.ord 12 0 .nil (.ord 13 0 .nil (.ord 14 0 .nil (.ord 15 0 .nil (.ord 16 0 .nil (.ord 17 0 .nil (.ord 18 0 .nil .nil))))))) (.ord 16 0 .nil qv))
def qbO:Ann:=(.alt (.ord 9 0 .nil (.ord 11 0 .nil qv)) (.ord 11 0 .nil (.ord 9 0 .nil qv)))
def qbQ:Ann:=(.alt (.ord 7 0 .nil (.ord 11 0 .nil qv)) (.ord 11 0 .nil (.ord 7 0 .nil qv)))
def qbP:Ann:=(.alt (.ord 5 0 .nil (.ord 11 0 .nil qv)) (.ord 11 0 .nil (.ord 5 0 .nil qv)))
def qbR:Ann:=(.alt (.ord 11 0 .nil qH) (.ord 16 0 .nil (.ord 11 0 .nil qv)))
def qdY:Ann:=(.alt (.ord 7 0 .nil qbO) (.alt (.ord 9 0 .nil qbQ) (.ord 11 0 .nil (.ord 7 69503 .nil (.ord 9 0 .nil qv)))))
def qdT:Ann:=(.alt (.ord 5 0 .nil qbQ) (.alt (.ord 7 0 .nil qbP) (.ord 11 0 .nil (.ord 5 69599 .nil (.ord 7 0 .nil qv)))))
def qdR:Ann:=(.alt (.ord 5 0 .nil qbO) (.alt (.ord 9 0 .nil qbP) (.ord 11 0 .nil (.ord 5 69599 .nil (.ord 9 0 .nil qv)))))
def qc6:Ann:=(.alt (.ord 9 0 .nil qbR) (.alt (.ord 11 0 .nil (.ord 9 69119 .nil qH)) (.ord 16 0 .nil qbO)))
def qdc:Ann:=(.alt (.ord 7 0 .nil qbR) (.alt (.ord 11 0 .nil (.ord 7 69503 .nil qH)) (.ord 16 0 .nil qbQ)))
def qdi:Ann:=(.alt (.ord 5 0 .nil qbR) (.alt (.ord 11 0 .nil (.ord 5 69599 .nil qH)) (.ord 16 0 .nil qbP)))
def qet:Ann:=(.two .nil (.two .nil (.two .nil (.two (.join ⟨[0],[(6,Zt28),(7,Zt68)],[]⟩ (.any 321535 65536 (.ord 0 0 .nil (.ord 1 0 .nil (.ord 2 0 .nil (.ord 3 0 .nil (.ord 4 0 .nil (.ord 6 0 .nil (.ord 8 0 .nil (.ord 10 0 .nil (.alt (.ord 5 0 .nil (.alt (.ord 7 0 .nil qc6) (.alt (.ord 9 0 .nil qdc) (.alt (.ord 11 0 .nil (.ord 7 69503 .nil (.ord 9 69119 .nil qH))) (.ord 16 0 .nil qdY))))) (.alt (.ord 7 0 .nil (.alt (.ord 5 0 .nil qc6) (.alt (.ord 9 0 .nil qdi) (.alt (.ord 11 0 .nil (.ord 5 69599 .nil (.ord 9 69119 .nil qH))) (.ord 16 0 .nil qdR))))) (.alt (.ord 9 0 .nil (.alt (.ord 5 0 .nil qdc) (.alt (.ord 7 0 .nil qdi) (.alt (.ord 11 0 .nil (.ord 5 69599 .nil (.ord 7 69503 .nil qH))) (.ord 16 0 .nil qdT))))) (.alt (.ord 11 0 .nil (.ord 5 69599 .nil (.ord 7 69503 .nil (.ord 9 69119 .nil qH)))) (.ord 16 0 .nil (.alt (.ord 5 0 .nil qdY) (.alt (.ord 7 0 .nil qdR) (.alt (.ord 9 0 .nil qdT) (.ord 11 0 .nil (.ord 5 69599 .nil (.ord 7 69503 .nil (.ord 9 0 .nil qv)))))))))))))))))))))) (.two (.two .nil (.join ⟨[7],[],[(0,some (.box Zt2)),(1,none),(2,none),(3,none)]⟩ .nil)) .nil)))))
noncomputable def matchMatchDoOffer_con:Ioc:=⟨Zt1,[Zt34],true,[],Zt68,fun x=>qaO x.1 x.2.1⟩
noncomputable def qex:Env:=(83,.con offerMake_con)::(159,.ck 197)::(85,.con offerDecline_con)::(52,.rd plainGameMoves_con)::(169,.body Tryz.f169)::[]
theorem qi9 (x:DL (Zt1::[Zt34])):matchMatchDoOffer_con.φ x=denIO Tryz.prog qex qet Tryz.f115 Zt1 [Zt34] true [] Zt68 x:=by kernel_rfl
theorem qkd:IocOK Tryz.prog 115 matchMatchDoOffer_con :=
  qad (env:=qex) ((EnvOK.cons (EnvOK.check (EnvOK.cons (EnvOK.readonly (EnvOK.body (EnvOK.nil _) Tryz.func169) qck) qi6) qd) qog)) mixed Tryz.func115 matchMatchDoOffer_con qet (by kernel_rfl) (fun h=>by first | rfl | cases h) qi9
def qjz:Ann := .nil
noncomputable def offerAccept_con:Con:=⟨[Zt31,Zt68,Zt68,Zt68],false,[Zt31,Zt68],Zt26,fun x=>qcL x.1 x.2.1 x.2.2.1 x.2.2.2.1,none⟩
noncomputable def qix:Env:=(152,.con offerOpen_con)::(159,.ck 197)::[]
theorem qqx (x:DL offerAccept_con.ps):offerAccept_con.φ x=denF Tryz.prog qix qjz Tryz.f150 offerAccept_con.ps offerAccept_con.one offerAccept_con.res offerAccept_con.ρ x:=by kernel_rfl
theorem qkv:ConOK Tryz.prog 150 offerAccept_con :=
  qc (env:=qix) ((EnvOK.cons (EnvOK.check (EnvOK.nil _) qd) qou)) mixed Tryz.func150 offerAccept_con qjz (by kernel_rfl) (fun h=>by first | rfl | cases h) (fun g hg=>by cases hg) qqx
def qhh:Ann:=(.two .nil (.two .nil (.two (.join ⟨[],[],[(0,some (.box Zt14)),(1,none),(2,none)]⟩ (.any 461369343 8392704 (.ord 0 0 .nil (.ord 1 0 .nil (.ord 2 0 .nil (.ord 3 0 .nil (.ord 4 0 .nil (.ord 5 16773087 .nil (.ord 6 0 .nil (.ord 7 0 .nil (.ord 8 0 .nil (.ord 9 16769535 .nil (.ord 10 0 .nil (.ord 11 0 .nil (.ord 13 0 .nil (.ord 14 0 .nil (.ord 15 0 .nil (.ord 16 8323071 .nil (.ord 17 0 .nil (.ord 18 0 .nil (.ord 19 0 .nil (.ord 20 1048575 .nil (.ord 21 0 .nil (.ord 22 0 .nil (.alt (.ord 12 0 (.own .nil) (.ord 24 0 .nil (.ord 25 0 .nil (.alt (.ord 23 0 (.own .nil) (.ord 26 0 .nil (.ord 27 0 .nil (.ord 28 0 .nil (.ord 29 0 .nil .nil))))) (.ord 26 0 .nil (.ord 23 0 (.own .nil) (.ord 27 0 .nil (.ord 28 0 .nil (.ord 29 0 .nil .nil))))))))) (.ord 23 0 (.own .nil) (.ord 12 0 (.own .nil) (.ord 24 0 .nil (.ord 25 0 .nil (.ord 26 0 .nil (.ord 27 0 .nil (.ord 28 0 .nil (.ord 29 0 .nil .nil))))))))))))))))))))))))))))))))) .nil)))
noncomputable def plainGameBack_con:Ioc:=⟨Zt12,[],true,[],Zt68,fun x=>qdJ x.1⟩
noncomputable def qg2:Env:=[]
theorem qnT (x:DL (Zt12::[])):plainGameBack_con.φ x=denIO Tryz.prog qg2 qhh Tryz.f172 Zt12 [] true [] Zt68 x:=by kernel_rfl
theorem qoW:IocOK Tryz.prog 172 plainGameBack_con :=
  qad (env:=qg2) ((EnvOK.nil _)) mixed Tryz.func172 plainGameBack_con qhh (by kernel_rfl) (fun h=>by first | rfl | cases h) qnT
def qlY:Ann:=(.two .nil (.two .nil (.two .nil (.two (.two .nil (.join ⟨[2,4],[],[(0,some (.box Zt42))]⟩ (.two (.loop ⟨[1,2,4],[(19,Zt68)],[(0,some (.box Zt42))]⟩ (.two .nil (.two .nil (.two (.join ⟨[1,2,4,19],[],[(0,some (.box Zt42))]⟩ (.two (.two .nil (.two (.join ⟨[1,2,4,7,19],[(25,Zt61),(26,Zt68)],[]⟩ .nil) (.join ⟨[1,2,4,19],[],[(0,some (.box Zt42))]⟩ (.two (.loop ⟨[1,2,4,7,19,25],[(26,Zt68)],[(0,some (.box Zt42))]⟩ (.two .nil (.two .nil (.two (.two (.two .nil (.join ⟨[1,2,4,7,19,25,26],[],[(0,some (.box Zt42))]⟩ .nil)) .nil) .nil)))) .nil)))) .nil)) .nil)))) .nil))) .nil))))
noncomputable def offerBack_con:Con:=⟨[Zt31,Zt68],false,[Zt31,Zt68],Zt26,fun x=>qeF x.1 x.2.1,none⟩
noncomputable def qmJ:Env:=(148,.con offerCheck_i_con)::(159,.ck 197)::[]
theorem qsv (x:DL offerBack_con.ps):offerBack_con.φ x=denF Tryz.prog qmJ qlY Tryz.f151 offerBack_con.ps offerBack_con.one offerBack_con.res offerBack_con.ρ x:=by kernel_rfl
theorem qod:ConOK Tryz.prog 151 offerBack_con :=
  qc (env:=qmJ) ((EnvOK.cons (EnvOK.check (EnvOK.nil _) qd) qdm)) mixed Tryz.func151 offerBack_con qlY (by kernel_rfl) (fun h=>by first | rfl | cases h) (fun g hg=>by cases hg) qsv
def qw:Ann:=(.ord 11 0 .nil (.ord 12 0 .nil (.ord 13 0 .nil (.ord 14 0 .nil (.ord 16 0 .nil (.ord 17 0 .nil .nil))))))
def qF:Ann:=(.ord 11 34815 .nil (.ord 12 0 .nil (.ord 13 0 .nil (.ord 14 0 .nil (.ord 15 0 .nil (.ord 16 0 .nil (.ord 17 0 .nil .nil)))))))
def qbD:Ann:=(.alt (.ord 8 0 .nil (.ord 10 0 .nil qw)) (.ord 10 0 .nil (.ord 8 0 .nil qw)))
def qby:Ann:=(.alt (.ord 6 0 .nil (.ord 10 0 .nil qw)) (.ord 10 0 .nil (.ord 6 0 .nil qw)))
def qbu:Ann:=(.alt (.ord 4 0 .nil (.ord 10 0 .nil qw)) (.ord 10 0 .nil (.ord 4 0 .nil qw)))
def qbB:Ann:=(.alt (.ord 10 0 .nil qF) (.ord 15 0 .nil (.ord 10 0 .nil qw)))
def qbF:Ann:=(.ord 11 0 .nil (.ord 12 0 .nil (.ord 13 0 .nil (.ord 14 0 .nil (.ord 15 0 .nil .nil)))))
def qdu:Ann:=(.alt (.ord 6 0 .nil qbD) (.alt (.ord 8 0 .nil qby) (.ord 10 0 .nil (.ord 6 34751 .nil (.ord 8 0 .nil qw)))))
def qdM:Ann:=(.alt (.ord 4 0 .nil qby) (.alt (.ord 6 0 .nil qbu) (.ord 10 0 .nil (.ord 4 34799 .nil (.ord 6 0 .nil qw)))))
def qcU:Ann:=(.alt (.ord 4 0 .nil qbD) (.alt (.ord 8 0 .nil qbu) (.ord 10 0 .nil (.ord 4 34799 .nil (.ord 8 0 .nil qw)))))
def qcT:Ann:=(.alt (.ord 8 0 .nil qbB) (.alt (.ord 10 0 .nil (.ord 8 34559 .nil qF)) (.ord 15 0 .nil qbD)))
def qcW:Ann:=(.alt (.ord 6 0 .nil qbB) (.alt (.ord 10 0 .nil (.ord 6 34751 .nil qF)) (.ord 15 0 .nil qby)))
def qcV:Ann:=(.alt (.ord 4 0 .nil qbB) (.alt (.ord 10 0 .nil (.ord 4 34799 .nil qF)) (.ord 15 0 .nil qbu)))
def qbm:Ann:=(.ord 8 0 .nil (.ord 9 0 .nil (.ord 10 0 .nil qbF)))
def qdP:Ann:=(.two .nil (.two (.join ⟨[0,3],[(5,Zt28),(6,Zt68)],[]⟩ (.any 162815 32768 (.ord 0 0 .nil (.ord 1 0 .nil (.ord 2 0 .nil (.ord 3 0 .nil (.ord 5 0 .nil (.ord 7 0 .nil (.ord 9 0 .nil (.alt (.ord 4 0 .nil (.alt (.ord 6 0 .nil qcT) (.alt (.ord 8 0 .nil qcW) (.alt (.ord 10 0 .nil (.ord 6 34751 .nil (.ord 8 34559 .nil qF))) (.ord 15 0 .nil qdu))))) (.alt (.ord 6 0 .nil (.alt (.ord 4 0 .nil qcT) (.alt (.ord 8 0 .nil qcV) (.alt (.ord 10 0 .nil (.ord 4 34799 .nil (.ord 8 34559 .nil qF))) (.ord 15 0 .nil qcU))))) (.alt (.ord 8 0 .nil (.alt (.ord 4 0 .nil qcW) (.alt (.ord 6 0 .nil qcV) (.alt (.ord 10 0 .nil (.ord 4 34799 .nil (.ord 6 34751 .nil qF))) (.ord 15 0 .nil qdM))))) (.alt (.ord 10 0 .nil (.ord 4 34799 .nil (.ord 6 34751 .nil (.ord 8 34559 .nil qF)))) (.ord 15 0 .nil (.alt (.ord 4 0 .nil qdu) (.alt (.ord 6 0 .nil qcU) (.alt (.ord 8 0 .nil qdM) (.ord 10 0 .nil (.ord 4 34799 .nil (.ord 6 34751 .nil (.ord 8 0 .nil qw))))))))))))))))))))) (.two .nil (.two .nil (.two .nil (.two (.two (.join ⟨[0,3],[(46,Zt68),(47,Zt68)],[]⟩ (.any 111 0 (.ord 0 0 .nil (.ord 3 0 .nil (.ord 6 0 .nil (.alt (.ord 1 0 .nil (.ord 2 0 .nil (.ord 4 0 .nil (.ord 5 0 .nil .nil)))) (.ord 4 0 .nil (.ord 1 0 .nil (.ord 2 0 .nil (.ord 5 0 .nil .nil)))))))))) (.join ⟨[0,3],[],[(1,some (.box Zt14)),(2,none),(3,none)]⟩ (.two (.loop ⟨[0,3,46],[(47,Zt68)],[(1,some (.box Zt14)),(2,none),(3,none)]⟩ .nil) .nil))) (.two (.join ⟨[0,3],[],[(0,some (.box Zt2)),(1,none),(6,none),(7,none)]⟩ (.any 32639 0 (.ord 0 0 .nil (.ord 1 0 .nil (.ord 2 0 .nil (.ord 3 0 .nil (.ord 4 0 .nil (.ord 6 0 .nil (.alt (.ord 5 0 .nil (.ord 7 0 .nil qbm)) (.ord 7 0 .nil (.ord 5 0 .nil qbm))))))))))) (.two (.join ⟨[0],[],[(0,some (.box Zt2)),(8,none),(9,none),(10,none)]⟩ (.any 31735 0 (.ord 0 0 .nil (.ord 1 0 .nil (.ord 2 0 .nil (.ord 4 0 .nil (.alt (.ord 3 0 .nil (.ord 6 0 .nil (.ord 7 0 .nil (.ord 8 0 .nil (.ord 9 0 .nil (.alt (.ord 5 0 .nil (.ord 10 0 .nil qbF)) (.ord 10 0 .nil (.ord 5 0 .nil qbF)))))))) (.ord 5 0 .nil (.ord 3 0 .nil (.ord 6 0 .nil (.ord 7 0 .nil qbm))))))))))) .nil))))))))
noncomputable def matchMatchDoAccept_con:Ioc:=⟨Zt1,[Zt34],true,[],Zt68,fun x=>qa0 x.1 x.2.1⟩
noncomputable def qdX:Env:=(72,.rd plainGamePosition_con)::(167,.body Tryz.f167)::(151,.con offerBack_con)::(172,.io plainGameBack_con)::(149,.con offerPlies_con)::(159,.ck 197)::(52,.rd plainGameMoves_con)::(169,.body Tryz.f169)::(150,.con offerAccept_con)::[]
theorem qio (x:DL (Zt1::[Zt34])):matchMatchDoAccept_con.φ x=denIO Tryz.prog qdX qdP Tryz.f116 Zt1 [Zt34] true [] Zt68 x:=by kernel_rfl
theorem qiK:IocOK Tryz.prog 116 matchMatchDoAccept_con :=
  qad (env:=qdX) ((EnvOK.readonly (EnvOK.body (EnvOK.cons (EnvOK.inout (EnvOK.cons (EnvOK.check (EnvOK.readonly (EnvOK.body (EnvOK.cons (EnvOK.nil _) qkv) Tryz.func169) qck) qd) qhJ) qoW) qod) Tryz.func167) qag)) mixed Tryz.func116 matchMatchDoAccept_con qdP (by kernel_rfl) (fun h=>by first | rfl | cases h) qio
def qkI:Ann:=(.two .nil (.two .nil (.two .nil (.two (.two .nil (.join ⟨[1,2],[(6,Zt66),(7,Zt68)],[]⟩ (.two (.loop ⟨[1,2,13,14],[(6,Zt66),(7,Zt68),(15,Zt68)],[]⟩ (.two .nil (.two .nil (.two (.two (.two .nil (.two .nil (.join ⟨[1,2,13,14,15],[(6,Zt66),(7,Zt68)],[(1,none)]⟩ .nil))) .nil) .nil)))) .nil))) (.two (.two .nil (.join ⟨[],[(6,Zt66),(7,Zt68)],[(1,none)]⟩ (.two (.loop ⟨[40,41],[(6,Zt66),(7,Zt68),(42,Zt68)],[(1,none)]⟩ (.two .nil (.two .nil (.two (.two (.two .nil (.two .nil (.join ⟨[40,41,42],[(6,Zt66),(7,Zt68)],[(2,none)]⟩ .nil))) .nil) .nil)))) .nil))) .nil)))))
noncomputable def claimTypes_con:Con:=⟨[Zt40,Zt68],false,[Zt66,Zt68],(.st Zt66 Zt65),fun x=>qjV x.1 x.2.1,none⟩
noncomputable def qkC:Env:=[]
theorem qrk (x:DL claimTypes_con.ps):claimTypes_con.φ x=denF Tryz.prog qkC qkI Tryz.f291 claimTypes_con.ps claimTypes_con.one claimTypes_con.res claimTypes_con.ρ x:=by kernel_rfl
theorem qtu:ConOK Tryz.prog 291 claimTypes_con :=
  qc (env:=qkC) ((EnvOK.nil _)) mixed Tryz.func291 claimTypes_con qkI (by kernel_rfl) (fun h=>by first | rfl | cases h) (fun g hg=>by cases hg) qrk
def qh4:Ann:=(.two .nil (.two (.two .nil (.joinE ⟨[],[],[]⟩ (.two (.loop ⟨[2,3,10],[(1,Zt68),(11,Zt68)],[]⟩ .nil) .nil))) .nil))
noncomputable def claimBecomes_con:Con:=⟨[Zt21,Zt68,Zt68],true,[],.bool,fun x=>qjv x.1 x.2.1 x.2.2.1,none⟩
noncomputable def qik:Env:=[]
theorem qoS (x:DL claimBecomes_con.ps):claimBecomes_con.φ x=denF Tryz.prog qik qh4 Tryz.f293 claimBecomes_con.ps claimBecomes_con.one claimBecomes_con.res claimBecomes_con.ρ x:=by kernel_rfl
theorem qqB:ConOK Tryz.prog 293 claimBecomes_con :=
  qc (env:=qik) ((EnvOK.nil _)) mixed Tryz.func293 claimBecomes_con qh4 (by kernel_rfl) (fun h=>by first | rfl | cases h) (fun g hg=>by cases hg) qoS
def ql1:Ann:=(.two .nil (.two .nil (.two .nil (.two (.two (.join ⟨[4,9],[(42,.bool)],[]⟩ (.two (.two .nil (.two (.two (.two .nil (.two (.two .nil (.joinE ⟨[],[],[]⟩ (.two (.loop ⟨[0,1,7],[(8,Zt68)],[]⟩ .nil) .nil))) .nil)) .nil) .nil)) .nil)) .nil) (.two (.join ⟨[],[(8,.bool)],[]⟩ (.two (.two .nil (.two (.two (.two .nil (.two (.two .nil (.joinE ⟨[],[],[]⟩ (.two (.loop ⟨[0,1,7],[(8,Zt68)],[]⟩ (.two .nil (.two .nil (.two (.two (.two .nil (.two (.two (.two .nil (.two (.two (.two .nil (.two (.two (.two .nil (.two (.two .nil (.joinE ⟨[],[],[]⟩ (.two (.loop ⟨[0,1,7],[(8,Zt68)],[]⟩ .nil) .nil))) .nil)) .nil) .nil)) .nil) .nil)) .nil) .nil)) .nil) .nil)))) .nil))) .nil)) .nil) .nil)) .nil)) .nil)))))
noncomputable def claimAble_con:Con:=⟨[Zt21,Zt40,Zt53,Zt68],true,[],.bool,fun x=>qmb x.1 x.2.1 x.2.2.1 x.2.2.2.1,none⟩
noncomputable def qmy:Env:=(296,.body Tryz.f296)::(306,.body Tryz.f306)::(295,.body Tryz.f295)::(294,.body Tryz.f294)::(293,.con claimBecomes_con)::(292,.body Tryz.f292)::(187,.body Tryz.f187)::(133,.body Tryz.f133)::(291,.con claimTypes_con)::[]
theorem qsF (x:DL claimAble_con.ps):claimAble_con.φ x=denF Tryz.prog qmy ql1 Tryz.f258 claimAble_con.ps claimAble_con.one claimAble_con.res claimAble_con.ρ x:=by kernel_rfl
theorem qt8:ConOK Tryz.prog 258 claimAble_con :=
  qc (env:=qmy) ((EnvOK.body (EnvOK.body (EnvOK.body (EnvOK.body (EnvOK.cons (EnvOK.body (EnvOK.body (EnvOK.body (EnvOK.cons (EnvOK.nil _) qtu) Tryz.func133) Tryz.func187) Tryz.func292) qqB) Tryz.func294) Tryz.func295) Tryz.func306) Tryz.func296)) mixed Tryz.func258 claimAble_con ql1 (by kernel_rfl) (fun h=>by first | rfl | cases h) (fun g hg=>by cases hg) qsF
def qis:Ann:=(.two .nil (.two .nil (.two .nil (.two (.join ⟨[],[(6,.bool),(7,Zt68)],[]⟩ (.two (.two .nil (.two (.two (.two .nil (.two (.two .nil (.joinE ⟨[],[],[]⟩ (.two (.loop ⟨[0,1,7],[(8,Zt68)],[]⟩ .nil) .nil))) .nil)) .nil) .nil)) .nil)) .nil))))
noncomputable def claimAble_i_con:Con:=⟨[Zt21,Zt40,Zt68],false,[.bool,Zt68],Zt63,fun x=>qfv x.1 x.2.1 x.2.2.1,none⟩
noncomputable def qiy:Env:=(258,.con claimAble_con)::(257,.body Tryz.f257)::(194,.body Tryz.f194)::(256,.body Tryz.f256)::(74,.con placeCheck_con)::[]
theorem qqN (x:DL claimAble_i_con.ps):claimAble_i_con.φ x=denF Tryz.prog qiy qis Tryz.f220 claimAble_i_con.ps claimAble_i_con.one claimAble_i_con.res claimAble_i_con.ρ x:=by kernel_rfl
theorem qrn:ConOK Tryz.prog 220 claimAble_i_con :=
  qc (env:=qiy) ((EnvOK.cons (EnvOK.body (EnvOK.body (EnvOK.body (EnvOK.cons (EnvOK.nil _) qe5) Tryz.func256) Tryz.func194) Tryz.func257) qt8)) mixed Tryz.func220 claimAble_i_con qis (by kernel_rfl) (fun h=>by first | rfl | cases h) (fun g hg=>by cases hg) qqN
def qiU:Ann := .nil
noncomputable def claimFallen_con:Con:=⟨[Zt21,Zt40,Zt68],false,[Zt68,Zt68],Zt61,fun x=>qho x.1 x.2.1 x.2.2.1,none⟩
noncomputable def qju:Env:=(220,.con claimAble_i_con)::[]
theorem qqz (x:DL claimFallen_con.ps):claimFallen_con.φ x=denF Tryz.prog qju qiU Tryz.f173 claimFallen_con.ps claimFallen_con.one claimFallen_con.res claimFallen_con.ρ x:=by kernel_rfl
theorem qre:ConOK Tryz.prog 173 claimFallen_con :=
  qc (env:=qju) ((EnvOK.cons (EnvOK.nil _) qrn)) mixed Tryz.func173 claimFallen_con qiU (by kernel_rfl) (fun h=>by first | rfl | cases h) (fun g hg=>by cases hg) qqz
def qeI:Ann:=(.two .nil (.two (.two .nil (.two (.two (.any 163839 32768 (.ord 0 0 .nil (.ord 1 0 .nil (.ord 2 0 .nil (.ord 3 34807 .nil (.ord 4 0 .nil (.ord 5 0 .nil (.ord 6 0 .nil (.ord 7 0 .nil (.ord 8 34559 .nil (.ord 9 0 .nil (.ord 10 33791 .nil (.ord 11 34815 .nil (.ord 12 0 .nil (.ord 13 0 .nil (.ord 14 0 .nil (.ord 15 0 .nil (.ord 16 0 .nil (.ord 17 0 .nil .nil))))))))))))))))))) (.two .nil (.two .nil (.two (.any 523775 512 (.ord 0 0 .nil (.ord 1 0 .nil (.ord 2 0 .nil (.ord 3 0 .nil (.ord 4 4079 .nil (.ord 5 0 .nil (.ord 6 0 .nil (.ord 7 0 .nil (.ord 8 3327 .nil (.ord 10 0 .nil (.ord 11 2047 .nil (.ord 9 0 .nil (.ord 12 0 .nil (.ord 13 0 .nil (.ord 14 0 .nil (.ord 15 0 .nil (.ord 16 0 .nil (.ord 17 0 .nil (.ord 18 0 .nil (.ord 19 0 .nil .nil))))))))))))))))))))) .nil)))) .nil)) (.two (.join ⟨[0,3],[(7,.bool)],[]⟩ .nil) (.two (.two (.two .nil (.two .nil (.two (.join ⟨[0,7],[(91,.bool)],[]⟩ (.any 61 0 (.ord 0 0 .nil (.ord 2 0 .nil (.alt (.ord 1 0 .nil (.ord 3 0 .nil (.ord 4 0 .nil (.ord 5 0 .nil .nil)))) (.ord 3 0 .nil (.ord 1 0 .nil (.ord 4 0 .nil (.ord 5 0 .nil .nil))))))))) .nil))) .nil) .nil))))
noncomputable def matchMatchDoClaim_con:Ioc:=⟨Zt1,[Zt34],true,[],Zt68,fun x=>qbl x.1 x.2.1⟩
noncomputable def qeu:Env:=(167,.body Tryz.f167)::(140,.rd plainGameCount_con)::(173,.con claimFallen_con)::(72,.rd plainGamePosition_con)::(159,.ck 197)::(40,.con clockLook_con)::[]
theorem qiJ (x:DL (Zt1::[Zt34])):matchMatchDoClaim_con.φ x=denIO Tryz.prog qeu qeI Tryz.f117 Zt1 [Zt34] true [] Zt68 x:=by kernel_rfl
theorem qj7:IocOK Tryz.prog 117 matchMatchDoClaim_con :=
  qad (env:=qeu) ((EnvOK.body (EnvOK.readonly (EnvOK.cons (EnvOK.readonly (EnvOK.check (EnvOK.cons (EnvOK.nil _) qcj) qd) qag) qre) qgQ) Tryz.func167)) mixed Tryz.func117 matchMatchDoClaim_con qeI (by kernel_rfl) (fun h=>by first | rfl | cases h) qiJ
def qko:Ann:=(.two .nil (.two .nil (.two .nil (.two .nil (.two (.join ⟨[],[(6,Zt43),(7,Zt68)],[]⟩ (.any 413 34 (.ord 0 0 .nil (.ord 2 0 .nil (.ord 3 7 .nil (.ord 4 0 .nil (.alt (.ord 1 0 .nil (.ord 5 0 .nil (.ord 6 0 .nil (.ord 7 0 .nil (.ord 8 0 .nil .nil))))) (.ord 5 0 .nil (.ord 1 0 .nil (.ord 6 0 .nil (.ord 7 0 .nil (.ord 8 0 .nil .nil)))))))))))) .nil)))))
noncomputable def premoveAdd_con:Con:=⟨[Zt46,Zt68,Zt58],false,[Zt43,Zt68],Zt39,fun x=>qjG x.1 x.2.1 x.2.2.1,none⟩
noncomputable def qkt:Env:=(53,.con slicesClone_PremoveMove_con)::(222,.con premoveOf_con)::(221,.con premoveCheck_con)::[]
theorem qrd (x:DL premoveAdd_con.ps):premoveAdd_con.φ x=denF Tryz.prog qkt qko Tryz.f174 premoveAdd_con.ps premoveAdd_con.one premoveAdd_con.res premoveAdd_con.ρ x:=by kernel_rfl
theorem qsC:ConOK Tryz.prog 174 premoveAdd_con :=
  qc (env:=qkt) ((EnvOK.cons (EnvOK.cons (EnvOK.cons (EnvOK.nil _) qiH) qos) qaY)) mixed Tryz.func174 premoveAdd_con qko (by kernel_rfl) (fun h=>by first | rfl | cases h) (fun g hg=>by cases hg) qrd
def qdy:Ann:=(.two .nil (.two (.two (.join ⟨[0,3],[(11,.bool)],[]⟩ (.any 29 0 (.ord 0 0 .nil (.ord 2 0 .nil (.alt (.ord 1 0 .nil (.ord 3 0 .nil (.ord 4 0 .nil .nil))) (.ord 3 0 .nil (.ord 1 0 .nil (.ord 4 0 .nil .nil)))))))) .nil) (.two (.any 32255 512 (.ord 0 0 .nil (.ord 1 0 .nil (.ord 2 0 .nil (.ord 3 0 .nil (.ord 4 495 .nil (.ord 5 0 .nil (.ord 6 447 .nil (.ord 7 0 .nil (.ord 8 0 .nil (.ord 9 0 .nil (.ord 10 0 .nil (.ord 11 0 .nil (.ord 12 0 .nil (.ord 13 0 .nil (.ord 14 0 .nil .nil)))))))))))))))) (.two (.two .nil (.join ⟨[6],[],[(0,some (.box Zt2)),(1,none),(2,none),(3,none),(5,none)]⟩ .nil)) .nil))))
noncomputable def matchMatchDoPremove_con:Ioc:=⟨Zt1,[Zt34],true,[],Zt68,fun x=>qaT x.1 x.2.1⟩
noncomputable def qdb:Env:=(174,.con premoveAdd_con)::(72,.rd plainGamePosition_con)::(167,.body Tryz.f167)::[]
theorem qhn (x:DL (Zt1::[Zt34])):matchMatchDoPremove_con.φ x=denIO Tryz.prog qdb qdy Tryz.f118 Zt1 [Zt34] true [] Zt68 x:=by kernel_rfl
theorem qip:IocOK Tryz.prog 118 matchMatchDoPremove_con :=
  qad (env:=qdb) ((EnvOK.cons (EnvOK.readonly (EnvOK.body (EnvOK.nil _) Tryz.func167) qag) qsC)) mixed Tryz.func118 matchMatchDoPremove_con qdy (by kernel_rfl) (fun h=>by first | rfl | cases h) qhn
def qgg:Ann:=(.two .nil (.two (.two .nil (.two (.two .nil (.two .nil (.two (.two .nil (.join ⟨[0,3,6],[(12,.bool)],[]⟩ .nil)) .nil))) .nil)) .nil))
noncomputable def matchMatchKind_con:Ioc:=⟨Zt1,[Zt34],true,[],Zt68,fun x=>qcB x.1 x.2.1⟩
noncomputable def qgt:Env:=(118,.io matchMatchDoPremove_con)::(117,.io matchMatchDoClaim_con)::(116,.io matchMatchDoAccept_con)::(115,.io matchMatchDoOffer_con)::(114,.io matchMatchDoMove_con)::[]
theorem qms (x:DL (Zt1::[Zt34])):matchMatchKind_con.φ x=denIO Tryz.prog qgt qgg Tryz.f51 Zt1 [Zt34] true [] Zt68 x:=by kernel_rfl
theorem qnE:IocOK Tryz.prog 51 matchMatchKind_con :=
  qad (env:=qgt) ((EnvOK.inout (EnvOK.inout (EnvOK.inout (EnvOK.inout (EnvOK.inout (EnvOK.nil _) qlt) qkd) qiK) qj7) qip)) mixed Tryz.func51 matchMatchKind_con qgg (by kernel_rfl) (fun h=>by first | rfl | cases h) qms
def qiP:Ann := .nil
noncomputable def journalLast_con:Con:=⟨[Zt62],true,[],(.int .u64),fun x=>qd2 x.1,none⟩
noncomputable def qjs:Env:=[]
theorem qqJ (x:DL journalLast_con.ps):journalLast_con.φ x=denF Tryz.prog qjs qiP Tryz.f112 journalLast_con.ps journalLast_con.one journalLast_con.res journalLast_con.ρ x:=by kernel_rfl
theorem qgN:ConOK Tryz.prog 112 journalLast_con :=
  qc (env:=qjs) ((EnvOK.nil _)) mixed Tryz.func112 journalLast_con qiP (by kernel_rfl) (fun h=>by first | rfl | cases h) (fun g hg=>by cases hg) qqJ
def qkq:Ann:=(.two .nil (.two .nil (.two (.two .nil (.join ⟨[1],[(5,(.int .u64))],[]⟩ (.two (.loop ⟨[1,10],[(5,(.int .u64)),(11,Zt68)],[]⟩ .nil) .nil))) .nil)))
noncomputable def journalSum_con:Con:=⟨[(.int .u64),.str],true,[],(.int .u64),fun x=>qd6 x.1 x.2.1,none⟩
noncomputable def qkL:Env:=[]
theorem qqV (x:DL journalSum_con.ps):journalSum_con.φ x=denF Tryz.prog qkL qkq Tryz.f111 journalSum_con.ps journalSum_con.one journalSum_con.res journalSum_con.ρ x:=by kernel_rfl
theorem qm5:ConOK Tryz.prog 111 journalSum_con :=
  qc (env:=qkL) ((EnvOK.nil _)) mixed Tryz.func111 journalSum_con qkq (by kernel_rfl) (fun h=>by first | rfl | cases h) (fun g hg=>by cases hg) qqV
def qhX:Ann := .nil
noncomputable def journalWrong_con:Con:=⟨[(.int .u64),Zt64],true,[],Zt68,fun x=>qeH x.1 x.2.1,none⟩
noncomputable def qh3:Env:=(111,.con journalSum_con)::(110,.con qfM)::[]
theorem qoT (x:DL journalWrong_con.ps):journalWrong_con.φ x=denF Tryz.prog qh3 qhX Tryz.f163 journalWrong_con.ps journalWrong_con.one journalWrong_con.res journalWrong_con.ρ x:=by kernel_rfl
theorem qiO:ConOK Tryz.prog 163 journalWrong_con :=
  qc (env:=qh3) ((EnvOK.cons (EnvOK.cons (EnvOK.nil _) qkx) qm5)) mixed Tryz.func163 journalWrong_con qhX (by kernel_rfl) (fun h=>by first | rfl | cases h) (fun g hg=>by cases hg) qoT
def qjg:Ann:=(.two .nil (.two (.two .nil (.joinE ⟨[0],[],[]⟩ (.two (.loop ⟨[0,5,6],[(7,Zt68)],[]⟩ .nil) .nil))) .nil))
noncomputable def journalGood_con:Con:=⟨[Zt62],true,[],Zt68,fun x=>qhB x.1,none⟩
noncomputable def qi5:Env:=(163,.con journalWrong_con)::(112,.con journalLast_con)::(159,.ck 197)::[]
theorem qp8 (x:DL journalGood_con.ps):journalGood_con.φ x=denF Tryz.prog qi5 qjg Tryz.f162 journalGood_con.ps journalGood_con.one journalGood_con.res journalGood_con.ρ x:=by kernel_rfl
theorem qqY:ConOK Tryz.prog 162 journalGood_con :=
  qc (env:=qi5) ((EnvOK.cons (EnvOK.cons (EnvOK.check (EnvOK.nil _) qd) qgN) qiO)) mixed Tryz.func162 journalGood_con qjg (by kernel_rfl) (fun h=>by first | rfl | cases h) (fun g hg=>by cases hg) qp8
def qh0:Ann := .nil
noncomputable def journalCheck_con:Con:=⟨[Zt62],true,[],Zt68,fun x=>qcS x.1,none⟩
noncomputable def qhU:Env:=(163,.con journalWrong_con)::(112,.con journalLast_con)::(162,.con journalGood_con)::[]
theorem qoQ (x:DL journalCheck_con.ps):journalCheck_con.φ x=denF Tryz.prog qhU qh0 Tryz.f109 journalCheck_con.ps journalCheck_con.one journalCheck_con.res journalCheck_con.ρ x:=by kernel_rfl
theorem qiu:ConOK Tryz.prog 109 journalCheck_con :=
  qc (env:=qhU) ((EnvOK.cons (EnvOK.cons (EnvOK.cons (EnvOK.nil _) qqY) qgN) qiO)) mixed Tryz.func109 journalCheck_con qh0 (by kernel_rfl) (fun h=>by first | rfl | cases h) (fun g hg=>by cases hg) qoQ
def qbZ:Ann := .nil
noncomputable def slicesClone_JournalEntry_con:Con:=⟨[Zt62],true,[],Zt60,fun x=>qM x.1,none⟩
noncomputable def qbU:Env:=[]
theorem qe2 (x:DL slicesClone_JournalEntry_con.ps):slicesClone_JournalEntry_con.φ x=denF Tryz.prog qbU qbZ Tryz.f91 slicesClone_JournalEntry_con.ps slicesClone_JournalEntry_con.one slicesClone_JournalEntry_con.res slicesClone_JournalEntry_con.ρ x:=by kernel_rfl
theorem qaU:ConOK Tryz.prog 91 slicesClone_JournalEntry_con :=
  qc (env:=qbU) ((EnvOK.nil _)) mixed Tryz.func91 slicesClone_JournalEntry_con qbZ (by kernel_rfl) (fun h=>by first | rfl | cases h) (fun g hg=>by cases hg) qe2
def qgU:Ann := .nil
noncomputable def journalAppend_con:Con:=⟨[Zt62,.str],false,[Zt60,Zt68],(.st Zt60 Zt65),fun x=>qP x.1 x.2.1,none⟩
noncomputable def qg1:Env:=(111,.con journalSum_con)::(112,.con journalLast_con)::(91,.con slicesClone_JournalEntry_con)::(110,.con qfM)::(109,.con journalCheck_con)::[]
theorem qn5 (x:DL journalAppend_con.ps):journalAppend_con.φ x=denF Tryz.prog qg1 qgU Tryz.f48 journalAppend_con.ps journalAppend_con.one journalAppend_con.res journalAppend_con.ρ x:=by kernel_rfl
theorem qcJ:ConOK Tryz.prog 48 journalAppend_con :=
  qc (env:=qg1) ((EnvOK.cons (EnvOK.cons (EnvOK.cons (EnvOK.cons (EnvOK.cons (EnvOK.nil _) qiu) qkx) qaU) qgN) qm5)) mixed Tryz.func48 journalAppend_con qgU (by kernel_rfl) (fun h=>by first | rfl | cases h) (fun g hg=>by cases hg) qn5
def qgi:Ann:=(.two .nil (.two .nil (.join ⟨[],[],[(0,some (.box Zt2)),(1,none),(2,none),(3,none)]⟩ .nil)))
noncomputable def matchMatchOver_con:Ioc:=⟨Zt1,[],false,[],.nil,fun x=>qap x.1⟩
noncomputable def qgE:Env:=(73,.rd plainGameResult_con)::[]
theorem qm0 (x:DL (Zt1::[])):matchMatchOver_con.φ x=denIO Tryz.prog qgE qgi Tryz.f50 Zt1 [] false [] .nil x:=by kernel_rfl
theorem qcn:IocOK Tryz.prog 50 matchMatchOver_con :=
  qad (env:=qgE) ((EnvOK.readonly (EnvOK.nil _) qc7)) mixed Tryz.func50 matchMatchOver_con qgi (by kernel_rfl) (fun h=>by first | rfl | cases h) qm0
def qh5:Ann:=(.two .nil (.two .nil (.two (.any 163839 32768 (.ord 0 0 .nil (.ord 1 0 .nil (.ord 2 0 .nil (.ord 3 34807 .nil (.ord 4 0 .nil (.ord 5 0 .nil (.ord 6 0 .nil (.ord 7 0 .nil (.ord 8 34559 .nil (.ord 9 0 .nil (.ord 10 33791 .nil (.ord 11 34815 .nil (.ord 12 0 .nil (.ord 13 0 .nil (.ord 14 0 .nil (.ord 15 0 .nil (.ord 16 0 .nil (.ord 17 0 .nil .nil))))))))))))))))))) (.two .nil (.two .nil (.two .nil (.two (.any 8063 128 (.ord 0 0 .nil (.ord 1 0 .nil (.ord 2 0 .nil (.ord 3 0 .nil (.ord 4 111 .nil (.ord 5 0 .nil (.ord 6 0 .nil (.ord 7 0 .nil (.ord 8 0 .nil (.ord 9 0 .nil (.ord 10 0 .nil (.ord 11 0 .nil (.ord 12 0 .nil (.ord 13 0 .nil .nil))))))))))))))) .nil)))))))
noncomputable def matchMatchDo_con:Ioc:=⟨Zt1,[Zt34],true,[],Zt68,fun x=>qb5 x.1 x.2.1⟩
noncomputable def qif:Env:=(50,.io matchMatchOver_con)::(48,.con journalAppend_con)::(28,.con matchEntry_con)::(51,.io matchMatchKind_con)::(159,.ck 197)::(40,.con clockLook_con)::[]
theorem qo2 (x:DL (Zt1::[Zt34])):matchMatchDo_con.φ x=denIO Tryz.prog qif qh5 Tryz.f11 Zt1 [Zt34] true [] Zt68 x:=by kernel_rfl
theorem qja:IocOK Tryz.prog 11 matchMatchDo_con :=
  qad (env:=qif) ((EnvOK.inout (EnvOK.cons (EnvOK.cons (EnvOK.inout (EnvOK.check (EnvOK.cons (EnvOK.nil _) qcj) qd) qnE) qtD) qcJ) qcn)) mixed Tryz.func11 matchMatchDo_con qh5 (by kernel_rfl) (fun h=>by first | rfl | cases h) qo2
def qkH:Ann := .nil
noncomputable def clockStart_con:Con:=⟨[Zt45,Zt68],false,[Zt24,Zt68],Zt22,fun x=>qbk x.1 x.2.1,none⟩
noncomputable def qkg:Env:=(54,.con clockWithin_con)::(105,.con clockCheck_con)::(159,.ck 197)::[]
theorem qqO (x:DL clockStart_con.ps):clockStart_con.φ x=denF Tryz.prog qkg qkH Tryz.f44 clockStart_con.ps clockStart_con.one clockStart_con.res clockStart_con.ρ x:=by kernel_rfl
theorem qhD:ConOK Tryz.prog 44 clockStart_con :=
  qc (env:=qkg) ((EnvOK.cons (EnvOK.cons (EnvOK.check (EnvOK.nil _) qd) qmC) qcx)) mixed Tryz.func44 clockStart_con qkH (by kernel_rfl) (fun h=>by first | rfl | cases h) (fun g hg=>by cases hg) qqO
def qb7:Ann := .nil
noncomputable def slicesClone_ClockPeriod_con:Con:=⟨[Zt59],true,[],(.osl 25 Zt61),fun x=>qaJ x.1,none⟩
noncomputable def qb8:Env:=[]
theorem qfq (x:DL slicesClone_ClockPeriod_con.ps):slicesClone_ClockPeriod_con.φ x=denF Tryz.prog qb8 qb7 Tryz.f108 slicesClone_ClockPeriod_con.ps slicesClone_ClockPeriod_con.one slicesClone_ClockPeriod_con.res slicesClone_ClockPeriod_con.ρ x:=by kernel_rfl
theorem qfQ:ConOK Tryz.prog 108 slicesClone_ClockPeriod_con :=
  qc (env:=qb8) ((EnvOK.nil _)) mixed Tryz.func108 slicesClone_ClockPeriod_con qb7 (by kernel_rfl) (fun h=>by first | rfl | cases h) (fun g hg=>by cases hg) qfq
def ql9:Ann := .nil
noncomputable def clockCopy_con:Con:=⟨[Zt45],true,[],Zt44,fun x=>qb6 x.1,none⟩
noncomputable def qlH:Env:=(108,.con slicesClone_ClockPeriod_con)::(159,.ck 197)::[]
theorem qsO (x:DL clockCopy_con.ps):clockCopy_con.φ x=denF Tryz.prog qlH ql9 Tryz.f46 clockCopy_con.ps clockCopy_con.one clockCopy_con.res clockCopy_con.ρ x:=by kernel_rfl
theorem qjj:ConOK Tryz.prog 46 clockCopy_con :=
  qc (env:=qlH) ((EnvOK.cons (EnvOK.check (EnvOK.nil _) qd) qfQ)) mixed Tryz.func46 clockCopy_con ql9 (by kernel_rfl) (fun h=>by first | rfl | cases h) (fun g hg=>by cases hg) qsO
def qmu:Ann := .nil
noncomputable def clockLeft_con:Con:=⟨[Zt45,Zt24,Zt68,Zt68],false,[Zt68,Zt68],Zt61,fun x=>qha x.1 x.2.1 x.2.2.1 x.2.2.2.1,none⟩
noncomputable def qlG:Env:=(55,.con clockUsed_con)::(40,.con clockLook_con)::(54,.con clockWithin_con)::[]
theorem qsI (x:DL clockLeft_con.ps):clockLeft_con.φ x=denF Tryz.prog qlG qmu Tryz.f13 clockLeft_con.ps clockLeft_con.one clockLeft_con.res clockLeft_con.ρ x:=by kernel_rfl
theorem qow:ConOK Tryz.prog 13 clockLeft_con :=
  qc (env:=qlG) ((EnvOK.cons (EnvOK.cons (EnvOK.cons (EnvOK.nil _) qcx) qcj) qi0)) mixed Tryz.func13 clockLeft_con qmu (by kernel_rfl) (fun h=>by first | rfl | cases h) (fun g hg=>by cases hg) qsI
def qoB:Ann := .nil
noncomputable def offerNew_con:Con:=⟨[],true,[],Zt31,fun x=>qnF,some fun x=>qQ⟩
noncomputable def qn8:Env:=(159,.ck 197)::[]
theorem quh (x:DL offerNew_con.ps):offerNew_con.φ x=denF Tryz.prog qn8 qoB Tryz.f47 offerNew_con.ps offerNew_con.one offerNew_con.res offerNew_con.ρ x:=by kernel_rfl
theorem qk5:ConOK Tryz.prog 47 offerNew_con :=
  qc (env:=qn8) ((EnvOK.check (EnvOK.nil _) qd)) mixed Tryz.func47 offerNew_con qoB (by kernel_rfl) (fun h=>by first | rfl | cases h) (fun g hg x=>by
    cases hg
    exact qvm ) quh
def qiV:Ann := .nil
noncomputable def matchNumber_con:Con:=⟨[.str],false,[Zt68,.bool],(.st Zt68 (.st .bool .nil)),fun x=>qd4 x.1,none⟩
noncomputable def qiF:Env:=(49,.con qg0)::(155,.con qtV)::[]
theorem qqy (x:DL matchNumber_con.ps):matchNumber_con.φ x=denF Tryz.prog qiF qiV Tryz.f89 matchNumber_con.ps matchNumber_con.one matchNumber_con.res matchNumber_con.ρ x:=by kernel_rfl
theorem qkS:ConOK Tryz.prog 89 matchNumber_con :=
  qc (env:=qiF) ((EnvOK.cons (EnvOK.cons (EnvOK.nil _) atoiS_ok) qmA)) mixed Tryz.func89 matchNumber_con qiV (by kernel_rfl) (fun h=>by first | rfl | cases h) (fun g hg=>by cases hg) qqy
def qfV:Ann:=(.two .nil (.two .nil (.two .nil (.two .nil (.two (.two .nil (.joinE ⟨[2,5],[],[(0,some (.box Zt37)),(1,some (.box Zt37))]⟩ (.two (.loop ⟨[2,5,15,16],[(17,Zt68)],[(0,some (.box Zt37)),(1,some (.box Zt37))]⟩ .nil) .nil))) .nil)))))
noncomputable def matchReadEntry_con:Con:=⟨[.str],false,[Zt34,Zt68],(.st Zt34 Zt65),fun x=>qbM x.1,none⟩
noncomputable def qf9:Env:=(89,.con matchNumber_con)::(88,.con qsk)::(159,.ck 197)::[]
theorem qmc (x:DL matchReadEntry_con.ps):matchReadEntry_con.φ x=denF Tryz.prog qf9 qfV Tryz.f27 matchReadEntry_con.ps matchReadEntry_con.one matchReadEntry_con.res matchReadEntry_con.ρ x:=by kernel_rfl
theorem qnz:ConOK Tryz.prog 27 matchReadEntry_con :=
  qc (env:=qf9) ((EnvOK.cons (EnvOK.cons (EnvOK.check (EnvOK.nil _) qd) splitS_ok) qkS)) mixed Tryz.func27 matchReadEntry_con qfV (by kernel_rfl) (fun h=>by first | rfl | cases h) (fun g hg=>by cases hg) qmc
def qba:Ann := .nil
noncomputable def internalstringsliteHasPrefix_con:Con:=⟨[.str,.str],true,[],.bool,fun x=>qaI x.1 x.2.1,none⟩
noncomputable def qbb:Env:=[]
theorem qdN (x:DL internalstringsliteHasPrefix_con.ps):internalstringsliteHasPrefix_con.φ x=denF Tryz.prog qbb qba Tryz.f280 internalstringsliteHasPrefix_con.ps internalstringsliteHasPrefix_con.one internalstringsliteHasPrefix_con.res internalstringsliteHasPrefix_con.ρ x:=by kernel_rfl
theorem qeb:ConOK Tryz.prog 280 internalstringsliteHasPrefix_con :=
  qc (env:=qbb) ((EnvOK.nil _)) mixed Tryz.func280 internalstringsliteHasPrefix_con qba (by kernel_rfl) (fun h=>by first | rfl | cases h) (fun g hg=>by cases hg) qdN
def qbd:Ann := .nil
noncomputable def internalstringsliteCutPrefix_con:Con:=⟨[.str,.str],false,[.str,.bool],(.st .str (.st .bool .nil)),fun x=>qaD x.1 x.2.1,none⟩
noncomputable def qbc:Env:=(280,.con internalstringsliteHasPrefix_con)::[]
theorem qdO (x:DL internalstringsliteCutPrefix_con.ps):internalstringsliteCutPrefix_con.φ x=denF Tryz.prog qbc qbd Tryz.f243 internalstringsliteCutPrefix_con.ps internalstringsliteCutPrefix_con.one internalstringsliteCutPrefix_con.res internalstringsliteCutPrefix_con.ρ x:=by kernel_rfl
theorem qd8:ConOK Tryz.prog 243 internalstringsliteCutPrefix_con :=
  qc (env:=qbc) ((EnvOK.cons (EnvOK.nil _) qeb)) mixed Tryz.func243 internalstringsliteCutPrefix_con qbd (by kernel_rfl) (fun h=>by first | rfl | cases h) (fun g hg=>by cases hg) qdO
def qeV:Ann := .nil
noncomputable def stringsCutPrefix_con:Con:=⟨[.str,.str],false,[.str,.bool],(.st .str (.st .bool .nil)),fun x=>qaA x.1 x.2.1,none⟩
noncomputable def qeW:Env:=(243,.con internalstringsliteCutPrefix_con)::[]
theorem qj6 (x:DL stringsCutPrefix_con.ps):stringsCutPrefix_con.φ x=denF Tryz.prog qeW qeV Tryz.f210 stringsCutPrefix_con.ps stringsCutPrefix_con.one stringsCutPrefix_con.res stringsCutPrefix_con.ρ x:=by kernel_rfl
theorem qlm:ConOK Tryz.prog 210 stringsCutPrefix_con :=
  qc (env:=qeW) ((EnvOK.cons (EnvOK.nil _) qd8)) mixed Tryz.func210 stringsCutPrefix_con qeV (by kernel_rfl) (fun h=>by first | rfl | cases h) (fun g hg=>by cases hg) qj6
end Go.Proofs.YtijkabgijfdpfaaGreatDoor

