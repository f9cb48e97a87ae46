/- Contracts: Match. No condition of its own. -/
import Derived.Test.YtijkabgijfdpfaaGreatDoorMAA
import Derived.Test.YtijkabgijfdpfaaGreatDoorMAH
import Derived.Test.YtijkabgijfdpfaaGreatDoorMAE
namespace Go.Proofs.YtijkabgijfdpfaaGreatDoor
open Go.Den
set_option linter.unusedVariables false
set_option maxRecDepth 100000
def qk6:Ann:=(.two .nil (.two .nil (.two (.two .nil (.join ⟨[],[(3,Zt62)],[]⟩ (.two (.loop ⟨[23],[(3,Zt62),(24,Zt63)],[]⟩ .nil) .nil))) .nil)))
noncomputable def matchEntry_con:Con:=⟨[Zt30],true,[],.str,fun x=>qjY x.1,none⟩
noncomputable def qkK:Env:=(90,.con qi4)::(49,.con qhi)::[]
theorem qqG (x:DL matchEntry_con.ps):matchEntry_con.φ x=denF Tryz.prog qkK qk6 Tryz.f28 matchEntry_con.ps matchEntry_con.one matchEntry_con.res matchEntry_con.ρ x:=by kernel_rfl
theorem qsM:ConOK Tryz.prog 28 matchEntry_con :=
  qa (env:=qkK) ((EnvOK.cons (EnvOK.cons (EnvOK.nil _) qm8) qts)) mixed Tryz.func28 matchEntry_con qk6 (by kernel_rfl) (fun h=>by first | rfl | cases h) (fun g hg=>by cases hg) qqG
def qiK:Ann := .nil
noncomputable def clockWithin_con:Con:=⟨[Zt63,Zt63,Zt63],true,[],.bool,fun x=>qhM x.1 x.2.1 x.2.2.1,some fun x=>qf x.1 x.2.1 x.2.2.1⟩
noncomputable def qjx:Env:=[]
theorem qpq (x:DL clockWithin_con.ps):clockWithin_con.φ x=denF Tryz.prog qjx qiK Tryz.f54 clockWithin_con.ps clockWithin_con.one clockWithin_con.res clockWithin_con.ρ x:=by kernel_rfl
theorem qcA:ConOK Tryz.prog 54 clockWithin_con :=
  qa (env:=qjx) ((EnvOK.nil _)) mixed Tryz.func54 clockWithin_con qiK (by kernel_rfl) (fun h=>by first | rfl | cases h) (fun g hg x=>by
    cases hg
    exact qqD _ _ _) qpq
def qki:Ann:=(.two .nil (.two .nil (.two .nil (.two (.two .nil (.joinE ⟨[],[],[]⟩ (.two (.loop ⟨[1,21,22],[(23,Zt63)],[]⟩ .nil) .nil))) .nil))))
noncomputable def clockCheck_con:Con:=⟨[Zt39],true,[],Zt63,fun x=>qhl x.1,none⟩
noncomputable def qkh:Env:=(159,.ck 197)::(54,.con clockWithin_con)::[]
theorem qq4 (x:DL clockCheck_con.ps):clockCheck_con.φ x=denF Tryz.prog qkh qki Tryz.f105 clockCheck_con.ps clockCheck_con.one clockCheck_con.res clockCheck_con.ρ x:=by kernel_rfl
theorem qmZ:ConOK Tryz.prog 105 clockCheck_con :=
  qa (env:=qkh) ((EnvOK.check (EnvOK.cons (EnvOK.nil _) qcA) qc)) mixed Tryz.func105 clockCheck_con qki (by kernel_rfl) (fun h=>by first | rfl | cases h) (fun g hg=>by cases hg) qq4
def qkR:Ann:=(.two .nil (.two .nil (.two .nil (.two (.two .nil (.join ⟨[],[(6,.bool)],[]⟩ (.two (.loop ⟨[2,3],[(6,.bool),(26,Zt63)],[]⟩ .nil) .nil))) .nil))))
noncomputable def clockValid_con:Con:=⟨[Zt39,Zt20],true,[],Zt63,fun x=>qjT x.1 x.2.1,none⟩
noncomputable def qkV:Env:=(54,.con clockWithin_con)::(105,.con clockCheck_con)::[]
theorem qqU (x:DL clockValid_con.ps):clockValid_con.φ x=denF Tryz.prog qkV qkR Tryz.f99 clockValid_con.ps clockValid_con.one clockValid_con.res clockValid_con.ρ x:=by kernel_rfl
theorem qsY:ConOK Tryz.prog 99 clockValid_con :=
  qa (env:=qkV) ((EnvOK.cons (EnvOK.cons (EnvOK.nil _) qmZ) qcA)) mixed Tryz.func99 clockValid_con qkR (by kernel_rfl) (fun h=>by first | rfl | cases h) (fun g hg=>by cases hg) qqU
def qnj:Ann := .nil
noncomputable def clockUsed_con:Con:=⟨[Zt39,Zt20,Zt63],true,[],Zt63,fun x=>qlp x.1 x.2.1 x.2.2.1,some fun x=>qw x.1 x.2.1 x.2.2.1⟩
noncomputable def qni:Env:=[]
theorem qsA (x:DL clockUsed_con.ps):clockUsed_con.φ x=denF Tryz.prog qni qnj Tryz.f55 clockUsed_con.ps clockUsed_con.one clockUsed_con.res clockUsed_con.ρ x:=by kernel_rfl
theorem qjA:ConOK Tryz.prog 55 clockUsed_con :=
  qa (env:=qni) ((EnvOK.nil _)) mixed Tryz.func55 clockUsed_con qnj (by kernel_rfl) (fun h=>by first | rfl | cases h) (fun g hg x=>by
    cases hg
    exact qu8 _ _ _) qsA
def qmY:Ann:=(.two .nil (.two .nil (.two .nil (.two (.two .nil (.join ⟨[4,6],[],[(1,some (.box Zt24))]⟩ .nil)) .nil))))
noncomputable def clockLook_con:Con:=⟨[Zt39,Zt20,Zt63],false,[Zt20,Zt63],Zt18,fun x=>qaI x.1 x.2.1 x.2.2.1,none⟩
noncomputable def qm4:Env:=(55,.con clockUsed_con)::(54,.con clockWithin_con)::(99,.con clockValid_con)::(159,.ck 197)::[]
theorem qtu (x:DL clockLook_con.ps):clockLook_con.φ x=denF Tryz.prog qm4 qmY Tryz.f40 clockLook_con.ps clockLook_con.one clockLook_con.res clockLook_con.ρ x:=by kernel_rfl
theorem qeq:ConOK Tryz.prog 40 clockLook_con :=
  qa (env:=qm4) ((EnvOK.cons (EnvOK.cons (EnvOK.cons (EnvOK.check (EnvOK.nil _) qc) qsY) qcA) qjA)) mixed Tryz.func40 clockLook_con qmY (by kernel_rfl) (fun h=>by first | rfl | cases h) (fun g hg=>by cases hg) qtu
def qeT:Ann := .nil
noncomputable def slicesClone_Move_con:Con:=⟨[Zt50],true,[],Zt48,fun x=>qcH x.1,none⟩
noncomputable def qeL:Env:=[]
theorem qka (x:DL slicesClone_Move_con.ps):slicesClone_Move_con.φ x=denF Tryz.prog qeL qeT Tryz.f119 slicesClone_Move_con.ps slicesClone_Move_con.one slicesClone_Move_con.res slicesClone_Move_con.ρ x:=by kernel_rfl
theorem qlh:ConOK Tryz.prog 119 slicesClone_Move_con :=
  qa (env:=qeL) ((EnvOK.nil _)) mixed Tryz.func119 slicesClone_Move_con qeT (by kernel_rfl) (fun h=>by first | rfl | cases h) (fun g hg=>by cases hg) qka
def qfZ:Ann := .nil
noncomputable def plainGameMoves_con:Con:=⟨[Zt9],true,[],Zt48,fun x=>qr x.1,none⟩
noncomputable def qfU:Env:=(119,.con slicesClone_Move_con)::[]
theorem qmD (x:DL plainGameMoves_con.ps):plainGameMoves_con.φ x=denB Tryz.prog qfU qfZ Tryz.f52 true plainGameMoves_con.ps plainGameMoves_con.one plainGameMoves_con.res plainGameMoves_con.ρ x:=by kernel_rfl
theorem qaA:qri Tryz.prog 52 plainGameMoves_con :=
  qlR (env:=qfU) ((EnvOK.cons (EnvOK.nil _) qlh)) mixed Tryz.func52 plainGameMoves_con qfZ (by kernel_rfl) (fun h=>by first | rfl | cases h) (fun g hg=>by cases hg) qmD
def qkS:Ann := .nil
noncomputable def clockReady_con:Con:=⟨[Zt39,Zt20,Zt63,.bool],false,[Zt20,Zt63],Zt18,fun x=>qjG x.1 x.2.1 x.2.2.1 x.2.2.2.1,none⟩
noncomputable def qkn:Env:=(40,.con clockLook_con)::(159,.ck 197)::[]
theorem qqK (x:DL clockReady_con.ps):clockReady_con.φ x=denF Tryz.prog qkn qkS Tryz.f201 clockReady_con.ps clockReady_con.one clockReady_con.res clockReady_con.ρ x:=by kernel_rfl
theorem qsE:ConOK Tryz.prog 201 clockReady_con :=
  qa (env:=qkn) ((EnvOK.cons (EnvOK.check (EnvOK.nil _) qc) qeq)) mixed Tryz.func201 clockReady_con qkS (by kernel_rfl) (fun h=>by first | rfl | cases h) (fun g hg=>by cases hg) qqK
def qkr:Ann:=(.two .nil (.two .nil (.two .nil (.two .nil (.two (.tail 16 .nil) (.two .nil (.two (.two .nil (.two .nil (.join ⟨[2,4,6,9],[],[(1,some (.box Zt24))]⟩ (.two (.two .nil (.two .nil (.tail 18 .nil))) .nil)))) .nil)))))))
noncomputable def clockPress_con:Con:=⟨[Zt39,Zt20,Zt63],false,[Zt20,Zt63],Zt18,fun x=>qjU x.1 x.2.1 x.2.2.1,none⟩
noncomputable def qkZ:Env:=(55,.con clockUsed_con)::(201,.con clockReady_con)::(159,.ck 197)::[]
theorem qqM (x:DL clockPress_con.ps):clockPress_con.φ x=denF Tryz.prog qkZ qkr Tryz.f145 clockPress_con.ps clockPress_con.one clockPress_con.res clockPress_con.ρ x:=by kernel_rfl
theorem qsz:ConOK Tryz.prog 145 clockPress_con :=
  qa (env:=qkZ) ((EnvOK.cons (EnvOK.cons (EnvOK.check (EnvOK.nil _) qc) qsE) qjA)) mixed Tryz.func145 clockPress_con qkr (by kernel_rfl) (fun h=>by first | rfl | cases h) (fun g hg=>by cases hg) qqM
def qkM:Ann:=(.two .nil (.two (.two .nil (.joinE ⟨[],[],[]⟩ (.two (.loop ⟨[1,8],[(9,Zt63)],[]⟩ (.two .nil (.two .nil (.two (.joinE ⟨[1,8,9],[],[]⟩ (.two (.two .nil (.two (.two (.join ⟨[1,3,4,8,9],[(16,Zt54),(17,Zt63)],[]⟩ .nil) (.joinE ⟨[1,3,4,8,9],[],[]⟩ (.two (.loop ⟨[1,3,4,8,9,16],[(17,Zt63)],[]⟩ .nil) .nil))) (.two .nil (.two (.join ⟨[1,8,9],[(43,.bool)],[]⟩ .nil) .nil)))) .nil)) .nil)))) .nil))) .nil))
noncomputable def offerCheck_con:Con:=⟨[Zt27],true,[],Zt63,fun x=>qjN x.1,none⟩
noncomputable def qkB:Env:=[]
theorem qq6 (x:DL offerCheck_con.ps):offerCheck_con.φ x=denF Tryz.prog qkB qkM Tryz.f202 offerCheck_con.ps offerCheck_con.one offerCheck_con.res offerCheck_con.ρ x:=by kernel_rfl
theorem qs0:ConOK Tryz.prog 202 offerCheck_con :=
  qa (env:=qkB) ((EnvOK.nil _)) mixed Tryz.func202 offerCheck_con qkM (by kernel_rfl) (fun h=>by first | rfl | cases h) (fun g hg=>by cases hg) qq6
def qif:Ann := .nil
noncomputable def offerCheck_i_con:Con:=⟨[Zt27,Zt63,Zt63,Zt63],true,[],Zt63,fun x=>qcg x.1 x.2.1 x.2.2.1 x.2.2.2.1,none⟩
noncomputable def qib:Env:=(202,.con offerCheck_con)::[]
theorem qoU (x:DL offerCheck_i_con.ps):offerCheck_i_con.φ x=denF Tryz.prog qib qif Tryz.f148 offerCheck_i_con.ps offerCheck_i_con.one offerCheck_i_con.res offerCheck_i_con.ρ x:=by kernel_rfl
theorem qdx:ConOK Tryz.prog 148 offerCheck_i_con :=
  qa (env:=qib) ((EnvOK.cons (EnvOK.nil _) qs0)) mixed Tryz.func148 offerCheck_i_con qif (by kernel_rfl) (fun h=>by first | rfl | cases h) (fun g hg=>by cases hg) qoU
def qmd:Ann:=(.two .nil (.two .nil (.two (.two .nil (.join ⟨[2,4],[],[(0,some (.box Zt36))]⟩ .nil)) .nil)))
noncomputable def offerMove_con:Con:=⟨[Zt27,Zt63],false,[Zt27,Zt63],Zt22,fun x=>qgV x.1 x.2.1,none⟩
noncomputable def qme:Env:=(148,.con offerCheck_i_con)::(159,.ck 197)::[]
theorem qta (x:DL offerMove_con.ps):offerMove_con.φ x=denF Tryz.prog qme qmd Tryz.f146 offerMove_con.ps offerMove_con.one offerMove_con.res offerMove_con.ρ x:=by kernel_rfl
theorem quv:ConOK Tryz.prog 146 offerMove_con :=
  qa (env:=qme) ((EnvOK.cons (EnvOK.check (EnvOK.nil _) qc) qdx)) mixed Tryz.func146 offerMove_con qmd (by kernel_rfl) (fun h=>by first | rfl | cases h) (fun g hg=>by cases hg) qta
def qfX:Ann:=(.two .nil (.two .nil (.two (.tail 5 .nil) (.two (.any 262143 0 (.ord 0 0 .nil (.ord 1 0 .nil (.ord 2 0 .nil (.ord 3 0 .nil (.ord 4 2031 .nil (.ord 5 0 .nil (.ord 6 0 .nil (.ord 7 0 .nil (.ord 8 0 .nil (.ord 9 1535 .nil (.ord 10 0 .nil (.ord 11 0 .nil (.ord 12 0 .nil (.ord 13 0 .nil (.ord 14 0 .nil (.ord 15 0 .nil (.ord 16 0 .nil (.ord 17 0 .nil (.ord 18 0 .nil .nil)))))))))))))))))))) .nil))))
noncomputable def matchMatchMove_con:Ioc:=⟨Zt1,[Zt51,Zt63],false,[],.nil,fun x=>qaw x.1 x.2.1 x.2.2.1⟩
noncomputable def qgg:Env:=(146,.con offerMove_con)::(145,.con clockPress_con)::(71,.io plainGamePlay_con)::(72,.rd plainGamePosition_con)::(167,.body Tryz.f167)::[]
theorem ql1 (x:DL (Zt1::[Zt51,Zt63])):matchMatchMove_con.φ x=denIO Tryz.prog qgg qfX Tryz.f170 Zt1 [Zt51,Zt63] false [] .nil x:=by kernel_rfl
theorem qnW:IocOK Tryz.prog 170 matchMatchMove_con :=
  qay (env:=qgg) ((EnvOK.cons (EnvOK.cons (EnvOK.inout (EnvOK.readonly (EnvOK.body (EnvOK.nil _) Tryz.func167) qN) qh6) qsz) quv)) mixed Tryz.func170 matchMatchMove_con qfX (by kernel_rfl) (fun h=>by first | rfl | cases h) ql1
def qlW:Ann:=(.two .nil (.two .nil (.two (.two .nil (.join ⟨[],[(5,Zt48)],[]⟩ (.two (.loop ⟨[1,8,9],[(5,Zt48),(10,Zt63)],[]⟩ (.two .nil (.two .nil (.two (.two (.two .nil (.two .nil (.join ⟨[1,8,9,10],[(5,Zt48)],[(0,none)]⟩ .nil))) .nil) .nil)))) .nil))) .nil)))
noncomputable def premoveOf_con:Con:=⟨[Zt40,Zt63],true,[],Zt48,fun x=>qgO x.1 x.2.1,none⟩
noncomputable def qnf:Env:=(159,.ck 197)::[]
theorem qso (x:DL premoveOf_con.ps):premoveOf_con.φ x=denF Tryz.prog qnf qlW Tryz.f222 premoveOf_con.ps premoveOf_con.one premoveOf_con.res premoveOf_con.ρ x:=by kernel_rfl
theorem qok:ConOK Tryz.prog 222 premoveOf_con :=
  qa (env:=qnf) ((EnvOK.check (EnvOK.nil _) qc)) mixed Tryz.func222 premoveOf_con qlW (by kernel_rfl) (fun h=>by first | rfl | cases h) (fun g hg=>by cases hg) qso
def qh5:Ann:=(.two .nil (.two (.two (.join ⟨[0],[(12,.bool)],[]⟩ .nil) .nil) (.two (.two (.two (.two .nil (.two (.two (.two .nil (.two (.two .nil (.joinE ⟨[],[],[]⟩ (.two (.loop ⟨[0,1,7],[(8,Zt63)],[]⟩ .nil) .nil))) .nil)) .nil) .nil)) .nil) .nil) .nil)))
noncomputable def premoveCheck_con:Con:=⟨[Zt40],true,[],Zt63,fun x=>qew x.1,none⟩
noncomputable def qh4:Env:=(260,.body Tryz.f260)::(252,.body Tryz.f252)::(259,.body Tryz.f259)::(222,.con premoveOf_con)::[]
theorem qo1 (x:DL premoveCheck_con.ps):premoveCheck_con.φ x=denF Tryz.prog qh4 qh5 Tryz.f221 premoveCheck_con.ps premoveCheck_con.one premoveCheck_con.res premoveCheck_con.ρ x:=by kernel_rfl
theorem qiP:ConOK Tryz.prog 221 premoveCheck_con :=
  qa (env:=qh4) ((EnvOK.body (EnvOK.body (EnvOK.body (EnvOK.cons (EnvOK.nil _) qok) Tryz.func259) Tryz.func252) Tryz.func260)) mixed Tryz.func221 premoveCheck_con qh5 (by kernel_rfl) (fun h=>by first | rfl | cases h) (fun g hg=>by cases hg) qo1
def qgr:Ann := .nil
noncomputable def premoveCheck_i_con:Con:=⟨[Zt17,Zt34,Zt40],true,[],Zt63,fun x=>qeb x.1 x.2.1 x.2.2.1,none⟩
noncomputable def qfV:Env:=(221,.con premoveCheck_con)::(74,.con placeCheck_con)::[]
theorem qlN (x:DL premoveCheck_i_con.ps):premoveCheck_i_con.φ x=denF Tryz.prog qfV qgr Tryz.f218 premoveCheck_i_con.ps premoveCheck_i_con.one premoveCheck_i_con.res premoveCheck_i_con.ρ x:=by kernel_rfl
theorem qn1:ConOK Tryz.prog 218 premoveCheck_i_con :=
  qa (env:=qfV) ((EnvOK.cons (EnvOK.cons (EnvOK.nil _) qnr) qiP)) mixed Tryz.func218 premoveCheck_i_con qgr (by kernel_rfl) (fun h=>by first | rfl | cases h) (fun g hg=>by cases hg) qlN
def qca:Ann := .nil
noncomputable def slicesClone_PremoveMove_con:Con:=⟨[Zt40],true,[],Zt37,fun x=>qq x.1,none⟩
noncomputable def qce:Env:=[]
theorem qfn (x:DL slicesClone_PremoveMove_con.ps):slicesClone_PremoveMove_con.φ x=denF Tryz.prog qce qca Tryz.f53 slicesClone_PremoveMove_con.ps slicesClone_PremoveMove_con.one slicesClone_PremoveMove_con.res slicesClone_PremoveMove_con.ρ x:=by kernel_rfl
theorem qM:ConOK Tryz.prog 53 slicesClone_PremoveMove_con :=
  qa (env:=qce) ((EnvOK.nil _)) mixed Tryz.func53 slicesClone_PremoveMove_con qca (by kernel_rfl) (fun h=>by first | rfl | cases h) (fun g hg=>by cases hg) qfn
def qfR:Ann:=(.two .nil (.two (.two (.two .nil (.two (.two (.two .nil (.two (.two .nil (.joinE ⟨[],[],[]⟩ (.two (.loop ⟨[0,1,7],[(8,Zt63)],[]⟩ .nil) .nil))) .nil)) .nil) (.sel 2 1000004 (.two .nil (.two (.two .nil (.join ⟨[0],[(5,Zt63)],[(1,some (.arr 139 Zt41))]⟩ (.two (.loop ⟨[0,1],[(5,Zt63),(6,Zt63)],[(1,some (.arr 139 Zt41))]⟩ (.two .nil (.two (.two (.two .nil (.two .nil (.join ⟨[0,1,6],[(5,Zt63)],[(1,some (.arr 139 Zt41))]⟩ .nil))) .nil) .nil))) .nil))) (.two (.own .nil) (.two (.own .nil) .nil)))) .nil))) .nil) .nil))
noncomputable def premoveWithout_con:Con:=⟨[Zt40,Zt63],true,[],Zt37,fun x=>qcz x.1 x.2.1,none⟩
noncomputable def qgv:Env:=(159,.ck 197)::(289,.body Tryz.f289)::(252,.body Tryz.f252)::(288,.body Tryz.f288)::(53,.con slicesClone_PremoveMove_con)::[]
theorem qnp (x:DL premoveWithout_con.ps):premoveWithout_con.φ x=denF Tryz.prog qgv qfR Tryz.f254 premoveWithout_con.ps premoveWithout_con.one premoveWithout_con.res premoveWithout_con.ρ x:=by kernel_rfl
theorem qn4:ConOK Tryz.prog 254 premoveWithout_con :=
  qa (env:=qgv) ((EnvOK.check (EnvOK.body (EnvOK.body (EnvOK.body (EnvOK.cons (EnvOK.nil _) qM) Tryz.func288) Tryz.func252) Tryz.func289) qc)) mixed Tryz.func254 premoveWithout_con qfR (by kernel_rfl) (fun h=>by first | rfl | cases h) (fun g hg=>by cases hg) qnp
def qbP:Ann:=(.two .nil (.two .nil (.two (.two .nil (.join ⟨[0],[(3,Zt63)],[]⟩ (.two (.loop ⟨[0,9,10],[(3,Zt63),(11,Zt63)],[]⟩ .nil) .nil))) (.two (.two (.two .nil (.two .nil (.two (.two .nil (.two .nil (.join ⟨[],[(0,Zt37)],[]⟩ (.two (.own (.own .nil)) .nil)))) .nil))) .nil) (.two (.two .nil (.join ⟨[],[(6,Zt37)],[(0,none)]⟩ (.two (.loop ⟨[25,26],[(6,Zt37),(27,Zt63)],[(0,none)]⟩ .nil) .nil))) .nil)))))
noncomputable def slicesConcat_PremoveMove_con:Con:=⟨[(.sl Zt40)],true,[],Zt37,fun x=>qan x.1,none⟩
noncomputable def qbN:Env:=(290,.body Tryz.f290)::[]
theorem qeW (x:DL slicesConcat_PremoveMove_con.ps):slicesConcat_PremoveMove_con.φ x=denF Tryz.prog qbN qbP Tryz.f255 slicesConcat_PremoveMove_con.ps slicesConcat_PremoveMove_con.one slicesConcat_PremoveMove_con.res slicesConcat_PremoveMove_con.ρ x:=by kernel_rfl
theorem qfv:ConOK Tryz.prog 255 slicesConcat_PremoveMove_con :=
  qa (env:=qbN) ((EnvOK.body (EnvOK.nil _) Tryz.func290)) mixed Tryz.func255 slicesConcat_PremoveMove_con qbP (by kernel_rfl) (fun h=>by first | rfl | cases h) (fun g hg=>by cases hg) qeW
def qiN:Ann:=(.two .nil (.two (.two (.two .nil (.two (.two .nil (.joinE ⟨[],[],[]⟩ (.two (.loop ⟨[0,1,7],[(8,Zt63)],[]⟩ .nil) .nil))) .nil)) .nil) (.sel 3 1000004 (.two (.two (.join ⟨[2,4,6,9],[(26,.bool)],[]⟩ (.any 16351 32 (.ord 0 0 .nil (.ord 1 0 .nil (.ord 2 0 .nil (.ord 3 2007 .nil (.ord 4 1999 .nil (.ord 6 0 .nil (.ord 7 0 .nil (.ord 8 0 .nil (.ord 9 0 .nil (.ord 10 1023 .nil (.ord 5 0 .nil (.ord 11 0 .nil (.ord 12 0 .nil (.ord 13 0 .nil .nil)))))))))))))))) .nil) (.two (.any 102399 12288 (.ord 0 0 .nil (.ord 1 0 .nil (.ord 2 0 .nil (.ord 3 0 .nil (.ord 4 16367 .nil (.ord 5 0 .nil (.ord 6 0 .nil (.ord 7 0 .nil (.ord 8 0 .nil (.ord 9 0 .nil (.ord 10 0 .nil (.ord 11 0 .nil (.ord 12 0 .nil (.ord 13 0 .nil (.ord 14 0 .nil (.ord 15 0 .nil (.ord 16 0 .nil .nil)))))))))))))))))) .nil)) (.two (.two (.any 16351 32 (.ord 0 0 .nil (.ord 1 0 .nil (.ord 2 0 .nil (.ord 3 2007 .nil (.ord 4 1999 .nil (.ord 6 0 .nil (.ord 7 0 .nil (.ord 8 0 .nil (.ord 9 0 .nil (.ord 10 1023 .nil (.ord 5 0 .nil (.ord 11 0 .nil (.ord 12 0 .nil (.ord 13 0 .nil .nil))))))))))))))) .nil) .nil))))
noncomputable def premoveNext_con:Con:=⟨[Zt17,Zt34,Zt40],false,[Zt51,.bool,Zt37],(.st Zt51 (.st .bool (.st Zt37 .nil))),fun x=>qhp x.1 x.2.1 x.2.2.1,none⟩
noncomputable def qjl:Env:=(255,.con slicesConcat_PremoveMove_con)::(254,.con premoveWithout_con)::(98,.con slicesContains_Move_con)::(168,.con endsMoves_con)::(253,.body Tryz.f253)::(252,.body Tryz.f252)::(159,.ck 197)::[]
theorem qpv (x:DL premoveNext_con.ps):premoveNext_con.φ x=denF Tryz.prog qjl qiN Tryz.f219 premoveNext_con.ps premoveNext_con.one premoveNext_con.res premoveNext_con.ρ x:=by kernel_rfl
theorem qra:ConOK Tryz.prog 219 premoveNext_con :=
  qa (env:=qjl) ((EnvOK.cons (EnvOK.cons (EnvOK.cons (EnvOK.cons (EnvOK.body (EnvOK.body (EnvOK.check (EnvOK.nil _) qc) Tryz.func252) Tryz.func253) qoI) qaL) qn4) qfv)) mixed Tryz.func219 premoveNext_con qiN (by kernel_rfl) (fun h=>by first | rfl | cases h) (fun g hg=>by cases hg) qpv
def qg0:Ann := .nil
noncomputable def premoveNext_i_con:Con:=⟨[Zt17,Zt34,Zt40],false,[Zt51,.bool,Zt37,Zt63],(.st Zt51 (.st .bool Zt33)),fun x=>qbu x.1 x.2.1 x.2.2.1,none⟩
noncomputable def qg9:Env:=(219,.con premoveNext_con)::(218,.con premoveCheck_i_con)::(159,.ck 197)::[]
theorem qnQ (x:DL premoveNext_i_con.ps):premoveNext_i_con.φ x=denF Tryz.prog qg9 qg0 Tryz.f171 premoveNext_i_con.ps premoveNext_i_con.one premoveNext_i_con.res premoveNext_i_con.ρ x:=by kernel_rfl
theorem qoO:ConOK Tryz.prog 171 premoveNext_i_con :=
  qa (env:=qg9) ((EnvOK.cons (EnvOK.cons (EnvOK.check (EnvOK.nil _) qc) qn1) qra)) mixed Tryz.func171 premoveNext_i_con qg0 (by kernel_rfl) (fun h=>by first | rfl | cases h) (fun g hg=>by cases hg) qnQ
def qej:Ann:=(.ord 14 0 .nil (.ord 15 0 .nil (.ord 16 0 .nil (.ord 17 0 .nil (.ord 18 0 .nil (.ord 19 0 .nil (.ord 21 0 .nil (.ord 22 0 .nil (.ord 23 0 .nil (.ord 24 0 .nil .nil))))))))))
def qeM:Ann:=(.two .nil (.two (.two (.two (.join ⟨[0,3],[(9,.bool)],[]⟩ (.any 61 0 (.ord 0 0 .nil (.ord 2 0 .nil (.alt (.ord 1 0 .nil (.ord 3 0 .nil (.ord 4 0 .nil (.ord 5 0 .nil .nil)))) (.ord 3 0 .nil (.ord 1 0 .nil (.ord 4 0 .nil (.ord 5 0 .nil .nil))))))))) (.two .nil (.two (.any 31999 768 (.ord 0 0 .nil (.ord 1 0 .nil (.ord 2 0 .nil (.ord 3 3575 .nil (.ord 4 0 .nil (.ord 5 0 .nil (.ord 6 0 .nil (.ord 7 3199 .nil (.ord 10 0 .nil (.ord 11 2047 .nil (.ord 8 0 .nil (.ord 9 0 .nil (.ord 12 0 .nil (.ord 13 0 .nil (.ord 14 0 .nil .nil)))))))))))))))) .nil))) .nil) (.two .nil (.two (.join ⟨[],[],[(0,some (.box Zt2)),(10,none),(11,none),(12,none)]⟩ (.two (.loop ⟨[0,3],[],[(0,some (.box Zt2)),(10,none),(11,none),(12,none)]⟩ (.two (.two (.join ⟨[0,3],[(50,.bool)],[]⟩ .nil) .nil) (.two (.two (.join ⟨[0,3],[(5,(.obx Zt51)),(6,.bool),(7,Zt37)],[]⟩ (.any 30392063 1065216 (.ord 0 0 .nil (.ord 1 0 .nil (.ord 2 0 .nil (.ord 3 1064951 .nil (.ord 4 0 .nil (.ord 5 0 .nil (.ord 6 0 .nil (.ord 7 1064575 .nil (.ord 9 0 .nil (.ord 10 0 .nil (.ord 11 0 .nil (.ord 12 0 .nil (.ord 13 1056767 .nil (.alt (.ord 8 0 .nil (.alt (.ord 14 0 .nil (.ord 15 0 .nil (.ord 16 0 .nil (.ord 17 0 .nil (.ord 18 0 .nil (.ord 19 0 .nil (.ord 20 0 .nil (.ord 21 0 .nil (.ord 22 0 .nil (.ord 23 0 .nil (.ord 24 0 .nil .nil))))))))))) (.ord 20 0 .nil qej))) (.ord 20 0 .nil (.ord 8 0 .nil qej)))))))))))))))))) .nil) .nil))) .nil)) .nil))))
noncomputable def matchMatchDoMove_con:Ioc:=⟨Zt1,[Zt30],true,[],Zt63,fun x=>qaO x.1 x.2.1⟩
noncomputable def qeP:Env:=(159,.ck 197)::(171,.con premoveNext_i_con)::(73,.rd plainGameResult_con)::(170,.io matchMatchMove_con)::(52,.rd plainGameMoves_con)::(169,.body Tryz.f169)::(98,.con slicesContains_Move_con)::(168,.con endsMoves_con)::(72,.rd plainGamePosition_con)::(167,.body Tryz.f167)::[]
theorem qkd (x:DL (Zt1::[Zt30])):matchMatchDoMove_con.φ x=denIO Tryz.prog qeP qeM Tryz.f114 Zt1 [Zt30] true [] Zt63 x:=by kernel_rfl
theorem qlE:IocOK Tryz.prog 114 matchMatchDoMove_con :=
  qay (env:=qeP) ((EnvOK.check (EnvOK.cons (EnvOK.readonly (EnvOK.inout (EnvOK.readonly (EnvOK.body (EnvOK.cons (EnvOK.cons (EnvOK.readonly (EnvOK.body (EnvOK.nil _) Tryz.func167) qN) qoI) qaL) Tryz.func169) qaA) qnW) qbY) qoO) qc)) mixed Tryz.func114 matchMatchDoMove_con qeM (by kernel_rfl) (fun h=>by first | rfl | cases h) qkd
def qm3:Ann := .nil
noncomputable def offerTurn_con:Con:=⟨[Zt63],true,[],Zt63,fun x=>qlj x.1,some fun x=>qi1 x.1⟩
noncomputable def qmn:Env:=[]
theorem qsl (x:DL offerTurn_con.ps):offerTurn_con.φ x=denF Tryz.prog qmn qm3 Tryz.f203 offerTurn_con.ps offerTurn_con.one offerTurn_con.res offerTurn_con.ρ x:=by kernel_rfl
theorem qug:ConOK Tryz.prog 203 offerTurn_con :=
  qa (env:=qmn) ((EnvOK.nil _)) mixed Tryz.func203 offerTurn_con qm3 (by kernel_rfl) (fun h=>by first | rfl | cases h) (fun g hg x=>by
    cases hg
    exact quW _) qsl
def qkU:Ann:=(.two .nil (.two .nil (.two (.two .nil (.join ⟨[0,1],[(5,Zt63)],[]⟩ .nil)) .nil)))
noncomputable def offerPlies_con:Con:=⟨[Zt63,Zt63],true,[],Zt63,fun x=>qdX x.1 x.2.1,none⟩
noncomputable def qkk:Env:=(203,.con offerTurn_con)::[]
theorem qq3 (x:DL offerPlies_con.ps):offerPlies_con.φ x=denF Tryz.prog qkk qkU Tryz.f149 offerPlies_con.ps offerPlies_con.one offerPlies_con.res offerPlies_con.ρ x:=by kernel_rfl
theorem qmL:ConOK Tryz.prog 149 offerPlies_con :=
  qa (env:=qkk) ((EnvOK.cons (EnvOK.nil _) qug)) mixed Tryz.func149 offerPlies_con qkU (by kernel_rfl) (fun h=>by first | rfl | cases h) (fun g hg=>by cases hg) qq3
def ql0:Ann:=(.two .nil (.two .nil (.two (.two (.two .nil (.two .nil (.two .nil (.two .nil (.two (.join ⟨[1,2,3,4,8],[(28,.bool)],[]⟩ .nil) .nil))))) .nil) (.two (.join ⟨[4,8],[],[(0,some (.box Zt36))]⟩ (.any 1919 0 (.ord 0 0 .nil (.ord 1 0 .nil (.ord 2 0 .nil (.ord 3 0 .nil (.ord 4 0 .nil (.ord 5 0 .nil (.ord 6 0 .nil (.ord 8 0 .nil (.ord 9 0 .nil (.ord 7 0 .nil (.ord 10 0 .nil (.ord 11 0 .nil .nil)))))))))))))) .nil))))
noncomputable def offerMake_con:Con:=⟨[Zt27,Zt63,Zt63,Zt63],false,[Zt27,Zt63],Zt22,fun x=>qdq x.1 x.2.1 x.2.2.1 x.2.2.2.1,none⟩
noncomputable def qnd:Env:=(149,.con offerPlies_con)::(148,.con offerCheck_i_con)::(159,.ck 197)::[]
theorem qs8 (x:DL offerMake_con.ps):offerMake_con.φ x=denF Tryz.prog qnd ql0 Tryz.f83 offerMake_con.ps offerMake_con.one offerMake_con.res offerMake_con.ρ x:=by kernel_rfl
theorem qtF:ConOK Tryz.prog 83 offerMake_con :=
  qa (env:=qnd) ((EnvOK.cons (EnvOK.cons (EnvOK.check (EnvOK.nil _) qc) qdx) qmL)) mixed Tryz.func83 offerMake_con ql0 (by kernel_rfl) (fun h=>by first | rfl | cases h) (fun g hg=>by cases hg) qs8
def qmR:Ann := .nil
noncomputable def offerOpen_con:Con:=⟨[Zt27,Zt63,Zt63,Zt63],true,[],Zt63,fun x=>qiJ x.1 x.2.1 x.2.2.1 x.2.2.2.1,none⟩
noncomputable def qmW:Env:=(148,.con offerCheck_i_con)::[]
theorem qsH (x:DL offerOpen_con.ps):offerOpen_con.φ x=denF Tryz.prog qmW qmR Tryz.f152 offerOpen_con.ps offerOpen_con.one offerOpen_con.res offerOpen_con.ρ x:=by kernel_rfl
theorem qou:ConOK Tryz.prog 152 offerOpen_con :=
  qa (env:=qmW) ((EnvOK.cons (EnvOK.nil _) qdx)) mixed Tryz.func152 offerOpen_con qmR (by kernel_rfl) (fun h=>by first | rfl | cases h) (fun g hg=>by cases hg) qsH
def qie:Ann := .nil
noncomputable def offerDecline_con:Con:=⟨[Zt27,Zt63,Zt63,Zt63],false,[Zt27,Zt63],Zt22,fun x=>qaR x.1 x.2.1 x.2.2.1 x.2.2.2.1,none⟩
noncomputable def qil:Env:=(152,.con offerOpen_con)::(159,.ck 197)::[]
theorem qoM (x:DL offerDecline_con.ps):offerDecline_con.φ x=denF Tryz.prog qil qie Tryz.f85 offerDecline_con.ps offerDecline_con.one offerDecline_con.res offerDecline_con.ρ x:=by kernel_rfl
theorem qpo:ConOK Tryz.prog 85 offerDecline_con :=
  qa (env:=qil) ((EnvOK.cons (EnvOK.check (EnvOK.nil _) qc) qou)) mixed Tryz.func85 offerDecline_con qie (by kernel_rfl) (fun h=>by first | rfl | cases h) (fun g hg=>by cases hg) qoM
def qt:Ann:=(.ord 12 0 .nil (.ord 13 0 .nil (.ord 14 0 .nil (.ord 15 0 .nil (.ord 17 0 .nil (.ord 18 0 .nil .nil))))))
def qC:Ann:=(.alt (.ord 12 0 .nil (.ord 13 0 .nil (.ord 14 0 .nil (.ord 15 0 .nil (.ord 16 0 .nil (.ord 17 0 .nil (.ord 18 0 .nil .nil))))))) (.ord 16 0 .nil qt))
def qbG:Ann:=(.alt (.ord 9 0 .nil (.ord 11 0 .nil qt)) (.ord 11 0 .nil (.ord 9 0 .nil qt)))
def qbJ:Ann:=(.alt (.ord 7 0 .nil (.ord 11 0 .nil qt)) (.ord 11 0 .nil (.ord 7 0 .nil qt)))
def qbF:Ann:=(.alt (.ord 5 0 .nil (.ord 11 0 .nil qt)) (.ord 11 0 .nil (.ord 5 0 .nil qt)))
def qbL:Ann:=(.alt (.ord 11 0 .nil qC) (.ord 16 0 .nil (.ord 11 0 .nil qt)))
def qdK:Ann:=(.alt (.ord 7 0 .nil qbG) (.alt (.ord 9 0 .nil qbJ) (.ord 11 0 .nil (.ord 7 69503 .nil (.ord 9 0 .nil qt)))))
def qdM:Ann:=(.alt (.ord 5 0 .nil qbJ) (.alt (.ord 7 0 .nil qbF) (.ord 11 0 .nil (.ord 5 69599 .nil (.ord 7 0 .nil qt)))))
def qdL:Ann:=(.alt (.ord 5 0 .nil qbG) (.alt (.ord 9 0 .nil qbF) (.ord 11 0 .nil (.ord 5 69599 .nil (.ord 9 0 .nil qt)))))
def qda:Ann:=(.alt (.ord 9 0 .nil qbL) (.alt (.ord 11 0 .nil (.ord 9 69119 .nil qC)) (.ord 16 0 .nil qbG)))
def qdv:Ann:=(.alt (.ord 7 0 .nil qbL) (.alt (.ord 11 0 .nil (.ord 7 69503 .nil qC)) (.ord 16 0 .nil qbJ)))
def qdC:Ann:=(.alt (.ord 5 0 .nil qbL) (.alt (.ord 11 0 .nil (.ord 5 69599 .nil qC)) (.ord 16 0 .nil qbF)))
def qep:Ann:=(.two .nil (.two .nil (.two .nil (.two (.join ⟨[0],[(6,Zt25),(7,Zt63)],[]⟩ (.any 321535 65536 (.ord 0 0 .nil (.ord 1 0 .nil (.ord 2 0 .nil (.ord 3 0 .nil (.ord 4 0 .nil (.ord 6 0 .nil (.ord 8 0 .nil (.ord 10 0 .nil (.alt (.ord 5 0 .nil (.alt (.ord 7 0 .nil qda) (.alt (.ord 9 0 .nil qdv) (.alt (.ord 11 0 .nil (.ord 7 69503 .nil (.ord 9 69119 .nil qC))) (.ord 16 0 .nil qdK))))) (.alt (.ord 7 0 .nil (.alt (.ord 5 0 .nil qda) (.alt (.ord 9 0 .nil qdC) (.alt (.ord 11 0 .nil (.ord 5 69599 .nil (.ord 9 69119 .nil qC))) (.ord 16 0 .nil qdL))))) (.alt (.ord 9 0 .nil (.alt (.ord 5 0 .nil qdv) (.alt (.ord 7 0 .nil qdC) (.alt (.ord 11 0 .nil (.ord 5 69599 .nil (.ord 7 69503 .nil qC))) (.ord 16 0 .nil qdM))))) (.alt (.ord 11 0 .nil (.ord 5 69599 .nil (.ord 7 69503 .nil (.ord 9 69119 .nil qC)))) (.ord 16 0 .nil (.alt (.ord 5 0 .nil qdK) (.alt (.ord 7 0 .nil qdL) (.alt (.ord 9 0 .nil qdM) (.ord 11 0 .nil (.ord 5 69599 .nil (.ord 7 69503 .nil (.ord 9 0 .nil qt)))))))))))))))))))))) (.two (.two .nil (.join ⟨[7],[],[(0,some (.box Zt2)),(1,none),(2,none),(3,none)]⟩ .nil)) .nil)))))
noncomputable def matchMatchDoOffer_con:Ioc:=⟨Zt1,[Zt30],true,[],Zt63,fun x=>qaz x.1 x.2.1⟩
noncomputable def qeu:Env:=(83,.con offerMake_con)::(159,.ck 197)::(85,.con offerDecline_con)::(52,.rd plainGameMoves_con)::(169,.body Tryz.f169)::[]
theorem qiH (x:DL (Zt1::[Zt30])):matchMatchDoOffer_con.φ x=denIO Tryz.prog qeu qep Tryz.f115 Zt1 [Zt30] true [] Zt63 x:=by kernel_rfl
theorem qj8:IocOK Tryz.prog 115 matchMatchDoOffer_con :=
  qay (env:=qeu) ((EnvOK.cons (EnvOK.check (EnvOK.cons (EnvOK.readonly (EnvOK.body (EnvOK.nil _) Tryz.func169) qaA) qpo) qc) qtF)) mixed Tryz.func115 matchMatchDoOffer_con qep (by kernel_rfl) (fun h=>by first | rfl | cases h) qiH
def qiF:Ann := .nil
noncomputable def offerAccept_con:Con:=⟨[Zt27,Zt63,Zt63,Zt63],false,[Zt27,Zt63],Zt22,fun x=>qdQ x.1 x.2.1 x.2.2.1 x.2.2.2.1,none⟩
noncomputable def qiV:Env:=(152,.con offerOpen_con)::(159,.ck 197)::[]
theorem qpK (x:DL offerAccept_con.ps):offerAccept_con.φ x=denF Tryz.prog qiV qiF Tryz.f150 offerAccept_con.ps offerAccept_con.one offerAccept_con.res offerAccept_con.ρ x:=by kernel_rfl
theorem qqI:ConOK Tryz.prog 150 offerAccept_con :=
  qa (env:=qiV) ((EnvOK.cons (EnvOK.check (EnvOK.nil _) qc) qou)) mixed Tryz.func150 offerAccept_con qiF (by kernel_rfl) (fun h=>by first | rfl | cases h) (fun g hg=>by cases hg) qpK
def qhe:Ann:=(.two .nil (.two .nil (.two (.join ⟨[],[],[(0,some (.box Zt10)),(1,none),(2,none)]⟩ (.any 461369343 8392704 (.ord 0 0 .nil (.ord 1 0 .nil (.ord 2 0 .nil (.ord 3 0 .nil (.ord 4 0 .nil (.ord 5 16773087 .nil (.ord 6 0 .nil (.ord 7 0 .nil (.ord 8 0 .nil (.ord 9 16769535 .nil (.ord 10 0 .nil (.ord 11 0 .nil (.ord 13 0 .nil (.ord 14 0 .nil (.ord 15 0 .nil (.ord 16 8323071 .nil (.ord 17 0 .nil (.ord 18 0 .nil (.ord 19 0 .nil (.ord 20 1048575 .nil (.ord 21 0 .nil (.ord 22 0 .nil (.alt (.ord 12 0 (.own .nil) (.ord 24 0 .nil (.ord 25 0 .nil (.alt (.ord 23 0 (.own .nil) (.ord 26 0 .nil (.ord 27 0 .nil (.ord 28 0 .nil (.ord 29 0 .nil .nil))))) (.ord 26 0 .nil (.ord 23 0 (.own .nil) (.ord 27 0 .nil (.ord 28 0 .nil (.ord 29 0 .nil .nil))))))))) (.ord 23 0 (.own .nil) (.ord 12 0 (.own .nil) (.ord 24 0 .nil (.ord 25 0 .nil (.ord 26 0 .nil (.ord 27 0 .nil (.ord 28 0 .nil (.ord 29 0 .nil .nil))))))))))))))))))))))))))))))))) .nil)))
noncomputable def plainGameBack_con:Ioc:=⟨Zt7,[],true,[],Zt63,fun x=>qdu x.1⟩
noncomputable def qg3:Env:=[]
theorem qnw (x:DL (Zt7::[])):plainGameBack_con.φ x=denIO Tryz.prog qg3 qhe Tryz.f172 Zt7 [] true [] Zt63 x:=by kernel_rfl
theorem qoZ:IocOK Tryz.prog 172 plainGameBack_con :=
  qay (env:=qg3) ((EnvOK.nil _)) mixed Tryz.func172 plainGameBack_con qhe (by kernel_rfl) (fun h=>by first | rfl | cases h) qnw
def qmw:Ann:=(.two .nil (.two .nil (.two .nil (.two (.two .nil (.join ⟨[2,4],[],[(0,some (.box Zt36))]⟩ (.two (.loop ⟨[1,2,4],[(19,Zt63)],[(0,some (.box Zt36))]⟩ (.two .nil (.two .nil (.two (.join ⟨[1,2,4,19],[],[(0,some (.box Zt36))]⟩ (.two (.two .nil (.two (.join ⟨[1,2,4,7,19],[(25,Zt54),(26,Zt63)],[]⟩ .nil) (.join ⟨[1,2,4,19],[],[(0,some (.box Zt36))]⟩ (.two (.loop ⟨[1,2,4,7,19,25],[(26,Zt63)],[(0,some (.box Zt36))]⟩ (.two .nil (.two .nil (.two (.two (.two .nil (.join ⟨[1,2,4,7,19,25,26],[],[(0,some (.box Zt36))]⟩ .nil)) .nil) .nil)))) .nil)))) .nil)) .nil)))) .nil))) .nil))))
noncomputable def offerBack_con:Con:=⟨[Zt27,Zt63],false,[Zt27,Zt63],Zt22,fun x=>qfG x.1 x.2.1,none⟩
noncomputable def qmC:Env:=(148,.con offerCheck_i_con)::(159,.ck 197)::[]
theorem qsU (x:DL offerBack_con.ps):offerBack_con.φ x=denF Tryz.prog qmC qmw Tryz.f151 offerBack_con.ps offerBack_con.one offerBack_con.res offerBack_con.ρ x:=by kernel_rfl
theorem quT:ConOK Tryz.prog 151 offerBack_con :=
  qa (env:=qmC) ((EnvOK.cons (EnvOK.check (EnvOK.nil _) qc) qdx)) mixed Tryz.func151 offerBack_con qmw (by kernel_rfl) (fun h=>by first | rfl | cases h) (fun g hg=>by cases hg) qsU
def qv:Ann:=(.ord 11 0 .nil (.ord 12 0 .nil (.ord 13 0 .nil (.ord 14 0 .nil (.ord 16 0 .nil (.ord 17 0 .nil .nil))))))
def qA:Ann:=(.ord 11 34815 .nil (.ord 12 0 .nil (.ord 13 0 .nil (.ord 14 0 .nil (.ord 15 0 .nil (.ord 16 0 .nil (.ord 17 0 .nil .nil)))))))
def qbm:Ann:=(.alt (.ord 8 0 .nil (.ord 10 0 .nil qv)) (.ord 10 0 .nil (.ord 8 0 .nil qv)))
def qbs:Ann:=(.alt (.ord 6 0 .nil (.ord 10 0 .nil qv)) (.ord 10 0 .nil (.ord 6 0 .nil qv)))
def qbw:Ann:=(.alt (.ord 4 0 .nil (.ord 10 0 .nil qv)) (.ord 10 0 .nil (.ord 4 0 .nil qv)))
def qby:Ann:=(.alt (.ord 10 0 .nil qA) (.ord 15 0 .nil (.ord 10 0 .nil qv)))
def qbq:Ann:=(.ord 11 0 .nil (.ord 12 0 .nil (.ord 13 0 .nil (.ord 14 0 .nil (.ord 15 0 .nil .nil)))))
def qc5:Ann:=(.alt (.ord 6 0 .nil qbm) (.alt (.ord 8 0 .nil qbs) (.ord 10 0 .nil (.ord 6 34751 .nil (.ord 8 0 .nil qv)))))
def qde:Ann:=(.alt (.ord 4 0 .nil qbs) (.alt (.ord 6 0 .nil qbw) (.ord 10 0 .nil (.ord 4 34799 .nil (.ord 6 0 .nil qv)))))
def qcZ:Ann:=(.alt (.ord 4 0 .nil qbm) (.alt (.ord 8 0 .nil qbw) (.ord 10 0 .nil (.ord 4 34799 .nil (.ord 8 0 .nil qv)))))
def qcQ:Ann:=(.alt (.ord 8 0 .nil qby) (.alt (.ord 10 0 .nil (.ord 8 34559 .nil qA)) (.ord 15 0 .nil qbm)))
def qcP:Ann:=(.alt (.ord 6 0 .nil qby) (.alt (.ord 10 0 .nil (.ord 6 34751 .nil qA)) (.ord 15 0 .nil qbs)))
def qcS:Ann:=(.alt (.ord 4 0 .nil qby) (.alt (.ord 10 0 .nil (.ord 4 34799 .nil qA)) (.ord 15 0 .nil qbw)))
def qba:Ann:=(.ord 8 0 .nil (.ord 9 0 .nil (.ord 10 0 .nil qbq)))
def qdJ:Ann:=(.two .nil (.two (.join ⟨[0,3],[(5,Zt25),(6,Zt63)],[]⟩ (.any 162815 32768 (.ord 0 0 .nil (.ord 1 0 .nil (.ord 2 0 .nil (.ord 3 0 .nil (.ord 5 0 .nil (.ord 7 0 .nil (.ord 9 0 .nil (.alt (.ord 4 0 .nil (.alt (.ord 6 0 .nil qcQ) (.alt (.ord 8 0 .nil qcP) (.alt (.ord 10 0 .nil (.ord 6 34751 .nil (.ord 8 34559 .nil qA))) (.ord 15 0 .nil qc5))))) (.alt (.ord 6 0 .nil (.alt (.ord 4 0 .nil qcQ) (.alt (.ord 8 0 .nil qcS) (.alt (.ord 10 0 .nil (.ord 4 34799 .nil (.ord 8 34559 .nil qA))) (.ord 15 0 .nil qcZ))))) (.alt (.ord 8 0 .nil (.alt (.ord 4 0 .nil qcP) (.alt (.ord 6 0 .nil qcS) (.alt (.ord 10 0 .nil (.ord 4 34799 .nil (.ord 6 34751 .nil qA))) (.ord 15 0 .nil qde))))) (.alt (.ord 10 0 .nil (.ord 4 34799 .nil (.ord 6 34751 .nil (.ord 8 34559 .nil qA)))) (.ord 15 0 .nil (.alt (.ord 4 0 .nil qc5) (.alt (.ord 6 0 .nil qcZ) (.alt (.ord 8 0 .nil qde) (.ord 10 0 .nil (.ord 4 34799 .nil (.ord 6 34751 .nil (.ord 8 0 .nil qv))))))))))))))))))))) (.two .nil (.two .nil (.two .nil (.two (.two (.join ⟨[0,3],[(46,Zt63),(47,Zt63)],[]⟩ (.any 111 0 (.ord 0 0 .nil (.ord 3 0 .nil (.ord 6 0 .nil (.alt (.ord 1 0 .nil (.ord 2 0 .nil (.ord 4 0 .nil (.ord 5 0 .nil .nil)))) (.ord 4 0 .nil (.ord 1 0 .nil (.ord 2 0 .nil (.ord 5 0 .nil .nil)))))))))) (.join ⟨[0,3],[],[(1,some (.box Zt10)),(2,none),(3,none)]⟩ (.two (.loop ⟨[0,3,46],[(47,Zt63)],[(1,some (.box Zt10)),(2,none),(3,none)]⟩ .nil) .nil))) (.two (.join ⟨[0,3],[],[(0,some (.box Zt2)),(1,none),(6,none),(7,none)]⟩ (.any 32639 0 (.ord 0 0 .nil (.ord 1 0 .nil (.ord 2 0 .nil (.ord 3 0 .nil (.ord 4 0 .nil (.ord 6 0 .nil (.alt (.ord 5 0 .nil (.ord 7 0 .nil qba)) (.ord 7 0 .nil (.ord 5 0 .nil qba))))))))))) (.two (.join ⟨[0],[],[(0,some (.box Zt2)),(8,none),(9,none),(10,none)]⟩ (.any 31735 0 (.ord 0 0 .nil (.ord 1 0 .nil (.ord 2 0 .nil (.ord 4 0 .nil (.alt (.ord 3 0 .nil (.ord 6 0 .nil (.ord 7 0 .nil (.ord 8 0 .nil (.ord 9 0 .nil (.alt (.ord 5 0 .nil (.ord 10 0 .nil qbq)) (.ord 10 0 .nil (.ord 5 0 .nil qbq)))))))) (.ord 5 0 .nil (.ord 3 0 .nil (.ord 6 0 .nil (.ord 7 0 .nil qba))))))))))) .nil))))))))
noncomputable def matchMatchDoAccept_con:Ioc:=⟨Zt1,[Zt30],true,[],Zt63,fun x=>qaP x.1 x.2.1⟩
noncomputable def qdH:Env:=(72,.rd plainGamePosition_con)::(167,.body Tryz.f167)::(151,.con offerBack_con)::(172,.io plainGameBack_con)::(149,.con offerPlies_con)::(159,.ck 197)::(52,.rd plainGameMoves_con)::(169,.body Tryz.f169)::(150,.con offerAccept_con)::[]
theorem qix (x:DL (Zt1::[Zt30])):matchMatchDoAccept_con.φ x=denIO Tryz.prog qdH qdJ Tryz.f116 Zt1 [Zt30] true [] Zt63 x:=by kernel_rfl
theorem qja:IocOK Tryz.prog 116 matchMatchDoAccept_con :=
  qay (env:=qdH) ((EnvOK.readonly (EnvOK.body (EnvOK.cons (EnvOK.inout (EnvOK.cons (EnvOK.check (EnvOK.readonly (EnvOK.body (EnvOK.cons (EnvOK.nil _) qqI) Tryz.func169) qaA) qc) qmL) qoZ) quT) Tryz.func167) qN)) mixed Tryz.func116 matchMatchDoAccept_con qdJ (by kernel_rfl) (fun h=>by first | rfl | cases h) qix
def qkT:Ann:=(.two .nil (.two .nil (.two .nil (.two (.two .nil (.join ⟨[1,2],[(6,Zt60),(7,Zt63)],[]⟩ (.two (.loop ⟨[1,2,13,14],[(6,Zt60),(7,Zt63),(15,Zt63)],[]⟩ (.two .nil (.two .nil (.two (.two (.two .nil (.two .nil (.join ⟨[1,2,13,14,15],[(6,Zt60),(7,Zt63)],[(1,none)]⟩ .nil))) .nil) .nil)))) .nil))) (.two (.two .nil (.join ⟨[],[(6,Zt60),(7,Zt63)],[(1,none)]⟩ (.two (.loop ⟨[40,41],[(6,Zt60),(7,Zt63),(42,Zt63)],[(1,none)]⟩ (.two .nil (.two .nil (.two (.two (.two .nil (.two .nil (.join ⟨[40,41,42],[(6,Zt60),(7,Zt63)],[(2,none)]⟩ .nil))) .nil) .nil)))) .nil))) .nil)))))
noncomputable def claimTypes_con:Con:=⟨[Zt34,Zt63],false,[Zt60,Zt63],(.st Zt60 Zt59),fun x=>qjP x.1 x.2.1,none⟩
noncomputable def qkJ:Env:=[]
theorem qqS (x:DL claimTypes_con.ps):claimTypes_con.φ x=denF Tryz.prog qkJ qkT Tryz.f291 claimTypes_con.ps claimTypes_con.one claimTypes_con.res claimTypes_con.ρ x:=by kernel_rfl
theorem qs6:ConOK Tryz.prog 291 claimTypes_con :=
  qa (env:=qkJ) ((EnvOK.nil _)) mixed Tryz.func291 claimTypes_con qkT (by kernel_rfl) (fun h=>by first | rfl | cases h) (fun g hg=>by cases hg) qqS
def qih:Ann:=(.two .nil (.two (.two .nil (.joinE ⟨[],[],[]⟩ (.two (.loop ⟨[2,3,10],[(1,Zt63),(11,Zt63)],[]⟩ .nil) .nil))) .nil))
noncomputable def claimBecomes_con:Con:=⟨[Zt17,Zt63,Zt63],true,[],.bool,fun x=>qjj x.1 x.2.1 x.2.2.1,none⟩
noncomputable def qip:Env:=[]
theorem qoP (x:DL claimBecomes_con.ps):claimBecomes_con.φ x=denF Tryz.prog qip qih Tryz.f293 claimBecomes_con.ps claimBecomes_con.one claimBecomes_con.res claimBecomes_con.ρ x:=by kernel_rfl
theorem qqy:ConOK Tryz.prog 293 claimBecomes_con :=
  qa (env:=qip) ((EnvOK.nil _)) mixed Tryz.func293 claimBecomes_con qih (by kernel_rfl) (fun h=>by first | rfl | cases h) (fun g hg=>by cases hg) qoP
def qmA:Ann:=(.two .nil (.two .nil (.two .nil (.two (.two (.join ⟨[4,9],[(42,.bool)],[]⟩ (.two (.two .nil (.two (.two (.two .nil (.two (.two .nil (.joinE ⟨[],[],[]⟩ (.two (.loop ⟨[0,1,7],[(8,Zt63)],[]⟩ .nil) .nil))) .nil)) .nil) .nil)) .nil)) .nil) (.two (.join ⟨[],[(8,.bool)],[]⟩ (.two (.two .nil (.two (.two (.two .nil (.two (.two .nil (.joinE ⟨[],[],[]⟩ (.two (.loop ⟨[0,1,7],[(8,Zt63)],[]⟩ (.two .nil (.two .nil (.two (.two (.two .nil (.two (.two (.two .nil (.two (.two (.two .nil (.two (.two (.two .nil (.two (.two .nil (.joinE ⟨[],[],[]⟩ (.two (.loop ⟨[0,1,7],[(8,Zt63)],[]⟩ .nil) .nil))) .nil)) .nil) .nil)) .nil) .nil)) .nil) .nil)) .nil) .nil)))) .nil))) .nil)) .nil) .nil)) .nil)) .nil)))))
noncomputable def claimAble_con:Con:=⟨[Zt17,Zt34,Zt46,Zt63],true,[],.bool,fun x=>qmz x.1 x.2.1 x.2.2.1 x.2.2.2.1,none⟩
noncomputable def ql9:Env:=(296,.body Tryz.f296)::(306,.body Tryz.f306)::(295,.body Tryz.f295)::(294,.body Tryz.f294)::(293,.con claimBecomes_con)::(292,.body Tryz.f292)::(187,.body Tryz.f187)::(133,.body Tryz.f133)::(291,.con claimTypes_con)::[]
theorem qss (x:DL claimAble_con.ps):claimAble_con.φ x=denF Tryz.prog ql9 qmA Tryz.f258 claimAble_con.ps claimAble_con.one claimAble_con.res claimAble_con.ρ x:=by kernel_rfl
theorem qtA:ConOK Tryz.prog 258 claimAble_con :=
  qa (env:=ql9) ((EnvOK.body (EnvOK.body (EnvOK.body (EnvOK.body (EnvOK.cons (EnvOK.body (EnvOK.body (EnvOK.body (EnvOK.cons (EnvOK.nil _) qs6) Tryz.func133) Tryz.func187) Tryz.func292) qqy) Tryz.func294) Tryz.func295) Tryz.func306) Tryz.func296)) mixed Tryz.func258 claimAble_con qmA (by kernel_rfl) (fun h=>by first | rfl | cases h) (fun g hg=>by cases hg) qss
def qjo:Ann:=(.two .nil (.two .nil (.two .nil (.two (.join ⟨[],[(6,.bool),(7,Zt63)],[]⟩ (.two (.two .nil (.two (.two (.two .nil (.two (.two .nil (.joinE ⟨[],[],[]⟩ (.two (.loop ⟨[0,1,7],[(8,Zt63)],[]⟩ .nil) .nil))) .nil)) .nil) .nil)) .nil)) .nil))))
noncomputable def claimAble_i_con:Con:=⟨[Zt17,Zt34,Zt63],false,[.bool,Zt63],Zt56,fun x=>qfz x.1 x.2.1 x.2.2.1,none⟩
noncomputable def qjp:Env:=(258,.con claimAble_con)::(257,.body Tryz.f257)::(194,.body Tryz.f194)::(256,.body Tryz.f256)::(74,.con placeCheck_con)::[]
theorem qqt (x:DL claimAble_i_con.ps):claimAble_i_con.φ x=denF Tryz.prog qjp qjo Tryz.f220 claimAble_i_con.ps claimAble_i_con.one claimAble_i_con.res claimAble_i_con.ρ x:=by kernel_rfl
theorem qqJ:ConOK Tryz.prog 220 claimAble_i_con :=
  qa (env:=qjp) ((EnvOK.cons (EnvOK.body (EnvOK.body (EnvOK.body (EnvOK.cons (EnvOK.nil _) qnr) Tryz.func256) Tryz.func194) Tryz.func257) qtA)) mixed Tryz.func220 claimAble_i_con qjo (by kernel_rfl) (fun h=>by first | rfl | cases h) (fun g hg=>by cases hg) qqt
def qiX:Ann := .nil
noncomputable def claimFallen_con:Con:=⟨[Zt17,Zt34,Zt63],false,[Zt63,Zt63],Zt54,fun x=>qhm x.1 x.2.1 x.2.2.1,none⟩
noncomputable def qjE:Env:=(220,.con claimAble_i_con)::[]
theorem qpC (x:DL claimFallen_con.ps):claimFallen_con.φ x=denF Tryz.prog qjE qiX Tryz.f173 claimFallen_con.ps claimFallen_con.one claimFallen_con.res claimFallen_con.ρ x:=by kernel_rfl
theorem qqN:ConOK Tryz.prog 173 claimFallen_con :=
  qa (env:=qjE) ((EnvOK.cons (EnvOK.nil _) qqJ)) mixed Tryz.func173 claimFallen_con qiX (by kernel_rfl) (fun h=>by first | rfl | cases h) (fun g hg=>by cases hg) qpC
def qeC:Ann:=(.two .nil (.two (.two .nil (.two (.two (.any 163839 32768 (.ord 0 0 .nil (.ord 1 0 .nil (.ord 2 0 .nil (.ord 3 34807 .nil (.ord 4 0 .nil (.ord 5 0 .nil (.ord 6 0 .nil (.ord 7 0 .nil (.ord 8 34559 .nil (.ord 9 0 .nil (.ord 10 33791 .nil (.ord 11 34815 .nil (.ord 12 0 .nil (.ord 13 0 .nil (.ord 14 0 .nil (.ord 15 0 .nil (.ord 16 0 .nil (.ord 17 0 .nil .nil))))))))))))))))))) (.two .nil (.two .nil (.two (.any 523775 512 (.ord 0 0 .nil (.ord 1 0 .nil (.ord 2 0 .nil (.ord 3 0 .nil (.ord 4 4079 .nil (.ord 5 0 .nil (.ord 6 0 .nil (.ord 7 0 .nil (.ord 8 3327 .nil (.ord 10 0 .nil (.ord 11 2047 .nil (.ord 9 0 .nil (.ord 12 0 .nil (.ord 13 0 .nil (.ord 14 0 .nil (.ord 15 0 .nil (.ord 16 0 .nil (.ord 17 0 .nil (.ord 18 0 .nil (.ord 19 0 .nil .nil))))))))))))))))))))) .nil)))) .nil)) (.two (.join ⟨[0,3],[(7,.bool)],[]⟩ .nil) (.two (.two (.two .nil (.two .nil (.two (.join ⟨[0,7],[(91,.bool)],[]⟩ (.any 61 0 (.ord 0 0 .nil (.ord 2 0 .nil (.alt (.ord 1 0 .nil (.ord 3 0 .nil (.ord 4 0 .nil (.ord 5 0 .nil .nil)))) (.ord 3 0 .nil (.ord 1 0 .nil (.ord 4 0 .nil (.ord 5 0 .nil .nil))))))))) .nil))) .nil) .nil))))
noncomputable def matchMatchDoClaim_con:Ioc:=⟨Zt1,[Zt30],true,[],Zt63,fun x=>qbc x.1 x.2.1⟩
noncomputable def qeD:Env:=(167,.body Tryz.f167)::(140,.rd plainGameCount_con)::(173,.con claimFallen_con)::(72,.rd plainGamePosition_con)::(159,.ck 197)::(40,.con clockLook_con)::[]
theorem qjF (x:DL (Zt1::[Zt30])):matchMatchDoClaim_con.φ x=denIO Tryz.prog qeD qeC Tryz.f117 Zt1 [Zt30] true [] Zt63 x:=by kernel_rfl
theorem qj7:IocOK Tryz.prog 117 matchMatchDoClaim_con :=
  qay (env:=qeD) ((EnvOK.body (EnvOK.readonly (EnvOK.cons (EnvOK.readonly (EnvOK.check (EnvOK.cons (EnvOK.nil _) qeq) qc) qN) qqN) qhg) Tryz.func167)) mixed Tryz.func117 matchMatchDoClaim_con qeC (by kernel_rfl) (fun h=>by first | rfl | cases h) qjF
def qku:Ann:=(.two .nil (.two .nil (.two .nil (.two .nil (.two (.join ⟨[],[(6,Zt37),(7,Zt63)],[]⟩ (.any 413 34 (.ord 0 0 .nil (.ord 2 0 .nil (.ord 3 7 .nil (.ord 4 0 .nil (.alt (.ord 1 0 .nil (.ord 5 0 .nil (.ord 6 0 .nil (.ord 7 0 .nil (.ord 8 0 .nil .nil))))) (.ord 5 0 .nil (.ord 1 0 .nil (.ord 6 0 .nil (.ord 7 0 .nil (.ord 8 0 .nil .nil)))))))))))) .nil)))))
noncomputable def premoveAdd_con:Con:=⟨[Zt40,Zt63,Zt51],false,[Zt37,Zt63],Zt33,fun x=>qjW x.1 x.2.1 x.2.2.1,none⟩
noncomputable def qkN:Env:=(53,.con slicesClone_PremoveMove_con)::(222,.con premoveOf_con)::(221,.con premoveCheck_con)::[]
theorem qqO (x:DL premoveAdd_con.ps):premoveAdd_con.φ x=denF Tryz.prog qkN qku Tryz.f174 premoveAdd_con.ps premoveAdd_con.one premoveAdd_con.res premoveAdd_con.ρ x:=by kernel_rfl
theorem qsi:ConOK Tryz.prog 174 premoveAdd_con :=
  qa (env:=qkN) ((EnvOK.cons (EnvOK.cons (EnvOK.cons (EnvOK.nil _) qiP) qok) qM)) mixed Tryz.func174 premoveAdd_con qku (by kernel_rfl) (fun h=>by first | rfl | cases h) (fun g hg=>by cases hg) qqO
def qdk:Ann:=(.two .nil (.two (.two (.join ⟨[0,3],[(11,.bool)],[]⟩ (.any 29 0 (.ord 0 0 .nil (.ord 2 0 .nil (.alt (.ord 1 0 .nil (.ord 3 0 .nil (.ord 4 0 .nil .nil))) (.ord 3 0 .nil (.ord 1 0 .nil (.ord 4 0 .nil .nil)))))))) .nil) (.two (.any 32255 512 (.ord 0 0 .nil (.ord 1 0 .nil (.ord 2 0 .nil (.ord 3 0 .nil (.ord 4 495 .nil (.ord 5 0 .nil (.ord 6 447 .nil (.ord 7 0 .nil (.ord 8 0 .nil (.ord 9 0 .nil (.ord 10 0 .nil (.ord 11 0 .nil (.ord 12 0 .nil (.ord 13 0 .nil (.ord 14 0 .nil .nil)))))))))))))))) (.two (.two .nil (.join ⟨[6],[],[(0,some (.box Zt2)),(1,none),(2,none),(3,none),(5,none)]⟩ .nil)) .nil))))
noncomputable def matchMatchDoPremove_con:Ioc:=⟨Zt1,[Zt30],true,[],Zt63,fun x=>qaJ x.1 x.2.1⟩
noncomputable def qdi:Env:=(174,.con premoveAdd_con)::(72,.rd plainGamePosition_con)::(167,.body Tryz.f167)::[]
theorem qhS (x:DL (Zt1::[Zt30])):matchMatchDoPremove_con.φ x=denIO Tryz.prog qdi qdk Tryz.f118 Zt1 [Zt30] true [] Zt63 x:=by kernel_rfl
theorem qiv:IocOK Tryz.prog 118 matchMatchDoPremove_con :=
  qay (env:=qdi) ((EnvOK.cons (EnvOK.readonly (EnvOK.body (EnvOK.nil _) Tryz.func167) qN) qsi)) mixed Tryz.func118 matchMatchDoPremove_con qdk (by kernel_rfl) (fun h=>by first | rfl | cases h) qhS
def qgp:Ann:=(.two .nil (.two (.two .nil (.two (.two .nil (.two .nil (.two (.two .nil (.join ⟨[0,3,6],[(12,.bool)],[]⟩ .nil)) .nil))) .nil)) .nil))
noncomputable def matchMatchKind_con:Ioc:=⟨Zt1,[Zt30],true,[],Zt63,fun x=>qcy x.1 x.2.1⟩
noncomputable def qfN:Env:=(118,.io matchMatchDoPremove_con)::(117,.io matchMatchDoClaim_con)::(116,.io matchMatchDoAccept_con)::(115,.io matchMatchDoOffer_con)::(114,.io matchMatchDoMove_con)::[]
theorem qlL (x:DL (Zt1::[Zt30])):matchMatchKind_con.φ x=denIO Tryz.prog qfN qgp Tryz.f51 Zt1 [Zt30] true [] Zt63 x:=by kernel_rfl
theorem qnG:IocOK Tryz.prog 51 matchMatchKind_con :=
  qay (env:=qfN) ((EnvOK.inout (EnvOK.inout (EnvOK.inout (EnvOK.inout (EnvOK.inout (EnvOK.nil _) qlE) qj8) qja) qj7) qiv)) mixed Tryz.func51 matchMatchKind_con qgp (by kernel_rfl) (fun h=>by first | rfl | cases h) qlL
def qiL:Ann := .nil
noncomputable def journalLast_con:Con:=⟨[Zt55],true,[],(.int .u64),fun x=>qdV x.1,none⟩
noncomputable def qju:Env:=[]
theorem qqb (x:DL journalLast_con.ps):journalLast_con.φ x=denF Tryz.prog qju qiL Tryz.f112 journalLast_con.ps journalLast_con.one journalLast_con.res journalLast_con.ρ x:=by kernel_rfl
theorem qgH:ConOK Tryz.prog 112 journalLast_con :=
  qa (env:=qju) ((EnvOK.nil _)) mixed Tryz.func112 journalLast_con qiL (by kernel_rfl) (fun h=>by first | rfl | cases h) (fun g hg=>by cases hg) qqb
def qk1:Ann:=(.two .nil (.two .nil (.two (.two .nil (.join ⟨[1],[(5,(.int .u64))],[]⟩ (.two (.loop ⟨[1,10],[(5,(.int .u64)),(11,Zt63)],[]⟩ .nil) .nil))) .nil)))
noncomputable def journalSum_con:Con:=⟨[(.int .u64),.str],true,[],(.int .u64),fun x=>qd0 x.1 x.2.1,none⟩
noncomputable def qk0:Env:=[]
theorem qrb (x:DL journalSum_con.ps):journalSum_con.φ x=denF Tryz.prog qk0 qk1 Tryz.f111 journalSum_con.ps journalSum_con.one journalSum_con.res journalSum_con.ρ x:=by kernel_rfl
theorem qmx:ConOK Tryz.prog 111 journalSum_con :=
  qa (env:=qk0) ((EnvOK.nil _)) mixed Tryz.func111 journalSum_con qk1 (by kernel_rfl) (fun h=>by first | rfl | cases h) (fun g hg=>by cases hg) qrb
def qin:Ann := .nil
noncomputable def journalWrong_con:Con:=⟨[(.int .u64),Zt57],true,[],Zt63,fun x=>qei x.1 x.2.1,none⟩
noncomputable def qh3:Env:=(111,.con journalSum_con)::(110,.con qfh)::[]
theorem qoR (x:DL journalWrong_con.ps):journalWrong_con.φ x=denF Tryz.prog qh3 qin Tryz.f163 journalWrong_con.ps journalWrong_con.one journalWrong_con.res journalWrong_con.ρ x:=by kernel_rfl
theorem qjk:ConOK Tryz.prog 163 journalWrong_con :=
  qa (env:=qh3) ((EnvOK.cons (EnvOK.cons (EnvOK.nil _) qkz) qmx)) mixed Tryz.func163 journalWrong_con qin (by kernel_rfl) (fun h=>by first | rfl | cases h) (fun g hg=>by cases hg) qoR
def qi2:Ann:=(.two .nil (.two (.two .nil (.joinE ⟨[0],[],[]⟩ (.two (.loop ⟨[0,5,6],[(7,Zt63)],[]⟩ .nil) .nil))) .nil))
noncomputable def journalGood_con:Con:=⟨[Zt55],true,[],Zt63,fun x=>qhF x.1,none⟩
noncomputable def qjB:Env:=(163,.con journalWrong_con)::(112,.con journalLast_con)::(159,.ck 197)::[]
theorem qqr (x:DL journalGood_con.ps):journalGood_con.φ x=denF Tryz.prog qjB qi2 Tryz.f162 journalGood_con.ps journalGood_con.one journalGood_con.res journalGood_con.ρ x:=by kernel_rfl
theorem qqH:ConOK Tryz.prog 162 journalGood_con :=
  qa (env:=qjB) ((EnvOK.cons (EnvOK.cons (EnvOK.check (EnvOK.nil _) qc) qgH) qjk)) mixed Tryz.func162 journalGood_con qi2 (by kernel_rfl) (fun h=>by first | rfl | cases h) (fun g hg=>by cases hg) qqr
def qid:Ann := .nil
noncomputable def journalCheck_con:Con:=⟨[Zt55],true,[],Zt63,fun x=>qcY x.1,none⟩
noncomputable def qh0:Env:=(163,.con journalWrong_con)::(112,.con journalLast_con)::(162,.con journalGood_con)::[]
theorem qoV (x:DL journalCheck_con.ps):journalCheck_con.φ x=denF Tryz.prog qh0 qid Tryz.f109 journalCheck_con.ps journalCheck_con.one journalCheck_con.res journalCheck_con.ρ x:=by kernel_rfl
theorem qi5:ConOK Tryz.prog 109 journalCheck_con :=
  qa (env:=qh0) ((EnvOK.cons (EnvOK.cons (EnvOK.cons (EnvOK.nil _) qqH) qgH) qjk)) mixed Tryz.func109 journalCheck_con qid (by kernel_rfl) (fun h=>by first | rfl | cases h) (fun g hg=>by cases hg) qoV
def qbS:Ann := .nil
noncomputable def slicesClone_JournalEntry_con:Con:=⟨[Zt55],true,[],Zt53,fun x=>qX x.1,none⟩
noncomputable def qbW:Env:=[]
theorem qe9 (x:DL slicesClone_JournalEntry_con.ps):slicesClone_JournalEntry_con.φ x=denF Tryz.prog qbW qbS Tryz.f91 slicesClone_JournalEntry_con.ps slicesClone_JournalEntry_con.one slicesClone_JournalEntry_con.res slicesClone_JournalEntry_con.ρ x:=by kernel_rfl
theorem qb9:ConOK Tryz.prog 91 slicesClone_JournalEntry_con :=
  qa (env:=qbW) ((EnvOK.nil _)) mixed Tryz.func91 slicesClone_JournalEntry_con qbS (by kernel_rfl) (fun h=>by first | rfl | cases h) (fun g hg=>by cases hg) qe9
def qgP:Ann := .nil
noncomputable def journalAppend_con:Con:=⟨[Zt55,.str],false,[Zt53,Zt63],(.st Zt53 Zt59),fun x=>qL x.1 x.2.1,none⟩
noncomputable def qgQ:Env:=(111,.con journalSum_con)::(112,.con journalLast_con)::(91,.con slicesClone_JournalEntry_con)::(110,.con qfh)::(109,.con journalCheck_con)::[]
theorem qnJ (x:DL journalAppend_con.ps):journalAppend_con.φ x=denF Tryz.prog qgQ qgP Tryz.f48 journalAppend_con.ps journalAppend_con.one journalAppend_con.res journalAppend_con.ρ x:=by kernel_rfl
theorem qcL:ConOK Tryz.prog 48 journalAppend_con :=
  qa (env:=qgQ) ((EnvOK.cons (EnvOK.cons (EnvOK.cons (EnvOK.cons (EnvOK.cons (EnvOK.nil _) qi5) qkz) qb9) qgH) qmx)) mixed Tryz.func48 journalAppend_con qgP (by kernel_rfl) (fun h=>by first | rfl | cases h) (fun g hg=>by cases hg) qnJ
def qgm:Ann:=(.two .nil (.two .nil (.join ⟨[],[],[(0,some (.box Zt2)),(1,none),(2,none),(3,none)]⟩ .nil)))
noncomputable def matchMatchOver_con:Ioc:=⟨Zt1,[],false,[],.nil,fun x=>qaj x.1⟩
noncomputable def qgc:Env:=(73,.rd plainGameResult_con)::[]
theorem qmh (x:DL (Zt1::[])):matchMatchOver_con.φ x=denIO Tryz.prog qgc qgm Tryz.f50 Zt1 [] false [] .nil x:=by kernel_rfl
theorem qcp:IocOK Tryz.prog 50 matchMatchOver_con :=
  qay (env:=qgc) ((EnvOK.readonly (EnvOK.nil _) qbY)) mixed Tryz.func50 matchMatchOver_con qgm (by kernel_rfl) (fun h=>by first | rfl | cases h) qmh
def qhZ:Ann:=(.two .nil (.two .nil (.two (.any 163839 32768 (.ord 0 0 .nil (.ord 1 0 .nil (.ord 2 0 .nil (.ord 3 34807 .nil (.ord 4 0 .nil (.ord 5 0 .nil (.ord 6 0 .nil (.ord 7 0 .nil (.ord 8 34559 .nil (.ord 9 0 .nil (.ord 10 33791 .nil (.ord 11 34815 .nil (.ord 12 0 .nil (.ord 13 0 .nil (.ord 14 0 .nil (.ord 15 0 .nil (.ord 16 0 .nil (.ord 17 0 .nil .nil))))))))))))))))))) (.two .nil (.two .nil (.two .nil (.two (.any 8063 128 (.ord 0 0 .nil (.ord 1 0 .nil (.ord 2 0 .nil (.ord 3 0 .nil (.ord 4 111 .nil (.ord 5 0 .nil (.ord 6 0 .nil (.ord 7 0 .nil (.ord 8 0 .nil (.ord 9 0 .nil (.ord 10 0 .nil (.ord 11 0 .nil (.ord 12 0 .nil (.ord 13 0 .nil .nil))))))))))))))) .nil)))))))
noncomputable def matchMatchDo_con:Ioc:=⟨Zt1,[Zt30],true,[],Zt63,fun x=>qbi x.1 x.2.1⟩
noncomputable def qh2:Env:=(50,.io matchMatchOver_con)::(48,.con journalAppend_con)::(28,.con matchEntry_con)::(51,.io matchMatchKind_con)::(159,.ck 197)::(40,.con clockLook_con)::[]
theorem qo2 (x:DL (Zt1::[Zt30])):matchMatchDo_con.φ x=denIO Tryz.prog qh2 qhZ Tryz.f11 Zt1 [Zt30] true [] Zt63 x:=by kernel_rfl
theorem qfk:IocOK Tryz.prog 11 matchMatchDo_con :=
  qay (env:=qh2) ((EnvOK.inout (EnvOK.cons (EnvOK.cons (EnvOK.inout (EnvOK.check (EnvOK.cons (EnvOK.nil _) qeq) qc) qnG) qsM) qcL) qcp)) mixed Tryz.func11 matchMatchDo_con qhZ (by kernel_rfl) (fun h=>by first | rfl | cases h) qo2
def qkW:Ann := .nil
noncomputable def clockStart_con:Con:=⟨[Zt39,Zt63],false,[Zt20,Zt63],Zt18,fun x=>qa7 x.1 x.2.1,none⟩
noncomputable def qko:Env:=(54,.con clockWithin_con)::(105,.con clockCheck_con)::(159,.ck 197)::[]
theorem qq5 (x:DL clockStart_con.ps):clockStart_con.φ x=denF Tryz.prog qko qkW Tryz.f44 clockStart_con.ps clockStart_con.one clockStart_con.res clockStart_con.ρ x:=by kernel_rfl
theorem qhq:ConOK Tryz.prog 44 clockStart_con :=
  qa (env:=qko) ((EnvOK.cons (EnvOK.cons (EnvOK.check (EnvOK.nil _) qc) qmZ) qcA)) mixed Tryz.func44 clockStart_con qkW (by kernel_rfl) (fun h=>by first | rfl | cases h) (fun g hg=>by cases hg) qq5
def qb7:Ann := .nil
noncomputable def slicesClone_ClockPeriod_con:Con:=⟨[Zt52],true,[],(.osl 25 Zt54),fun x=>qau x.1,none⟩
noncomputable def qb4:Env:=[]
theorem qfq (x:DL slicesClone_ClockPeriod_con.ps):slicesClone_ClockPeriod_con.φ x=denF Tryz.prog qb4 qb7 Tryz.f108 slicesClone_ClockPeriod_con.ps slicesClone_ClockPeriod_con.one slicesClone_ClockPeriod_con.res slicesClone_ClockPeriod_con.ρ x:=by kernel_rfl
theorem qfM:ConOK Tryz.prog 108 slicesClone_ClockPeriod_con :=
  qa (env:=qb4) ((EnvOK.nil _)) mixed Tryz.func108 slicesClone_ClockPeriod_con qb7 (by kernel_rfl) (fun h=>by first | rfl | cases h) (fun g hg=>by cases hg) qfq
def qnc:Ann := .nil
noncomputable def clockCopy_con:Con:=⟨[Zt39],true,[],Zt38,fun x=>qb0 x.1,none⟩
noncomputable def qml:Env:=(108,.con slicesClone_ClockPeriod_con)::(159,.ck 197)::[]
theorem qs5 (x:DL clockCopy_con.ps):clockCopy_con.φ x=denF Tryz.prog qml qnc Tryz.f46 clockCopy_con.ps clockCopy_con.one clockCopy_con.res clockCopy_con.ρ x:=by kernel_rfl
theorem qiU:ConOK Tryz.prog 46 clockCopy_con :=
  qa (env:=qml) ((EnvOK.cons (EnvOK.check (EnvOK.nil _) qc) qfM)) mixed Tryz.func46 clockCopy_con qnc (by kernel_rfl) (fun h=>by first | rfl | cases h) (fun g hg=>by cases hg) qs5
def qne:Ann := .nil
noncomputable def clockLeft_con:Con:=⟨[Zt39,Zt20,Zt63,Zt63],false,[Zt63,Zt63],Zt54,fun x=>quG x.1 x.2.1 x.2.2.1 x.2.2.2.1,none⟩
noncomputable def qlX:Env:=(55,.con clockUsed_con)::(40,.con clockLook_con)::(54,.con clockWithin_con)::[]
theorem qtl (x:DL clockLeft_con.ps):clockLeft_con.φ x=denF Tryz.prog qlX qne Tryz.f13 clockLeft_con.ps clockLeft_con.one clockLeft_con.res clockLeft_con.ρ x:=by kernel_rfl
theorem qum:ConOK Tryz.prog 13 clockLeft_con :=
  qa (env:=qlX) ((EnvOK.cons (EnvOK.cons (EnvOK.cons (EnvOK.nil _) qcA) qeq) qjA)) mixed Tryz.func13 clockLeft_con qne (by kernel_rfl) (fun h=>by first | rfl | cases h) (fun g hg=>by cases hg) qtl
def qod:Ann := .nil
noncomputable def offerNew_con:Con:=⟨[],true,[],Zt27,fun x=>qnZ,some fun x=>qJ⟩
noncomputable def qoH:Env:=(159,.ck 197)::[]
theorem quX (x:DL offerNew_con.ps):offerNew_con.φ x=denF Tryz.prog qoH qod Tryz.f47 offerNew_con.ps offerNew_con.one offerNew_con.res offerNew_con.ρ x:=by kernel_rfl
theorem qld:ConOK Tryz.prog 47 offerNew_con :=
  qa (env:=qoH) ((EnvOK.check (EnvOK.nil _) qc)) mixed Tryz.func47 offerNew_con qod (by kernel_rfl) (fun h=>by first | rfl | cases h) (fun g hg x=>by
    cases hg
    exact qv8 ) quX
def qi9:Ann := .nil
noncomputable def matchNumber_con:Con:=⟨[.str],false,[Zt63,.bool],(.st Zt63 (.st .bool .nil)),fun x=>qdO x.1,none⟩
noncomputable def qjf:Env:=(49,.con qhi)::(155,.con quC)::[]
theorem qqB (x:DL matchNumber_con.ps):matchNumber_con.φ x=denF Tryz.prog qjf qi9 Tryz.f89 matchNumber_con.ps matchNumber_con.one matchNumber_con.res matchNumber_con.ρ x:=by kernel_rfl
theorem qks:ConOK Tryz.prog 89 matchNumber_con :=
  qa (env:=qjf) ((EnvOK.cons (EnvOK.cons (EnvOK.nil _) atoiS_ok) qm8)) mixed Tryz.func89 matchNumber_con qi9 (by kernel_rfl) (fun h=>by first | rfl | cases h) (fun g hg=>by cases hg) qqB
def qgs:Ann:=(.two .nil (.two .nil (.two .nil (.two .nil (.two (.two .nil (.joinE ⟨[2,5],[],[(0,some (.box Zt32)),(1,some (.box Zt32))]⟩ (.two (.loop ⟨[2,5,15,16],[(17,Zt63)],[(0,some (.box Zt32)),(1,some (.box Zt32))]⟩ .nil) .nil))) .nil)))))
noncomputable def matchReadEntry_con:Con:=⟨[.str],false,[Zt30,Zt63],(.st Zt30 Zt59),fun x=>qbD x.1,none⟩
noncomputable def qf4:Env:=(89,.con matchNumber_con)::(88,.con qr2)::(159,.ck 197)::[]
theorem qlP (x:DL matchReadEntry_con.ps):matchReadEntry_con.φ x=denF Tryz.prog qf4 qgs Tryz.f27 matchReadEntry_con.ps matchReadEntry_con.one matchReadEntry_con.res matchReadEntry_con.ρ x:=by kernel_rfl
theorem qnv:ConOK Tryz.prog 27 matchReadEntry_con :=
  qa (env:=qf4) ((EnvOK.cons (EnvOK.cons (EnvOK.check (EnvOK.nil _) qc) splitS_ok) qks)) mixed Tryz.func27 matchReadEntry_con qgs (by kernel_rfl) (fun h=>by first | rfl | cases h) (fun g hg=>by cases hg) qlP
def qa3:Ann := .nil
noncomputable def internalstringsliteHasPrefix_con:Con:=⟨[.str,.str],true,[],.bool,fun x=>qas x.1 x.2.1,none⟩
noncomputable def qa1:Env:=[]
theorem qdG (x:DL internalstringsliteHasPrefix_con.ps):internalstringsliteHasPrefix_con.φ x=denF Tryz.prog qa1 qa3 Tryz.f280 internalstringsliteHasPrefix_con.ps internalstringsliteHasPrefix_con.one internalstringsliteHasPrefix_con.res internalstringsliteHasPrefix_con.ρ x:=by kernel_rfl
theorem qdT:ConOK Tryz.prog 280 internalstringsliteHasPrefix_con :=
  qa (env:=qa1) ((EnvOK.nil _)) mixed Tryz.func280 internalstringsliteHasPrefix_con qa3 (by kernel_rfl) (fun h=>by first | rfl | cases h) (fun g hg=>by cases hg) qdG
def qa2:Ann := .nil
noncomputable def internalstringsliteCutPrefix_con:Con:=⟨[.str,.str],false,[.str,.bool],(.st .str (.st .bool .nil)),fun x=>qat x.1 x.2.1,none⟩
noncomputable def qa0:Env:=(280,.con internalstringsliteHasPrefix_con)::[]
theorem qdF (x:DL internalstringsliteCutPrefix_con.ps):internalstringsliteCutPrefix_con.φ x=denF Tryz.prog qa0 qa2 Tryz.f243 internalstringsliteCutPrefix_con.ps internalstringsliteCutPrefix_con.one internalstringsliteCutPrefix_con.res internalstringsliteCutPrefix_con.ρ x:=by kernel_rfl
theorem qdR:ConOK Tryz.prog 243 internalstringsliteCutPrefix_con :=
  qa (env:=qa0) ((EnvOK.cons (EnvOK.nil _) qdT)) mixed Tryz.func243 internalstringsliteCutPrefix_con qa2 (by kernel_rfl) (fun h=>by first | rfl | cases h) (fun g hg=>by cases hg) qdF
def qeS:Ann := .nil
noncomputable def stringsCutPrefix_con:Con:=⟨[.str,.str],false,[.str,.bool],(.st .str (.st .bool .nil)),fun x=>qaq x.1 x.2.1,none⟩
noncomputable def qeJ:Env:=(243,.con internalstringsliteCutPrefix_con)::[]
theorem qj9 (x:DL stringsCutPrefix_con.ps):stringsCutPrefix_con.φ x=denF Tryz.prog qeJ qeS Tryz.f210 stringsCutPrefix_con.ps stringsCutPrefix_con.one stringsCutPrefix_con.res stringsCutPrefix_con.ρ x:=by kernel_rfl
theorem qlq:ConOK Tryz.prog 210 stringsCutPrefix_con :=
  qa (env:=qeJ) ((EnvOK.cons (EnvOK.nil _) qdR)) mixed Tryz.func210 stringsCutPrefix_con qeS (by kernel_rfl) (fun h=>by first | rfl | cases h) (fun g hg=>by cases hg) qj9
end Go.Proofs.YtijkabgijfdpfaaGreatDoor

