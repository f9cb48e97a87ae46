/- Contracts: Match. No condition of its own. -/
import Derived.Test.YthidcmjpbokeeaaGreatDoorMAA
import Derived.Test.YthidcmjpbokeeaaGreatDoorMAI
import Derived.Test.YthidcmjpbokeeaaGreatDoorMAF
namespace Go.Proofs.YthidcmjpbokeeaaGreatDoor
open Go.Den
set_option linter.unusedVariables false
set_option maxRecDepth 100000
def qkI:Ann:=(.two .nil (.two .nil (.two (.two .nil (.join ⟨[],[(3,Zt59)],[]⟩ (.two (.loop ⟨[23],[(3,Zt59),(24,Zt60)],[]⟩ .nil) .nil))) .nil)))
noncomputable def matchEntry_con:Con:=⟨[Zt27],true,[],.str,fun x=>qjT x.1,none⟩
noncomputable def qkw:Env:=(25,.con qg9)::(87,.con qps)::[]
theorem qqD (x:DL matchEntry_con.ps):matchEntry_con.φ x=denF Tryz.prog qkw qkI Tryz.f91 matchEntry_con.ps matchEntry_con.one matchEntry_con.res matchEntry_con.ρ x:=by kernel_rfl
theorem qsg:ConOK Tryz.prog 91 matchEntry_con :=
 qb (env:=qkw) ((EnvOK.cons (EnvOK.cons (EnvOK.nil _) qwM) qoN)) mixed Tryz.func91 matchEntry_con qkI (by kernel_rfl) (fun h=>by first | rfl | cases h) (fun g hg=>by cases hg) qqD
def qiF:Ann := .nil
noncomputable def clockWithin_con:Con:=⟨[Zt60,Zt60,Zt60],true,[],.bool,fun x=>qhA x.1 x.2.1 x.2.2.1,some fun x=>qg x.1 x.2.1 x.2.2.1⟩
noncomputable def qiS:Env:=[]
theorem qp9 (x:DL clockWithin_con.ps):clockWithin_con.φ x=denF Tryz.prog qiS qiF Tryz.f138 clockWithin_con.ps clockWithin_con.one clockWithin_con.res clockWithin_con.ρ x:=by kernel_rfl
theorem qdU:ConOK Tryz.prog 138 clockWithin_con :=
 qb (env:=qiS) ((EnvOK.nil _)) mixed Tryz.func138 clockWithin_con qiF (by kernel_rfl) (fun h=>by first | rfl | cases h) (fun g hg x=>by
  cases hg
  exact qqx _ _ _) qp9
def qkD:Ann:=(.two .nil (.two .nil (.two .nil (.two (.two .nil (.joinE ⟨[],[],[]⟩ (.two (.loop ⟨[1,21,22],[(23,Zt60)],[]⟩ .nil) .nil))) .nil))))
noncomputable def clockCheck_con:Con:=⟨[Zt35],true,[],Zt60,fun x=>qho x.1,none⟩
noncomputable def qkO:Env:=(58,.ck 64)::(138,.con clockWithin_con)::[]
theorem qqm (x:DL clockCheck_con.ps):clockCheck_con.φ x=denF Tryz.prog qkO qkD Tryz.f137 clockCheck_con.ps clockCheck_con.one clockCheck_con.res clockCheck_con.ρ x:=by kernel_rfl
theorem qlU:ConOK Tryz.prog 137 clockCheck_con :=
 qb (env:=qkO) ((EnvOK.check (EnvOK.cons (EnvOK.nil _) qdU) qd)) mixed Tryz.func137 clockCheck_con qkD (by kernel_rfl) (fun h=>by first | rfl | cases h) (fun g hg=>by cases hg) qqm
def qkq:Ann:=(.two .nil (.two .nil (.two .nil (.two (.two .nil (.join ⟨[],[(6,.bool)],[]⟩ (.two (.loop ⟨[2,3],[(6,.bool),(26,Zt60)],[]⟩ .nil) .nil))) .nil))))
noncomputable def clockValid_con:Con:=⟨[Zt35,Zt18],true,[],Zt60,fun x=>qjZ x.1 x.2.1,none⟩
noncomputable def qkZ:Env:=(138,.con clockWithin_con)::(137,.con clockCheck_con)::[]
theorem qqN (x:DL clockValid_con.ps):clockValid_con.φ x=denF Tryz.prog qkZ qkq Tryz.f148 clockValid_con.ps clockValid_con.one clockValid_con.res clockValid_con.ρ x:=by kernel_rfl
theorem qsc:ConOK Tryz.prog 148 clockValid_con :=
 qb (env:=qkZ) ((EnvOK.cons (EnvOK.cons (EnvOK.nil _) qlU) qdU)) mixed Tryz.func148 clockValid_con qkq (by kernel_rfl) (fun h=>by first | rfl | cases h) (fun g hg=>by cases hg) qqN
def ql8:Ann := .nil
noncomputable def clockUsed_con:Con:=⟨[Zt35,Zt18,Zt60],true,[],Zt60,fun x=>qlF x.1 x.2.1 x.2.2.1,some fun x=>qu x.1 x.2.1 x.2.2.1⟩
noncomputable def qm2:Env:=[]
theorem qrT (x:DL clockUsed_con.ps):clockUsed_con.φ x=denF Tryz.prog qm2 ql8 Tryz.f149 clockUsed_con.ps clockUsed_con.one clockUsed_con.res clockUsed_con.ρ x:=by kernel_rfl
theorem qnN:ConOK Tryz.prog 149 clockUsed_con :=
 qb (env:=qm2) ((EnvOK.nil _)) mixed Tryz.func149 clockUsed_con ql8 (by kernel_rfl) (fun h=>by first | rfl | cases h) (fun g hg x=>by
  cases hg
  exact qs8 _ _ _) qrT
def qlO:Ann:=(.two .nil (.two .nil (.two .nil (.two (.two .nil (.join ⟨[4,6],[],[(1,some (.box Zt22))]⟩ .nil)) .nil))))
noncomputable def clockLook_con:Con:=⟨[Zt35,Zt18,Zt60],false,[Zt18,Zt60],Zt16,fun x=>qb2 x.1 x.2.1 x.2.2.1,none⟩
noncomputable def qma:Env:=(149,.con clockUsed_con)::(138,.con clockWithin_con)::(148,.con clockValid_con)::(58,.ck 64)::[]
theorem qsO (x:DL clockLook_con.ps):clockLook_con.φ x=denF Tryz.prog qma qlO Tryz.f89 clockLook_con.ps clockLook_con.one clockLook_con.res clockLook_con.ρ x:=by kernel_rfl
theorem qoa:ConOK Tryz.prog 89 clockLook_con :=
 qb (env:=qma) ((EnvOK.cons (EnvOK.cons (EnvOK.cons (EnvOK.check (EnvOK.nil _) qd) qsc) qdU) qnN)) mixed Tryz.func89 clockLook_con qlO (by kernel_rfl) (fun h=>by first | rfl | cases h) (fun g hg=>by cases hg) qsO
def qeJ:Ann := .nil
noncomputable def slicesClone_Move_con:Con:=⟨[Zt48],true,[],Zt45,fun x=>qaN x.1,none⟩
noncomputable def qeF:Env:=[]
theorem qkd (x:DL slicesClone_Move_con.ps):slicesClone_Move_con.φ x=denF Tryz.prog qeF qeJ Tryz.f113 slicesClone_Move_con.ps slicesClone_Move_con.one slicesClone_Move_con.res slicesClone_Move_con.ρ x:=by kernel_rfl
theorem qls:ConOK Tryz.prog 113 slicesClone_Move_con :=
 qb (env:=qeF) ((EnvOK.nil _)) mixed Tryz.func113 slicesClone_Move_con qeJ (by kernel_rfl) (fun h=>by first | rfl | cases h) (fun g hg=>by cases hg) qkd
def qgx:Ann := .nil
noncomputable def plainGameMoves_con:Con:=⟨[Zt8],true,[],Zt45,fun x=>qG x.1,none⟩
noncomputable def qgh:Env:=(113,.con slicesClone_Move_con)::[]
theorem qmc (x:DL plainGameMoves_con.ps):plainGameMoves_con.φ x=denB Tryz.prog qgh qgx Tryz.f53 true plainGameMoves_con.ps plainGameMoves_con.one plainGameMoves_con.res plainGameMoves_con.ρ x:=by kernel_rfl
theorem qdH:qrg Tryz.prog 53 plainGameMoves_con :=
 qmT (env:=qgh) ((EnvOK.cons (EnvOK.nil _) qls)) mixed Tryz.func53 plainGameMoves_con qgx (by kernel_rfl) (fun h=>by first | rfl | cases h) (fun g hg=>by cases hg) qmc
def qkS:Ann := .nil
noncomputable def clockReady_con:Con:=⟨[Zt35,Zt18,Zt60,.bool],false,[Zt18,Zt60],Zt16,fun x=>qjE x.1 x.2.1 x.2.2.1 x.2.2.2.1,none⟩
noncomputable def qkm:Env:=(89,.con clockLook_con)::(58,.ck 64)::[]
theorem qqE (x:DL clockReady_con.ps):clockReady_con.φ x=denF Tryz.prog qkm qkS Tryz.f259 clockReady_con.ps clockReady_con.one clockReady_con.res clockReady_con.ρ x:=by kernel_rfl
theorem qsK:ConOK Tryz.prog 259 clockReady_con :=
 qb (env:=qkm) ((EnvOK.cons (EnvOK.check (EnvOK.nil _) qd) qoa)) mixed Tryz.func259 clockReady_con qkS (by kernel_rfl) (fun h=>by first | rfl | cases h) (fun g hg=>by cases hg) qqE
def qkB:Ann:=(.two .nil (.two .nil (.two .nil (.two .nil (.two (.tail 16 .nil) (.two .nil (.two (.two .nil (.two .nil (.join ⟨[2,4,6,9],[],[(1,some (.box Zt22))]⟩ (.two (.two .nil (.two .nil (.tail 18 .nil))) .nil)))) .nil)))))))
noncomputable def clockPress_con:Con:=⟨[Zt35,Zt18,Zt60],false,[Zt18,Zt60],Zt16,fun x=>qjF x.1 x.2.1 x.2.2.1,none⟩
noncomputable def qk0:Env:=(149,.con clockUsed_con)::(259,.con clockReady_con)::(58,.ck 64)::[]
theorem qqB (x:DL clockPress_con.ps):clockPress_con.φ x=denF Tryz.prog qk0 qkB Tryz.f233 clockPress_con.ps clockPress_con.one clockPress_con.res clockPress_con.ρ x:=by kernel_rfl
theorem qss:ConOK Tryz.prog 233 clockPress_con :=
 qb (env:=qk0) ((EnvOK.cons (EnvOK.cons (EnvOK.check (EnvOK.nil _) qd) qsK) qnN)) mixed Tryz.func233 clockPress_con qkB (by kernel_rfl) (fun h=>by first | rfl | cases h) (fun g hg=>by cases hg) qqB
def qkU:Ann:=(.two .nil (.two (.two .nil (.joinE ⟨[],[],[]⟩ (.two (.loop ⟨[1,8],[(9,Zt60)],[]⟩ (.two .nil (.two .nil (.two (.joinE ⟨[1,8,9],[],[]⟩ (.two (.two .nil (.two (.two (.join ⟨[1,3,4,8,9],[(16,Zt52),(17,Zt60)],[]⟩ .nil) (.joinE ⟨[1,3,4,8,9],[],[]⟩ (.two (.loop ⟨[1,3,4,8,9,16],[(17,Zt60)],[]⟩ .nil) .nil))) (.two .nil (.two (.join ⟨[1,8,9],[(43,.bool)],[]⟩ .nil) .nil)))) .nil)) .nil)))) .nil))) .nil))
noncomputable def offerCheck_con:Con:=⟨[Zt24],true,[],Zt60,fun x=>qjV x.1,none⟩
noncomputable def qkE:Env:=[]
theorem qqp (x:DL offerCheck_con.ps):offerCheck_con.φ x=denF Tryz.prog qkE qkU Tryz.f264 offerCheck_con.ps offerCheck_con.one offerCheck_con.res offerCheck_con.ρ x:=by kernel_rfl
theorem qsm:ConOK Tryz.prog 264 offerCheck_con :=
 qb (env:=qkE) ((EnvOK.nil _)) mixed Tryz.func264 offerCheck_con qkU (by kernel_rfl) (fun h=>by first | rfl | cases h) (fun g hg=>by cases hg) qqp
def qit:Ann := .nil
noncomputable def offerCheck_i_con:Con:=⟨[Zt24,Zt60,Zt60,Zt60],true,[],Zt60,fun x=>qfX x.1 x.2.1 x.2.2.1 x.2.2.2.1,none⟩
noncomputable def qh2:Env:=(264,.con offerCheck_con)::[]
theorem qol (x:DL offerCheck_i_con.ps):offerCheck_i_con.φ x=denF Tryz.prog qh2 qit Tryz.f237 offerCheck_i_con.ps offerCheck_i_con.one offerCheck_i_con.res offerCheck_i_con.ρ x:=by kernel_rfl
theorem qpT:ConOK Tryz.prog 237 offerCheck_i_con :=
 qb (env:=qh2) ((EnvOK.cons (EnvOK.nil _) qsm)) mixed Tryz.func237 offerCheck_i_con qit (by kernel_rfl) (fun h=>by first | rfl | cases h) (fun g hg=>by cases hg) qol
def qmI:Ann:=(.two .nil (.two .nil (.two (.two .nil (.join ⟨[2,4],[],[(0,some (.box (.st Zt60 (.st Zt60 Zt41))))]⟩ .nil)) .nil)))
noncomputable def offerMove_con:Con:=⟨[Zt24,Zt60],false,[Zt24,Zt60],(.st Zt24 Zt56),fun x=>qg7 x.1 x.2.1,none⟩
noncomputable def qmH:Env:=(237,.con offerCheck_i_con)::(58,.ck 64)::[]
theorem qsU (x:DL offerMove_con.ps):offerMove_con.φ x=denF Tryz.prog qmH qmI Tryz.f234 offerMove_con.ps offerMove_con.one offerMove_con.res offerMove_con.ρ x:=by kernel_rfl
theorem qtt:ConOK Tryz.prog 234 offerMove_con :=
 qb (env:=qmH) ((EnvOK.cons (EnvOK.check (EnvOK.nil _) qd) qpT)) mixed Tryz.func234 offerMove_con qmI (by kernel_rfl) (fun h=>by first | rfl | cases h) (fun g hg=>by cases hg) qsU
def qgC:Ann:=(.two .nil (.two .nil (.two (.tail 5 .nil) (.two (.any 262143 0 (.ord 0 0 .nil (.ord 1 0 .nil (.ord 2 0 .nil (.ord 3 0 .nil (.ord 4 2031 .nil (.ord 5 0 .nil (.ord 6 0 .nil (.ord 7 0 .nil (.ord 8 0 .nil (.ord 9 1535 .nil (.ord 10 0 .nil (.ord 11 0 .nil (.ord 12 0 .nil (.ord 13 0 .nil (.ord 14 0 .nil (.ord 15 0 .nil (.ord 16 0 .nil (.ord 17 0 .nil (.ord 18 0 .nil .nil)))))))))))))))))))) .nil))))
noncomputable def matchMatchMove_con:Ioc:=⟨Zt1,[Zt49,Zt60],false,[],.nil,fun x=>qaY x.1 x.2.1 x.2.2.1⟩
noncomputable def qgB:Env:=(234,.con offerMove_con)::(233,.con clockPress_con)::(44,.io plainGamePlay_con)::(45,.rd plainGamePosition_con)::(194,.body Tryz.f194)::[]
theorem qmN (x:DL (Zt1::[Zt49,Zt60])):matchMatchMove_con.φ x=denIO Tryz.prog qgB qgC Tryz.f197 Zt1 [Zt49,Zt60] false [] .nil x:=by kernel_rfl
theorem qnl:IocOK Tryz.prog 197 matchMatchMove_con :=
 qaG (env:=qgB) ((EnvOK.cons (EnvOK.cons (EnvOK.inout (EnvOK.readonly (EnvOK.body (EnvOK.nil _) Tryz.func194) qa2) qet) qss) qtt)) mixed Tryz.func197 matchMatchMove_con qgC (by kernel_rfl) (fun h=>by first | rfl | cases h) qmN
def ql4:Ann:=(.two .nil (.two .nil (.two (.two .nil (.join ⟨[],[(5,Zt45)],[]⟩ (.two (.loop ⟨[1,8,9],[(5,Zt45),(10,Zt60)],[]⟩ (.two .nil (.two .nil (.two (.two (.two .nil (.two .nil (.join ⟨[1,8,9,10],[(5,Zt45)],[(0,none)]⟩ .nil))) .nil) .nil)))) .nil))) .nil)))
noncomputable def premoveOf_con:Con:=⟨[Zt36,Zt60],true,[],Zt45,fun x=>qiN x.1 x.2.1,none⟩
noncomputable def qmK:Env:=(58,.ck 64)::[]
theorem qsE (x:DL premoveOf_con.ps):premoveOf_con.φ x=denF Tryz.prog qmK ql4 Tryz.f242 premoveOf_con.ps premoveOf_con.one premoveOf_con.res premoveOf_con.ρ x:=by kernel_rfl
theorem qt2:ConOK Tryz.prog 242 premoveOf_con :=
 qb (env:=qmK) ((EnvOK.check (EnvOK.nil _) qd)) mixed Tryz.func242 premoveOf_con ql4 (by kernel_rfl) (fun h=>by first | rfl | cases h) (fun g hg=>by cases hg) qsE
def qh5:Ann:=(.two .nil (.two (.two (.join ⟨[0],[(12,.bool)],[]⟩ .nil) .nil) (.two (.two (.two (.two .nil (.two (.two (.two .nil (.two (.two .nil (.joinE ⟨[],[],[]⟩ (.two (.loop ⟨[0,1,7],[(8,Zt60)],[]⟩ .nil) .nil))) .nil)) .nil) .nil)) .nil) .nil) .nil)))
noncomputable def premoveCheck_con:Con:=⟨[Zt36],true,[],Zt60,fun x=>qjo x.1,none⟩
noncomputable def qif:Env:=(269,.body Tryz.f269)::(260,.body Tryz.f260)::(268,.body Tryz.f268)::(242,.con premoveOf_con)::[]
theorem qok (x:DL premoveCheck_con.ps):premoveCheck_con.φ x=denF Tryz.prog qif qh5 Tryz.f241 premoveCheck_con.ps premoveCheck_con.one premoveCheck_con.res premoveCheck_con.ρ x:=by kernel_rfl
theorem qpR:ConOK Tryz.prog 241 premoveCheck_con :=
 qb (env:=qif) ((EnvOK.body (EnvOK.body (EnvOK.body (EnvOK.cons (EnvOK.nil _) qt2) Tryz.func268) Tryz.func260) Tryz.func269)) mixed Tryz.func241 premoveCheck_con qh5 (by kernel_rfl) (fun h=>by first | rfl | cases h) (fun g hg=>by cases hg) qok
def qgw:Ann := .nil
noncomputable def premoveCheck_i_con:Con:=⟨[Zt15,Zt29,Zt36],true,[],Zt60,fun x=>qdM x.1 x.2.1 x.2.2.1,none⟩
noncomputable def qgA:Env:=(241,.con premoveCheck_con)::(172,.con placeCheck_con)::[]
theorem qmj (x:DL premoveCheck_i_con.ps):premoveCheck_i_con.φ x=denF Tryz.prog qgA qgw Tryz.f235 premoveCheck_i_con.ps premoveCheck_i_con.one premoveCheck_i_con.res premoveCheck_i_con.ρ x:=by kernel_rfl
theorem qnB:ConOK Tryz.prog 235 premoveCheck_i_con :=
 qb (env:=qgA) ((EnvOK.cons (EnvOK.cons (EnvOK.nil _) qmX) qpR)) mixed Tryz.func235 premoveCheck_i_con qgw (by kernel_rfl) (fun h=>by first | rfl | cases h) (fun g hg=>by cases hg) qmj
def qbR:Ann := .nil
noncomputable def slicesClone_PremoveMove_con:Con:=⟨[Zt36],true,[],Zt31,fun x=>qR x.1,none⟩
noncomputable def qbT:Env:=[]
theorem qfg (x:DL slicesClone_PremoveMove_con.ps):slicesClone_PremoveMove_con.φ x=denF Tryz.prog qbT qbR Tryz.f92 slicesClone_PremoveMove_con.ps slicesClone_PremoveMove_con.one slicesClone_PremoveMove_con.res slicesClone_PremoveMove_con.ρ x:=by kernel_rfl
theorem qcm:ConOK Tryz.prog 92 slicesClone_PremoveMove_con :=
 qb (env:=qbT) ((EnvOK.nil _)) mixed Tryz.func92 slicesClone_PremoveMove_con qbR (by kernel_rfl) (fun h=>by first | rfl | cases h) (fun g hg=>by cases hg) qfg
def qgj:Ann:=(.two .nil (.two (.two (.two .nil (.two (.two (.two .nil (.two (.two .nil (.joinE ⟨[],[],[]⟩ (.two (.loop ⟨[0,1,7],[(8,Zt60)],[]⟩ .nil) .nil))) .nil)) .nil) (.sel 2 1000004 (.two .nil (.two (.two .nil (.join ⟨[0],[(5,Zt60)],[(1,some (.arr 176 Zt37))]⟩ (.two (.loop ⟨[0,1],[(5,Zt60),(6,Zt60)],[(1,some (.arr 176 Zt37))]⟩ (.two .nil (.two (.two (.two .nil (.two .nil (.join ⟨[0,1,6],[(5,Zt60)],[(1,some (.arr 176 Zt37))]⟩ .nil))) .nil) .nil))) .nil))) (.two (.own .nil) (.two (.own .nil) .nil)))) .nil))) .nil) .nil))
noncomputable def premoveWithout_con:Con:=⟨[Zt36,Zt60],true,[],Zt31,fun x=>qcv x.1 x.2.1,none⟩
noncomputable def qge:Env:=(58,.ck 64)::(276,.body Tryz.f276)::(260,.body Tryz.f260)::(275,.body Tryz.f275)::(92,.con slicesClone_PremoveMove_con)::[]
theorem qmp (x:DL premoveWithout_con.ps):premoveWithout_con.φ x=denF Tryz.prog qge qgj Tryz.f262 premoveWithout_con.ps premoveWithout_con.one premoveWithout_con.res premoveWithout_con.ρ x:=by kernel_rfl
theorem qne:ConOK Tryz.prog 262 premoveWithout_con :=
 qb (env:=qge) ((EnvOK.check (EnvOK.body (EnvOK.body (EnvOK.body (EnvOK.cons (EnvOK.nil _) qcm) Tryz.func275) Tryz.func260) Tryz.func276) qd)) mixed Tryz.func262 premoveWithout_con qgj (by kernel_rfl) (fun h=>by first | rfl | cases h) (fun g hg=>by cases hg) qmp
def qbE:Ann:=(.two .nil (.two .nil (.two (.two .nil (.join ⟨[0],[(3,Zt60)],[]⟩ (.two (.loop ⟨[0,9,10],[(3,Zt60),(11,Zt60)],[]⟩ .nil) .nil))) (.two (.two (.two .nil (.two .nil (.two (.two .nil (.two .nil (.join ⟨[],[(0,Zt31)],[]⟩ (.two (.own (.own .nil)) .nil)))) .nil))) .nil) (.two (.two .nil (.join ⟨[],[(6,Zt31)],[(0,none)]⟩ (.two (.loop ⟨[25,26],[(6,Zt31),(27,Zt60)],[(0,none)]⟩ .nil) .nil))) .nil)))))
noncomputable def slicesConcat_PremoveMove_con:Con:=⟨[(.sl Zt36)],true,[],Zt31,fun x=>qcK x.1,none⟩
noncomputable def qbL:Env:=(277,.body Tryz.f277)::[]
theorem qeX (x:DL slicesConcat_PremoveMove_con.ps):slicesConcat_PremoveMove_con.φ x=denF Tryz.prog qbL qbE Tryz.f263 slicesConcat_PremoveMove_con.ps slicesConcat_PremoveMove_con.one slicesConcat_PremoveMove_con.res slicesConcat_PremoveMove_con.ρ x:=by kernel_rfl
theorem qfo:ConOK Tryz.prog 263 slicesConcat_PremoveMove_con :=
 qb (env:=qbL) ((EnvOK.body (EnvOK.nil _) Tryz.func277)) mixed Tryz.func263 slicesConcat_PremoveMove_con qbE (by kernel_rfl) (fun h=>by first | rfl | cases h) (fun g hg=>by cases hg) qeX
def qjp:Ann:=(.two .nil (.two (.two (.two .nil (.two (.two .nil (.joinE ⟨[],[],[]⟩ (.two (.loop ⟨[0,1,7],[(8,Zt60)],[]⟩ .nil) .nil))) .nil)) .nil) (.sel 3 1000004 (.two (.two (.join ⟨[2,4,6,9],[(26,.bool)],[]⟩ (.any 16351 32 (.ord 0 0 .nil (.ord 1 0 .nil (.ord 2 0 .nil (.ord 3 2007 .nil (.ord 4 1999 .nil (.ord 6 0 .nil (.ord 7 0 .nil (.ord 8 0 .nil (.ord 9 0 .nil (.ord 10 1023 .nil (.ord 5 0 .nil (.ord 11 0 .nil (.ord 12 0 .nil (.ord 13 0 .nil .nil)))))))))))))))) .nil) (.two (.any 102399 12288 (.ord 0 0 .nil (.ord 1 0 .nil (.ord 2 0 .nil (.ord 3 0 .nil (.ord 4 16367 .nil (.ord 5 0 .nil (.ord 6 0 .nil (.ord 7 0 .nil (.ord 8 0 .nil (.ord 9 0 .nil (.ord 10 0 .nil (.ord 11 0 .nil (.ord 12 0 .nil (.ord 13 0 .nil (.ord 14 0 .nil (.ord 15 0 .nil (.ord 16 0 .nil .nil)))))))))))))))))) .nil)) (.two (.two (.any 16351 32 (.ord 0 0 .nil (.ord 1 0 .nil (.ord 2 0 .nil (.ord 3 2007 .nil (.ord 4 1999 .nil (.ord 6 0 .nil (.ord 7 0 .nil (.ord 8 0 .nil (.ord 9 0 .nil (.ord 10 1023 .nil (.ord 5 0 .nil (.ord 11 0 .nil (.ord 12 0 .nil (.ord 13 0 .nil .nil))))))))))))))) .nil) .nil))))
noncomputable def premoveNext_con:Con:=⟨[Zt15,Zt29,Zt36],false,[Zt49,.bool,Zt31],(.st Zt49 (.st .bool (.st Zt31 .nil))),fun x=>qlc x.1 x.2.1 x.2.2.1,none⟩
noncomputable def qjc:Env:=(263,.con slicesConcat_PremoveMove_con)::(262,.con premoveWithout_con)::(93,.con slicesContains_Move_con)::(195,.con endsMoves_con)::(261,.body Tryz.f261)::(260,.body Tryz.f260)::(58,.ck 64)::[]
theorem qo9 (x:DL premoveNext_con.ps):premoveNext_con.φ x=denF Tryz.prog qjc qjp Tryz.f236 premoveNext_con.ps premoveNext_con.one premoveNext_con.res premoveNext_con.ρ x:=by kernel_rfl
theorem qqo:ConOK Tryz.prog 236 premoveNext_con :=
 qb (env:=qjc) ((EnvOK.cons (EnvOK.cons (EnvOK.cons (EnvOK.cons (EnvOK.body (EnvOK.body (EnvOK.check (EnvOK.nil _) qd) Tryz.func260) Tryz.func261) qnK) qbA) qne) qfo)) mixed Tryz.func236 premoveNext_con qjp (by kernel_rfl) (fun h=>by first | rfl | cases h) (fun g hg=>by cases hg) qo9
def qgZ:Ann := .nil
noncomputable def premoveNext_i_con:Con:=⟨[Zt15,Zt29,Zt36],false,[Zt49,.bool,Zt31,Zt60],(.st Zt49 (.st .bool (.st Zt31 Zt56))),fun x=>qbe x.1 x.2.1 x.2.2.1,none⟩
noncomputable def qhh:Env:=(236,.con premoveNext_con)::(235,.con premoveCheck_i_con)::(58,.ck 64)::[]
theorem qm9 (x:DL premoveNext_i_con.ps):premoveNext_i_con.φ x=denF Tryz.prog qhh qgZ Tryz.f198 premoveNext_i_con.ps premoveNext_i_con.one premoveNext_i_con.res premoveNext_i_con.ρ x:=by kernel_rfl
theorem qow:ConOK Tryz.prog 198 premoveNext_i_con :=
 qb (env:=qhh) ((EnvOK.cons (EnvOK.cons (EnvOK.check (EnvOK.nil _) qd) qnB) qqo)) mixed Tryz.func198 premoveNext_i_con qgZ (by kernel_rfl) (fun h=>by first | rfl | cases h) (fun g hg=>by cases hg) qm9
def qen:Ann:=(.ord 14 0 .nil (.ord 15 0 .nil (.ord 16 0 .nil (.ord 17 0 .nil (.ord 18 0 .nil (.ord 19 0 .nil (.ord 21 0 .nil (.ord 22 0 .nil (.ord 23 0 .nil (.ord 24 0 .nil .nil))))))))))
def qeM:Ann:=(.two .nil (.two (.two (.two (.join ⟨[0,3],[(9,.bool)],[]⟩ (.any 61 0 (.ord 0 0 .nil (.ord 2 0 .nil (.alt (.ord 1 0 .nil (.ord 3 0 .nil (.ord 4 0 .nil (.ord 5 0 .nil .nil)))) (.ord 3 0 .nil (.ord 1 0 .nil (.ord 4 0 .nil (.ord 5 0 .nil .nil))))))))) (.two .nil (.two (.any 31999 768 (.ord 0 0 .nil (.ord 1 0 .nil (.ord 2 0 .nil (.ord 3 3575 .nil (.ord 4 0 .nil (.ord 5 0 .nil (.ord 6 0 .nil (.ord 7 3199 .nil (.ord 10 0 .nil (.ord 11 2047 .nil (.ord 8 0 .nil (.ord 9 0 .nil (.ord 12 0 .nil (.ord 13 0 .nil (.ord 14 0 .nil .nil)))))))))))))))) .nil))) .nil) (.two .nil (.two (.join ⟨[],[],[(0,some (.box Zt2)),(10,none),(11,none),(12,none)]⟩ (.two (.loop ⟨[0,3],[],[(0,some (.box Zt2)),(10,none),(11,none),(12,none)]⟩ (.two (.two (.join ⟨[0,3],[(50,.bool)],[]⟩ .nil) .nil) (.two (.two (.join ⟨[0,3],[(5,Zt47),(6,.bool),(7,Zt31)],[]⟩ (.any 30392063 1065216 (.ord 0 0 .nil (.ord 1 0 .nil (.ord 2 0 .nil (.ord 3 1064951 .nil (.ord 4 0 .nil (.ord 5 0 .nil (.ord 6 0 .nil (.ord 7 1064575 .nil (.ord 9 0 .nil (.ord 10 0 .nil (.ord 11 0 .nil (.ord 12 0 .nil (.ord 13 1056767 .nil (.alt (.ord 8 0 .nil (.alt (.ord 14 0 .nil (.ord 15 0 .nil (.ord 16 0 .nil (.ord 17 0 .nil (.ord 18 0 .nil (.ord 19 0 .nil (.ord 20 0 .nil (.ord 21 0 .nil (.ord 22 0 .nil (.ord 23 0 .nil (.ord 24 0 .nil .nil))))))))))) (.ord 20 0 .nil qen))) (.ord 20 0 .nil (.ord 8 0 .nil qen)))))))))))))))))) .nil) .nil))) .nil)) .nil))))
noncomputable def matchMatchDoMove_con:Ioc:=⟨Zt1,[Zt27],true,[],Zt60,fun x=>qaP x.1 x.2.1⟩
noncomputable def qeC:Env:=(58,.ck 64)::(198,.con premoveNext_i_con)::(46,.rd plainGameResult_con)::(197,.io matchMatchMove_con)::(53,.rd plainGameMoves_con)::(196,.body Tryz.f196)::(93,.con slicesContains_Move_con)::(195,.con endsMoves_con)::(45,.rd plainGamePosition_con)::(194,.body Tryz.f194)::[]
theorem qke (x:DL (Zt1::[Zt27])):matchMatchDoMove_con.φ x=denIO Tryz.prog qeC qeM Tryz.f150 Zt1 [Zt27] true [] Zt60 x:=by kernel_rfl
theorem qln:IocOK Tryz.prog 150 matchMatchDoMove_con :=
 qaG (env:=qeC) ((EnvOK.check (EnvOK.cons (EnvOK.readonly (EnvOK.inout (EnvOK.readonly (EnvOK.body (EnvOK.cons (EnvOK.cons (EnvOK.readonly (EnvOK.body (EnvOK.nil _) Tryz.func194) qa2) qnK) qbA) Tryz.func196) qdH) qnl) qaS) qow) qd)) mixed Tryz.func150 matchMatchDoMove_con qeM (by kernel_rfl) (fun h=>by first | rfl | cases h) qke
def qgi:Ann:=(.two .nil (.two (.two .nil (.two (.two .nil (.two .nil (.two (.two .nil (.join ⟨[0,3,6],[(12,.bool)],[]⟩ .nil)) .nil))) .nil)) .nil))
noncomputable def matchMatchKind_con:Ioc:=⟨Zt1,[Zt27],true,[],Zt60,fun x=>qcB x.1 x.2.1⟩
noncomputable def qgs:Env:=(150,.io matchMatchDoMove_con)::[]
theorem qlN (x:DL (Zt1::[Zt27])):matchMatchKind_con.φ x=denIO Tryz.prog qgs qgi Tryz.f90 Zt1 [Zt27] true [] Zt60 x:=by kernel_rfl
theorem qnj:IocOK Tryz.prog 90 matchMatchKind_con :=
 qaG (env:=qgs) ((EnvOK.inout (EnvOK.nil _) qln)) mixed Tryz.func90 matchMatchKind_con qgi (by kernel_rfl) (fun h=>by first | rfl | cases h) qlN
def qiU:Ann := .nil
noncomputable def journalLast_con:Con:=⟨[Zt53],true,[],(.int .u64),fun x=>qdI x.1,none⟩
noncomputable def qi7:Env:=[]
theorem qoU (x:DL journalLast_con.ps):journalLast_con.φ x=denF Tryz.prog qi7 qiU Tryz.f146 journalLast_con.ps journalLast_con.one journalLast_con.res journalLast_con.ρ x:=by kernel_rfl
theorem qgS:ConOK Tryz.prog 146 journalLast_con :=
 qb (env:=qi7) ((EnvOK.nil _)) mixed Tryz.func146 journalLast_con qiU (by kernel_rfl) (fun h=>by first | rfl | cases h) (fun g hg=>by cases hg) qoU
def qkf:Ann:=(.two .nil (.two .nil (.two (.two .nil (.join ⟨[1],[(5,(.int .u64))],[]⟩ (.two (.loop ⟨[1,10],[(5,(.int .u64)),(11,Zt60)],[]⟩ .nil) .nil))) .nil)))
noncomputable def journalSum_con:Con:=⟨[(.int .u64),.str],true,[],(.int .u64),fun x=>qdK x.1 x.2.1,none⟩
noncomputable def qkz:Env:=[]
theorem qqA (x:DL journalSum_con.ps):journalSum_con.φ x=denF Tryz.prog qkz qkf Tryz.f145 journalSum_con.ps journalSum_con.one journalSum_con.res journalSum_con.ρ x:=by kernel_rfl
theorem qlX:ConOK Tryz.prog 145 journalSum_con :=
 qb (env:=qkz) ((EnvOK.nil _)) mixed Tryz.func145 journalSum_con qkf (by kernel_rfl) (fun h=>by first | rfl | cases h) (fun g hg=>by cases hg) qqA
def qh1:Ann := .nil
noncomputable def journalWrong_con:Con:=⟨[(.int .u64),Zt54],true,[],Zt60,fun x=>qd0 x.1 x.2.1,none⟩
noncomputable def qie:Env:=(145,.con journalSum_con)::(143,.con qfK)::[]
theorem qos (x:DL journalWrong_con.ps):journalWrong_con.φ x=denF Tryz.prog qie qh1 Tryz.f190 journalWrong_con.ps journalWrong_con.one journalWrong_con.res journalWrong_con.ρ x:=by kernel_rfl
theorem qi6:ConOK Tryz.prog 190 journalWrong_con :=
 qb (env:=qie) ((EnvOK.cons (EnvOK.cons (EnvOK.nil _) qkJ) qlX)) mixed Tryz.func190 journalWrong_con qh1 (by kernel_rfl) (fun h=>by first | rfl | cases h) (fun g hg=>by cases hg) qos
def qiY:Ann:=(.two .nil (.two (.two .nil (.joinE ⟨[0],[],[]⟩ (.two (.loop ⟨[0,5,6],[(7,Zt60)],[]⟩ .nil) .nil))) .nil))
noncomputable def journalGood_con:Con:=⟨[Zt53],true,[],Zt60,fun x=>qhE x.1,none⟩
noncomputable def qi1:Env:=(190,.con journalWrong_con)::(146,.con journalLast_con)::(58,.ck 64)::[]
theorem qpw (x:DL journalGood_con.ps):journalGood_con.φ x=denF Tryz.prog qi1 qiY Tryz.f189 journalGood_con.ps journalGood_con.one journalGood_con.res journalGood_con.ρ x:=by kernel_rfl
theorem qqt:ConOK Tryz.prog 189 journalGood_con :=
 qb (env:=qi1) ((EnvOK.cons (EnvOK.cons (EnvOK.check (EnvOK.nil _) qd) qgS) qi6)) mixed Tryz.func189 journalGood_con qiY (by kernel_rfl) (fun h=>by first | rfl | cases h) (fun g hg=>by cases hg) qpw
def qia:Ann := .nil
noncomputable def journalCheck_con:Con:=⟨[Zt53],true,[],Zt60,fun x=>qgr x.1,none⟩
noncomputable def qid:Env:=(190,.con journalWrong_con)::(146,.con journalLast_con)::(189,.con journalGood_con)::[]
theorem qou (x:DL journalCheck_con.ps):journalCheck_con.φ x=denF Tryz.prog qid qia Tryz.f142 journalCheck_con.ps journalCheck_con.one journalCheck_con.res journalCheck_con.ρ x:=by kernel_rfl
theorem qo4:ConOK Tryz.prog 142 journalCheck_con :=
 qb (env:=qid) ((EnvOK.cons (EnvOK.cons (EnvOK.cons (EnvOK.nil _) qqt) qgS) qi6)) mixed Tryz.func142 journalCheck_con qia (by kernel_rfl) (fun h=>by first | rfl | cases h) (fun g hg=>by cases hg) qou
def qbF:Ann := .nil
noncomputable def slicesClone_JournalEntry_con:Con:=⟨[Zt53],true,[],Zt51,fun x=>qav x.1,none⟩
noncomputable def qbH:Env:=[]
theorem qeR (x:DL slicesClone_JournalEntry_con.ps):slicesClone_JournalEntry_con.φ x=denF Tryz.prog qbH qbF Tryz.f144 slicesClone_JournalEntry_con.ps slicesClone_JournalEntry_con.one slicesClone_JournalEntry_con.res slicesClone_JournalEntry_con.ρ x:=by kernel_rfl
theorem qfB:ConOK Tryz.prog 144 slicesClone_JournalEntry_con :=
 qb (env:=qbH) ((EnvOK.nil _)) mixed Tryz.func144 slicesClone_JournalEntry_con qbF (by kernel_rfl) (fun h=>by first | rfl | cases h) (fun g hg=>by cases hg) qeR
def qha:Ann := .nil
noncomputable def journalAppend_con:Con:=⟨[Zt53,.str],false,[Zt51,Zt60],(.st Zt51 Zt56),fun x=>qbm x.1 x.2.1,none⟩
noncomputable def qhi:Env:=(145,.con journalSum_con)::(146,.con journalLast_con)::(144,.con slicesClone_JournalEntry_con)::(143,.con qfK)::(142,.con journalCheck_con)::[]
theorem qni (x:DL journalAppend_con.ps):journalAppend_con.φ x=denF Tryz.prog qhi qha Tryz.f86 journalAppend_con.ps journalAppend_con.one journalAppend_con.res journalAppend_con.ρ x:=by kernel_rfl
theorem qil:ConOK Tryz.prog 86 journalAppend_con :=
 qb (env:=qhi) ((EnvOK.cons (EnvOK.cons (EnvOK.cons (EnvOK.cons (EnvOK.cons (EnvOK.nil _) qo4) qkJ) qfB) qgS) qlX)) mixed Tryz.func86 journalAppend_con qha (by kernel_rfl) (fun h=>by first | rfl | cases h) (fun g hg=>by cases hg) qni
def qf9:Ann:=(.two .nil (.two .nil (.join ⟨[],[],[(0,some (.box Zt2)),(1,none),(2,none),(3,none)]⟩ .nil)))
noncomputable def matchMatchOver_con:Ioc:=⟨Zt1,[],false,[],.nil,fun x=>qbu x.1⟩
noncomputable def qf1:Env:=(46,.rd plainGameResult_con)::[]
theorem qmi (x:DL (Zt1::[])):matchMatchOver_con.φ x=denIO Tryz.prog qf1 qf9 Tryz.f88 Zt1 [] false [] .nil x:=by kernel_rfl
theorem qg8:IocOK Tryz.prog 88 matchMatchOver_con :=
 qaG (env:=qf1) ((EnvOK.readonly (EnvOK.nil _) qaS)) mixed Tryz.func88 matchMatchOver_con qf9 (by kernel_rfl) (fun h=>by first | rfl | cases h) qmi
def qiv:Ann:=(.two .nil (.two .nil (.two (.any 163839 32768 (.ord 0 0 .nil (.ord 1 0 .nil (.ord 2 0 .nil (.ord 3 34807 .nil (.ord 4 0 .nil (.ord 5 0 .nil (.ord 6 0 .nil (.ord 7 0 .nil (.ord 8 34559 .nil (.ord 9 0 .nil (.ord 10 33791 .nil (.ord 11 34815 .nil (.ord 12 0 .nil (.ord 13 0 .nil (.ord 14 0 .nil (.ord 15 0 .nil (.ord 16 0 .nil (.ord 17 0 .nil .nil))))))))))))))))))) (.two .nil (.two .nil (.two .nil (.two (.any 8063 128 (.ord 0 0 .nil (.ord 1 0 .nil (.ord 2 0 .nil (.ord 3 0 .nil (.ord 4 111 .nil (.ord 5 0 .nil (.ord 6 0 .nil (.ord 7 0 .nil (.ord 8 0 .nil (.ord 9 0 .nil (.ord 10 0 .nil (.ord 11 0 .nil (.ord 12 0 .nil (.ord 13 0 .nil .nil))))))))))))))) .nil)))))))
noncomputable def matchMatchDo_con:Ioc:=⟨Zt1,[Zt27],true,[],Zt60,fun x=>qf5 x.1 x.2.1⟩
noncomputable def qh3:Env:=(88,.io matchMatchOver_con)::(86,.con journalAppend_con)::(91,.con matchEntry_con)::(90,.io matchMatchKind_con)::(58,.ck 64)::(89,.con clockLook_con)::[]
theorem qox (x:DL (Zt1::[Zt27])):matchMatchDo_con.φ x=denIO Tryz.prog qh3 qiv Tryz.f41 Zt1 [Zt27] true [] Zt60 x:=by kernel_rfl
theorem qpl:IocOK Tryz.prog 41 matchMatchDo_con :=
 qaG (env:=qh3) ((EnvOK.inout (EnvOK.cons (EnvOK.cons (EnvOK.inout (EnvOK.check (EnvOK.cons (EnvOK.nil _) qoa) qd) qnj) qsg) qil) qg8)) mixed Tryz.func41 matchMatchDo_con qiv (by kernel_rfl) (fun h=>by first | rfl | cases h) qox
def qkr:Ann := .nil
noncomputable def clockStart_con:Con:=⟨[Zt35,Zt60],false,[Zt18,Zt60],Zt16,fun x=>qhd x.1 x.2.1,none⟩
noncomputable def qks:Env:=(138,.con clockWithin_con)::(137,.con clockCheck_con)::(58,.ck 64)::[]
theorem qqK (x:DL clockStart_con.ps):clockStart_con.φ x=denF Tryz.prog qks qkr Tryz.f82 clockStart_con.ps clockStart_con.one clockStart_con.res clockStart_con.ρ x:=by kernel_rfl
theorem qso:ConOK Tryz.prog 82 clockStart_con :=
 qb (env:=qks) ((EnvOK.cons (EnvOK.cons (EnvOK.check (EnvOK.nil _) qd) qlU) qdU)) mixed Tryz.func82 clockStart_con qkr (by kernel_rfl) (fun h=>by first | rfl | cases h) (fun g hg=>by cases hg) qqK
def qbP:Ann := .nil
noncomputable def slicesClone_ClockPeriod_con:Con:=⟨[Zt50],true,[],(.osl 171 Zt52),fun x=>qaz x.1,none⟩
noncomputable def qb0:Env:=[]
theorem qfj (x:DL slicesClone_ClockPeriod_con.ps):slicesClone_ClockPeriod_con.φ x=denF Tryz.prog qb0 qbP Tryz.f141 slicesClone_ClockPeriod_con.ps slicesClone_ClockPeriod_con.one slicesClone_ClockPeriod_con.res slicesClone_ClockPeriod_con.ρ x:=by kernel_rfl
theorem qfR:ConOK Tryz.prog 141 slicesClone_ClockPeriod_con :=
 qb (env:=qb0) ((EnvOK.nil _)) mixed Tryz.func141 slicesClone_ClockPeriod_con qbP (by kernel_rfl) (fun h=>by first | rfl | cases h) (fun g hg=>by cases hg) qfj
def qmo:Ann := .nil
noncomputable def clockCopy_con:Con:=⟨[Zt35],true,[],Zt32,fun x=>qjx x.1,none⟩
noncomputable def qlQ:Env:=(141,.con slicesClone_ClockPeriod_con)::(58,.ck 64)::[]
theorem qsN (x:DL clockCopy_con.ps):clockCopy_con.φ x=denF Tryz.prog qlQ qmo Tryz.f84 clockCopy_con.ps clockCopy_con.one clockCopy_con.res clockCopy_con.ρ x:=by kernel_rfl
theorem qtk:ConOK Tryz.prog 84 clockCopy_con :=
 qb (env:=qlQ) ((EnvOK.cons (EnvOK.check (EnvOK.nil _) qd) qfR)) mixed Tryz.func84 clockCopy_con qmo (by kernel_rfl) (fun h=>by first | rfl | cases h) (fun g hg=>by cases hg) qsN
def qnQ:Ann := .nil
noncomputable def offerNew_con:Con:=⟨[],true,[],Zt24,fun x=>qnG,some fun x=>qe2⟩
noncomputable def qod:Env:=(58,.ck 64)::[]
theorem qtZ (x:DL offerNew_con.ps):offerNew_con.φ x=denF Tryz.prog qod qnQ Tryz.f85 offerNew_con.ps offerNew_con.one offerNew_con.res offerNew_con.ρ x:=by kernel_rfl
theorem qu8:ConOK Tryz.prog 85 offerNew_con :=
 qb (env:=qod) ((EnvOK.check (EnvOK.nil _) qd)) mixed Tryz.func85 offerNew_con qnQ (by kernel_rfl) (fun h=>by first | rfl | cases h) (fun g hg x=>by
  cases hg
  exact qvo ) qtZ
end Go.Proofs.YthidcmjpbokeeaaGreatDoor

