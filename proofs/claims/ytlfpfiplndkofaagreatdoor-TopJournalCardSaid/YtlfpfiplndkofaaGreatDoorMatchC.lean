/- Contracts: Match. No condition of its own. -/
import Derived.Test.YtlfpfiplndkofaaGreatDoorMAA
import Derived.Test.YtlfpfiplndkofaaGreatDoorMAH
import Derived.Test.YtlfpfiplndkofaaGreatDoorMAE
import Derived.Test.YtlfpfiplndkofaaGreatDoorMAI
namespace Go.Proofs.YtlfpfiplndkofaaGreatDoor
open Go.Den
set_option linter.unusedVariables false
set_option maxRecDepth 100000
def qkK:Ann:=(.two .nil (.two .nil (.two (.two .nil (.join ⟨[],[(3,Zt58)],[]⟩ (.two (.loop ⟨[23],[(3,Zt58),(24,Zt59)],[]⟩ .nil) .nil))) .nil)))
noncomputable def matchEntry_con:Con:=⟨[Zt26],true,[],.str,fun x=>qkb x.1,none⟩
noncomputable def qlk:Env:=(52,.con qjv)::(48,.con qjk)::[]
theorem qrx (x:DL matchEntry_con.ps):matchEntry_con.φ x=denF Tryz.prog qlk qkK Tryz.f36 matchEntry_con.ps matchEntry_con.one matchEntry_con.res matchEntry_con.ρ x:=by kernel_rfl
theorem qsO:ConOK Tryz.prog 36 matchEntry_con :=
  qa (env:=qlk) ((EnvOK.cons (EnvOK.cons (EnvOK.nil _) qpG) qtw)) mixed Tryz.func36 matchEntry_con qkK (by kernel_rfl) (fun h=>by first | rfl | cases h) (fun g hg=>by cases hg) qrx
def qiW:Ann := .nil
noncomputable def clockWithin_con:Con:=⟨[Zt59,Zt59,Zt59],true,[],.bool,fun x=>qh4 x.1 x.2.1 x.2.2.1,some fun x=>qh x.1 x.2.1 x.2.2.1⟩
noncomputable def qjP:Env:=[]
theorem qpR (x:DL clockWithin_con.ps):clockWithin_con.φ x=denF Tryz.prog qjP qiW Tryz.f71 clockWithin_con.ps clockWithin_con.one clockWithin_con.res clockWithin_con.ρ x:=by kernel_rfl
theorem qeo:ConOK Tryz.prog 71 clockWithin_con :=
  qa (env:=qjP) ((EnvOK.nil _)) mixed Tryz.func71 clockWithin_con qiW (by kernel_rfl) (fun h=>by first | rfl | cases h) (fun g hg x=>by
    cases hg
    exact qrJ _ _ _) qpR
def qly:Ann:=(.two .nil (.two .nil (.two .nil (.two (.two .nil (.joinE ⟨[],[],[]⟩ (.two (.loop ⟨[1,21,22],[(23,Zt59)],[]⟩ .nil) .nil))) .nil))))
noncomputable def clockCheck_con:Con:=⟨[Zt35],true,[],Zt59,fun x=>qhI x.1,none⟩
noncomputable def qlt:Env:=(57,.ck 86)::(71,.con clockWithin_con)::[]
theorem qrs (x:DL clockCheck_con.ps):clockCheck_con.φ x=denF Tryz.prog qlt qly Tryz.f82 clockCheck_con.ps clockCheck_con.one clockCheck_con.res clockCheck_con.ρ x:=by kernel_rfl
theorem qnR:ConOK Tryz.prog 82 clockCheck_con :=
  qa (env:=qlt) ((EnvOK.check (EnvOK.cons (EnvOK.nil _) qeo) qc)) mixed Tryz.func82 clockCheck_con qly (by kernel_rfl) (fun h=>by first | rfl | cases h) (fun g hg=>by cases hg) qrs
def qli:Ann:=(.two .nil (.two .nil (.two .nil (.two (.two .nil (.join ⟨[],[(6,.bool)],[]⟩ (.two (.loop ⟨[2,3],[(6,.bool),(26,Zt59)],[]⟩ .nil) .nil))) .nil))))
noncomputable def clockValid_con:Con:=⟨[Zt35,Zt16],true,[],Zt59,fun x=>qkr x.1 x.2.1,none⟩
noncomputable def qk5:Env:=(71,.con clockWithin_con)::(82,.con clockCheck_con)::[]
theorem qrH (x:DL clockValid_con.ps):clockValid_con.φ x=denF Tryz.prog qk5 qli Tryz.f70 clockValid_con.ps clockValid_con.one clockValid_con.res clockValid_con.ρ x:=by kernel_rfl
theorem qtr:ConOK Tryz.prog 70 clockValid_con :=
  qa (env:=qk5) ((EnvOK.cons (EnvOK.cons (EnvOK.nil _) qnR) qeo)) mixed Tryz.func70 clockValid_con qli (by kernel_rfl) (fun h=>by first | rfl | cases h) (fun g hg=>by cases hg) qrH
def qmu:Ann := .nil
noncomputable def clockUsed_con:Con:=⟨[Zt35,Zt16,Zt59],true,[],Zt59,fun x=>qlJ x.1 x.2.1 x.2.2.1,some fun x=>qz x.1 x.2.1 x.2.2.1⟩
noncomputable def qm5:Env:=[]
theorem qtR (x:DL clockUsed_con.ps):clockUsed_con.φ x=denF Tryz.prog qm5 qmu Tryz.f72 clockUsed_con.ps clockUsed_con.one clockUsed_con.res clockUsed_con.ρ x:=by kernel_rfl
theorem qoG:ConOK Tryz.prog 72 clockUsed_con :=
  qa (env:=qm5) ((EnvOK.nil _)) mixed Tryz.func72 clockUsed_con qmu (by kernel_rfl) (fun h=>by first | rfl | cases h) (fun g hg x=>by
    cases hg
    exact qvN _ _ _) qtR
def qmg:Ann:=(.two .nil (.two .nil (.two .nil (.two (.two .nil (.join ⟨[4,6],[],[(1,some (.box Zt20))]⟩ .nil)) .nil))))
noncomputable def clockLook_con:Con:=⟨[Zt35,Zt16,Zt59],false,[Zt16,Zt59],Zt14,fun x=>qbd x.1 x.2.1 x.2.2.1,none⟩
noncomputable def qmr:Env:=(72,.con clockUsed_con)::(71,.con clockWithin_con)::(70,.con clockValid_con)::(57,.ck 86)::[]
theorem qtQ (x:DL clockLook_con.ps):clockLook_con.φ x=denF Tryz.prog qmr qmg Tryz.f33 clockLook_con.ps clockLook_con.one clockLook_con.res clockLook_con.ρ x:=by kernel_rfl
theorem qjG:ConOK Tryz.prog 33 clockLook_con :=
  qa (env:=qmr) ((EnvOK.cons (EnvOK.cons (EnvOK.cons (EnvOK.check (EnvOK.nil _) qc) qtr) qeo) qoG)) mixed Tryz.func33 clockLook_con qmg (by kernel_rfl) (fun h=>by first | rfl | cases h) (fun g hg=>by cases hg) qtQ
def qe2:Ann := .nil
noncomputable def slicesClone_Move_con:Con:=⟨[Zt46],true,[],Zt44,fun x=>qcR x.1,none⟩
noncomputable def qe5:Env:=[]
theorem qkF (x:DL slicesClone_Move_con.ps):slicesClone_Move_con.φ x=denF Tryz.prog qe5 qe2 Tryz.f79 slicesClone_Move_con.ps slicesClone_Move_con.one slicesClone_Move_con.res slicesClone_Move_con.ρ x:=by kernel_rfl
theorem qlK:ConOK Tryz.prog 79 slicesClone_Move_con :=
  qa (env:=qe5) ((EnvOK.nil _)) mixed Tryz.func79 slicesClone_Move_con qe2 (by kernel_rfl) (fun h=>by first | rfl | cases h) (fun g hg=>by cases hg) qkF
def qgY:Ann := .nil
noncomputable def plainGameMoves_con:Con:=⟨[Zt6],true,[],Zt44,fun x=>qv x.1,none⟩
noncomputable def qgU:Env:=(79,.con slicesClone_Move_con)::[]
theorem qmm (x:DL plainGameMoves_con.ps):plainGameMoves_con.φ x=denB Tryz.prog qgU qgY Tryz.f39 true plainGameMoves_con.ps plainGameMoves_con.one plainGameMoves_con.res plainGameMoves_con.ρ x:=by kernel_rfl
theorem qbg:qsp Tryz.prog 39 plainGameMoves_con :=
  qmh (env:=qgU) ((EnvOK.cons (EnvOK.nil _) qlK)) mixed Tryz.func39 plainGameMoves_con qgY (by kernel_rfl) (fun h=>by first | rfl | cases h) (fun g hg=>by cases hg) qmm
def qld:Ann := .nil
noncomputable def clockReady_con:Con:=⟨[Zt35,Zt16,Zt59,.bool],false,[Zt16,Zt59],Zt14,fun x=>qko x.1 x.2.1 x.2.2.1 x.2.2.2.1,none⟩
noncomputable def qla:Env:=(33,.con clockLook_con)::(57,.ck 86)::[]
theorem qre (x:DL clockReady_con.ps):clockReady_con.φ x=denF Tryz.prog qla qld Tryz.f221 clockReady_con.ps clockReady_con.one clockReady_con.res clockReady_con.ρ x:=by kernel_rfl
theorem qsZ:ConOK Tryz.prog 221 clockReady_con :=
  qa (env:=qla) ((EnvOK.cons (EnvOK.check (EnvOK.nil _) qc) qjG)) mixed Tryz.func221 clockReady_con qld (by kernel_rfl) (fun h=>by first | rfl | cases h) (fun g hg=>by cases hg) qre
def qlq:Ann:=(.two .nil (.two .nil (.two .nil (.two .nil (.two (.tail 16 .nil) (.two .nil (.two (.two .nil (.two .nil (.join ⟨[2,4,6,9],[],[(1,some (.box Zt20))]⟩ (.two (.two .nil (.two .nil (.tail 18 .nil))) .nil)))) .nil)))))))
noncomputable def clockPress_con:Con:=⟨[Zt35,Zt16,Zt59],false,[Zt16,Zt59],Zt14,fun x=>qkl x.1 x.2.1 x.2.2.1,none⟩
noncomputable def qk1:Env:=(72,.con clockUsed_con)::(221,.con clockReady_con)::(57,.ck 86)::[]
theorem qrF (x:DL clockPress_con.ps):clockPress_con.φ x=denF Tryz.prog qk1 qlq Tryz.f181 clockPress_con.ps clockPress_con.one clockPress_con.res clockPress_con.ρ x:=by kernel_rfl
theorem qtU:ConOK Tryz.prog 181 clockPress_con :=
  qa (env:=qk1) ((EnvOK.cons (EnvOK.cons (EnvOK.check (EnvOK.nil _) qc) qsZ) qoG)) mixed Tryz.func181 clockPress_con qlq (by kernel_rfl) (fun h=>by first | rfl | cases h) (fun g hg=>by cases hg) qrF
def qkJ:Ann:=(.two .nil (.two (.two .nil (.joinE ⟨[],[],[]⟩ (.two (.loop ⟨[1,8],[(9,Zt59)],[]⟩ (.two .nil (.two .nil (.two (.joinE ⟨[1,8,9],[],[]⟩ (.two (.two .nil (.two (.two (.join ⟨[1,3,4,8,9],[(16,Zt50),(17,Zt59)],[]⟩ .nil) (.joinE ⟨[1,3,4,8,9],[],[]⟩ (.two (.loop ⟨[1,3,4,8,9,16],[(17,Zt59)],[]⟩ .nil) .nil))) (.two .nil (.two (.join ⟨[1,8,9],[(43,.bool)],[]⟩ .nil) .nil)))) .nil)) .nil)))) .nil))) .nil))
noncomputable def offerCheck_con:Con:=⟨[Zt23],true,[],Zt59,fun x=>qka x.1,none⟩
noncomputable def qk0:Env:=[]
theorem qra (x:DL offerCheck_con.ps):offerCheck_con.φ x=denF Tryz.prog qk0 qkJ Tryz.f227 offerCheck_con.ps offerCheck_con.one offerCheck_con.res offerCheck_con.ρ x:=by kernel_rfl
theorem qts:ConOK Tryz.prog 227 offerCheck_con :=
  qa (env:=qk0) ((EnvOK.nil _)) mixed Tryz.func227 offerCheck_con qkJ (by kernel_rfl) (fun h=>by first | rfl | cases h) (fun g hg=>by cases hg) qra
def qiv:Ann := .nil
noncomputable def offerCheck_i_con:Con:=⟨[Zt23,Zt59,Zt59,Zt59],true,[],Zt59,fun x=>qcc x.1 x.2.1 x.2.2.1 x.2.2.2.1,none⟩
noncomputable def qiE:Env:=(227,.con offerCheck_con)::[]
theorem qpq (x:DL offerCheck_i_con.ps):offerCheck_i_con.φ x=denF Tryz.prog qiE qiv Tryz.f185 offerCheck_i_con.ps offerCheck_i_con.one offerCheck_i_con.res offerCheck_i_con.ρ x:=by kernel_rfl
theorem qde:ConOK Tryz.prog 185 offerCheck_i_con :=
  qa (env:=qiE) ((EnvOK.cons (EnvOK.nil _) qts)) mixed Tryz.func185 offerCheck_i_con qiv (by kernel_rfl) (fun h=>by first | rfl | cases h) (fun g hg=>by cases hg) qpq
def qmK:Ann:=(.two .nil (.two .nil (.two (.two .nil (.join ⟨[2,4],[],[(0,some (.box Zt32))]⟩ .nil)) .nil)))
noncomputable def offerMove_con:Con:=⟨[Zt23,Zt59],false,[Zt23,Zt59],Zt18,fun x=>qhr x.1 x.2.1,none⟩
noncomputable def qmN:Env:=(185,.con offerCheck_i_con)::(57,.ck 86)::[]
theorem qt3 (x:DL offerMove_con.ps):offerMove_con.φ x=denF Tryz.prog qmN qmK Tryz.f182 offerMove_con.ps offerMove_con.one offerMove_con.res offerMove_con.ρ x:=by kernel_rfl
theorem qvG:ConOK Tryz.prog 182 offerMove_con :=
  qa (env:=qmN) ((EnvOK.cons (EnvOK.check (EnvOK.nil _) qc) qde)) mixed Tryz.func182 offerMove_con qmK (by kernel_rfl) (fun h=>by first | rfl | cases h) (fun g hg=>by cases hg) qt3
def qgo:Ann:=(.two .nil (.two .nil (.two (.tail 5 .nil) (.two (.any 262143 0 (.ord 0 0 .nil (.ord 1 0 .nil (.ord 2 0 .nil (.ord 3 0 .nil (.ord 4 2031 .nil (.ord 5 0 .nil (.ord 6 0 .nil (.ord 7 0 .nil (.ord 8 0 .nil (.ord 9 1535 .nil (.ord 10 0 .nil (.ord 11 0 .nil (.ord 12 0 .nil (.ord 13 0 .nil (.ord 14 0 .nil (.ord 15 0 .nil (.ord 16 0 .nil (.ord 17 0 .nil (.ord 18 0 .nil .nil)))))))))))))))))))) .nil))))
noncomputable def matchMatchMove_con:Ioc:=⟨Zt1,[Zt47,Zt59],false,[],.nil,fun x=>qay x.1 x.2.1 x.2.2.1⟩
noncomputable def qgt:Env:=(182,.con offerMove_con)::(181,.con clockPress_con)::(180,.io plainGamePlay_con)::(42,.rd plainGamePosition_con)::(122,.body Tryz.f122)::[]
theorem qnH (x:DL (Zt1::[Zt47,Zt59])):matchMatchMove_con.φ x=denIO Tryz.prog qgt qgo Tryz.f126 Zt1 [Zt47,Zt59] false [] .nil x:=by kernel_rfl
theorem qoj:IocOK Tryz.prog 126 matchMatchMove_con :=
  qaC (env:=qgt) ((EnvOK.cons (EnvOK.cons (EnvOK.inout (EnvOK.readonly (EnvOK.body (EnvOK.nil _) Tryz.func122) qP) qin) qtU) qvG)) mixed Tryz.func126 matchMatchMove_con qgo (by kernel_rfl) (fun h=>by first | rfl | cases h) qnH
def qmV:Ann:=(.two .nil (.two .nil (.two (.two .nil (.join ⟨[],[(5,Zt44)],[]⟩ (.two (.loop ⟨[1,8,9],[(5,Zt44),(10,Zt59)],[]⟩ (.two .nil (.two .nil (.two (.two (.two .nil (.two .nil (.join ⟨[1,8,9,10],[(5,Zt44)],[(0,none)]⟩ .nil))) .nil) .nil)))) .nil))) .nil)))
noncomputable def premoveOf_con:Con:=⟨[Zt36,Zt59],true,[],Zt44,fun x=>qho x.1 x.2.1,none⟩
noncomputable def qnN:Env:=(57,.ck 86)::[]
theorem qtK (x:DL premoveOf_con.ps):premoveOf_con.φ x=denF Tryz.prog qnN qmV Tryz.f190 premoveOf_con.ps premoveOf_con.one premoveOf_con.res premoveOf_con.ρ x:=by kernel_rfl
theorem qpf:ConOK Tryz.prog 190 premoveOf_con :=
  qa (env:=qnN) ((EnvOK.check (EnvOK.nil _) qc)) mixed Tryz.func190 premoveOf_con qmV (by kernel_rfl) (fun h=>by first | rfl | cases h) (fun g hg=>by cases hg) qtK
def qix:Ann:=(.two .nil (.two (.two (.join ⟨[0],[(12,.bool)],[]⟩ .nil) .nil) (.two (.two (.two (.two .nil (.two (.two (.two .nil (.two (.two .nil (.joinE ⟨[],[],[]⟩ (.two (.loop ⟨[0,1,7],[(8,Zt59)],[]⟩ .nil) .nil))) .nil)) .nil) .nil)) .nil) .nil) .nil)))
noncomputable def premoveCheck_con:Con:=⟨[Zt36],true,[],Zt59,fun x=>qev x.1,none⟩
noncomputable def qiH:Env:=(232,.body Tryz.f232)::(223,.body Tryz.f223)::(231,.body Tryz.f231)::(190,.con premoveOf_con)::[]
theorem qpt (x:DL premoveCheck_con.ps):premoveCheck_con.φ x=denF Tryz.prog qiH qix Tryz.f189 premoveCheck_con.ps premoveCheck_con.one premoveCheck_con.res premoveCheck_con.ρ x:=by kernel_rfl
theorem qjb:ConOK Tryz.prog 189 premoveCheck_con :=
  qa (env:=qiH) ((EnvOK.body (EnvOK.body (EnvOK.body (EnvOK.cons (EnvOK.nil _) qpf) Tryz.func231) Tryz.func223) Tryz.func232)) mixed Tryz.func189 premoveCheck_con qix (by kernel_rfl) (fun h=>by first | rfl | cases h) (fun g hg=>by cases hg) qpt
def qgX:Ann := .nil
noncomputable def premoveCheck_i_con:Con:=⟨[Zt13,Zt30,Zt36],true,[],Zt59,fun x=>qef x.1 x.2.1 x.2.2.1,none⟩
noncomputable def qgc:Env:=(189,.con premoveCheck_con)::(222,.con placeCheck_con)::[]
theorem qnK (x:DL premoveCheck_i_con.ps):premoveCheck_i_con.φ x=denF Tryz.prog qgc qgX Tryz.f183 premoveCheck_i_con.ps premoveCheck_i_con.one premoveCheck_i_con.res premoveCheck_i_con.ρ x:=by kernel_rfl
theorem qn8:ConOK Tryz.prog 183 premoveCheck_i_con :=
  qa (env:=qgc) ((EnvOK.cons (EnvOK.cons (EnvOK.nil _) qmP) qjb)) mixed Tryz.func183 premoveCheck_i_con qgX (by kernel_rfl) (fun h=>by first | rfl | cases h) (fun g hg=>by cases hg) qnK
def qcl:Ann := .nil
noncomputable def slicesClone_PremoveMove_con:Con:=⟨[Zt36],true,[],Zt33,fun x=>qx x.1,none⟩
noncomputable def qcn:Env:=[]
theorem qfU (x:DL slicesClone_PremoveMove_con.ps):slicesClone_PremoveMove_con.φ x=denF Tryz.prog qcn qcl Tryz.f40 slicesClone_PremoveMove_con.ps slicesClone_PremoveMove_con.one slicesClone_PremoveMove_con.res slicesClone_PremoveMove_con.ρ x:=by kernel_rfl
theorem qaf:ConOK Tryz.prog 40 slicesClone_PremoveMove_con :=
  qa (env:=qcn) ((EnvOK.nil _)) mixed Tryz.func40 slicesClone_PremoveMove_con qcl (by kernel_rfl) (fun h=>by first | rfl | cases h) (fun g hg=>by cases hg) qfU
def qgi:Ann:=(.two .nil (.two (.two (.two .nil (.two (.two (.two .nil (.two (.two .nil (.joinE ⟨[],[],[]⟩ (.two (.loop ⟨[0,1,7],[(8,Zt59)],[]⟩ .nil) .nil))) .nil)) .nil) (.sel 2 1000004 (.two .nil (.two (.two .nil (.join ⟨[0],[(5,Zt59)],[(1,some (.arr 117 Zt37))]⟩ (.two (.loop ⟨[0,1],[(5,Zt59),(6,Zt59)],[(1,some (.arr 117 Zt37))]⟩ (.two .nil (.two (.two (.two .nil (.two .nil (.join ⟨[0,1,6],[(5,Zt59)],[(1,some (.arr 117 Zt37))]⟩ .nil))) .nil) .nil))) .nil))) (.two (.own .nil) (.two (.own .nil) .nil)))) .nil))) .nil) .nil))
noncomputable def premoveWithout_con:Con:=⟨[Zt36,Zt59],true,[],Zt33,fun x=>qcJ x.1 x.2.1,none⟩
noncomputable def qgx:Env:=(57,.ck 86)::(247,.body Tryz.f247)::(223,.body Tryz.f223)::(246,.body Tryz.f246)::(40,.con slicesClone_PremoveMove_con)::[]
theorem qmS (x:DL premoveWithout_con.ps):premoveWithout_con.φ x=denF Tryz.prog qgx qgi Tryz.f225 premoveWithout_con.ps premoveWithout_con.one premoveWithout_con.res premoveWithout_con.ρ x:=by kernel_rfl
theorem qn7:ConOK Tryz.prog 225 premoveWithout_con :=
  qa (env:=qgx) ((EnvOK.check (EnvOK.body (EnvOK.body (EnvOK.body (EnvOK.cons (EnvOK.nil _) qaf) Tryz.func246) Tryz.func223) Tryz.func247) qc)) mixed Tryz.func225 premoveWithout_con qgi (by kernel_rfl) (fun h=>by first | rfl | cases h) (fun g hg=>by cases hg) qmS
def qbX:Ann:=(.two .nil (.two .nil (.two (.two .nil (.join ⟨[0],[(3,Zt59)],[]⟩ (.two (.loop ⟨[0,9,10],[(3,Zt59),(11,Zt59)],[]⟩ .nil) .nil))) (.two (.two (.two .nil (.two .nil (.two (.two .nil (.two .nil (.join ⟨[],[(0,Zt33)],[]⟩ (.two (.own (.own .nil)) .nil)))) .nil))) .nil) (.two (.two .nil (.join ⟨[],[(6,Zt33)],[(0,none)]⟩ (.two (.loop ⟨[25,26],[(6,Zt33),(27,Zt59)],[(0,none)]⟩ .nil) .nil))) .nil)))))
noncomputable def slicesConcat_PremoveMove_con:Con:=⟨[(.sl Zt36)],true,[],Zt33,fun x=>qar x.1,none⟩
noncomputable def qb4:Env:=(248,.body Tryz.f248)::[]
theorem qfh (x:DL slicesConcat_PremoveMove_con.ps):slicesConcat_PremoveMove_con.φ x=denF Tryz.prog qb4 qbX Tryz.f226 slicesConcat_PremoveMove_con.ps slicesConcat_PremoveMove_con.one slicesConcat_PremoveMove_con.res slicesConcat_PremoveMove_con.ρ x:=by kernel_rfl
theorem qfG:ConOK Tryz.prog 226 slicesConcat_PremoveMove_con :=
  qa (env:=qb4) ((EnvOK.body (EnvOK.nil _) Tryz.func248)) mixed Tryz.func226 slicesConcat_PremoveMove_con qbX (by kernel_rfl) (fun h=>by first | rfl | cases h) (fun g hg=>by cases hg) qfh
def qjY:Ann:=(.two .nil (.two (.two (.two .nil (.two (.two .nil (.joinE ⟨[],[],[]⟩ (.two (.loop ⟨[0,1,7],[(8,Zt59)],[]⟩ .nil) .nil))) .nil)) .nil) (.sel 3 1000004 (.two (.two (.join ⟨[2,4,6,9],[(26,.bool)],[]⟩ (.any 16351 32 (.ord 0 0 .nil (.ord 1 0 .nil (.ord 2 0 .nil (.ord 3 2007 .nil (.ord 4 1999 .nil (.ord 6 0 .nil (.ord 7 0 .nil (.ord 8 0 .nil (.ord 9 0 .nil (.ord 10 1023 .nil (.ord 5 0 .nil (.ord 11 0 .nil (.ord 12 0 .nil (.ord 13 0 .nil .nil)))))))))))))))) .nil) (.two (.any 102399 12288 (.ord 0 0 .nil (.ord 1 0 .nil (.ord 2 0 .nil (.ord 3 0 .nil (.ord 4 16367 .nil (.ord 5 0 .nil (.ord 6 0 .nil (.ord 7 0 .nil (.ord 8 0 .nil (.ord 9 0 .nil (.ord 10 0 .nil (.ord 11 0 .nil (.ord 12 0 .nil (.ord 13 0 .nil (.ord 14 0 .nil (.ord 15 0 .nil (.ord 16 0 .nil .nil)))))))))))))))))) .nil)) (.two (.two (.any 16351 32 (.ord 0 0 .nil (.ord 1 0 .nil (.ord 2 0 .nil (.ord 3 2007 .nil (.ord 4 1999 .nil (.ord 6 0 .nil (.ord 7 0 .nil (.ord 8 0 .nil (.ord 9 0 .nil (.ord 10 1023 .nil (.ord 5 0 .nil (.ord 11 0 .nil (.ord 12 0 .nil (.ord 13 0 .nil .nil))))))))))))))) .nil) .nil))))
noncomputable def premoveNext_con:Con:=⟨[Zt13,Zt30,Zt36],false,[Zt47,.bool,Zt33],(.st Zt47 (.st .bool (.st Zt33 .nil))),fun x=>qh8 x.1 x.2.1 x.2.2.1,none⟩
noncomputable def qjo:Env:=(226,.con slicesConcat_PremoveMove_con)::(225,.con premoveWithout_con)::(123,.con slicesContains_Move_con)::(124,.con endsMoves_con)::(224,.body Tryz.f224)::(223,.body Tryz.f223)::(57,.ck 86)::[]
theorem qqK (x:DL premoveNext_con.ps):premoveNext_con.φ x=denF Tryz.prog qjo qjY Tryz.f184 premoveNext_con.ps premoveNext_con.one premoveNext_con.res premoveNext_con.ρ x:=by kernel_rfl
theorem qry:ConOK Tryz.prog 184 premoveNext_con :=
  qa (env:=qjo) ((EnvOK.cons (EnvOK.cons (EnvOK.cons (EnvOK.cons (EnvOK.body (EnvOK.body (EnvOK.check (EnvOK.nil _) qc) Tryz.func223) Tryz.func224) qoY) qbJ) qn7) qfG)) mixed Tryz.func184 premoveNext_con qjY (by kernel_rfl) (fun h=>by first | rfl | cases h) (fun g hg=>by cases hg) qqK
def qhq:Ann := .nil
noncomputable def premoveNext_i_con:Con:=⟨[Zt13,Zt30,Zt36],false,[Zt47,.bool,Zt33,Zt59],(.st Zt47 (.st .bool Zt29)),fun x=>qbC x.1 x.2.1 x.2.2.1,none⟩
noncomputable def qhG:Env:=(184,.con premoveNext_con)::(183,.con premoveCheck_i_con)::(57,.ck 86)::[]
theorem qn1 (x:DL premoveNext_i_con.ps):premoveNext_i_con.φ x=denF Tryz.prog qhG qhq Tryz.f127 premoveNext_i_con.ps premoveNext_i_con.one premoveNext_i_con.res premoveNext_i_con.ρ x:=by kernel_rfl
theorem qpg:ConOK Tryz.prog 127 premoveNext_i_con :=
  qa (env:=qhG) ((EnvOK.cons (EnvOK.cons (EnvOK.check (EnvOK.nil _) qc) qn8) qry)) mixed Tryz.func127 premoveNext_i_con qhq (by kernel_rfl) (fun h=>by first | rfl | cases h) (fun g hg=>by cases hg) qn1
def qew:Ann:=(.ord 14 0 .nil (.ord 15 0 .nil (.ord 16 0 .nil (.ord 17 0 .nil (.ord 18 0 .nil (.ord 19 0 .nil (.ord 21 0 .nil (.ord 22 0 .nil (.ord 23 0 .nil (.ord 24 0 .nil .nil))))))))))
def qe8:Ann:=(.two .nil (.two (.two (.two (.join ⟨[0,3],[(9,.bool)],[]⟩ (.any 61 0 (.ord 0 0 .nil (.ord 2 0 .nil (.alt (.ord 1 0 .nil (.ord 3 0 .nil (.ord 4 0 .nil (.ord 5 0 .nil .nil)))) (.ord 3 0 .nil (.ord 1 0 .nil (.ord 4 0 .nil (.ord 5 0 .nil .nil))))))))) (.two .nil (.two (.any 31999 768 (.ord 0 0 .nil (.ord 1 0 .nil (.ord 2 0 .nil (.ord 3 3575 .nil (.ord 4 0 .nil (.ord 5 0 .nil (.ord 6 0 .nil (.ord 7 3199 .nil (.ord 10 0 .nil (.ord 11 2047 .nil (.ord 8 0 .nil (.ord 9 0 .nil (.ord 12 0 .nil (.ord 13 0 .nil (.ord 14 0 .nil .nil)))))))))))))))) .nil))) .nil) (.two .nil (.two (.join ⟨[],[],[(0,some (.box Zt2)),(10,none),(11,none),(12,none)]⟩ (.two (.loop ⟨[0,3],[],[(0,some (.box Zt2)),(10,none),(11,none),(12,none)]⟩ (.two (.two (.join ⟨[0,3],[(50,.bool)],[]⟩ .nil) .nil) (.two (.two (.join ⟨[0,3],[(5,(.obx Zt47)),(6,.bool),(7,Zt33)],[]⟩ (.any 30392063 1065216 (.ord 0 0 .nil (.ord 1 0 .nil (.ord 2 0 .nil (.ord 3 1064951 .nil (.ord 4 0 .nil (.ord 5 0 .nil (.ord 6 0 .nil (.ord 7 1064575 .nil (.ord 9 0 .nil (.ord 10 0 .nil (.ord 11 0 .nil (.ord 12 0 .nil (.ord 13 1056767 .nil (.alt (.ord 8 0 .nil (.alt (.ord 14 0 .nil (.ord 15 0 .nil (.ord 16 0 .nil (.ord 17 0 .nil (.ord 18 0 .nil (.ord 19 0 .nil (.ord 20 0 .nil (.ord 21 0 .nil (.ord 22 0 .nil (.ord 23 0 .nil (.ord 24 0 .nil .nil))))))))))) (.ord 20 0 .nil qew))) (.ord 20 0 .nil (.ord 8 0 .nil qew)))))))))))))))))) .nil) .nil))) .nil)) .nil))))
noncomputable def matchMatchDoMove_con:Ioc:=⟨Zt1,[Zt26],true,[],Zt59,fun x=>qaP x.1 x.2.1⟩
noncomputable def qe9:Env:=(57,.ck 86)::(127,.con premoveNext_i_con)::(78,.rd plainGameResult_con)::(126,.io matchMatchMove_con)::(39,.rd plainGameMoves_con)::(125,.body Tryz.f125)::(123,.con slicesContains_Move_con)::(124,.con endsMoves_con)::(42,.rd plainGamePosition_con)::(122,.body Tryz.f122)::[]
theorem qkE (x:DL (Zt1::[Zt26])):matchMatchDoMove_con.φ x=denIO Tryz.prog qe9 qe8 Tryz.f73 Zt1 [Zt26] true [] Zt59 x:=by kernel_rfl
theorem ql2:IocOK Tryz.prog 73 matchMatchDoMove_con :=
  qaC (env:=qe9) ((EnvOK.check (EnvOK.cons (EnvOK.readonly (EnvOK.inout (EnvOK.readonly (EnvOK.body (EnvOK.cons (EnvOK.cons (EnvOK.readonly (EnvOK.body (EnvOK.nil _) Tryz.func122) qP) qoY) qbJ) Tryz.func125) qbg) qoj) qbY) qpg) qc)) mixed Tryz.func73 matchMatchDoMove_con qe8 (by kernel_rfl) (fun h=>by first | rfl | cases h) qkE
def qnS:Ann := .nil
noncomputable def offerTurn_con:Con:=⟨[Zt59],true,[],Zt59,fun x=>qlD x.1,some fun x=>qji x.1⟩
noncomputable def qmC:Env:=[]
theorem qsP (x:DL offerTurn_con.ps):offerTurn_con.φ x=denF Tryz.prog qmC qnS Tryz.f187 offerTurn_con.ps offerTurn_con.one offerTurn_con.res offerTurn_con.ρ x:=by kernel_rfl
theorem quJ:ConOK Tryz.prog 187 offerTurn_con :=
  qa (env:=qmC) ((EnvOK.nil _)) mixed Tryz.func187 offerTurn_con qnS (by kernel_rfl) (fun h=>by first | rfl | cases h) (fun g hg x=>by
    cases hg
    exact qvt _) qsP
def qlz:Ann:=(.two .nil (.two .nil (.two (.two .nil (.join ⟨[0,1],[(5,Zt59)],[]⟩ .nil)) .nil)))
noncomputable def offerPlies_con:Con:=⟨[Zt59,Zt59],true,[],Zt59,fun x=>qd8 x.1 x.2.1,none⟩
noncomputable def qlj:Env:=(187,.con offerTurn_con)::[]
theorem qri (x:DL offerPlies_con.ps):offerPlies_con.φ x=denF Tryz.prog qlj qlz Tryz.f131 offerPlies_con.ps offerPlies_con.one offerPlies_con.res offerPlies_con.ρ x:=by kernel_rfl
theorem qm9:ConOK Tryz.prog 131 offerPlies_con :=
  qa (env:=qlj) ((EnvOK.cons (EnvOK.nil _) quJ)) mixed Tryz.func131 offerPlies_con qlz (by kernel_rfl) (fun h=>by first | rfl | cases h) (fun g hg=>by cases hg) qri
def qmp:Ann:=(.two .nil (.two .nil (.two (.two (.two .nil (.two .nil (.two .nil (.two .nil (.two (.join ⟨[1,2,3,4,8],[(28,.bool)],[]⟩ .nil) .nil))))) .nil) (.two (.join ⟨[4,8],[],[(0,some (.box Zt32))]⟩ (.any 1919 0 (.ord 0 0 .nil (.ord 1 0 .nil (.ord 2 0 .nil (.ord 3 0 .nil (.ord 4 0 .nil (.ord 5 0 .nil (.ord 6 0 .nil (.ord 8 0 .nil (.ord 9 0 .nil (.ord 7 0 .nil (.ord 10 0 .nil (.ord 11 0 .nil .nil)))))))))))))) .nil))))
noncomputable def offerMake_con:Con:=⟨[Zt23,Zt59,Zt59,Zt59],false,[Zt23,Zt59],Zt18,fun x=>qdy x.1 x.2.1 x.2.2.1 x.2.2.2.1,none⟩
noncomputable def qnd:Env:=(131,.con offerPlies_con)::(185,.con offerCheck_i_con)::(57,.ck 86)::[]
theorem qt5 (x:DL offerMake_con.ps):offerMake_con.φ x=denF Tryz.prog qnd qmp Tryz.f128 offerMake_con.ps offerMake_con.one offerMake_con.res offerMake_con.ρ x:=by kernel_rfl
theorem quk:ConOK Tryz.prog 128 offerMake_con :=
  qa (env:=qnd) ((EnvOK.cons (EnvOK.cons (EnvOK.check (EnvOK.nil _) qc) qde) qm9)) mixed Tryz.func128 offerMake_con qmp (by kernel_rfl) (fun h=>by first | rfl | cases h) (fun g hg=>by cases hg) qt5
def qnE:Ann := .nil
noncomputable def offerOpen_con:Con:=⟨[Zt23,Zt59,Zt59,Zt59],true,[],Zt59,fun x=>qjK x.1 x.2.1 x.2.2.1 x.2.2.2.1,none⟩
noncomputable def qmY:Env:=(185,.con offerCheck_i_con)::[]
theorem qta (x:DL offerOpen_con.ps):offerOpen_con.φ x=denF Tryz.prog qmY qnE Tryz.f186 offerOpen_con.ps offerOpen_con.one offerOpen_con.res offerOpen_con.ρ x:=by kernel_rfl
theorem qoW:ConOK Tryz.prog 186 offerOpen_con :=
  qa (env:=qmY) ((EnvOK.cons (EnvOK.nil _) qde)) mixed Tryz.func186 offerOpen_con qnE (by kernel_rfl) (fun h=>by first | rfl | cases h) (fun g hg=>by cases hg) qta
def qiD:Ann := .nil
noncomputable def offerDecline_con:Con:=⟨[Zt23,Zt59,Zt59,Zt59],false,[Zt23,Zt59],Zt18,fun x=>qaS x.1 x.2.1 x.2.2.1 x.2.2.2.1,none⟩
noncomputable def qiC:Env:=(186,.con offerOpen_con)::(57,.ck 86)::[]
theorem qpn (x:DL offerDecline_con.ps):offerDecline_con.φ x=denF Tryz.prog qiC qiD Tryz.f129 offerDecline_con.ps offerDecline_con.one offerDecline_con.res offerDecline_con.ρ x:=by kernel_rfl
theorem qqg:ConOK Tryz.prog 129 offerDecline_con :=
  qa (env:=qiC) ((EnvOK.cons (EnvOK.check (EnvOK.nil _) qc) qoW)) mixed Tryz.func129 offerDecline_con qiD (by kernel_rfl) (fun h=>by first | rfl | cases h) (fun g hg=>by cases hg) qpn
def qt:Ann:=(.ord 12 0 .nil (.ord 13 0 .nil (.ord 14 0 .nil (.ord 15 0 .nil (.ord 17 0 .nil (.ord 18 0 .nil .nil))))))
def qF:Ann:=(.alt (.ord 12 0 .nil (.ord 13 0 .nil (.ord 14 0 .nil (.ord 15 0 .nil (.ord 16 0 .nil (.ord 17 0 .nil (.ord 18 0 .nil .nil))))))) (.ord 16 0 .nil qt))
def qbO:Ann:=(.alt (.ord 9 0 .nil (.ord 11 0 .nil qt)) (.ord 11 0 .nil (.ord 9 0 .nil qt)))
def qbI:Ann:=(.alt (.ord 7 0 .nil (.ord 11 0 .nil qt)) (.ord 11 0 .nil (.ord 7 0 .nil qt)))
def qbP:Ann:=(.alt (.ord 5 0 .nil (.ord 11 0 .nil qt)) (.ord 11 0 .nil (.ord 5 0 .nil qt)))
def qbK:Ann:=(.alt (.ord 11 0 .nil qF) (.ord 16 0 .nil (.ord 11 0 .nil qt)))
def qdY:Ann:=(.alt (.ord 7 0 .nil qbO) (.alt (.ord 9 0 .nil qbI) (.ord 11 0 .nil (.ord 7 69503 .nil (.ord 9 0 .nil qt)))))
def qdX:Ann:=(.alt (.ord 5 0 .nil qbI) (.alt (.ord 7 0 .nil qbP) (.ord 11 0 .nil (.ord 5 69599 .nil (.ord 7 0 .nil qt)))))
def qdV:Ann:=(.alt (.ord 5 0 .nil qbO) (.alt (.ord 9 0 .nil qbP) (.ord 11 0 .nil (.ord 5 69599 .nil (.ord 9 0 .nil qt)))))
def qdq:Ann:=(.alt (.ord 9 0 .nil qbK) (.alt (.ord 11 0 .nil (.ord 9 69119 .nil qF)) (.ord 16 0 .nil qbO)))
def qdp:Ann:=(.alt (.ord 7 0 .nil qbK) (.alt (.ord 11 0 .nil (.ord 7 69503 .nil qF)) (.ord 16 0 .nil qbI)))
def qdG:Ann:=(.alt (.ord 5 0 .nil qbK) (.alt (.ord 11 0 .nil (.ord 5 69599 .nil qF)) (.ord 16 0 .nil qbP)))
def qeu:Ann:=(.two .nil (.two .nil (.two .nil (.two (.join ⟨[0],[(6,Zt21),(7,Zt59)],[]⟩ (.any 321535 65536 (.ord 0 0 .nil (.ord 1 0 .nil (.ord 2 0 .nil (.ord 3 0 .nil (.ord 4 0 .nil (.ord 6 0 .nil (.ord 8 0 .nil (.ord 10 0 .nil (.alt (.ord 5 0 .nil (.alt (.ord 7 0 .nil qdq) (.alt (.ord 9 0 .nil qdp) (.alt (.ord 11 0 .nil (.ord 7 69503 .nil (.ord 9 69119 .nil qF))) (.ord 16 0 .nil qdY))))) (.alt (.ord 7 0 .nil (.alt (.ord 5 0 .nil qdq) (.alt (.ord 9 0 .nil qdG) (.alt (.ord 11 0 .nil (.ord 5 69599 .nil (.ord 9 69119 .nil qF))) (.ord 16 0 .nil qdV))))) (.alt (.ord 9 0 .nil (.alt (.ord 5 0 .nil qdp) (.alt (.ord 7 0 .nil qdG) (.alt (.ord 11 0 .nil (.ord 5 69599 .nil (.ord 7 69503 .nil qF))) (.ord 16 0 .nil qdX))))) (.alt (.ord 11 0 .nil (.ord 5 69599 .nil (.ord 7 69503 .nil (.ord 9 69119 .nil qF)))) (.ord 16 0 .nil (.alt (.ord 5 0 .nil qdY) (.alt (.ord 7 0 .nil qdV) (.alt (.ord 9 0 .nil qdX) (.ord 11 0 .nil (.ord 5 69599 .nil (.ord 7 69503 .nil (.ord 9 0 .nil qt)))))))))))))))))))))) (.two (.two .nil (.join ⟨[7],[],[(0,some (.box Zt2)),(1,none),(2,none),(3,none)]⟩ .nil)) .nil)))))
noncomputable def matchMatchDoOffer_con:Ioc:=⟨Zt1,[Zt26],true,[],Zt59,fun x=>qaA x.1 x.2.1⟩
noncomputable def qeL:Env:=(128,.con offerMake_con)::(57,.ck 86)::(129,.con offerDecline_con)::(39,.rd plainGameMoves_con)::(125,.body Tryz.f125)::[]
theorem qjx (x:DL (Zt1::[Zt26])):matchMatchDoOffer_con.φ x=denIO Tryz.prog qeL qeu Tryz.f74 Zt1 [Zt26] true [] Zt59 x:=by kernel_rfl
theorem qkC:IocOK Tryz.prog 74 matchMatchDoOffer_con :=
  qaC (env:=qeL) ((EnvOK.cons (EnvOK.check (EnvOK.cons (EnvOK.readonly (EnvOK.body (EnvOK.nil _) Tryz.func125) qbg) qqg) qc) quk)) mixed Tryz.func74 matchMatchDoOffer_con qeu (by kernel_rfl) (fun h=>by first | rfl | cases h) qjx
def qjH:Ann := .nil
noncomputable def offerAccept_con:Con:=⟨[Zt23,Zt59,Zt59,Zt59],false,[Zt23,Zt59],Zt18,fun x=>qd1 x.1 x.2.1 x.2.2.1 x.2.2.2.1,none⟩
noncomputable def qjt:Env:=(186,.con offerOpen_con)::(57,.ck 86)::[]
theorem qqb (x:DL offerAccept_con.ps):offerAccept_con.φ x=denF Tryz.prog qjt qjH Tryz.f130 offerAccept_con.ps offerAccept_con.one offerAccept_con.res offerAccept_con.ρ x:=by kernel_rfl
theorem qrr:ConOK Tryz.prog 130 offerAccept_con :=
  qa (env:=qjt) ((EnvOK.cons (EnvOK.check (EnvOK.nil _) qc) qoW)) mixed Tryz.func130 offerAccept_con qjH (by kernel_rfl) (fun h=>by first | rfl | cases h) (fun g hg=>by cases hg) qqb
def qhs:Ann:=(.two .nil (.two .nil (.two (.join ⟨[],[],[(0,some (.box Zt7)),(1,none),(2,none)]⟩ (.any 461369343 8392704 (.ord 0 0 .nil (.ord 1 0 .nil (.ord 2 0 .nil (.ord 3 0 .nil (.ord 4 0 .nil (.ord 5 16773087 .nil (.ord 6 0 .nil (.ord 7 0 .nil (.ord 8 0 .nil (.ord 9 16769535 .nil (.ord 10 0 .nil (.ord 11 0 .nil (.ord 13 0 .nil (.ord 14 0 .nil (.ord 15 0 .nil (.ord 16 8323071 .nil (.ord 17 0 .nil (.ord 18 0 .nil (.ord 19 0 .nil (.ord 20 1048575 .nil (.ord 21 0 .nil (.ord 22 0 .nil (.alt (.ord 12 0 (.own .nil) (.ord 24 0 .nil (.ord 25 0 .nil (.alt (.ord 23 0 (.own .nil) (.ord 26 0 .nil (.ord 27 0 .nil (.ord 28 0 .nil (.ord 29 0 .nil .nil))))) (.ord 26 0 .nil (.ord 23 0 (.own .nil) (.ord 27 0 .nil (.ord 28 0 .nil (.ord 29 0 .nil .nil))))))))) (.ord 23 0 (.own .nil) (.ord 12 0 (.own .nil) (.ord 24 0 .nil (.ord 25 0 .nil (.ord 26 0 .nil (.ord 27 0 .nil (.ord 28 0 .nil (.ord 29 0 .nil .nil))))))))))))))))))))))))))))))))) .nil)))
noncomputable def plainGameBack_con:Ioc:=⟨Zt4,[],true,[],Zt59,fun x=>qdt x.1⟩
noncomputable def qhu:Env:=[]
theorem qoz (x:DL (Zt4::[])):plainGameBack_con.φ x=denIO Tryz.prog qhu qhs Tryz.f132 Zt4 [] true [] Zt59 x:=by kernel_rfl
theorem qps:IocOK Tryz.prog 132 plainGameBack_con :=
  qaC (env:=qhu) ((EnvOK.nil _)) mixed Tryz.func132 plainGameBack_con qhs (by kernel_rfl) (fun h=>by first | rfl | cases h) qoz
def qnD:Ann:=(.two .nil (.two .nil (.two .nil (.two (.two .nil (.join ⟨[2,4],[],[(0,some (.box Zt32))]⟩ (.two (.loop ⟨[1,2,4],[(19,Zt59)],[(0,some (.box Zt32))]⟩ (.two .nil (.two .nil (.two (.join ⟨[1,2,4,19],[],[(0,some (.box Zt32))]⟩ (.two (.two .nil (.two (.join ⟨[1,2,4,7,19],[(25,Zt50),(26,Zt59)],[]⟩ .nil) (.join ⟨[1,2,4,19],[],[(0,some (.box Zt32))]⟩ (.two (.loop ⟨[1,2,4,7,19,25],[(26,Zt59)],[(0,some (.box Zt32))]⟩ (.two .nil (.two .nil (.two (.two (.two .nil (.join ⟨[1,2,4,7,19,25,26],[],[(0,some (.box Zt32))]⟩ .nil)) .nil) .nil)))) .nil)))) .nil)) .nil)))) .nil))) .nil))))
noncomputable def offerBack_con:Con:=⟨[Zt23,Zt59],false,[Zt23,Zt59],Zt18,fun x=>qfN x.1 x.2.1,none⟩
noncomputable def qnh:Env:=(185,.con offerCheck_i_con)::(57,.ck 86)::[]
theorem qtE (x:DL offerBack_con.ps):offerBack_con.φ x=denF Tryz.prog qnh qnD Tryz.f133 offerBack_con.ps offerBack_con.one offerBack_con.res offerBack_con.ρ x:=by kernel_rfl
theorem quL:ConOK Tryz.prog 133 offerBack_con :=
  qa (env:=qnh) ((EnvOK.cons (EnvOK.check (EnvOK.nil _) qc) qde)) mixed Tryz.func133 offerBack_con qnD (by kernel_rfl) (fun h=>by first | rfl | cases h) (fun g hg=>by cases hg) qtE
def qu:Ann:=(.ord 11 0 .nil (.ord 12 0 .nil (.ord 13 0 .nil (.ord 14 0 .nil (.ord 16 0 .nil (.ord 17 0 .nil .nil))))))
def qC:Ann:=(.ord 11 34815 .nil (.ord 12 0 .nil (.ord 13 0 .nil (.ord 14 0 .nil (.ord 15 0 .nil (.ord 16 0 .nil (.ord 17 0 .nil .nil)))))))
def qbq:Ann:=(.alt (.ord 8 0 .nil (.ord 10 0 .nil qu)) (.ord 10 0 .nil (.ord 8 0 .nil qu)))
def qbB:Ann:=(.alt (.ord 6 0 .nil (.ord 10 0 .nil qu)) (.ord 10 0 .nil (.ord 6 0 .nil qu)))
def qbu:Ann:=(.alt (.ord 4 0 .nil (.ord 10 0 .nil qu)) (.ord 10 0 .nil (.ord 4 0 .nil qu)))
def qbw:Ann:=(.alt (.ord 10 0 .nil qC) (.ord 15 0 .nil (.ord 10 0 .nil qu)))
def qbo:Ann:=(.ord 11 0 .nil (.ord 12 0 .nil (.ord 13 0 .nil (.ord 14 0 .nil (.ord 15 0 .nil .nil)))))
def qdE:Ann:=(.alt (.ord 6 0 .nil qbq) (.alt (.ord 8 0 .nil qbB) (.ord 10 0 .nil (.ord 6 34751 .nil (.ord 8 0 .nil qu)))))
def qdH:Ann:=(.alt (.ord 4 0 .nil qbB) (.alt (.ord 6 0 .nil qbu) (.ord 10 0 .nil (.ord 4 34799 .nil (.ord 6 0 .nil qu)))))
def qc7:Ann:=(.alt (.ord 4 0 .nil qbq) (.alt (.ord 8 0 .nil qbu) (.ord 10 0 .nil (.ord 4 34799 .nil (.ord 8 0 .nil qu)))))
def qc3:Ann:=(.alt (.ord 8 0 .nil qbw) (.alt (.ord 10 0 .nil (.ord 8 34559 .nil qC)) (.ord 15 0 .nil qbq)))
def qcZ:Ann:=(.alt (.ord 6 0 .nil qbw) (.alt (.ord 10 0 .nil (.ord 6 34751 .nil qC)) (.ord 15 0 .nil qbB)))
def qdb:Ann:=(.alt (.ord 4 0 .nil qbw) (.alt (.ord 10 0 .nil (.ord 4 34799 .nil qC)) (.ord 15 0 .nil qbu)))
def qa5:Ann:=(.ord 8 0 .nil (.ord 9 0 .nil (.ord 10 0 .nil qbo)))
def qdZ:Ann:=(.two .nil (.two (.join ⟨[0,3],[(5,Zt21),(6,Zt59)],[]⟩ (.any 162815 32768 (.ord 0 0 .nil (.ord 1 0 .nil (.ord 2 0 .nil (.ord 3 0 .nil (.ord 5 0 .nil (.ord 7 0 .nil (.ord 9 0 .nil (.alt (.ord 4 0 .nil (.alt (.ord 6 0 .nil qc3) (.alt (.ord 8 0 .nil qcZ) (.alt (.ord 10 0 .nil (.ord 6 34751 .nil (.ord 8 34559 .nil qC))) (.ord 15 0 .nil qdE))))) (.alt (.ord 6 0 .nil (.alt (.ord 4 0 .nil qc3) (.alt (.ord 8 0 .nil qdb) (.alt (.ord 10 0 .nil (.ord 4 34799 .nil (.ord 8 34559 .nil qC))) (.ord 15 0 .nil qc7))))) (.alt (.ord 8 0 .nil (.alt (.ord 4 0 .nil qcZ) (.alt (.ord 6 0 .nil qdb) (.alt (.ord 10 0 .nil (.ord 4 34799 .nil (.ord 6 34751 .nil qC))) (.ord 15 0 .nil qdH))))) (.alt (.ord 10 0 .nil (.ord 4 34799 .nil (.ord 6 34751 .nil (.ord 8 34559 .nil qC)))) (.ord 15 0 .nil (.alt (.ord 4 0 .nil qdE) (.alt (.ord 6 0 .nil qc7) (.alt (.ord 8 0 .nil qdH) (.ord 10 0 .nil (.ord 4 34799 .nil (.ord 6 34751 .nil (.ord 8 0 .nil qu))))))))))))))))))))) (.two .nil (.two .nil (.two .nil (.two (.two (.join ⟨[0,3],[(46,Zt59),(47,Zt59)],[]⟩ (.any 111 0 (.ord 0 0 .nil (.ord 3 0 .nil (.ord 6 0 .nil (.alt (.ord 1 0 .nil (.ord 2 0 .nil (.ord 4 0 .nil (.ord 5 0 .nil .nil)))) (.ord 4 0 .nil (.ord 1 0 .nil (.ord 2 0 .nil (.ord 5 0 .nil .nil)))))))))) (.join ⟨[0,3],[],[(1,some (.box Zt7)),(2,none),(3,none)]⟩ (.two (.loop ⟨[0,3,46],[(47,Zt59)],[(1,some (.box Zt7)),(2,none),(3,none)]⟩ .nil) .nil))) (.two (.join ⟨[0,3],[],[(0,some (.box Zt2)),(1,none),(6,none),(7,none)]⟩ (.any 32639 0 (.ord 0 0 .nil (.ord 1 0 .nil (.ord 2 0 .nil (.ord 3 0 .nil (.ord 4 0 .nil (.ord 6 0 .nil (.alt (.ord 5 0 .nil (.ord 7 0 .nil qa5)) (.ord 7 0 .nil (.ord 5 0 .nil qa5))))))))))) (.two (.join ⟨[0],[],[(0,some (.box Zt2)),(8,none),(9,none),(10,none)]⟩ (.any 31735 0 (.ord 0 0 .nil (.ord 1 0 .nil (.ord 2 0 .nil (.ord 4 0 .nil (.alt (.ord 3 0 .nil (.ord 6 0 .nil (.ord 7 0 .nil (.ord 8 0 .nil (.ord 9 0 .nil (.alt (.ord 5 0 .nil (.ord 10 0 .nil qbo)) (.ord 10 0 .nil (.ord 5 0 .nil qbo)))))))) (.ord 5 0 .nil (.ord 3 0 .nil (.ord 6 0 .nil (.ord 7 0 .nil qa5))))))))))) .nil))))))))
noncomputable def matchMatchDoAccept_con:Ioc:=⟨Zt1,[Zt26],true,[],Zt59,fun x=>qaR x.1 x.2.1⟩
noncomputable def qdU:Env:=(42,.rd plainGamePosition_con)::(122,.body Tryz.f122)::(133,.con offerBack_con)::(132,.io plainGameBack_con)::(131,.con offerPlies_con)::(57,.ck 86)::(39,.rd plainGameMoves_con)::(125,.body Tryz.f125)::(130,.con offerAccept_con)::[]
theorem qiP (x:DL (Zt1::[Zt26])):matchMatchDoAccept_con.φ x=denIO Tryz.prog qdU qdZ Tryz.f75 Zt1 [Zt26] true [] Zt59 x:=by kernel_rfl
theorem qjc:IocOK Tryz.prog 75 matchMatchDoAccept_con :=
  qaC (env:=qdU) ((EnvOK.readonly (EnvOK.body (EnvOK.cons (EnvOK.inout (EnvOK.cons (EnvOK.check (EnvOK.readonly (EnvOK.body (EnvOK.cons (EnvOK.nil _) qrr) Tryz.func125) qbg) qc) qm9) qps) quL) Tryz.func122) qP)) mixed Tryz.func75 matchMatchDoAccept_con qdZ (by kernel_rfl) (fun h=>by first | rfl | cases h) qiP
def qkS:Ann:=(.two .nil (.two .nil (.two .nil (.two (.two .nil (.join ⟨[1,2],[(6,Zt56),(7,Zt59)],[]⟩ (.two (.loop ⟨[1,2,13,14],[(6,Zt56),(7,Zt59),(15,Zt59)],[]⟩ (.two .nil (.two .nil (.two (.two (.two .nil (.two .nil (.join ⟨[1,2,13,14,15],[(6,Zt56),(7,Zt59)],[(1,none)]⟩ .nil))) .nil) .nil)))) .nil))) (.two (.two .nil (.join ⟨[],[(6,Zt56),(7,Zt59)],[(1,none)]⟩ (.two (.loop ⟨[40,41],[(6,Zt56),(7,Zt59),(42,Zt59)],[(1,none)]⟩ (.two .nil (.two .nil (.two (.two (.two .nil (.two .nil (.join ⟨[40,41,42],[(6,Zt56),(7,Zt59)],[(2,none)]⟩ .nil))) .nil) .nil)))) .nil))) .nil)))))
noncomputable def claimTypes_con:Con:=⟨[Zt30,Zt59],false,[Zt56,Zt59],(.st Zt56 Zt55),fun x=>qke x.1 x.2.1,none⟩
noncomputable def qkZ:Env:=[]
theorem qrt (x:DL claimTypes_con.ps):claimTypes_con.φ x=denF Tryz.prog qkZ qkS Tryz.f249 claimTypes_con.ps claimTypes_con.one claimTypes_con.res claimTypes_con.ρ x:=by kernel_rfl
theorem qtd:ConOK Tryz.prog 249 claimTypes_con :=
  qa (env:=qkZ) ((EnvOK.nil _)) mixed Tryz.func249 claimTypes_con qkS (by kernel_rfl) (fun h=>by first | rfl | cases h) (fun g hg=>by cases hg) qrt
def qiq:Ann:=(.two .nil (.two (.two .nil (.joinE ⟨[],[],[]⟩ (.two (.loop ⟨[2,3,10],[(1,Zt59),(11,Zt59)],[]⟩ .nil) .nil))) .nil))
noncomputable def claimBecomes_con:Con:=⟨[Zt13,Zt59,Zt59],true,[],.bool,fun x=>qj1 x.1 x.2.1 x.2.2.1,none⟩
noncomputable def qiy:Env:=[]
theorem qpr (x:DL claimBecomes_con.ps):claimBecomes_con.φ x=denF Tryz.prog qiy qiq Tryz.f251 claimBecomes_con.ps claimBecomes_con.one claimBecomes_con.res claimBecomes_con.ρ x:=by kernel_rfl
theorem qp2:ConOK Tryz.prog 251 claimBecomes_con :=
  qa (env:=qiy) ((EnvOK.nil _)) mixed Tryz.func251 claimBecomes_con qiq (by kernel_rfl) (fun h=>by first | rfl | cases h) (fun g hg=>by cases hg) qpr
def qmz:Ann:=(.two .nil (.two .nil (.two .nil (.two (.two (.join ⟨[4,9],[(42,.bool)],[]⟩ (.two (.two .nil (.two (.two (.two .nil (.two (.two .nil (.joinE ⟨[],[],[]⟩ (.two (.loop ⟨[0,1,7],[(8,Zt59)],[]⟩ .nil) .nil))) .nil)) .nil) .nil)) .nil)) .nil) (.two (.join ⟨[],[(8,.bool)],[]⟩ (.two (.two .nil (.two (.two (.two .nil (.two (.two .nil (.joinE ⟨[],[],[]⟩ (.two (.loop ⟨[0,1,7],[(8,Zt59)],[]⟩ (.two .nil (.two .nil (.two (.two (.two .nil (.two (.two (.two .nil (.two (.two (.two .nil (.two (.two (.two .nil (.two (.two .nil (.joinE ⟨[],[],[]⟩ (.two (.loop ⟨[0,1,7],[(8,Zt59)],[]⟩ .nil) .nil))) .nil)) .nil) .nil)) .nil) .nil)) .nil) .nil)) .nil) .nil)))) .nil))) .nil)) .nil) .nil)) .nil)) .nil)))))
noncomputable def claimAble_con:Con:=⟨[Zt13,Zt30,Zt42,Zt59],true,[],.bool,fun x=>qnm x.1 x.2.1 x.2.2.1 x.2.2.2.1,none⟩
noncomputable def qmX:Env:=(254,.body Tryz.f254)::(268,.body Tryz.f268)::(253,.body Tryz.f253)::(252,.body Tryz.f252)::(251,.con claimBecomes_con)::(250,.body Tryz.f250)::(197,.body Tryz.f197)::(142,.body Tryz.f142)::(249,.con claimTypes_con)::[]
theorem qtM (x:DL claimAble_con.ps):claimAble_con.φ x=denF Tryz.prog qmX qmz Tryz.f230 claimAble_con.ps claimAble_con.one claimAble_con.res claimAble_con.ρ x:=by kernel_rfl
theorem qvw:ConOK Tryz.prog 230 claimAble_con :=
  qa (env:=qmX) ((EnvOK.body (EnvOK.body (EnvOK.body (EnvOK.body (EnvOK.cons (EnvOK.body (EnvOK.body (EnvOK.body (EnvOK.cons (EnvOK.nil _) qtd) Tryz.func142) Tryz.func197) Tryz.func250) qp2) Tryz.func252) Tryz.func253) Tryz.func268) Tryz.func254)) mixed Tryz.func230 claimAble_con qmz (by kernel_rfl) (fun h=>by first | rfl | cases h) (fun g hg=>by cases hg) qtM
def qjD:Ann:=(.two .nil (.two .nil (.two .nil (.two (.join ⟨[],[(6,.bool),(7,Zt59)],[]⟩ (.two (.two .nil (.two (.two (.two .nil (.two (.two .nil (.joinE ⟨[],[],[]⟩ (.two (.loop ⟨[0,1,7],[(8,Zt59)],[]⟩ .nil) .nil))) .nil)) .nil) .nil)) .nil)) .nil))))
noncomputable def claimAble_i_con:Con:=⟨[Zt13,Zt30,Zt59],false,[.bool,Zt59],(.st .bool Zt55),fun x=>qf2 x.1 x.2.1 x.2.2.1,none⟩
noncomputable def qiX:Env:=(230,.con claimAble_con)::(229,.body Tryz.f229)::(191,.body Tryz.f191)::(228,.body Tryz.f228)::(222,.con placeCheck_con)::[]
theorem qq6 (x:DL claimAble_i_con.ps):claimAble_i_con.φ x=denF Tryz.prog qiX qjD Tryz.f188 claimAble_i_con.ps claimAble_i_con.one claimAble_i_con.res claimAble_i_con.ρ x:=by kernel_rfl
theorem qrD:ConOK Tryz.prog 188 claimAble_i_con :=
  qa (env:=qiX) ((EnvOK.cons (EnvOK.body (EnvOK.body (EnvOK.body (EnvOK.cons (EnvOK.nil _) qmP) Tryz.func228) Tryz.func191) Tryz.func229) qvw)) mixed Tryz.func188 claimAble_i_con qjD (by kernel_rfl) (fun h=>by first | rfl | cases h) (fun g hg=>by cases hg) qq6
def qjB:Ann := .nil
noncomputable def claimFallen_con:Con:=⟨[Zt13,Zt30,Zt59],false,[Zt59,Zt59],Zt50,fun x=>qhT x.1 x.2.1 x.2.2.1,none⟩
noncomputable def qiY:Env:=(188,.con claimAble_i_con)::[]
theorem qpP (x:DL claimFallen_con.ps):claimFallen_con.φ x=denF Tryz.prog qiY qjB Tryz.f134 claimFallen_con.ps claimFallen_con.one claimFallen_con.res claimFallen_con.ρ x:=by kernel_rfl
theorem qrw:ConOK Tryz.prog 134 claimFallen_con :=
  qa (env:=qiY) ((EnvOK.cons (EnvOK.nil _) qrD)) mixed Tryz.func134 claimFallen_con qjB (by kernel_rfl) (fun h=>by first | rfl | cases h) (fun g hg=>by cases hg) qpP
def qex:Ann:=(.two .nil (.two (.two .nil (.two (.two (.any 163839 32768 (.ord 0 0 .nil (.ord 1 0 .nil (.ord 2 0 .nil (.ord 3 34807 .nil (.ord 4 0 .nil (.ord 5 0 .nil (.ord 6 0 .nil (.ord 7 0 .nil (.ord 8 34559 .nil (.ord 9 0 .nil (.ord 10 33791 .nil (.ord 11 34815 .nil (.ord 12 0 .nil (.ord 13 0 .nil (.ord 14 0 .nil (.ord 15 0 .nil (.ord 16 0 .nil (.ord 17 0 .nil .nil))))))))))))))))))) (.two .nil (.two .nil (.two (.any 523775 512 (.ord 0 0 .nil (.ord 1 0 .nil (.ord 2 0 .nil (.ord 3 0 .nil (.ord 4 4079 .nil (.ord 5 0 .nil (.ord 6 0 .nil (.ord 7 0 .nil (.ord 8 3327 .nil (.ord 10 0 .nil (.ord 11 2047 .nil (.ord 9 0 .nil (.ord 12 0 .nil (.ord 13 0 .nil (.ord 14 0 .nil (.ord 15 0 .nil (.ord 16 0 .nil (.ord 17 0 .nil (.ord 18 0 .nil (.ord 19 0 .nil .nil))))))))))))))))))))) .nil)))) .nil)) (.two (.join ⟨[0,3],[(7,.bool)],[]⟩ .nil) (.two (.two (.two .nil (.two .nil (.two (.join ⟨[0,7],[(91,.bool)],[]⟩ (.any 61 0 (.ord 0 0 .nil (.ord 2 0 .nil (.alt (.ord 1 0 .nil (.ord 3 0 .nil (.ord 4 0 .nil (.ord 5 0 .nil .nil)))) (.ord 3 0 .nil (.ord 1 0 .nil (.ord 4 0 .nil (.ord 5 0 .nil .nil))))))))) .nil))) .nil) .nil))))
noncomputable def matchMatchDoClaim_con:Ioc:=⟨Zt1,[Zt26],true,[],Zt59,fun x=>qbf x.1 x.2.1⟩
noncomputable def qeR:Env:=(122,.body Tryz.f122)::(135,.rd plainGameCount_con)::(134,.con claimFallen_con)::(42,.rd plainGamePosition_con)::(57,.ck 86)::(33,.con clockLook_con)::[]
theorem qj3 (x:DL (Zt1::[Zt26])):matchMatchDoClaim_con.φ x=denIO Tryz.prog qeR qex Tryz.f76 Zt1 [Zt26] true [] Zt59 x:=by kernel_rfl
theorem qkx:IocOK Tryz.prog 76 matchMatchDoClaim_con :=
  qaC (env:=qeR) ((EnvOK.body (EnvOK.readonly (EnvOK.cons (EnvOK.readonly (EnvOK.check (EnvOK.cons (EnvOK.nil _) qjG) qc) qP) qrw) qhi) Tryz.func122)) mixed Tryz.func76 matchMatchDoClaim_con qex (by kernel_rfl) (fun h=>by first | rfl | cases h) qj3
def qk9:Ann:=(.two .nil (.two .nil (.two .nil (.two .nil (.two (.join ⟨[],[(6,Zt33),(7,Zt59)],[]⟩ (.any 413 34 (.ord 0 0 .nil (.ord 2 0 .nil (.ord 3 7 .nil (.ord 4 0 .nil (.alt (.ord 1 0 .nil (.ord 5 0 .nil (.ord 6 0 .nil (.ord 7 0 .nil (.ord 8 0 .nil .nil))))) (.ord 5 0 .nil (.ord 1 0 .nil (.ord 6 0 .nil (.ord 7 0 .nil (.ord 8 0 .nil .nil)))))))))))) .nil)))))
noncomputable def premoveAdd_con:Con:=⟨[Zt36,Zt59,Zt47],false,[Zt33,Zt59],Zt29,fun x=>qkn x.1 x.2.1 x.2.2.1,none⟩
noncomputable def qk3:Env:=(40,.con slicesClone_PremoveMove_con)::(190,.con premoveOf_con)::(189,.con premoveCheck_con)::[]
theorem qrj (x:DL premoveAdd_con.ps):premoveAdd_con.φ x=denF Tryz.prog qk3 qk9 Tryz.f136 premoveAdd_con.ps premoveAdd_con.one premoveAdd_con.res premoveAdd_con.ρ x:=by kernel_rfl
theorem qtg:ConOK Tryz.prog 136 premoveAdd_con :=
  qa (env:=qk3) ((EnvOK.cons (EnvOK.cons (EnvOK.cons (EnvOK.nil _) qjb) qpf) qaf)) mixed Tryz.func136 premoveAdd_con qk9 (by kernel_rfl) (fun h=>by first | rfl | cases h) (fun g hg=>by cases hg) qrj
def qdg:Ann:=(.two .nil (.two (.two (.join ⟨[0,3],[(11,.bool)],[]⟩ (.any 29 0 (.ord 0 0 .nil (.ord 2 0 .nil (.alt (.ord 1 0 .nil (.ord 3 0 .nil (.ord 4 0 .nil .nil))) (.ord 3 0 .nil (.ord 1 0 .nil (.ord 4 0 .nil .nil)))))))) .nil) (.two (.any 32255 512 (.ord 0 0 .nil (.ord 1 0 .nil (.ord 2 0 .nil (.ord 3 0 .nil (.ord 4 495 .nil (.ord 5 0 .nil (.ord 6 447 .nil (.ord 7 0 .nil (.ord 8 0 .nil (.ord 9 0 .nil (.ord 10 0 .nil (.ord 11 0 .nil (.ord 12 0 .nil (.ord 13 0 .nil (.ord 14 0 .nil .nil)))))))))))))))) (.two (.two .nil (.join ⟨[6],[],[(0,some (.box Zt2)),(1,none),(2,none),(3,none),(5,none)]⟩ .nil)) .nil))))
noncomputable def matchMatchDoPremove_con:Ioc:=⟨Zt1,[Zt26],true,[],Zt59,fun x=>qaI x.1 x.2.1⟩
noncomputable def qdB:Env:=(136,.con premoveAdd_con)::(42,.rd plainGamePosition_con)::(122,.body Tryz.f122)::[]
theorem qig (x:DL (Zt1::[Zt26])):matchMatchDoPremove_con.φ x=denIO Tryz.prog qdB qdg Tryz.f77 Zt1 [Zt26] true [] Zt59 x:=by kernel_rfl
theorem qiV:IocOK Tryz.prog 77 matchMatchDoPremove_con :=
  qaC (env:=qdB) ((EnvOK.cons (EnvOK.readonly (EnvOK.body (EnvOK.nil _) Tryz.func122) qP) qtg)) mixed Tryz.func77 matchMatchDoPremove_con qdg (by kernel_rfl) (fun h=>by first | rfl | cases h) qig
def qgK:Ann:=(.two .nil (.two (.two .nil (.two (.two .nil (.two .nil (.two (.two .nil (.join ⟨[0,3,6],[(12,.bool)],[]⟩ .nil)) .nil))) .nil)) .nil))
noncomputable def matchMatchKind_con:Ioc:=⟨Zt1,[Zt26],true,[],Zt59,fun x=>qcE x.1 x.2.1⟩
noncomputable def qgZ:Env:=(77,.io matchMatchDoPremove_con)::(76,.io matchMatchDoClaim_con)::(75,.io matchMatchDoAccept_con)::(74,.io matchMatchDoOffer_con)::(73,.io matchMatchDoMove_con)::[]
theorem qmL (x:DL (Zt1::[Zt26])):matchMatchKind_con.φ x=denIO Tryz.prog qgZ qgK Tryz.f34 Zt1 [Zt26] true [] Zt59 x:=by kernel_rfl
theorem qn6:IocOK Tryz.prog 34 matchMatchKind_con :=
  qaC (env:=qgZ) ((EnvOK.inout (EnvOK.inout (EnvOK.inout (EnvOK.inout (EnvOK.inout (EnvOK.nil _) ql2) qkC) qjc) qkx) qiV)) mixed Tryz.func34 matchMatchKind_con qgK (by kernel_rfl) (fun h=>by first | rfl | cases h) qmL
def qgz:Ann:=(.two .nil (.two .nil (.join ⟨[],[],[(0,some (.box Zt2)),(1,none),(2,none),(3,none)]⟩ .nil)))
noncomputable def matchMatchOver_con:Ioc:=⟨Zt1,[],false,[],.nil,fun x=>qan x.1⟩
noncomputable def qge:Env:=(78,.rd plainGameResult_con)::[]
theorem qmk (x:DL (Zt1::[])):matchMatchOver_con.φ x=denIO Tryz.prog qge qgz Tryz.f37 Zt1 [] false [] .nil x:=by kernel_rfl
theorem qd2:IocOK Tryz.prog 37 matchMatchOver_con :=
  qaC (env:=qge) ((EnvOK.readonly (EnvOK.nil _) qbY)) mixed Tryz.func37 matchMatchOver_con qgz (by kernel_rfl) (fun h=>by first | rfl | cases h) qmk
def qir:Ann:=(.two .nil (.two .nil (.two (.any 163839 32768 (.ord 0 0 .nil (.ord 1 0 .nil (.ord 2 0 .nil (.ord 3 34807 .nil (.ord 4 0 .nil (.ord 5 0 .nil (.ord 6 0 .nil (.ord 7 0 .nil (.ord 8 34559 .nil (.ord 9 0 .nil (.ord 10 33791 .nil (.ord 11 34815 .nil (.ord 12 0 .nil (.ord 13 0 .nil (.ord 14 0 .nil (.ord 15 0 .nil (.ord 16 0 .nil (.ord 17 0 .nil .nil))))))))))))))))))) (.two .nil (.two .nil (.two .nil (.two (.any 8063 128 (.ord 0 0 .nil (.ord 1 0 .nil (.ord 2 0 .nil (.ord 3 0 .nil (.ord 4 111 .nil (.ord 5 0 .nil (.ord 6 0 .nil (.ord 7 0 .nil (.ord 8 0 .nil (.ord 9 0 .nil (.ord 10 0 .nil (.ord 11 0 .nil (.ord 12 0 .nil (.ord 13 0 .nil .nil))))))))))))))) .nil)))))))
noncomputable def matchMatchDo_con:Ioc:=⟨Zt1,[Zt26],true,[],Zt59,fun x=>qbj x.1 x.2.1⟩
noncomputable def qiz:Env:=(37,.io matchMatchOver_con)::(35,.con journalAppend_con)::(36,.con matchEntry_con)::(34,.io matchMatchKind_con)::(57,.ck 86)::(33,.con clockLook_con)::[]
theorem qpj (x:DL (Zt1::[Zt26])):matchMatchDo_con.φ x=denIO Tryz.prog qiz qir Tryz.f11 Zt1 [Zt26] true [] Zt59 x:=by kernel_rfl
theorem qjs:IocOK Tryz.prog 11 matchMatchDo_con :=
  qaC (env:=qiz) ((EnvOK.inout (EnvOK.cons (EnvOK.cons (EnvOK.inout (EnvOK.check (EnvOK.cons (EnvOK.nil _) qjG) qc) qn6) qsO) qeW) qd2)) mixed Tryz.func11 matchMatchDo_con qir (by kernel_rfl) (fun h=>by first | rfl | cases h) qpj
def qkL:Ann := .nil
noncomputable def clockStart_con:Con:=⟨[Zt35,Zt59],false,[Zt16,Zt59],Zt14,fun x=>qba x.1 x.2.1,none⟩
noncomputable def qlh:Env:=(71,.con clockWithin_con)::(82,.con clockCheck_con)::(57,.ck 86)::[]
theorem qrh (x:DL clockStart_con.ps):clockStart_con.φ x=denF Tryz.prog qlh qkL Tryz.f44 clockStart_con.ps clockStart_con.one clockStart_con.res clockStart_con.ρ x:=by kernel_rfl
theorem qnp:ConOK Tryz.prog 44 clockStart_con :=
  qa (env:=qlh) ((EnvOK.cons (EnvOK.cons (EnvOK.check (EnvOK.nil _) qc) qnR) qeo)) mixed Tryz.func44 clockStart_con qkL (by kernel_rfl) (fun h=>by first | rfl | cases h) (fun g hg=>by cases hg) qrh
def qcp:Ann := .nil
noncomputable def slicesClone_ClockPeriod_con:Con:=⟨[Zt48],true,[],(.osl 135 Zt50),fun x=>qau x.1,none⟩
noncomputable def qco:Env:=[]
theorem qfF (x:DL slicesClone_ClockPeriod_con.ps):slicesClone_ClockPeriod_con.φ x=denF Tryz.prog qco qcp Tryz.f86 slicesClone_ClockPeriod_con.ps slicesClone_ClockPeriod_con.one slicesClone_ClockPeriod_con.res slicesClone_ClockPeriod_con.ρ x:=by kernel_rfl
theorem qf7:ConOK Tryz.prog 86 slicesClone_ClockPeriod_con :=
  qa (env:=qco) ((EnvOK.nil _)) mixed Tryz.func86 slicesClone_ClockPeriod_con qcp (by kernel_rfl) (fun h=>by first | rfl | cases h) (fun g hg=>by cases hg) qfF
def qmG:Ann := .nil
noncomputable def clockCopy_con:Con:=⟨[Zt35],true,[],Zt34,fun x=>qcf x.1,none⟩
noncomputable def qmM:Env:=(86,.con slicesClone_ClockPeriod_con)::(57,.ck 86)::[]
theorem qtO (x:DL clockCopy_con.ps):clockCopy_con.φ x=denF Tryz.prog qmM qmG Tryz.f46 clockCopy_con.ps clockCopy_con.one clockCopy_con.res clockCopy_con.ρ x:=by kernel_rfl
theorem qoD:ConOK Tryz.prog 46 clockCopy_con :=
  qa (env:=qmM) ((EnvOK.cons (EnvOK.check (EnvOK.nil _) qc) qf7)) mixed Tryz.func46 clockCopy_con qmG (by kernel_rfl) (fun h=>by first | rfl | cases h) (fun g hg=>by cases hg) qtO
def qpc:Ann := .nil
noncomputable def offerNew_con:Con:=⟨[],true,[],Zt23,fun x=>qoa,some fun x=>qL⟩
noncomputable def qo4:Env:=(57,.ck 86)::[]
theorem qvA (x:DL offerNew_con.ps):offerNew_con.φ x=denF Tryz.prog qo4 qpc Tryz.f47 offerNew_con.ps offerNew_con.one offerNew_con.res offerNew_con.ρ x:=by kernel_rfl
theorem qqi:ConOK Tryz.prog 47 offerNew_con :=
  qa (env:=qo4) ((EnvOK.check (EnvOK.nil _) qc)) mixed Tryz.func47 offerNew_con qpc (by kernel_rfl) (fun h=>by first | rfl | cases h) (fun g hg x=>by
    cases hg
    exact qwv ) qvA
def qjI:Ann := .nil
noncomputable def matchNumber_con:Con:=⟨[.str],false,[Zt59,.bool],(.st Zt59 (.st .bool .nil)),fun x=>qd9 x.1,none⟩
noncomputable def qjw:Env:=(48,.con qjk)::(68,.con quV)::[]
theorem qp6 (x:DL matchNumber_con.ps):matchNumber_con.φ x=denF Tryz.prog qjw qjI Tryz.f31 matchNumber_con.ps matchNumber_con.one matchNumber_con.res matchNumber_con.ρ x:=by kernel_rfl
theorem qkV:ConOK Tryz.prog 31 matchNumber_con :=
  qa (env:=qjw) ((EnvOK.cons (EnvOK.cons (EnvOK.nil _) atoiS_ok) qpG)) mixed Tryz.func31 matchNumber_con qjI (by kernel_rfl) (fun h=>by first | rfl | cases h) (fun g hg=>by cases hg) qp6
def qgW:Ann:=(.two .nil (.two .nil (.two .nil (.two .nil (.two (.two .nil (.joinE ⟨[2,5],[],[(0,some (.box Zt28)),(1,some (.box Zt28))]⟩ (.two (.loop ⟨[2,5,15,16],[(17,Zt59)],[(0,some (.box Zt28)),(1,some (.box Zt28))]⟩ .nil) .nil))) .nil)))))
noncomputable def matchReadEntry_con:Con:=⟨[.str],false,[Zt26,Zt59],(.st Zt26 Zt55),fun x=>qbH x.1,none⟩
noncomputable def qgI:Env:=(31,.con matchNumber_con)::(32,.con qrY)::(57,.ck 86)::[]
theorem qmH (x:DL matchReadEntry_con.ps):matchReadEntry_con.φ x=denF Tryz.prog qgI qgW Tryz.f10 matchReadEntry_con.ps matchReadEntry_con.one matchReadEntry_con.res matchReadEntry_con.ρ x:=by kernel_rfl
theorem qod:ConOK Tryz.prog 10 matchReadEntry_con :=
  qa (env:=qgI) ((EnvOK.cons (EnvOK.cons (EnvOK.check (EnvOK.nil _) qc) splitS_ok) qkV)) mixed Tryz.func10 matchReadEntry_con qgW (by kernel_rfl) (fun h=>by first | rfl | cases h) (fun g hg=>by cases hg) qmH
def qa1:Ann := .nil
noncomputable def internalstringsliteHasPrefix_con:Con:=⟨[.str,.str],true,[],.bool,fun x=>qaw x.1 x.2.1,none⟩
noncomputable def qaY:Env:=[]
theorem qdS (x:DL internalstringsliteHasPrefix_con.ps):internalstringsliteHasPrefix_con.φ x=denF Tryz.prog qaY qa1 Tryz.f103 internalstringsliteHasPrefix_con.ps internalstringsliteHasPrefix_con.one internalstringsliteHasPrefix_con.res internalstringsliteHasPrefix_con.ρ x:=by kernel_rfl
theorem qd5:ConOK Tryz.prog 103 internalstringsliteHasPrefix_con :=
  qa (env:=qaY) ((EnvOK.nil _)) mixed Tryz.func103 internalstringsliteHasPrefix_con qa1 (by kernel_rfl) (fun h=>by first | rfl | cases h) (fun g hg=>by cases hg) qdS
def qa2:Ann := .nil
noncomputable def internalstringsliteCutPrefix_con:Con:=⟨[.str,.str],false,[.str,.bool],Zt54,fun x=>qav x.1 x.2.1,none⟩
noncomputable def qaZ:Env:=(103,.con internalstringsliteHasPrefix_con)::[]
theorem qdR (x:DL internalstringsliteCutPrefix_con.ps):internalstringsliteCutPrefix_con.φ x=denF Tryz.prog qaZ qa2 Tryz.f67 internalstringsliteCutPrefix_con.ps internalstringsliteCutPrefix_con.one internalstringsliteCutPrefix_con.res internalstringsliteCutPrefix_con.ρ x:=by kernel_rfl
theorem qd6:ConOK Tryz.prog 67 internalstringsliteCutPrefix_con :=
  qa (env:=qaZ) ((EnvOK.cons (EnvOK.nil _) qd5)) mixed Tryz.func67 internalstringsliteCutPrefix_con qa2 (by kernel_rfl) (fun h=>by first | rfl | cases h) (fun g hg=>by cases hg) qdR
def qe1:Ann := .nil
noncomputable def stringsCutPrefix_con:Con:=⟨[.str,.str],false,[.str,.bool],Zt54,fun x=>qbE x.1 x.2.1,none⟩
noncomputable def qe3:Env:=(67,.con internalstringsliteCutPrefix_con)::[]
theorem qkD (x:DL stringsCutPrefix_con.ps):stringsCutPrefix_con.φ x=denF Tryz.prog qe3 qe1 Tryz.f30 stringsCutPrefix_con.ps stringsCutPrefix_con.one stringsCutPrefix_con.res stringsCutPrefix_con.ρ x:=by kernel_rfl
theorem qlZ:ConOK Tryz.prog 30 stringsCutPrefix_con :=
  qa (env:=qe3) ((EnvOK.cons (EnvOK.nil _) qd6)) mixed Tryz.func30 stringsCutPrefix_con qe1 (by kernel_rfl) (fun h=>by first | rfl | cases h) (fun g hg=>by cases hg) qkD
end Go.Proofs.YtlfpfiplndkofaaGreatDoor

