/- Several texts in one: Base, MSortC, StandingSaysC. -/
import Derived.Test.YtcifaoaepbidoaaProg
import Derived.Test.YtcifaoaepbidoaaMAD
import Derived.Test.YtcifaoaepbidoaaMAA
import Derived.Shelf.SlSortCmp.NoneTotal
import Derived.Test.YtcifaoaepbidoaaMAE
namespace Go.Proofs.Ytcifaoaepbidoaa
theorem mixed:Try.prog.follows .mixedOrders=true:=by kernel_rfl
end Go.Proofs.Ytcifaoaepbidoaa
namespace Go.Proofs.Ytcifaoaepbidoaa
open Go.Den
set_option linter.unusedVariables false
set_option maxRecDepth 100000
def qc8:Ann := .nil
noncomputable def cmpIsNaN_int_con:Con:=⟨[Zt12],true,[],.bool,fun x=>qcB x.1,some fun x=>qW x.1⟩
noncomputable def qda:Env:=[]
def qcx:Ann := .nil
noncomputable def cmpCompare_int_con:Con:=⟨[Zt12,Zt12],true,[],Zt12,fun x=>qbS x.1 x.2.1,some fun x=>qE x.1 x.2.1⟩
noncomputable def qcu:Env:=(85,.con cmpIsNaN_int_con)::[]
def qei:Ann:=(.two .nil (.two .nil (.two (.two .nil (.joinE ⟨[3],[],[]⟩ (.two (.loop ⟨[3,6,7],[(8,Zt12)],[]⟩ .nil) .nil))) .nil)))
noncomputable def cmpOr_int_con:Con:=⟨[Zt11],true,[],Zt12,fun x=>qdp x.1,none⟩
noncomputable def qep:Env:=[]
theorem qff (x:DL cmpIsNaN_int_con.ps):cmpIsNaN_int_con.φ x=denF Try.prog qda qc8 Try.f85 cmpIsNaN_int_con.ps cmpIsNaN_int_con.one cmpIsNaN_int_con.res cmpIsNaN_int_con.ρ x:=by kernel_rfl
theorem qf6:ConOK Try.prog 85 cmpIsNaN_int_con :=
  qz (env:=qda) ((EnvOK.nil _)) mixed Try.func85 cmpIsNaN_int_con qc8 (by kernel_rfl) (fun h=>by first | rfl | cases h) (fun g hg x=>by
    cases hg
    exact qfS _) qff
theorem qem (x:DL cmpCompare_int_con.ps):cmpCompare_int_con.φ x=denF Try.prog qcu qcx Try.f57 cmpCompare_int_con.ps cmpCompare_int_con.one cmpCompare_int_con.res cmpCompare_int_con.ρ x:=by kernel_rfl
theorem qbx:ConOK Try.prog 57 cmpCompare_int_con :=
  qz (env:=qcu) ((EnvOK.cons (EnvOK.nil _) qf6)) mixed Try.func57 cmpCompare_int_con qcx (by kernel_rfl) (fun h=>by first | rfl | cases h) (fun g hg x=>by
    cases hg
    exact qeW _ _) qem
theorem qgZ (x:DL cmpOr_int_con.ps):cmpOr_int_con.φ x=denF Try.prog qep qei Try.f83 cmpOr_int_con.ps cmpOr_int_con.one cmpOr_int_con.res cmpOr_int_con.ρ x:=by kernel_rfl
theorem qhv:ConOK Try.prog 83 cmpOr_int_con :=
  qz (env:=qep) ((EnvOK.nil _)) mixed Try.func83 cmpOr_int_con qei (by kernel_rfl) (fun h=>by first | rfl | cases h) (fun g hg=>by cases hg) qgZ
open Go.Sort Go.Lib in
section
end
def qdd:Ann := .nil
noncomputable def standingTwo_con:Con:=⟨[Zt12,Zt12,Zt12],true,[],.bool,fun x=>qcT x.1 x.2.1 x.2.2.1,some fun x=>qR x.1 x.2.1 x.2.2.1⟩
noncomputable def qdx:Env:=[]
theorem qfL (x:DL standingTwo_con.ps):standingTwo_con.φ x=denF Try.prog qdx qdd Try.f56 standingTwo_con.ps standingTwo_con.one standingTwo_con.res standingTwo_con.ρ x:=by kernel_rfl
theorem qdY:ConOK Try.prog 56 standingTwo_con :=
  qz (env:=qdx) ((EnvOK.nil _)) mixed Try.func56 standingTwo_con qdd (by kernel_rfl) (fun h=>by first | rfl | cases h) (fun g hg x=>by
    cases hg
    exact qgh _ _ _) qfL
def qcJ:Ann:=(.two .nil (.two .nil (.two (.two .nil (.joinE ⟨[],[],[]⟩ (.two (.loop ⟨[0,18,19],[(20,Zt12)],[]⟩ .nil) .nil))) .nil)))
noncomputable def standingCheck_con:Con:=⟨[Zt12,Zt6],true,[],Zt12,fun x=>qG x.1 x.2.1,none⟩
noncomputable def qcQ:Env:=(56,.con standingTwo_con)::[]
theorem qeK (x:DL standingCheck_con.ps):standingCheck_con.φ x=denF Try.prog qcQ qcJ Try.f19 standingCheck_con.ps standingCheck_con.one standingCheck_con.res standingCheck_con.ρ x:=by kernel_rfl
theorem qaB:ConOK Try.prog 19 standingCheck_con :=
  qz (env:=qcQ) ((EnvOK.cons (EnvOK.nil _) qdY)) mixed Try.func19 standingCheck_con qcJ (by kernel_rfl) (fun h=>by first | rfl | cases h) (fun g hg=>by cases hg) qeK
def qcz:Ann:=(.two .nil (.two .nil (.two (.two .nil (.join ⟨[5],[],[(0,some (.arr 3 Zt12))]⟩ (.two (.loop ⟨[5,10,11],[(12,Zt12)],[(0,some (.arr 3 Zt12))]⟩ (.two .nil (.two .nil (.two (.two (.two .nil (.two (.tail 9 .nil) (.tail 10 .nil))) .nil) .nil)))) .nil))) .nil)))
noncomputable def standingPoints_con:Con:=⟨[Zt12,Zt6],true,[],Zt10,fun x=>qaG x.1 x.2.1,none⟩
noncomputable def qct:Env:=[]
theorem qed (x:DL standingPoints_con.ps):standingPoints_con.φ x=denF Try.prog qct qcz Try.f52 standingPoints_con.ps standingPoints_con.one standingPoints_con.res standingPoints_con.ρ x:=by kernel_rfl
theorem qbz:ConOK Try.prog 52 standingPoints_con :=
  qz (env:=qct) ((EnvOK.nil _)) mixed Try.func52 standingPoints_con qcz (by kernel_rfl) (fun h=>by first | rfl | cases h) (fun g hg=>by cases hg) qed
def qcr:Ann:=(.two .nil (.two .nil (.two .nil (.two (.two .nil (.join ⟨[6,8],[],[(2,some (.box Zt5))]⟩ (.two (.loop ⟨[2,6,7,8,16,17],[(18,Zt12)],[(2,some (.box Zt5))]⟩ (.two .nil (.two .nil (.two (.two (.two .nil (.two .nil (.two (.two .nil (.two (.two .nil (.joinE ⟨[2,6,7,8,16,17,18],[(11,Zt12),(12,Zt12)],[(2,some (.box Zt5))]⟩ .nil)) .nil)) (.two (.tail 8 .nil) (.two (.tail 10 .nil) (.two .nil (.join ⟨[2,6,7,8,16,17,18],[],[(2,some (.box Zt5))]⟩ .nil))))))) .nil) .nil)))) .nil))) .nil))))
noncomputable def standingBreaks_con:Con:=⟨[Zt12,Zt6,Zt12],true,[],Zt5,fun x=>qa9 x.1 x.2.1 x.2.2.1,none⟩
noncomputable def qcn:Env:=(52,.con standingPoints_con)::[]
theorem qeh (x:DL standingBreaks_con.ps):standingBreaks_con.φ x=denF Try.prog qcn qcr Try.f53 standingBreaks_con.ps standingBreaks_con.one standingBreaks_con.res standingBreaks_con.ρ x:=by kernel_rfl
theorem qcG:ConOK Try.prog 53 standingBreaks_con :=
  qz (env:=qcn) ((EnvOK.cons (EnvOK.nil _) qbz)) mixed Try.func53 standingBreaks_con qcr (by kernel_rfl) (fun h=>by first | rfl | cases h) (fun g hg=>by cases hg) qeh
def qbJ:Ann:=(.two .nil (.two (.two .nil (.joinE ⟨[0,1],[],[]⟩ (.two (.loop ⟨[0,1,9,10],[(11,Zt12)],[]⟩ .nil) .nil))) .nil))
noncomputable def slicesCompare_int_con:Con:=⟨[Zt11,Zt11],true,[],Zt12,fun x=>qau x.1 x.2.1,none⟩
noncomputable def qbL:Env:=(57,.con cmpCompare_int_con)::[]
theorem qdi (x:DL slicesCompare_int_con.ps):slicesCompare_int_con.φ x=denF Try.prog qbL qbJ Try.f84 slicesCompare_int_con.ps slicesCompare_int_con.one slicesCompare_int_con.res slicesCompare_int_con.ρ x:=by kernel_rfl
theorem qdS:ConOK Try.prog 84 slicesCompare_int_con :=
  qz (env:=qbL) ((EnvOK.cons (EnvOK.nil _) qbx)) mixed Try.func84 slicesCompare_int_con qbJ (by kernel_rfl) (fun h=>by first | rfl | cases h) (fun g hg=>by cases hg) qdi
def qcM:Ann:=(.two .nil (.two (.any 6847 1344 (.ord 0 0 .nil (.ord 1 493 .nil (.ord 2 0 .nil (.ord 3 487 .nil (.ord 4 495 .nil (.ord 5 0 .nil (.ord 7 0 .nil (.alt (.ord 6 0 .nil (.ord 8 0 .nil (.ord 9 0 .nil (.ord 10 0 .nil (.ord 11 0 .nil (.ord 12 0 .nil .nil)))))) (.ord 8 0 .nil (.ord 6 0 .nil (.ord 9 0 .nil (.ord 10 0 .nil (.ord 11 0 .nil (.ord 12 0 .nil .nil))))))))))))))) .nil))
noncomputable def standingOrder_con:Con:=⟨[Zt4,Zt4],true,[],Zt12,fun x=>qA x.1 x.2.1,none⟩
noncomputable def qcN:Env:=(83,.con cmpOr_int_con)::(84,.con slicesCompare_int_con)::(57,.con cmpCompare_int_con)::[]
theorem qeG (x:DL standingOrder_con.ps):standingOrder_con.φ x=denF Try.prog qcN qcM Try.f55 standingOrder_con.ps standingOrder_con.one standingOrder_con.res standingOrder_con.ρ x:=by kernel_rfl
theorem qbP:ConOK Try.prog 55 standingOrder_con :=
  qz (env:=qcN) ((EnvOK.cons (EnvOK.cons (EnvOK.cons (EnvOK.nil _) qbx) qdS) qhv)) mixed Try.func55 standingOrder_con qcM (by kernel_rfl) (fun h=>by first | rfl | cases h) (fun g hg=>by cases hg) qeG
def qJ:Ann:=(.two .nil (.join ⟨[],[],[(0,some (.arr 56 Zt4))]⟩ (.two (.loop ⟨[0,1,2,3],[(8,Zt12)],[(0,some (.arr 56 Zt4))]⟩ (.two .nil (.two (.join ⟨[0,1,2,3,8],[],[(0,some (.arr 56 Zt4))]⟩ (.two (.two .nil (.join ⟨[0,1,2,3,8],[],[(0,some (.arr 56 Zt4))]⟩ (.two (.loop ⟨[0,1,2,3,8],[(9,Zt12)],[(0,some (.arr 56 Zt4))]⟩ (.two (.two (.tail 14 .nil) .nil) (.two (.two (.any 98303 0 (.ord 0 0 .nil (.ord 1 0 .nil (.ord 2 0 .nil (.ord 3 0 .nil (.ord 4 0 .nil (.ord 5 0 .nil (.ord 6 0 .nil (.ord 7 0 .nil (.ord 8 0 .nil (.ord 9 15871 .nil (.ord 10 0 .nil (.ord 11 0 .nil (.ord 12 0 .nil (.ord 13 0 .nil (.ord 14 0 .nil (.ord 15 0 .nil (.ord 16 0 .nil (.ord 17 0 .nil .nil))))))))))))))))))) .nil) .nil))) .nil))) .nil)) .nil))) .nil)))
noncomputable def slicesInsertionSortCmpFunc_StandingRow_con:Goc:=⟨Zt2,.nil,[Zt12,Zt12],[0,2,2,58],false,[],.nil,fun x=>qg x.1 x.2.2.1 x.2.2.2.1⟩
noncomputable def qI:Env:=(55,.con standingOrder_con)::[]
theorem qaC (x:DL (Zt2 :: .nil::[Zt12,Zt12])):slicesInsertionSortCmpFunc_StandingRow_con.φ x=denGO Try.prog qI qJ Try.f115 Zt2 .nil [Zt12,Zt12] [0,2,2,58] false [] .nil x:=by kernel_rfl
theorem qaI:GocOK Try.prog 115 slicesInsertionSortCmpFunc_StandingRow_con :=
  qdC (env:=qI) ((EnvOK.cons (EnvOK.nil _) qbP)) mixed Try.func115 slicesInsertionSortCmpFunc_StandingRow_con qJ (by kernel_rfl) (fun h=>by first | rfl | cases h) qaC
def qP:Ann:=(.two .nil (.join ⟨[],[],[(0,some (.arr 56 Zt4))]⟩ (.two (.loop ⟨[0,1,2,3],[(10,Zt12)],[(0,some (.arr 56 Zt4))]⟩ (.two .nil (.two (.two (.any 6291455 0 (.ord 0 0 .nil (.ord 1 0 .nil (.ord 2 0 .nil (.ord 3 0 .nil (.ord 4 0 .nil (.ord 5 0 .nil (.ord 6 0 .nil (.ord 7 0 .nil (.ord 8 0 .nil (.ord 9 0 .nil (.ord 10 0 .nil (.ord 11 0 .nil (.ord 12 0 .nil (.ord 13 1040383 .nil (.ord 14 0 .nil (.ord 15 0 .nil (.ord 16 0 .nil (.ord 17 0 .nil (.ord 18 0 .nil (.ord 19 0 .nil (.ord 20 0 .nil (.ord 21 0 .nil (.ord 22 0 .nil (.ord 23 0 .nil .nil))))))))))))))))))))))))) .nil) .nil))) .nil)))
noncomputable def slicesSwapRangeCmpFunc_StandingRow_con:Goc:=⟨Zt2,.nil,[Zt12,Zt12,Zt12],[0,2,2,2,58],false,[],.nil,fun x=>qf x.1 x.2.2.1 x.2.2.2.1 x.2.2.2.2.1⟩
noncomputable def qO:Env:=[]
theorem qaZ (x:DL (Zt2 :: .nil::[Zt12,Zt12,Zt12])):slicesSwapRangeCmpFunc_StandingRow_con.φ x=denGO Try.prog qO qP Try.f151 Zt2 .nil [Zt12,Zt12,Zt12] [0,2,2,2,58] false [] .nil x:=by kernel_rfl
theorem qa5:GocOK Try.prog 151 slicesSwapRangeCmpFunc_StandingRow_con :=
  qdC (env:=qO) ((EnvOK.nil _)) mixed Try.func151 slicesSwapRangeCmpFunc_StandingRow_con qP (by kernel_rfl) (fun h=>by first | rfl | cases h) qaZ
def qac:Ann:=(.two .nil (.two .nil (.two (.join ⟨[0,2,4],[(10,Zt12)],[(0,some (.arr 56 Zt4))]⟩ (.two (.loop ⟨[0,2,4],[(10,Zt12),(11,Zt12)],[(0,some (.arr 56 Zt4))]⟩ (.two .nil (.two (.two .nil (.join ⟨[0,2,4],[(10,Zt12),(11,Zt12)],[(0,some (.arr 56 Zt4))]⟩ .nil)) .nil))) .nil)) .nil)))
noncomputable def slicesRotateCmpFunc_StandingRow_con:Goc:=⟨Zt2,.nil,[Zt12,Zt12,Zt12],[0,2,2,2,58],false,[],.nil,fun x=>qq x.1 x.2.2.1 x.2.2.2.1 x.2.2.2.2.1⟩
noncomputable def qaf:Env:=(151,.go slicesSwapRangeCmpFunc_StandingRow_con)::[]
theorem qbg (x:DL (Zt2 :: .nil::[Zt12,Zt12,Zt12])):slicesRotateCmpFunc_StandingRow_con.φ x=denGO Try.prog qaf qac Try.f135 Zt2 .nil [Zt12,Zt12,Zt12] [0,2,2,2,58] false [] .nil x:=by kernel_rfl
theorem qbp:GocOK Try.prog 135 slicesRotateCmpFunc_StandingRow_con :=
  qdC (env:=qaf) ((EnvOK.general (EnvOK.nil _) qa5)) mixed Try.func135 slicesRotateCmpFunc_StandingRow_con qac (by kernel_rfl) (fun h=>by first | rfl | cases h) qbg
def qQ:Ann:=(.two .nil (.two (.two (.any 98303 0 (.ord 0 0 .nil (.ord 1 0 .nil (.ord 2 0 .nil (.ord 3 0 .nil (.ord 4 0 .nil (.ord 5 0 .nil (.ord 6 0 .nil (.ord 7 0 .nil (.ord 8 0 .nil (.ord 9 15871 .nil (.ord 10 0 .nil (.ord 11 0 .nil (.ord 12 0 .nil (.ord 13 0 .nil (.ord 14 0 .nil (.ord 15 0 .nil (.ord 16 0 .nil (.ord 17 0 .nil .nil))))))))))))))))))) .nil) .nil))
def qU:Ann:=(.two (.two .nil (.two (.two .nil (.two .nil (.two (.join ⟨[0,1],[(10,Zt12)],[]⟩ (.two (.loop ⟨[0,1,4],[(10,Zt12),(11,Zt12)],[]⟩ (.two .nil (.two (.two .nil (.two (.tail 9 .nil) (.join ⟨[0,1,4],[(10,Zt12),(11,Zt12)],[]⟩ .nil))) .nil))) .nil)) (.two (.two .nil (.join ⟨[],[],[(0,some (.arr 56 Zt4))]⟩ (.two (.loop ⟨[0,10],[(13,Zt12)],[(0,some (.arr 56 Zt4))]⟩ qQ) .nil))) .nil)))) .nil)) (.two (.two .nil (.two (.two .nil (.two .nil (.two (.join ⟨[0,2],[(14,Zt12)],[]⟩ (.two (.loop ⟨[0,2,4],[(14,Zt12),(15,Zt12)],[]⟩ (.two .nil (.two (.two .nil (.two (.tail 9 .nil) (.join ⟨[0,2,4],[(14,Zt12),(15,Zt12)],[]⟩ .nil))) .nil))) .nil)) (.two (.two .nil (.join ⟨[],[],[(0,some (.arr 56 Zt4))]⟩ (.two (.loop ⟨[0,14],[(17,Zt12)],[(0,some (.arr 56 Zt4))]⟩ qQ) .nil))) .nil)))) .nil)) (.two .nil (.two .nil (.two .nil (.two (.two .nil (.join ⟨[0,1,2,3,4,18,19],[(20,Zt12),(21,Zt12)],[]⟩ .nil)) (.two .nil (.two (.join ⟨[0,1,2,3,4,18,19],[(20,Zt12)],[]⟩ (.two (.loop ⟨[0,1,2,3,4,18,19,22],[(20,Zt12),(21,Zt12)],[]⟩ (.two .nil (.two (.two .nil (.two (.tail 11 .nil) (.join ⟨[0,1,2,3,4,18,19,22],[(20,Zt12),(21,Zt12)],[]⟩ .nil))) .nil))) .nil)) (.two .nil (.two (.two .nil (.join ⟨[0,1,3,4,18,20,24],[],[(0,some (.arr 56 Zt4))]⟩ .nil)) (.two (.two .nil (.join ⟨[0,3,4,18,24],[],[(0,some (.arr 56 Zt4))]⟩ .nil)) (.two .nil (.join ⟨[],[],[(0,some (.arr 56 Zt4))]⟩ .nil)))))))))))))
noncomputable def qS:Goc:=⟨Zt2,.nil,[Zt12,Zt12,Zt12],[0,2,2,2,58],false,[],.nil,fun x=>qw x.1 x.2.2.1 x.2.2.2.1 x.2.2.2.2.1⟩
noncomputable def qT (φ:DL (Zt2 :: .nil::[Zt12,Zt12,Zt12])→Option (D Zt1)):Env:=(116,.go ⟨Zt2,.nil,[Zt12,Zt12,Zt12],[0,2,2,2,58],false,[],.nil,φ⟩)::(135,.go slicesRotateCmpFunc_StandingRow_con)::(55,.con standingOrder_con)::[]
theorem qa3 (φ:DL (Zt2 :: .nil::[Zt12,Zt12,Zt12])→Option (D Zt1)) (x:DL (Zt2 :: .nil::[Zt12,Zt12,Zt12])):qe φ x=denGO Try.prog (qT φ) qU Try.f116 Zt2 .nil [Zt12,Zt12,Zt12] [0,2,2,2,58] false [] .nil x:=by kernel_rfl
theorem qa6:GocOK Try.prog 116 qS :=
  go_fix (tp:=Zt2) (mv := .nil) (ps:=[Zt12,Zt12,Zt12]) (sg:=[0,2,2,2,58]) (ρ := .nil) (G:=qe) (by kernel_rfl) (by kernel_rfl) (fun h=>by first | rfl | cases h) fun φ hφ =>
  qdC (env:=qT φ) ((EnvOK.general (EnvOK.general (EnvOK.cons (EnvOK.nil _) qbP) qbp) hφ)) mixed Try.func116 ⟨Zt2,.nil,[Zt12,Zt12,Zt12],[0,2,2,2,58],false,[],.nil,qe φ⟩ qU (by kernel_rfl) (fun h=>by first | rfl | cases h) (qa3 φ)
def qae:Ann:=(.two .nil (.two .nil (.two (.join ⟨[0,1,2,6],[(7,Zt12)],[(0,some (.arr 56 Zt4))]⟩ (.two (.loop ⟨[0,1,2,6],[(7,Zt12),(8,Zt12)],[(0,some (.arr 56 Zt4))]⟩ .nil) .nil)) (.two .nil (.join ⟨[],[],[(0,some (.arr 56 Zt4))]⟩ (.two (.loop ⟨[0,1,2],[(6,Zt12)],[(0,some (.arr 56 Zt4))]⟩ (.two .nil (.join ⟨[0,1,2],[(6,Zt12)],[(0,some (.arr 56 Zt4))]⟩ (.two (.two .nil (.two (.join ⟨[0,1,2,6],[(7,Zt12)],[(0,some (.arr 56 Zt4))]⟩ (.two (.loop ⟨[0,1,2,6],[(7,Zt12),(8,Zt12)],[(0,some (.arr 56 Zt4))]⟩ .nil) .nil)) (.two (.two .nil (.two .nil (.join ⟨[0,1,2,6],[],[(0,some (.arr 56 Zt4))]⟩ .nil))) .nil))) .nil)))) .nil))))))
noncomputable def slicesStableCmpFunc_StandingRow_con:Goc:=⟨Zt2,.nil,[Zt12],[0,2,58],false,[],.nil,fun x=>qB x.1 x.2.2.1⟩
noncomputable def qad:Env:=(116,.go qS)::(115,.go slicesInsertionSortCmpFunc_StandingRow_con)::[]
theorem qbj (x:DL (Zt2 :: .nil::[Zt12])):slicesStableCmpFunc_StandingRow_con.φ x=denGO Try.prog qad qae Try.f82 Zt2 .nil [Zt12] [0,2,58] false [] .nil x:=by kernel_rfl
theorem qbq:GocOK Try.prog 82 slicesStableCmpFunc_StandingRow_con :=
  qdC (env:=qad) ((EnvOK.general (EnvOK.general (EnvOK.nil _) qaI) qa6)) mixed Try.func82 slicesStableCmpFunc_StandingRow_con qae (by kernel_rfl) (fun h=>by first | rfl | cases h) qbj
def qcR:Ann:=(.two .nil (.two .nil (.two .nil (.two (.two .nil (.join ⟨[],[(7,Zt2)],[]⟩ (.two (.loop ⟨[0,1,22,23],[(7,Zt2),(24,Zt12)],[]⟩ .nil) .nil))) (.two .nil (.two (.two .nil (.join ⟨[7],[],[(1,some (.arr 56 Zt4))]⟩ (.two (.loop ⟨[7,43],[(44,Zt12)],[(1,some (.arr 56 Zt4))]⟩ (.two .nil (.two .nil (.two (.join ⟨[7,43,44],[],[(1,some (.arr 56 Zt4))]⟩ (.two (.two .nil (.two .nil (.two .nil (.join ⟨[7,43,44],[],[(1,some (.arr 56 Zt4))]⟩ (.two (.loop ⟨[7,10,43,44,51,52],[(53,Zt12)],[(1,some (.arr 56 Zt4))]⟩ (.two .nil (.two .nil (.two (.two (.two .nil (.two .nil (.two .nil (.join ⟨[7,10,43,44,51,52,53],[],[(1,some (.arr 56 Zt4))]⟩ (.two .nil (.two .nil (.join ⟨[7,10,43,44,51,52,53],[],[(1,some (.arr 56 Zt4))]⟩ .nil))))))) .nil) .nil)))) .nil))))) .nil)) .nil)))) .nil))) .nil))))))
noncomputable def standingTable_con:Con:=⟨[Zt12,Zt6],false,[Zt2,Zt12],(.st Zt2 Zt9),fun x=>qal x.1 x.2.1,none⟩
noncomputable def qcK:Env:=(55,.con standingOrder_con)::(82,.go slicesStableCmpFunc_StandingRow_con)::(54,.body Try.f54)::(53,.con standingBreaks_con)::(52,.con standingPoints_con)::(19,.con standingCheck_con)::[]
theorem qeV (x:DL standingTable_con.ps):standingTable_con.φ x=denF Try.prog qcK qcR Try.f15 standingTable_con.ps standingTable_con.one standingTable_con.res standingTable_con.ρ x:=by kernel_rfl
theorem qdc:ConOK Try.prog 15 standingTable_con :=
  qz (env:=qcK) ((EnvOK.cons (EnvOK.general (EnvOK.body (EnvOK.cons (EnvOK.cons (EnvOK.cons (EnvOK.nil _) qaB) qbz) qcG) Try.func54) qbq) qbP)) mixed Try.func15 standingTable_con qcR (by kernel_rfl) (fun h=>by first | rfl | cases h) (fun g hg=>by cases hg) qeV
def qdX:Ann := .nil
noncomputable def law3Tables_con:Con:=⟨[],true,[],.bool,fun x=>qdK,none⟩
noncomputable def qdW:Env:=(15,.con standingTable_con)::[]
theorem qgc (x:DL law3Tables_con.ps):law3Tables_con.φ x=denF Try.prog qdW qdX Try.f14 law3Tables_con.ps law3Tables_con.one law3Tables_con.res law3Tables_con.ρ x:=by kernel_rfl
theorem qg1:ConOK Try.prog 14 law3Tables_con :=
  qz (env:=qdW) ((EnvOK.cons (EnvOK.nil _) qdc)) mixed Try.func14 law3Tables_con qdX (by kernel_rfl) (fun h=>by first | rfl | cases h) (fun g hg=>by cases hg) qgc
def qbU:Ann := .nil
noncomputable def standingPoints_i_con:Con:=⟨[Zt12,Zt6],false,[Zt10,Zt12],(.st Zt10 Zt9),fun x=>qaj x.1 x.2.1,none⟩
noncomputable def qbZ:Env:=(52,.con standingPoints_con)::(19,.con standingCheck_con)::[]
theorem qdQ (x:DL standingPoints_i_con.ps):standingPoints_i_con.φ x=denF Try.prog qbZ qbU Try.f16 standingPoints_i_con.ps standingPoints_i_con.one standingPoints_i_con.res standingPoints_i_con.ρ x:=by kernel_rfl
theorem qea:ConOK Try.prog 16 standingPoints_i_con :=
  qz (env:=qbZ) ((EnvOK.cons (EnvOK.cons (EnvOK.nil _) qaB) qbz)) mixed Try.func16 standingPoints_i_con qbU (by kernel_rfl) (fun h=>by first | rfl | cases h) (fun g hg=>by cases hg) qdQ
def qbY:Ann := .nil
noncomputable def standingBreaks_i_con:Con:=⟨[Zt12,Zt6,Zt12],false,[Zt5,Zt12],(.st Zt5 Zt9),fun x=>qH x.1 x.2.1 x.2.2.1,none⟩
noncomputable def qbX:Env:=(53,.con standingBreaks_con)::(19,.con standingCheck_con)::[]
theorem qdT (x:DL standingBreaks_i_con.ps):standingBreaks_i_con.φ x=denF Try.prog qbX qbY Try.f17 standingBreaks_i_con.ps standingBreaks_i_con.one standingBreaks_i_con.res standingBreaks_i_con.ρ x:=by kernel_rfl
theorem qd8:ConOK Try.prog 17 standingBreaks_i_con :=
  qz (env:=qbX) ((EnvOK.cons (EnvOK.cons (EnvOK.nil _) qaB) qcG)) mixed Try.func17 standingBreaks_i_con qbY (by kernel_rfl) (fun h=>by first | rfl | cases h) (fun g hg=>by cases hg) qdT
def qcq:Ann:=(.two .nil (.two .nil (.two .nil (.two .nil (.two (.two .nil (.join ⟨[],[(11,Zt12)],[]⟩ (.two (.loop ⟨[2,3,25,26],[(11,Zt12),(27,Zt12)],[]⟩ (.two .nil (.two .nil (.two (.two (.two .nil (.two (.two .nil (.join ⟨[2,3,25,26,27],[(11,Zt12)],[]⟩ (.two .nil (.two .nil (.join ⟨[2,3,25,26,27],[(11,Zt12)],[]⟩ .nil))))) .nil)) .nil) .nil)))) .nil))) .nil)))))
noncomputable def standingDirect_con:Con:=⟨[Zt12,Zt6,Zt12,Zt12],false,[Zt12,Zt12],Zt8,fun x=>qZ x.1 x.2.1 x.2.2.1 x.2.2.2.1,none⟩
noncomputable def qck:Env:=(57,.con cmpCompare_int_con)::(56,.con standingTwo_con)::(19,.con standingCheck_con)::[]
theorem qel (x:DL standingDirect_con.ps):standingDirect_con.φ x=denF Try.prog qck qcq Try.f18 standingDirect_con.ps standingDirect_con.one standingDirect_con.res standingDirect_con.ρ x:=by kernel_rfl
theorem qeZ:ConOK Try.prog 18 standingDirect_con :=
  qz (env:=qck) ((EnvOK.cons (EnvOK.cons (EnvOK.cons (EnvOK.nil _) qaB) qdY) qbx)) mixed Try.func18 standingDirect_con qcq (by kernel_rfl) (fun h=>by first | rfl | cases h) (fun g hg=>by cases hg) qel
def qd:Ann:=(.ord 11 0 .nil (.ord 12 0 .nil (.ord 13 0 .nil .nil)))
def qbr:Ann:=(.alt (.ord 5 0 .nil (.ord 8 0 .nil qd)) (.ord 8 0 .nil (.ord 5 0 .nil qd)))
def qca:Ann:=(.alt (.ord 5 0 .nil (.alt (.ord 8 0 .nil (.ord 10 0 .nil qd)) (.ord 10 0 .nil (.ord 8 0 .nil qd)))) (.alt (.ord 8 0 .nil (.alt (.ord 5 0 .nil (.ord 10 0 .nil qd)) (.ord 10 0 .nil (.ord 5 0 .nil qd)))) (.ord 10 0 .nil qbr)))
def qbs:Ann:=(.alt (.ord 5 0 .nil (.ord 10 0 .nil qd)) (.ord 10 0 .nil (.ord 5 0 .nil qd)))
def qaS:Ann:=(.alt (.ord 5 0 .nil (.ord 7 0 .nil (.ord 8 0 .nil qd))) (.ord 7 0 .nil qbr))
def qaN:Ann:=(.alt (.ord 4 0 .nil qbr) (.ord 8 0 .nil (.ord 4 0 .nil (.ord 5 0 .nil qd))))
def qaR:Ann:=(.alt (.ord 2 0 .nil qbr) (.ord 8 0 .nil (.ord 2 0 .nil (.ord 5 0 .nil qd))))
def qcj:Ann:=(.alt (.ord 2 0 .nil (.ord 4 0 .nil (.ord 5 0 .nil qd))) (.ord 4 0 .nil (.ord 2 0 .nil (.ord 5 0 .nil qd))))
def qdl:Ann:=(.alt (.ord 5 0 .nil (.ord 7 1663 .nil (.alt (.ord 8 0 .nil (.ord 10 0 .nil qd)) (.ord 10 0 .nil (.ord 8 0 .nil qd))))) (.alt (.ord 7 0 .nil qca) (.ord 10 0 .nil qaS)))
def qdb:Ann:=(.alt (.ord 4 0 .nil qca) (.alt (.ord 8 0 .nil (.alt (.ord 4 0 .nil qbs) (.ord 10 0 .nil (.ord 4 0 .nil (.ord 5 0 .nil qd))))) (.ord 10 0 .nil qaN)))
def qc9:Ann:=(.alt (.ord 2 0 .nil qca) (.alt (.ord 8 0 .nil (.alt (.ord 2 0 .nil qbs) (.ord 10 0 .nil (.ord 2 0 .nil (.ord 5 0 .nil qd))))) (.ord 10 0 .nil qaR)))
def qdV:Ann:=(.two .nil (.two (.join ⟨[],[(5,Zt10),(6,Zt10)],[(0,none),(1,none)]⟩ (.any 13003 1300 (.ord 0 0 .nil (.ord 1 2009 .nil (.ord 3 0 .nil (.ord 6 0 .nil (.ord 9 0 .nil (.alt (.ord 2 0 .nil (.alt (.ord 4 0 .nil qdl) (.alt (.ord 7 0 .nil qdb) (.ord 10 0 .nil (.alt (.ord 4 0 .nil qaS) (.ord 7 0 .nil qaN)))))) (.alt (.ord 4 0 .nil (.alt (.ord 2 0 .nil qdl) (.alt (.ord 7 0 .nil qc9) (.ord 10 0 .nil (.alt (.ord 2 0 .nil qaS) (.ord 7 0 .nil qaR)))))) (.alt (.ord 7 0 .nil (.alt (.ord 2 0 .nil qdb) (.alt (.ord 4 0 .nil qc9) (.alt (.ord 8 0 .nil (.alt (.ord 2 0 .nil (.alt (.ord 4 0 .nil qbs) (.ord 10 0 .nil (.ord 4 0 .nil (.ord 5 0 .nil qd))))) (.alt (.ord 4 0 .nil (.alt (.ord 2 0 .nil qbs) (.ord 10 0 .nil (.ord 2 0 .nil (.ord 5 0 .nil qd))))) (.ord 10 0 .nil qcj)))) (.ord 10 0 .nil (.alt (.ord 2 0 .nil qaN) (.alt (.ord 4 0 .nil qaR) (.ord 8 0 .nil qcj)))))))) (.ord 10 0 .nil (.alt (.ord 2 0 .nil (.alt (.ord 4 0 .nil qaS) (.ord 7 0 .nil qaN))) (.alt (.ord 4 0 .nil (.alt (.ord 2 0 .nil qaS) (.ord 7 0 .nil qaR))) (.ord 7 0 .nil (.alt (.ord 2 0 .nil qaN) (.alt (.ord 4 0 .nil qaR) (.ord 8 0 .nil qcj))))))))))))))))) (.two (.two .nil (.joinE ⟨[],[],[]⟩ (.two (.loop ⟨[5,6,21],[(22,Zt12)],[]⟩ .nil) .nil))) .nil)))
noncomputable def ref3Better_con:Con:=⟨[Zt4,Zt4],true,[],.bool,fun x=>qcI x.1 x.2.1,none⟩
noncomputable def qdU:Env:=[]
theorem qgd (x:DL ref3Better_con.ps):ref3Better_con.φ x=denF Try.prog qdU qdV Try.f58 ref3Better_con.ps ref3Better_con.one ref3Better_con.res ref3Better_con.ρ x:=by kernel_rfl
theorem qg6:ConOK Try.prog 58 ref3Better_con :=
  qz (env:=qdU) ((EnvOK.nil _)) mixed Try.func58 ref3Better_con qdV (by kernel_rfl) (fun h=>by first | rfl | cases h) (fun g hg=>by cases hg) qgd
def qe2:Ann:=(.two .nil (.two .nil (.two (.two .nil (.join ⟨[1,5],[],[(0,some (.arr 56 Zt4))]⟩ (.two (.loop ⟨[1,5,18],[(19,Zt12)],[(0,some (.arr 56 Zt4))]⟩ (.two .nil (.two .nil (.two (.join ⟨[1,5,18,19],[],[(0,some (.arr 56 Zt4))]⟩ (.two (.two .nil (.two .nil (.two .nil (.join ⟨[1,5,18,19],[],[(0,some (.arr 56 Zt4))]⟩ (.two (.loop ⟨[1,5,6,18,19,27,28],[(29,Zt12)],[(0,some (.arr 56 Zt4))]⟩ (.two .nil (.two .nil (.two (.two (.two .nil (.two (.two .nil (.join ⟨[1,5,6,8,18,19,27,28,29],[],[(0,some (.arr 56 Zt4))]⟩ (.two (.tail 10 .nil) .nil))) (.two .nil (.join ⟨[1,5,6,18,19,27,28,29],[],[(0,some (.arr 56 Zt4))]⟩ (.two (.tail 11 .nil) .nil))))) .nil) .nil)))) .nil))))) .nil)) .nil)))) .nil))) (.two (.two .nil (.join ⟨[5],[],[(0,some (.arr 56 Zt4))]⟩ (.two (.loop ⟨[1,5,65],[(66,Zt12)],[(0,some (.arr 56 Zt4))]⟩ (.two .nil (.two .nil (.two (.join ⟨[1,5,65,66],[],[(0,some (.arr 56 Zt4))]⟩ (.two (.two .nil (.two .nil (.two .nil (.join ⟨[1,5,65,66],[],[(0,some (.arr 56 Zt4))]⟩ (.two (.loop ⟨[1,5,9,10,65,66,73,74],[(75,Zt12)],[(0,some (.arr 56 Zt4))]⟩ (.two .nil (.two .nil (.two (.two (.two .nil (.two .nil (.two (.two .nil (.join ⟨[1,5,9,10,65,66,73,74,75],[],[(0,some (.arr 56 Zt4))]⟩ (.two (.two (.tail 13 .nil) (.two (.tail 16 .nil) (.tail 10 .nil))) (.two .nil (.join ⟨[1,5,9,10,65,66,73,74,75],[],[(0,some (.arr 56 Zt4))]⟩ (.two (.two (.tail 13 .nil) (.two (.tail 17 .nil) (.two (.tail 11 .nil) (.tail 7 .nil)))) .nil)))))) .nil))) .nil) .nil)))) .nil))))) .nil)) .nil)))) .nil))) (.two (.two .nil (.join ⟨[5],[],[(0,some (.arr 56 Zt4))]⟩ (.two (.loop ⟨[5,178],[(179,Zt12)],[(0,some (.arr 56 Zt4))]⟩ (.two .nil (.two .nil (.two (.join ⟨[5,178,179],[],[(0,some (.arr 56 Zt4))]⟩ (.two (.two .nil (.two .nil (.two .nil (.join ⟨[5,178,179],[],[(0,some (.arr 56 Zt4))]⟩ (.two (.loop ⟨[5,13,178,179,191],[(192,Zt12)],[(0,some (.arr 56 Zt4))]⟩ (.two .nil (.two .nil (.two (.two (.two .nil (.two (.two .nil (.join ⟨[5,13,14,178,179,191,192],[],[(0,some (.arr 56 Zt4))]⟩ .nil)) (.two .nil (.join ⟨[5,13,178,179,191,192],[],[(0,some (.arr 56 Zt4))]⟩ .nil)))) .nil) .nil)))) .nil))))) .nil)) .nil)))) .nil))) .nil)))))
noncomputable def ref3Rows_con:Con:=⟨[Zt12,Zt6],true,[],Zt2,fun x=>qfk x.1 x.2.1,none⟩
noncomputable def qfa:Env:=(58,.con ref3Better_con)::[]
theorem qhH (x:DL ref3Rows_con.ps):ref3Rows_con.φ x=denF Try.prog qfa qe2 Try.f20 ref3Rows_con.ps ref3Rows_con.one ref3Rows_con.res ref3Rows_con.ρ x:=by kernel_rfl
theorem qim:ConOK Try.prog 20 ref3Rows_con :=
  qz (env:=qfa) ((EnvOK.cons (EnvOK.nil _) qg6)) mixed Try.func20 ref3Rows_con qe2 (by kernel_rfl) (fun h=>by first | rfl | cases h) (fun g hg=>by cases hg) qhH
def qdZ:Ann:=(.two .nil (.two .nil (.two .nil (.two (.two .nil (.join ⟨[4,5],[(13,Zt12),(14,Zt12)],[]⟩ (.two (.loop ⟨[2,3,4,5,39,40],[(13,Zt12),(14,Zt12),(41,Zt12)],[]⟩ (.two .nil (.two .nil (.two (.two (.two .nil (.two (.two .nil (.join ⟨[2,3,4,5,16,39,40,41],[(13,Zt12),(14,Zt12)],[]⟩ .nil)) (.two .nil (.join ⟨[2,3,4,5,39,40,41],[(13,Zt12),(14,Zt12)],[]⟩ .nil)))) .nil) .nil)))) .nil))) .nil))))
noncomputable def law3Direct_con:Con:=⟨[Zt12,Zt6,Zt12,Zt12,Zt12,Zt12],true,[],.bool,fun x=>qb8 x.1 x.2.1 x.2.2.1 x.2.2.2.1 x.2.2.2.2.1 x.2.2.2.2.2.1,none⟩
noncomputable def qd0:Env:=[]
theorem qgg (x:DL law3Direct_con.ps):law3Direct_con.φ x=denF Try.prog qd0 qdZ Try.f21 law3Direct_con.ps law3Direct_con.one law3Direct_con.res law3Direct_con.ρ x:=by kernel_rfl
theorem qhh:ConOK Try.prog 21 law3Direct_con :=
  qz (env:=qd0) ((EnvOK.nil _)) mixed Try.func21 law3Direct_con qdZ (by kernel_rfl) (fun h=>by first | rfl | cases h) (fun g hg=>by cases hg) qgg
def qcp:Ann:=(.two .nil (.two .nil (.two (.two (.two (.two .nil (.two (.two (.two .nil (.two (.two .nil (.joinE ⟨[],[],[]⟩ (.two (.loop ⟨[0,1,7],[(8,Zt12)],[]⟩ .nil) .nil))) .nil)) .nil) .nil)) .nil) .nil) (.two (.two .nil (.joinE ⟨[0,1],[],[]⟩ (.two (.loop ⟨[0,1,26,27],[(28,Zt12)],[]⟩ .nil) .nil))) (.two .nil (.two (.two .nil (.join ⟨[],[(9,Zt10)],[]⟩ (.two (.loop ⟨[1,82,83],[(9,Zt10),(84,Zt12)],[]⟩ (.two .nil (.two .nil (.two (.join ⟨[1,82,83,84],[(9,Zt10)],[(0,none)]⟩ (.two (.two .nil (.two .nil (.two (.two .nil (.join ⟨[1,9,10,11,82,83,84],[(12,Zt12)],[]⟩ (.two (.loop ⟨[1,9,10,11,82,83,84],[(12,Zt12),(13,Zt12)],[]⟩ .nil) .nil))) (.two .nil (.two .nil (.two (.two .nil (.join ⟨[1,9,82,83,84],[(15,Zt12)],[]⟩ .nil)) .nil)))))) .nil)) .nil)))) .nil))) .nil))))))
noncomputable def standingPrizes_con:Con:=⟨[Zt3,Zt11],false,[Zt10,Zt12],(.st Zt10 Zt9),fun x=>qaH x.1 x.2.1,none⟩
noncomputable def qco:Env:=(86,.body Try.f86)::(81,.body Try.f81)::(48,.body Try.f48)::[]
theorem qev (x:DL standingPrizes_con.ps):standingPrizes_con.φ x=denF Try.prog qco qcp Try.f59 standingPrizes_con.ps standingPrizes_con.one standingPrizes_con.res standingPrizes_con.ρ x:=by kernel_rfl
theorem qeX:ConOK Try.prog 59 standingPrizes_con :=
  qz (env:=qco) ((EnvOK.body (EnvOK.body (EnvOK.body (EnvOK.nil _) Try.func48) Try.func81) Try.func86)) mixed Try.func59 standingPrizes_con qcp (by kernel_rfl) (fun h=>by first | rfl | cases h) (fun g hg=>by cases hg) qev
def qdo:Ann:=(.two .nil (.two .nil (.two (.two .nil (.joinE ⟨[0,1,5,6],[],[]⟩ (.two (.loop ⟨[0,1,5,6,21,22],[(23,Zt12)],[]⟩ .nil) .nil))) (.two .nil (.two (.two .nil (.joinE ⟨[],[],[]⟩ (.two (.loop ⟨[1,5,50,51],[(52,Zt12)],[]⟩ (.two .nil (.two .nil (.two (.joinE ⟨[1,5,50,51,52],[],[]⟩ (.two (.two .nil (.two .nil (.two (.two .nil (.join ⟨[1,5,9,10,50,51,52],[(11,Zt12)],[]⟩ (.two (.loop ⟨[1,5,9,10,50,51,52,58],[(11,Zt12),(59,Zt12)],[]⟩ (.two .nil (.two .nil (.two (.two (.two .nil (.two .nil (.join ⟨[1,5,9,10,50,51,52,58,59],[(11,Zt12)],[]⟩ .nil))) .nil) .nil)))) .nil))) .nil))) .nil)) .nil)))) .nil))) .nil)))))
noncomputable def law3Divided_con:Con:=⟨[Zt3,Zt11],true,[],.bool,fun x=>qcd x.1 x.2.1,none⟩
noncomputable def qdu:Env:=(59,.con standingPrizes_con)::[]
theorem qfB (x:DL law3Divided_con.ps):law3Divided_con.φ x=denF Try.prog qdu qdo Try.f22 law3Divided_con.ps law3Divided_con.one law3Divided_con.res law3Divided_con.ρ x:=by kernel_rfl
theorem qgf:ConOK Try.prog 22 law3Divided_con :=
  qz (env:=qdu) ((EnvOK.cons (EnvOK.nil _) qeX)) mixed Try.func22 law3Divided_con qdo (by kernel_rfl) (fun h=>by first | rfl | cases h) (fun g hg=>by cases hg) qfB
def qbW:Ann:=(.two .nil (.two .nil (.two .nil (.two .nil (.two .nil (.two .nil (.two .nil (.two .nil (.two (.two .nil (.join ⟨[0,1,2,3,4,11,12,13,14,15,16,17,18],[(19,Zt12)],[]⟩ .nil)) (.two (.two .nil (.join ⟨[0,1,2,3,4,11,12,13,14,15,16,17,18],[(19,Zt12)],[]⟩ (.two (.loop ⟨[0,1,2,3,4,11,12,13,14,15,16,17,18,70,71],[(19,Zt12),(72,Zt12)],[]⟩ (.two .nil (.two .nil (.two (.two (.two .nil (.two (.two .nil (.join ⟨[0,1,2,3,4,11,12,13,14,15,16,17,18,70,71,72],[(19,Zt12)],[]⟩ (.two .nil (.two .nil (.join ⟨[0,1,2,3,4,11,12,13,14,15,16,17,18,70,71,72],[(19,Zt12)],[]⟩ (.two .nil (.two .nil (.join ⟨[0,1,2,3,4,11,12,13,14,15,16,17,18,70,71,72],[(19,Zt12)],[]⟩ .nil)))))))) .nil)) .nil) .nil)))) .nil))) (.two .nil (.two .nil (.two .nil (.two (.two .nil (.joinE ⟨[0,1,2,3,4,11,12,13,14,17,18,22],[],[]⟩ .nil)) (.two .nil (.two (.two .nil (.joinE ⟨[0,1,2,3,4,11,17,18],[],[]⟩ (.two (.loop ⟨[0,1,2,3,4,11,13,17,18,22,196,197],[(198,Zt12)],[]⟩ .nil) .nil))) .nil))))))))))))))))
noncomputable def law3StandingSays_con:Con:=⟨[Zt12,Zt6,Zt11,Zt12,Zt12],true,[],.bool,fun x=>qbT x.1 x.2.1 x.2.2.1 x.2.2.2.1 x.2.2.2.2.1,none⟩
noncomputable def qbV:Env:=(22,.con law3Divided_con)::(21,.con law3Direct_con)::(20,.con ref3Rows_con)::(19,.con standingCheck_con)::(18,.con standingDirect_con)::(17,.con standingBreaks_i_con)::(16,.con standingPoints_i_con)::(15,.con standingTable_con)::(14,.con law3Tables_con)::[]
theorem qdR (x:DL law3StandingSays_con.ps):law3StandingSays_con.φ x=denF Try.prog qbV qbW Try.f4 law3StandingSays_con.ps law3StandingSays_con.one law3StandingSays_con.res law3StandingSays_con.ρ x:=by kernel_rfl
theorem law3StandingSays_ok:ConOK Try.prog 4 law3StandingSays_con :=
  qz (env:=qbV) ((EnvOK.cons (EnvOK.cons (EnvOK.cons (EnvOK.cons (EnvOK.cons (EnvOK.cons (EnvOK.cons (EnvOK.cons (EnvOK.cons (EnvOK.nil _) qg1) qdc) qea) qd8) qeZ) qaB) qim) qhh) qgf)) mixed Try.func4 law3StandingSays_con qbW (by kernel_rfl) (fun h=>by first | rfl | cases h) (fun g hg=>by cases hg) qdR
end Go.Proofs.Ytcifaoaepbidoaa
