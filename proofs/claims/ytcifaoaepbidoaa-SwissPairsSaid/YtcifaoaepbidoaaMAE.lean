/- Several texts in one: Base, CoreC, SwissPairsC. -/
import Derived.Test.YtcifaoaepbidoaaProg
import Derived.Test.YtcifaoaepbidoaaMAD
import Derived.Test.YtcifaoaepbidoaaMAA
import Derived.Shelf.SlSortCmp.NoneTotal
namespace Go.Proofs.Ytcifaoaepbidoaa
theorem mixed:Try.prog.follows .mixedOrders=true:=by kernel_rfl
end Go.Proofs.Ytcifaoaepbidoaa
namespace Go.Proofs.Ytcifaoaepbidoaa
open Go.Den
set_option linter.unusedVariables false
set_option maxRecDepth 100000
def qbj:Ann := .nil
noncomputable def slicesClone_int_con:Con:=⟨[(.sl Zt11)],true,[],Zt10,fun x=>qaz x.1,none⟩
noncomputable def qa9:Env:=[]
theorem qcU (x:DL slicesClone_int_con.ps):slicesClone_int_con.φ x=denF Try.prog qa9 qbj Try.f80 slicesClone_int_con.ps slicesClone_int_con.one slicesClone_int_con.res slicesClone_int_con.ρ x:=by kernel_rfl
theorem qdr:ConOK Try.prog 80 slicesClone_int_con :=
  ql (env:=qa9) ((EnvOK.nil _)) mixed Try.func80 slicesClone_int_con qbj (by kernel_rfl) (fun h=>by first | rfl | cases h) (fun g hg=>by cases hg) qcU
def qd4:Ann:=(.two .nil (.two .nil (.two (.two .nil (.join ⟨[],[(7,Zt11)],[]⟩ (.two (.loop ⟨[2,14,15],[(7,Zt11),(16,Zt11)],[]⟩ (.two .nil (.two .nil (.two (.two (.two .nil (.two .nil (.join ⟨[2,14,15,16],[(7,Zt11)],[]⟩ .nil))) .nil) .nil)))) .nil))) .nil)))
noncomputable def swissMet_con:Con:=⟨[Zt2,Zt11,Zt11],true,[],Zt11,fun x=>qa1 x.1 x.2.1 x.2.2.1,none⟩
noncomputable def qd9:Env:=[]
theorem qf8 (x:DL swissMet_con.ps):swissMet_con.φ x=denF Try.prog qd9 qd4 Try.f50 swissMet_con.ps swissMet_con.one swissMet_con.res swissMet_con.ρ x:=by kernel_rfl
theorem qe3:ConOK Try.prog 50 swissMet_con :=
  ql (env:=qd9) ((EnvOK.nil _)) mixed Try.func50 swissMet_con qd4 (by kernel_rfl) (fun h=>by first | rfl | cases h) (fun g hg=>by cases hg) qf8
def qcM:Ann:=(.two .nil (.two .nil (.two (.two .nil (.joinE ⟨[1],[],[]⟩ (.two (.loop ⟨[1,15,16],[(17,Zt11)],[]⟩ (.two .nil (.two .nil (.two (.two (.two .nil (.two (.two .nil (.two .nil (.two .nil (.two .nil (.two (.two (.two .nil (.two (.two (.two .nil (.two (.two .nil (.joinE ⟨[],[],[]⟩ (.two (.loop ⟨[0,1,7],[(8,Zt11)],[]⟩ .nil) .nil))) .nil)) .nil) .nil)) .nil) .nil))))) .nil)) .nil) .nil)))) .nil))) (.two (.two .nil (.joinE ⟨[],[],[]⟩ (.two (.loop ⟨[1,53],[(54,Zt11)],[]⟩ (.two .nil (.two .nil (.two (.joinE ⟨[1,53,54],[],[]⟩ (.two (.two .nil (.two .nil (.joinE ⟨[1,53,54],[],[]⟩ (.two (.loop ⟨[1,5,53,54,57],[(58,Zt11)],[]⟩ .nil) .nil)))) .nil)) .nil)))) .nil))) .nil))))
noncomputable def swissCheck_con:Con:=⟨[Zt2],true,[],Zt11,fun x=>qa7 x.1,none⟩
noncomputable def qcO:Env:=(50,.con swissMet_con)::(49,.body Try.f49)::(81,.body Try.f81)::(48,.body Try.f48)::[]
theorem qe8 (x:DL swissCheck_con.ps):swissCheck_con.φ x=denF Try.prog qcO qcM Try.f12 swissCheck_con.ps swissCheck_con.one swissCheck_con.res swissCheck_con.ρ x:=by kernel_rfl
theorem qbX:ConOK Try.prog 12 swissCheck_con :=
  ql (env:=qcO) ((EnvOK.cons (EnvOK.body (EnvOK.body (EnvOK.body (EnvOK.nil _) Try.func48) Try.func81) Try.func49) qe3)) mixed Try.func12 swissCheck_con qcM (by kernel_rfl) (fun h=>by first | rfl | cases h) (fun g hg=>by cases hg) qe8
def qbC:Ann := .nil
noncomputable def mathbitsMul64_con:Con:=⟨[Zt12,Zt12],false,[Zt12,Zt12],(.st Zt12 (.st Zt12 .nil)),fun x=>qbh x.1 x.2.1,some fun x=>qaB x.1 x.2.1⟩
noncomputable def qbF:Env:=[]
theorem qdN (x:DL mathbitsMul64_con.ps):mathbitsMul64_con.φ x=denF Try.prog qbF qbC Try.f114 mathbitsMul64_con.ps mathbitsMul64_con.one mathbitsMul64_con.res mathbitsMul64_con.ρ x:=by kernel_rfl
theorem qed:ConOK Try.prog 114 mathbitsMul64_con :=
  ql (env:=qbF) ((EnvOK.nil _)) mixed Try.func114 mathbitsMul64_con qbC (by kernel_rfl) (fun h=>by first | rfl | cases h) (fun g hg x=>by
    cases hg
    exact qee _ _) qdN
def qcs:Ann := .nil
noncomputable def mathbitsMul_con:Con:=⟨[Zt12,Zt12],false,[Zt12,Zt12],(.st Zt12 (.st Zt12 .nil)),fun x=>qb0 x.1 x.2.1,some fun x=>qh x.1 x.2.1⟩
noncomputable def qci:Env:=(114,.con mathbitsMul64_con)::[]
theorem qeS (x:DL mathbitsMul_con.ps):mathbitsMul_con.φ x=denF Try.prog qci qcs Try.f78 mathbitsMul_con.ps mathbitsMul_con.one mathbitsMul_con.res mathbitsMul_con.ρ x:=by kernel_rfl
theorem qe9:ConOK Try.prog 78 mathbitsMul_con :=
  ql (env:=qci) ((EnvOK.cons (EnvOK.nil _) qed)) mixed Try.func78 mathbitsMul_con qcs (by kernel_rfl) (fun h=>by first | rfl | cases h) (fun g hg x=>by
    cases hg
    exact qfb _ _) qeS
def qaX:Ann:=(.two .nil (.two .nil (.two .nil (.two .nil (.two .nil (.two .nil (.two (.join ⟨[7],[],[(0,some (.arr 3 Zt11))]⟩ (.two (.loop ⟨[7],[(8,Zt11)],[(0,some (.arr 3 Zt11))]⟩ (.two .nil (.two (.join ⟨[7],[(8,Zt11)],[(0,some (.arr 3 Zt11))]⟩ (.any 823 72 (.ord 0 0 .nil (.ord 1 0 .nil (.ord 2 0 .nil (.ord 4 0 .nil (.ord 5 0 .nil (.alt (.ord 3 0 (.vw .nil) (.ord 6 0 (.vw .nil) (.ord 7 0 .nil (.ord 8 0 .nil (.ord 9 0 .nil .nil))))) (.ord 6 0 (.vw .nil) (.ord 3 0 (.vw .nil) (.ord 7 0 .nil (.ord 8 0 .nil (.ord 9 0 .nil .nil))))))))))))) .nil))) .nil)) .nil)))))))
noncomputable def slicesRepeat_int_con:Con:=⟨[(.sl Zt11),Zt11],true,[],Zt10,fun x=>qap x.1 x.2.1,none⟩
noncomputable def qaY:Env:=(78,.con mathbitsMul_con)::[]
theorem qcK (x:DL slicesRepeat_int_con.ps):slicesRepeat_int_con.φ x=denF Try.prog qaY qaX Try.f44 slicesRepeat_int_con.ps slicesRepeat_int_con.one slicesRepeat_int_con.res slicesRepeat_int_con.ρ x:=by kernel_rfl
theorem qcR:ConOK Try.prog 44 slicesRepeat_int_con :=
  ql (env:=qaY) ((EnvOK.cons (EnvOK.nil _) qe9)) mixed Try.func44 slicesRepeat_int_con qaX (by kernel_rfl) (fun h=>by first | rfl | cases h) (fun g hg=>by cases hg) qcK
def qbl:Ann:=(.two .nil (.two (.two .nil (.joinE ⟨[],[],[]⟩ (.two (.loop ⟨[0,1,7],[(8,Zt11)],[]⟩ .nil) .nil))) .nil))
noncomputable def slicesIndex_int_con:Con:=⟨[(.sl Zt11),Zt11],true,[],Zt11,fun x=>qaA x.1 x.2.1,none⟩
noncomputable def qa8:Env:=[]
theorem qc2 (x:DL slicesIndex_int_con.ps):slicesIndex_int_con.φ x=denF Try.prog qa8 qbl Try.f79 slicesIndex_int_con.ps slicesIndex_int_con.one slicesIndex_int_con.res slicesIndex_int_con.ρ x:=by kernel_rfl
theorem qdy:ConOK Try.prog 79 slicesIndex_int_con :=
  ql (env:=qa8) ((EnvOK.nil _)) mixed Try.func79 slicesIndex_int_con qbl (by kernel_rfl) (fun h=>by first | rfl | cases h) (fun g hg=>by cases hg) qc2
def qdl:Ann := .nil
noncomputable def swissCost_con:Con:=⟨[Zt2,Zt11,Zt11],true,[],Zt11,fun x=>qbd x.1 x.2.1 x.2.2.1,none⟩
noncomputable def qdg:Env:=[]
theorem qfL (x:DL swissCost_con.ps):swissCost_con.φ x=denF Try.prog qdg qdl Try.f47 swissCost_con.ps swissCost_con.one swissCost_con.res swissCost_con.ρ x:=by kernel_rfl
theorem qd3:ConOK Try.prog 47 swissCost_con :=
  ql (env:=qdg) ((EnvOK.nil _)) mixed Try.func47 swissCost_con qdl (by kernel_rfl) (fun h=>by first | rfl | cases h) (fun g hg=>by cases hg) qfL
def qaS:Ann:=(.two .nil (.two (.two .nil (.two (.two (.two .nil (.join ⟨[],[],[(0,some (.box (.st Zt2 (.st Zt10 (.st (.onl 3 Zt11) Zt9))))),(1,none),(2,none)]⟩ .nil)) .nil) .nil)) (.two (.two .nil (.join ⟨[0,1,2,6],[],[(0,some (.box (.st Zt2 (.st Zt10 (.st (.onl 3 Zt11) Zt9))))),(1,none),(2,none)]⟩ (.two (.loop ⟨[0,1,2,6],[(7,Zt11)],[(0,some (.box (.st Zt2 (.st Zt10 (.st (.onl 3 Zt11) Zt9))))),(1,none),(2,none)]⟩ (.two .nil (.two (.two (.two .nil (.join ⟨[0,1,2,6,7],[],[(0,some (.box (.st Zt2 (.st Zt10 (.st (.onl 3 Zt11) Zt9))))),(3,none),(4,none)]⟩ (.two (.two (.any 24575 0 (.ord 0 0 .nil (.ord 1 0 .nil (.ord 2 0 .nil (.ord 3 4087 .nil (.ord 4 0 .nil (.ord 5 0 .nil (.ord 6 0 .nil (.ord 7 0 .nil (.ord 8 3839 .nil (.ord 9 0 .nil (.ord 10 0 .nil (.ord 11 0 .nil (.ord 12 0 .nil (.ord 13 0 .nil (.ord 14 0 .nil (.ord 15 0 .nil .nil))))))))))))))))) (.two .nil (.any 6143 0 (.ord 0 0 .nil (.ord 1 0 .nil (.ord 2 0 .nil (.ord 3 1015 .nil (.ord 4 0 .nil (.ord 5 0 .nil (.ord 6 0 .nil (.ord 7 0 .nil (.ord 8 767 .nil (.ord 9 0 .nil (.ord 10 0 .nil (.ord 11 0 .nil (.ord 12 0 .nil (.ord 13 0 .nil .nil))))))))))))))))) .nil))) .nil) .nil))) .nil))) (.two .nil (.join ⟨[],[],[(0,some (.box (.st Zt2 (.st Zt10 (.st (.onl 3 Zt11) Zt9))))),(3,none),(4,none)]⟩ (.two (.two (.tail 11 .nil) (.two (.tail 21 .nil) .nil)) .nil))))))
noncomputable def qaR:Ioc:=⟨(.st Zt2 (.st Zt10 (.st (.onl 3 Zt11) Zt9))),[.bool,Zt11],false,[],.nil,fun x=>qaG x.1 x.2.1 x.2.2.1⟩
noncomputable def qaP (φ:DL ((.st Zt2 (.st Zt10 (.st (.onl 3 Zt11) Zt9)))::[.bool,Zt11])→Option (D (.st (.st Zt2 (.st Zt10 (.st (.onl 3 Zt11) Zt9))) .nil))):Env:=(45,.io ⟨(.st Zt2 (.st Zt10 (.st (.onl 3 Zt11) Zt9))),[.bool,Zt11],false,[],.nil,φ⟩)::(47,.con swissCost_con)::(50,.con swissMet_con)::(80,.con slicesClone_int_con)::(79,.con slicesIndex_int_con)::[]
theorem qct (φ:DL ((.st Zt2 (.st Zt10 (.st (.onl 3 Zt11) Zt9)))::[.bool,Zt11])→Option (D (.st (.st Zt2 (.st Zt10 (.st (.onl 3 Zt11) Zt9))) .nil))) (x:DL ((.st Zt2 (.st Zt10 (.st (.onl 3 Zt11) Zt9)))::[.bool,Zt11])):qk φ x=denIO Try.prog (qaP φ) qaS Try.f45 (.st Zt2 (.st Zt10 (.st (.onl 3 Zt11) Zt9))) [.bool,Zt11] false [] .nil x:=by kernel_rfl
theorem qcL:IocOK Try.prog 45 qaR :=
  ioc_fix (bx:=(.st Zt2 (.st Zt10 (.st (.onl 3 Zt11) Zt9)))) (ps:=[.bool,Zt11]) (ρ := .nil) (G:=qk) (by kernel_rfl) (fun h=>by first | rfl | cases h) fun φ hφ =>
  qh0 (env:=qaP φ) ((EnvOK.inout (EnvOK.cons (EnvOK.cons (EnvOK.cons (EnvOK.cons (EnvOK.nil _) qdy) qdr) qe3) qd3) hφ)) mixed Try.func45 ⟨(.st Zt2 (.st Zt10 (.st (.onl 3 Zt11) Zt9))),[.bool,Zt11],false,[],.nil,qk φ⟩ qaS (by kernel_rfl) (fun h=>by first | rfl | cases h) (qct φ)
def qdn:Ann:=(.two .nil (.two .nil (.two .nil (.two .nil (.two .nil (.two .nil (.two .nil (.two (.two (.mbs 4 .nil .nil) (.sel 4 3 (.join ⟨[7],[(8,Zt5),(9,Zt11)],[]⟩ (.two (.loop ⟨[0,7,38,39],[(8,Zt5),(9,Zt11),(40,Zt11)],[]⟩ (.two .nil (.two .nil (.two (.two (.two .nil (.two (.two .nil (.join ⟨[0,7,38,39,40],[(8,Zt5),(9,Zt11)],[(5,none)]⟩ (.two .nil (.two .nil (.join ⟨[0,7,9,38,39,40],[(8,Zt5)],[(5,none)]⟩ (.two .nil (.two .nil (.join ⟨[0,7,9,38,39,40],[(8,Zt5)],[(5,none)]⟩ .nil)))))))) .nil)) .nil) .nil)))) .nil)) (.join ⟨[7],[(8,Zt6),(9,Zt11)],[]⟩ (.two (.loop ⟨[0,7,38,39],[(8,Zt6),(9,Zt11),(40,Zt11)],[]⟩ .nil) .nil)))) .nil))))))))
noncomputable def swissPair_con:Con:=⟨[Zt2],false,[Zt6,Zt11,Zt11,Zt11],(.st Zt6 (.st Zt11 Zt8)),fun x=>qb7 x.1,none⟩
noncomputable def qdx:Env:=(45,.io qaR)::(44,.con slicesRepeat_int_con)::(12,.con swissCheck_con)::[]
theorem qfW (x:DL swissPair_con.ps):swissPair_con.φ x=denF Try.prog qdx qdn Try.f10 swissPair_con.ps swissPair_con.one swissPair_con.res swissPair_con.ρ x:=by kernel_rfl
theorem qd6:ConOK Try.prog 10 swissPair_con :=
  ql (env:=qdx) ((EnvOK.inout (EnvOK.cons (EnvOK.cons (EnvOK.nil _) qbX) qcR) qcL)) mixed Try.func10 swissPair_con qdn (by kernel_rfl) (fun h=>by first | rfl | cases h) (fun g hg=>by cases hg) qfW
def qck:Ann := .nil
noncomputable def law3Swisses_con:Con:=⟨[],true,[],.bool,fun x=>qbU,none⟩
noncomputable def qcj:Env:=(10,.con swissPair_con)::[]
theorem qeW (x:DL law3Swisses_con.ps):law3Swisses_con.φ x=denF Try.prog qcj qck Try.f8 law3Swisses_con.ps law3Swisses_con.one law3Swisses_con.res law3Swisses_con.ρ x:=by kernel_rfl
theorem qfd:ConOK Try.prog 8 law3Swisses_con :=
  ql (env:=qcj) ((EnvOK.cons (EnvOK.nil _) qd6)) mixed Try.func8 law3Swisses_con qck (by kernel_rfl) (fun h=>by first | rfl | cases h) (fun g hg=>by cases hg) qeW
def qbr:Ann:=(.two .nil (.two .nil (.two .nil (.two (.two .nil (.joinE ⟨[0,3],[],[(0,some (.arr 3 Zt11))]⟩ (.two (.loop ⟨[0,3,19,20],[(21,Zt11)],[(0,some (.arr 3 Zt11))]⟩ (.two .nil (.two .nil (.two (.joinE ⟨[0,3,19,20,21],[],[(0,some (.arr 3 Zt11))]⟩ (.two (.two .nil (.two .nil (.two .nil (.two .nil (.joinE ⟨[0,3,19,20,21],[],[(0,some (.arr 3 Zt11))]⟩ (.two (.loop ⟨[0,3,4,19,20,21,49,50],[(51,Zt11)],[(0,some (.arr 3 Zt11))]⟩ .nil) .nil)))))) .nil)) .nil)))) .nil))) (.two (.two .nil (.joinE ⟨[],[],[]⟩ (.two (.loop ⟨[3,80],[(81,Zt11)],[]⟩ (.two .nil (.two .nil (.two (.joinE ⟨[3,80,81],[],[]⟩ (.two (.two .nil (.two .nil (.joinE ⟨[3,80,81],[],[]⟩ (.two (.loop ⟨[3,8,80,81,84],[(85,Zt11)],[]⟩ .nil) .nil)))) .nil)) .nil)))) .nil))) .nil)))))
noncomputable def ref3SwissFault_con:Con:=⟨[Zt2],true,[],Zt11,fun x=>qaI x.1,none⟩
noncomputable def qbt:Env:=[]
theorem qdm (x:DL ref3SwissFault_con.ps):ref3SwissFault_con.φ x=denF Try.prog qbt qbr Try.f9 ref3SwissFault_con.ps ref3SwissFault_con.one ref3SwissFault_con.res ref3SwissFault_con.ρ x:=by kernel_rfl
theorem qdJ:ConOK Try.prog 9 ref3SwissFault_con :=
  ql (env:=qbt) ((EnvOK.nil _)) mixed Try.func9 ref3SwissFault_con qbr (by kernel_rfl) (fun h=>by first | rfl | cases h) (fun g hg=>by cases hg) qdm
def qdY:Ann := .nil
noncomputable def swissTwo_con:Con:=⟨[Zt2,Zt11,Zt11],true,[],.bool,fun x=>qdS x.1 x.2.1 x.2.2.1,some fun x=>qa3 x.1 x.2.1 x.2.2.1⟩
noncomputable def qdW:Env:=[]
theorem qgx (x:DL swissTwo_con.ps):swissTwo_con.φ x=denF Try.prog qdW qdY Try.f46 swissTwo_con.ps swissTwo_con.one swissTwo_con.res swissTwo_con.ρ x:=by kernel_rfl
theorem qgU:ConOK Try.prog 46 swissTwo_con :=
  ql (env:=qdW) ((EnvOK.nil _)) mixed Try.func46 swissTwo_con qdY (by kernel_rfl) (fun h=>by first | rfl | cases h) (fun g hg x=>by
    cases hg
    exact qhc _ _ _) qgx
def qco:Ann := .nil
noncomputable def swissCost_i_con:Con:=⟨[Zt2,Zt11,Zt11],false,[Zt11,Zt11],Zt8,fun x=>qc1 x.1 x.2.1 x.2.2.1,none⟩
noncomputable def qcv:Env:=(47,.con swissCost_con)::(46,.con swissTwo_con)::(12,.con swissCheck_con)::[]
theorem qeG (x:DL swissCost_i_con.ps):swissCost_i_con.φ x=denF Try.prog qcv qco Try.f11 swissCost_i_con.ps swissCost_i_con.one swissCost_i_con.res swissCost_i_con.ρ x:=by kernel_rfl
theorem qe7:ConOK Try.prog 11 swissCost_i_con :=
  ql (env:=qcv) ((EnvOK.cons (EnvOK.cons (EnvOK.cons (EnvOK.nil _) qbX) qgU) qd3)) mixed Try.func11 swissCost_i_con qco (by kernel_rfl) (fun h=>by first | rfl | cases h) (fun g hg=>by cases hg) qeG
def qb3:Ann:=(.two .nil (.two .nil (.two (.join ⟨[0,1,2,3,4],[(11,Zt11)],[]⟩ (.two (.loop ⟨[0,1,2,3,4],[(11,Zt11)],[]⟩ .nil) .nil)) (.two .nil (.two (.two .nil (.join ⟨[1,2,3,4,11],[(0,Zt4)],[(0,some (.arr 3 Zt11)),(1,none)]⟩ (.two (.loop ⟨[1,2,3,4,11],[(0,Zt4),(12,Zt11)],[(0,some (.arr 3 Zt11)),(1,none)]⟩ (.two .nil (.two (.join ⟨[1,2,3,4,11,12],[(0,Zt4)],[(0,some (.arr 3 Zt11)),(2,none)]⟩ (.two (.two .nil (.two (.two .nil (.join ⟨[0,1,2,3,4,11,12],[(13,.bool)],[]⟩ (.two (.loop ⟨[0,1,2,3,4,11,12,55,56],[(13,.bool),(57,Zt11)],[]⟩ .nil) .nil))) .nil)) .nil)) .nil))) .nil))) (.two (.two .nil (.join ⟨[],[(0,Zt4)],[(0,some (.arr 3 Zt11)),(2,none)]⟩ (.two (.two .nil (.two (.tail 17 .nil) .nil)) .nil))) .nil))))))
noncomputable def qb2:Goc:=⟨Zt10,Zt3,[Zt2,Zt11,.bool],[1,2,0,2,2],true,[],Zt4,fun x=>qcp x.1 x.2.1.1 x.2.2.1 x.2.2.2.1 x.2.2.2.2.1⟩
noncomputable def qb1 (φ:DL (Zt10::Zt3::[Zt2,Zt11,.bool])→Option (D Zt1)):Env:=(51,.go ⟨Zt10,Zt3,[Zt2,Zt11,.bool],[1,2,0,2,2],true,[],Zt4,φ⟩)::[]
theorem qef (φ:DL (Zt10::Zt3::[Zt2,Zt11,.bool])→Option (D Zt1)) (x:DL (Zt10::Zt3::[Zt2,Zt11,.bool])):qC φ x=denGO Try.prog (qb1 φ) qb3 Try.f51 Zt10 Zt3 [Zt2,Zt11,.bool] [1,2,0,2,2] true [] Zt4 x:=by kernel_rfl
theorem qeV:GocOK Try.prog 51 qb2 :=
  go_fix (tp:=Zt10) (mv:=Zt3) (ps:=[Zt2,Zt11,.bool]) (sg:=[1,2,0,2,2]) (ρ:=Zt4) (G:=qC) (by kernel_rfl) (by kernel_rfl) (fun h=>by first | rfl | cases h) fun φ hφ =>
  go_of_den (env:=qb1 φ) ((EnvOK.general (EnvOK.nil _) hφ)) mixed Try.func51 ⟨Zt10,Zt3,[Zt2,Zt11,.bool],[1,2,0,2,2],true,[],Zt4,qC φ⟩ qb3 (by kernel_rfl) (fun h=>by first | rfl | cases h) (qef φ)
def qbw:Ann:=(.two .nil (.two .nil (.two (.two .nil (.join ⟨[0,3],[],[(0,some (.arr 3 Zt11))]⟩ (.two (.loop ⟨[0,3,9],[(10,Zt11)],[(0,some (.arr 3 Zt11))]⟩ .nil) .nil))) .nil)))
noncomputable def ref3Pairings_i_con:Con:=⟨[Zt2],true,[],Zt4,fun x=>qaM x.1,none⟩
noncomputable def qbu:Env:=(51,.go qb2)::[]
theorem qdc (x:DL ref3Pairings_i_con.ps):ref3Pairings_i_con.φ x=denF Try.prog qbu qbw Try.f13 ref3Pairings_i_con.ps ref3Pairings_i_con.one ref3Pairings_i_con.res ref3Pairings_i_con.ρ x:=by kernel_rfl
theorem qdD:ConOK Try.prog 13 ref3Pairings_i_con :=
  ql (env:=qbu) ((EnvOK.general (EnvOK.nil _) qeV)) mixed Try.func13 ref3Pairings_i_con qbw (by kernel_rfl) (fun h=>by first | rfl | cases h) (fun g hg=>by cases hg) qdc
def qbq:Ann:=(.two .nil (.two .nil (.two .nil (.two .nil (.two .nil (.two .nil (.two .nil (.two (.two .nil (.joinE ⟨[0,8,9,10,11],[],[]⟩ .nil)) (.two .nil (.two .nil (.two .nil (.two (.two .nil (.join ⟨[0,8,9,10,11,17],[],[(1,some (.box Zt7))]⟩ (.two (.loop ⟨[0,8,9,10,11,17,146,147],[(148,Zt11)],[(1,some (.box Zt7))]⟩ (.two .nil (.two .nil (.two (.two (.two .nil (.two .nil (.join ⟨[0,8,9,10,11,17,146,147,148],[],[(1,some (.box Zt7))]⟩ .nil))) .nil) .nil)))) .nil))) (.two .nil (.two (.two .nil (.joinE ⟨[8,9,10,11,17],[(20,Zt11),(21,Zt11)],[]⟩ (.two (.loop ⟨[0,8,9,10,11,17,160,161],[(20,Zt11),(21,Zt11),(162,Zt11)],[]⟩ (.two .nil (.two .nil (.two (.joinE ⟨[0,8,9,10,11,17,160,161,162],[(20,Zt11),(21,Zt11)],[]⟩ (.two (.two .nil (.two (.two .nil (.join ⟨[0,8,9,10,11,17,20,22,23,160,161,162],[(21,Zt11)],[]⟩ .nil)) (.two .nil (.two .nil (.two (.two .nil (.join ⟨[0,8,9,10,11,17,20,21,24,160,161,162],[],[(2,some (.box Zt8))]⟩ .nil)) .nil))))) .nil)) .nil)))) .nil))) .nil))))))))))))))
noncomputable def law3SwissPairs_con:Con:=⟨[Zt2,Zt11,Zt11],true,[],.bool,fun x=>qbB x.1 x.2.1 x.2.2.1,none⟩
noncomputable def qbv:Env:=(13,.con ref3Pairings_i_con)::(12,.con swissCheck_con)::(11,.con swissCost_i_con)::(10,.con swissPair_con)::(9,.con ref3SwissFault_con)::(8,.con law3Swisses_con)::[]
theorem qde (x:DL law3SwissPairs_con.ps):law3SwissPairs_con.φ x=denF Try.prog qbv qbq Try.f3 law3SwissPairs_con.ps law3SwissPairs_con.one law3SwissPairs_con.res law3SwissPairs_con.ρ x:=by kernel_rfl
theorem law3SwissPairs_ok:ConOK Try.prog 3 law3SwissPairs_con :=
  ql (env:=qbv) ((EnvOK.cons (EnvOK.cons (EnvOK.cons (EnvOK.cons (EnvOK.cons (EnvOK.cons (EnvOK.nil _) qfd) qdJ) qd6) qe7) qbX) qdD)) mixed Try.func3 law3SwissPairs_con qbq (by kernel_rfl) (fun h=>by first | rfl | cases h) (fun g hg=>by cases hg) qde
end Go.Proofs.Ytcifaoaepbidoaa
