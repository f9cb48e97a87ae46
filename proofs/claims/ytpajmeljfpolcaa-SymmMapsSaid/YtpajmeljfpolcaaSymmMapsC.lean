/- Contracts: SymmMaps. No condition of its own. -/
import Derived.Test.YtpajmeljfpolcaaBase
import Derived.Test.YtpajmeljfpolcaaSymmMapsS
import Derived.Test.YtpajmeljfpolcaaCoreC
import Derived.Test.YtpajmeljfpolcaaISortC
namespace Go.Proofs.Ytpajmeljfpolcaa
open Go.Den
set_option linter.unusedVariables false
set_option maxRecDepth 100000
def symmCheck_ann : Ann := .nil
noncomputable def symmCheck_con : Con := ⟨[(.int .i64), (.int .i64)], true, [], (.int .i64), fun x => symmCheck_o x.1 x.2.1, some fun x => symmCheck x.1 x.2.1⟩
noncomputable def symmCheck_env : Env := []
theorem symmCheck_den (x : DL symmCheck_con.ps) : symmCheck_con.φ x = denF Try.prog symmCheck_env symmCheck_ann Try.f118 symmCheck_con.ps symmCheck_con.one symmCheck_con.res symmCheck_con.ρ x := by kernel_rfl
theorem symmCheck_ok : ConOK Try.prog 118 symmCheck_con :=
  con_of_den (env := symmCheck_env) ((EnvOK.nil _)) mixed Try.func118 symmCheck_con symmCheck_ann (by kernel_rfl) (fun h => by first | rfl | cases h) (fun g hg x => by
    cases hg
    exact symmCheck_eq _ _) symmCheck_den
def symmCount_ann : Ann := .nil
noncomputable def symmCount_con : Con := ⟨[(.int .i64), (.int .i64)], true, [], (.int .i64), fun x => symmCount_o x.1 x.2.1, some fun x => symmCount x.1 x.2.1⟩
noncomputable def symmCount_env : Env := []
theorem symmCount_den (x : DL symmCount_con.ps) : symmCount_con.φ x = denF Try.prog symmCount_env symmCount_ann Try.f119 symmCount_con.ps symmCount_con.one symmCount_con.res symmCount_con.ρ x := by kernel_rfl
theorem symmCount_ok : ConOK Try.prog 119 symmCount_con :=
  con_of_den (env := symmCount_env) ((EnvOK.nil _)) mixed Try.func119 symmCount_con symmCount_ann (by kernel_rfl) (fun h => by first | rfl | cases h) (fun g hg x => by
    cases hg
    exact symmCount_eq _ _) symmCount_den
def symmCheck_i_ann : Ann := (.two .nil (.two .nil (.two (.two .nil (.joinE ⟨[], [], []⟩ (.two (.loop ⟨[0, 1, 16, 17], [(18, (.int .i64))], []⟩ .nil) .nil))) .nil)))
noncomputable def symmCheck_i_con : Con := ⟨[(.int .i64), (.int .i64), (.sl (.int .i64))], true, [], (.int .i64), fun x => symmCheck_i x.1 x.2.1 x.2.2.1, none⟩
noncomputable def symmCheck_i_env : Env := (119, .con symmCount_con) :: (118, .con symmCheck_con) :: []
theorem symmCheck_i_den (x : DL symmCheck_i_con.ps) : symmCheck_i_con.φ x = denF Try.prog symmCheck_i_env symmCheck_i_ann Try.f116 symmCheck_i_con.ps symmCheck_i_con.one symmCheck_i_con.res symmCheck_i_con.ρ x := by kernel_rfl
theorem symmCheck_i_ok : ConOK Try.prog 116 symmCheck_i_con :=
  con_of_den (env := symmCheck_i_env) ((EnvOK.cons (EnvOK.cons (EnvOK.nil _) symmCheck_ok) symmCount_ok)) mixed Try.func116 symmCheck_i_con symmCheck_i_ann (by kernel_rfl) (fun h => by first | rfl | cases h) (fun g hg => by cases hg) symmCheck_i_den
def symmTo_ann : Ann := (.two .nil (.two .nil (.two (.two .nil (.join ⟨[0, 1, 2], [(9, (.int .i64)), (10, (.int .i64))], []⟩ .nil)) (.two (.two .nil (.join ⟨[0, 1, 2, 10], [(9, (.int .i64))], []⟩ .nil)) (.two (.two .nil (.join ⟨[0, 9], [(10, (.int .i64))], []⟩ .nil)) .nil)))))
noncomputable def symmTo_con : Con := ⟨[(.int .i64), (.int .i64), (.int .i64), (.int .i64)], true, [], (.int .i64), fun x => symmTo x.1 x.2.1 x.2.2.1 x.2.2.2.1, none⟩
noncomputable def symmTo_env : Env := []
theorem symmTo_den (x : DL symmTo_con.ps) : symmTo_con.φ x = denF Try.prog symmTo_env symmTo_ann Try.f117 symmTo_con.ps symmTo_con.one symmTo_con.res symmTo_con.ρ x := by kernel_rfl
theorem symmTo_ok : ConOK Try.prog 117 symmTo_con :=
  con_of_den (env := symmTo_env) ((EnvOK.nil _)) mixed Try.func117 symmTo_con symmTo_ann (by kernel_rfl) (fun h => by first | rfl | cases h) (fun g hg => by cases hg) symmTo_den
def symmMap_ann : Ann := .nil
noncomputable def symmMap_con : Con := ⟨[(.int .i64), (.int .i64), (.int .i64), (.int .i64)], false, [(.int .i64), (.int .i64)], (.st (.int .i64) (.st (.int .i64) .nil)), fun x => symmMap x.1 x.2.1 x.2.2.1 x.2.2.2.1, none⟩
noncomputable def symmMap_env : Env := (117, .con symmTo_con) :: (116, .con symmCheck_i_con) :: []
theorem symmMap_den (x : DL symmMap_con.ps) : symmMap_con.φ x = denF Try.prog symmMap_env symmMap_ann Try.f54 symmMap_con.ps symmMap_con.one symmMap_con.res symmMap_con.ρ x := by kernel_rfl
theorem symmMap_ok : ConOK Try.prog 54 symmMap_con :=
  con_of_den (env := symmMap_env) ((EnvOK.cons (EnvOK.cons (EnvOK.nil _) symmCheck_i_ok) symmTo_ok)) mixed Try.func54 symmMap_con symmMap_ann (by kernel_rfl) (fun h => by first | rfl | cases h) (fun g hg => by cases hg) symmMap_den
def cmpLess_int_ann : Ann := .nil
noncomputable def cmpLess_int_con : Con := ⟨[(.int .i64), (.int .i64)], true, [], .bool, fun x => cmpLess_int_o x.1 x.2.1, some fun x => cmpLess_int x.1 x.2.1⟩
noncomputable def cmpLess_int_env : Env := (185, .con cmpIsNaN_int_con) :: []
theorem cmpLess_int_den (x : DL cmpLess_int_con.ps) : cmpLess_int_con.φ x = denF Try.prog cmpLess_int_env cmpLess_int_ann Try.f197 cmpLess_int_con.ps cmpLess_int_con.one cmpLess_int_con.res cmpLess_int_con.ρ x := by kernel_rfl
theorem cmpLess_int_ok : ConOK Try.prog 197 cmpLess_int_con :=
  con_of_den (env := cmpLess_int_env) ((EnvOK.cons (EnvOK.nil _) cmpIsNaN_int_ok)) mixed Try.func197 cmpLess_int_con cmpLess_int_ann (by kernel_rfl) (fun h => by first | rfl | cases h) (fun g hg x => by
    cases hg
    exact cmpLess_int_eq _ _) cmpLess_int_den
def symmOrbit_ann : Ann := (.two .nil (.two .nil (.two .nil (.two .nil (.two (.two .nil (.join ⟨[], [(9, (.osl 3 (.int .i64)))], []⟩ (.two (.loop ⟨[0, 1, 2, 28], [(9, (.osl 3 (.int .i64))), (29, (.int .i64))], []⟩ .nil) .nil))) (.two .nil (.two (.join ⟨[], [(6, (.osl 3 (.int .i64))), (7, (.int .i64))], [(0, none)]⟩ (.two (.two .nil (.two .nil (.two (.two .nil (.joinE ⟨[0], [], [(0, some (.arr 3 (.int .i64)))]⟩ (.two (.loop ⟨[0], [(3, (.int .i64))], [(0, some (.arr 3 (.int .i64)))]⟩ (.two .nil (.two (.joinE ⟨[0], [(3, (.int .i64))], [(0, some (.arr 3 (.int .i64)))]⟩ (.two (.two .nil (.two (.two (.own .nil) (.two (.two .nil (.join ⟨[0], [(3, (.int .i64))], [(0, some (.arr 3 (.int .i64)))]⟩ (.two (.loop ⟨[0, 4], [(3, (.int .i64)), (5, (.int .i64))], [(0, some (.arr 3 (.int .i64)))]⟩ (.two .nil (.two (.two (.two .nil (.join ⟨[0, 4, 5], [(3, (.int .i64))], [(0, some (.arr 3 (.int .i64)))]⟩ .nil)) .nil) .nil))) .nil))) (.two (.own .nil) (.two (.own .nil) .nil)))) .nil)) .nil)) .nil))) .nil))) .nil))) .nil)) .nil)))))))
noncomputable def symmOrbit_con : Con := ⟨[(.int .i64), (.int .i64), (.int .i64)], false, [(.osl 3 (.int .i64)), (.int .i64)], (.st (.osl 3 (.int .i64)) (.st (.int .i64) .nil)), fun x => symmOrbit x.1 x.2.1 x.2.2.1, none⟩
noncomputable def symmOrbit_env : Env := (121, .body Try.f121) :: (120, .srt sortInts_srt) :: (117, .con symmTo_con) :: (119, .con symmCount_con) :: (118, .con symmCheck_con) :: []
theorem symmOrbit_den (x : DL symmOrbit_con.ps) : symmOrbit_con.φ x = denF Try.prog symmOrbit_env symmOrbit_ann Try.f55 symmOrbit_con.ps symmOrbit_con.one symmOrbit_con.res symmOrbit_con.ρ x := by kernel_rfl
theorem symmOrbit_ok : ConOK Try.prog 55 symmOrbit_con :=
  con_of_den (env := symmOrbit_env) ((EnvOK.body (EnvOK.sort (EnvOK.cons (EnvOK.cons (EnvOK.cons (EnvOK.nil _) symmCheck_ok) symmCount_ok) symmTo_ok) sortInts_ok) Try.func121)) mixed Try.func55 symmOrbit_con symmOrbit_ann (by kernel_rfl) (fun h => by first | rfl | cases h) (fun g hg => by cases hg) symmOrbit_den
def symmApply_ann : Ann := (.two .nil (.two .nil (.two (.two .nil (.join ⟨[9], [], [(0, some (.arr 3 (.int .i64)))]⟩ (.two (.loop ⟨[0, 1, 2, 9, 15, 16], [(17, (.int .i64))], [(0, some (.arr 3 (.int .i64)))]⟩ .nil) .nil))) .nil)))
noncomputable def symmApply_con : Con := ⟨[(.int .i64), (.int .i64), (.int .i64), (.sl (.int .i64))], true, [], (.osl 3 (.int .i64)), fun x => symmApply x.1 x.2.1 x.2.2.1 x.2.2.2.1, none⟩
noncomputable def symmApply_env : Env := (117, .con symmTo_con) :: []
theorem symmApply_den (x : DL symmApply_con.ps) : symmApply_con.φ x = denF Try.prog symmApply_env symmApply_ann Try.f122 symmApply_con.ps symmApply_con.one symmApply_con.res symmApply_con.ρ x := by kernel_rfl
theorem symmApply_ok : ConOK Try.prog 122 symmApply_con :=
  con_of_den (env := symmApply_env) ((EnvOK.cons (EnvOK.nil _) symmTo_ok)) mixed Try.func122 symmApply_con symmApply_ann (by kernel_rfl) (fun h => by first | rfl | cases h) (fun g hg => by cases hg) symmApply_den
def symmApply_i_ann : Ann := .nil
noncomputable def symmApply_i_con : Con := ⟨[(.int .i64), (.int .i64), (.int .i64), (.sl (.int .i64))], false, [(.osl 3 (.int .i64)), (.int .i64)], (.st (.osl 3 (.int .i64)) (.st (.int .i64) .nil)), fun x => symmApply_i x.1 x.2.1 x.2.2.1 x.2.2.2.1, none⟩
noncomputable def symmApply_i_env : Env := (122, .con symmApply_con) :: (116, .con symmCheck_i_con) :: []
theorem symmApply_i_den (x : DL symmApply_i_con.ps) : symmApply_i_con.φ x = denF Try.prog symmApply_i_env symmApply_i_ann Try.f57 symmApply_i_con.ps symmApply_i_con.one symmApply_i_con.res symmApply_i_con.ρ x := by kernel_rfl
theorem symmApply_i_ok : ConOK Try.prog 57 symmApply_i_con :=
  con_of_den (env := symmApply_i_env) ((EnvOK.cons (EnvOK.cons (EnvOK.nil _) symmCheck_i_ok) symmApply_ok)) mixed Try.func57 symmApply_i_con symmApply_i_ann (by kernel_rfl) (fun h => by first | rfl | cases h) (fun g hg => by cases hg) symmApply_i_den
def symmAll_ann : Ann := (.two .nil (.two .nil (.two .nil (.two (.two .nil (.join ⟨[], [(7, (.osl 3 (.int .i64)))], []⟩ (.two (.loop ⟨[17], [(7, (.osl 3 (.int .i64))), (18, (.int .i64))], []⟩ .nil) .nil))) .nil))))
noncomputable def symmAll_con : Con := ⟨[(.int .i64), (.int .i64)], false, [(.osl 3 (.int .i64)), (.int .i64)], (.st (.osl 3 (.int .i64)) (.st (.int .i64) .nil)), fun x => symmAll x.1 x.2.1, none⟩
noncomputable def symmAll_env : Env := (119, .con symmCount_con) :: (118, .con symmCheck_con) :: []
theorem symmAll_den (x : DL symmAll_con.ps) : symmAll_con.φ x = denF Try.prog symmAll_env symmAll_ann Try.f58 symmAll_con.ps symmAll_con.one symmAll_con.res symmAll_con.ρ x := by kernel_rfl
theorem symmAll_ok : ConOK Try.prog 58 symmAll_con :=
  con_of_den (env := symmAll_env) ((EnvOK.cons (EnvOK.cons (EnvOK.nil _) symmCheck_ok) symmCount_ok)) mixed Try.func58 symmAll_con symmAll_ann (by kernel_rfl) (fun h => by first | rfl | cases h) (fun g hg => by cases hg) symmAll_den
def ref1Symmetries_ann : Ann := .nil
noncomputable def ref1Symmetries_con : Con := ⟨[(.int .i64), (.int .i64)], true, [], (.int .i64), fun x => ref1Symmetries_o x.1 x.2.1, some fun x => ref1Symmetries x.1 x.2.1⟩
noncomputable def ref1Symmetries_env : Env := (53, .con ref1In_con) :: []
theorem ref1Symmetries_den (x : DL ref1Symmetries_con.ps) : ref1Symmetries_con.φ x = denF Try.prog ref1Symmetries_env ref1Symmetries_ann Try.f59 ref1Symmetries_con.ps ref1Symmetries_con.one ref1Symmetries_con.res ref1Symmetries_con.ρ x := by kernel_rfl
theorem ref1Symmetries_ok : ConOK Try.prog 59 ref1Symmetries_con :=
  con_of_den (env := ref1Symmetries_env) ((EnvOK.cons (EnvOK.nil _) ref1In_ok)) mixed Try.func59 ref1Symmetries_con ref1Symmetries_ann (by kernel_rfl) (fun h => by first | rfl | cases h) (fun g hg x => by
    cases hg
    exact ref1Symmetries_eq _ _) ref1Symmetries_den
def ref1Moved_ann : Ann := (.two .nil (.two .nil (.two (.two .nil (.join ⟨[0, 1, 2], [(9, (.int .i64)), (10, (.int .i64))], []⟩ .nil)) (.two (.two .nil (.join ⟨[0, 1, 2, 10], [(9, (.int .i64))], []⟩ .nil)) (.two (.two .nil (.join ⟨[0, 9], [(10, (.int .i64))], []⟩ .nil)) .nil)))))
noncomputable def ref1Moved_con : Con := ⟨[(.int .i64), (.int .i64), (.int .i64), (.int .i64)], true, [], (.int .i64), fun x => ref1Moved x.1 x.2.1 x.2.2.1 x.2.2.2.1, none⟩
noncomputable def ref1Moved_env : Env := []
theorem ref1Moved_den (x : DL ref1Moved_con.ps) : ref1Moved_con.φ x = denF Try.prog ref1Moved_env ref1Moved_ann Try.f60 ref1Moved_con.ps ref1Moved_con.one ref1Moved_con.res ref1Moved_con.ρ x := by kernel_rfl
theorem ref1Moved_ok : ConOK Try.prog 60 ref1Moved_con :=
  con_of_den (env := ref1Moved_env) ((EnvOK.nil _)) mixed Try.func60 ref1Moved_con ref1Moved_ann (by kernel_rfl) (fun h => by first | rfl | cases h) (fun g hg => by cases hg) ref1Moved_den
def law1SymmMaps_ann : Ann := (.two .nil (.two .nil (.two (.two .nil (.two (.join ⟨[0, 1, 2, 3, 4], [(54, .bool)], []⟩ .nil) .nil)) (.two (.two .nil (.two (.join ⟨[0, 1, 2, 3, 4], [(67, .bool)], []⟩ .nil) .nil)) (.two .nil (.two .nil (.two .nil (.two .nil (.two .nil (.two .nil (.two .nil (.two .nil (.two .nil (.two .nil (.two (.two .nil (.joinE ⟨[0, 1, 2, 3, 4, 17, 18, 19, 20, 21, 25, 26], [(27, (.int .i64))], []⟩ (.two (.loop ⟨[0, 1, 2, 3, 4, 17, 18, 19, 20, 21, 25, 26, 159], [(27, (.int .i64)), (160, (.int .i64))], []⟩ (.two .nil (.two .nil (.two (.joinE ⟨[0, 1, 2, 3, 4, 17, 18, 19, 20, 21, 25, 26, 159, 160], [(27, (.int .i64))], []⟩ (.two (.two .nil (.two .nil (.two (.two .nil (.join ⟨[0, 1, 2, 3, 4, 17, 18, 19, 20, 21, 25, 26, 27, 28, 159, 160], [(29, .bool)], []⟩ (.two (.loop ⟨[0, 1, 2, 3, 4, 17, 18, 19, 20, 21, 25, 26, 27, 28, 159, 160], [(29, .bool), (30, (.int .i64))], []⟩ .nil) .nil))) (.two .nil (.two .nil (.join ⟨[0, 1, 2, 3, 4, 17, 18, 19, 20, 21, 25, 26, 159, 160], [(27, (.int .i64))], []⟩ .nil)))))) .nil)) .nil)))) .nil))) (.two .nil (.two .nil (.two .nil (.two .nil (.two .nil (.two (.two .nil (.joinE ⟨[], [], []⟩ (.two (.loop ⟨[0, 1, 2, 19, 272, 273], [(274, (.int .i64))], []⟩ .nil) .nil))) .nil)))))))))))))))))))))
noncomputable def law1SymmMaps_con : Con := ⟨[(.int .i64), (.int .i64), (.int .i64), (.int .i64), (.sl (.int .i64))], true, [], .bool, fun x => law1SymmMaps x.1 x.2.1 x.2.2.1 x.2.2.2.1 x.2.2.2.2.1, none⟩
noncomputable def law1SymmMaps_env : Env := (60, .con ref1Moved_con) :: (53, .con ref1In_con) :: (59, .con ref1Symmetries_con) :: (58, .con symmAll_con) :: (57, .con symmApply_i_con) :: (56, .con ref1SameInts_con) :: (55, .con symmOrbit_con) :: (54, .con symmMap_con) :: []
theorem law1SymmMaps_den (x : DL law1SymmMaps_con.ps) : law1SymmMaps_con.φ x = denF Try.prog law1SymmMaps_env law1SymmMaps_ann Try.f7 law1SymmMaps_con.ps law1SymmMaps_con.one law1SymmMaps_con.res law1SymmMaps_con.ρ x := by kernel_rfl
theorem law1SymmMaps_ok : ConOK Try.prog 7 law1SymmMaps_con :=
  con_of_den (env := law1SymmMaps_env) ((EnvOK.cons (EnvOK.cons (EnvOK.cons (EnvOK.cons (EnvOK.cons (EnvOK.cons (EnvOK.cons (EnvOK.cons (EnvOK.nil _) symmMap_ok) symmOrbit_ok) ref1SameInts_ok) symmApply_i_ok) symmAll_ok) ref1Symmetries_ok) ref1In_ok) ref1Moved_ok)) mixed Try.func7 law1SymmMaps_con law1SymmMaps_ann (by kernel_rfl) (fun h => by first | rfl | cases h) (fun g hg => by cases hg) law1SymmMaps_den
end Go.Proofs.Ytpajmeljfpolcaa
