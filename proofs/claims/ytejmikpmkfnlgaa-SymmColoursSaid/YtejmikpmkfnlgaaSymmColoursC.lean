/- Contracts: SymmColours. No condition of its own. -/
import Derived.Test.YtejmikpmkfnlgaaBase
import Derived.Test.YtejmikpmkfnlgaaSymmColoursS
namespace Go.Proofs.Ytejmikpmkfnlgaa
open Go.Den
set_option linter.unusedVariables false
set_option maxRecDepth 100000
def symmCheck_ann : Ann := .nil
noncomputable def symmCheck_con : Con := ⟨[(.int .i64), (.int .i64)], true, [], (.int .i64), fun x => symmCheck_o x.1 x.2.1, some fun x => symmCheck x.1 x.2.1⟩
noncomputable def symmCheck_env : Env := []
theorem symmCheck_den (x : DL symmCheck_con.ps) : symmCheck_con.φ x = denF Try.prog symmCheck_env symmCheck_ann Try.f63 symmCheck_con.ps symmCheck_con.one symmCheck_con.res symmCheck_con.ρ x := by kernel_rfl
theorem symmCheck_ok : ConOK Try.prog 63 symmCheck_con :=
  con_of_den (env := symmCheck_env) ((EnvOK.nil _)) mixed Try.func63 symmCheck_con symmCheck_ann (by kernel_rfl) (fun h => by first | rfl | cases h) (fun g hg x => by
    cases hg
    exact symmCheck_eq _ _) symmCheck_den
def symmCount_ann : Ann := .nil
noncomputable def symmCount_con : Con := ⟨[(.int .i64), (.int .i64)], true, [], (.int .i64), fun x => symmCount_o x.1 x.2.1, some fun x => symmCount x.1 x.2.1⟩
noncomputable def symmCount_env : Env := []
theorem symmCount_den (x : DL symmCount_con.ps) : symmCount_con.φ x = denF Try.prog symmCount_env symmCount_ann Try.f64 symmCount_con.ps symmCount_con.one symmCount_con.res symmCount_con.ρ x := by kernel_rfl
theorem symmCount_ok : ConOK Try.prog 64 symmCount_con :=
  con_of_den (env := symmCount_env) ((EnvOK.nil _)) mixed Try.func64 symmCount_con symmCount_ann (by kernel_rfl) (fun h => by first | rfl | cases h) (fun g hg x => by
    cases hg
    exact symmCount_eq _ _) symmCount_den
def symmTo_ann : Ann := (.two .nil (.two .nil (.two (.two .nil (.join ⟨[0, 1, 2], [(9, (.int .i64)), (10, (.int .i64))], []⟩ .nil)) (.two (.two .nil (.join ⟨[0, 1, 2, 10], [(9, (.int .i64))], []⟩ .nil)) (.two (.two .nil (.join ⟨[0, 9], [(10, (.int .i64))], []⟩ .nil)) .nil)))))
noncomputable def symmTo_con : Con := ⟨[(.int .i64), (.int .i64), (.int .i64), (.int .i64)], true, [], (.int .i64), fun x => symmTo x.1 x.2.1 x.2.2.1 x.2.2.2.1, none⟩
noncomputable def symmTo_env : Env := []
theorem symmTo_den (x : DL symmTo_con.ps) : symmTo_con.φ x = denF Try.prog symmTo_env symmTo_ann Try.f94 symmTo_con.ps symmTo_con.one symmTo_con.res symmTo_con.ρ x := by kernel_rfl
theorem symmTo_ok : ConOK Try.prog 94 symmTo_con :=
  con_of_den (env := symmTo_env) ((EnvOK.nil _)) mixed Try.func94 symmTo_con symmTo_ann (by kernel_rfl) (fun h => by first | rfl | cases h) (fun g hg => by cases hg) symmTo_den
def symmCycles_ann : Ann := (.two .nil (.two .nil (.two .nil (.two (.two .nil (.join ⟨[], [(8, (.int .i64))], [(0, some (.arr 4 .bool))]⟩ (.two (.loop ⟨[0, 1, 2, 7, 16], [(8, (.int .i64)), (17, (.int .i64))], [(0, some (.arr 4 .bool))]⟩ (.two .nil (.two .nil (.two (.join ⟨[0, 1, 2, 7, 16, 17], [(8, (.int .i64))], [(0, some (.arr 4 .bool))]⟩ (.two (.two .nil (.two .nil (.two .nil (.two .nil (.join ⟨[0, 1, 2, 7, 8, 16, 17], [], [(0, some (.arr 4 .bool))]⟩ (.two (.loop ⟨[0, 1, 2, 7, 8, 16, 17], [(10, (.int .i64))], [(0, some (.arr 4 .bool))]⟩ .nil) .nil)))))) .nil)) .nil)))) .nil))) .nil))))
noncomputable def symmCycles_con : Con := ⟨[(.int .i64), (.int .i64), (.int .i64)], true, [], (.int .i64), fun x => symmCycles x.1 x.2.1 x.2.2.1, none⟩
noncomputable def symmCycles_env : Env := (94, .con symmTo_con) :: []
theorem symmCycles_den (x : DL symmCycles_con.ps) : symmCycles_con.φ x = denF Try.prog symmCycles_env symmCycles_ann Try.f65 symmCycles_con.ps symmCycles_con.one symmCycles_con.res symmCycles_con.ρ x := by kernel_rfl
theorem symmCycles_ok : ConOK Try.prog 65 symmCycles_con :=
  con_of_den (env := symmCycles_env) ((EnvOK.cons (EnvOK.nil _) symmTo_ok)) mixed Try.func65 symmCycles_con symmCycles_ann (by kernel_rfl) (fun h => by first | rfl | cases h) (fun g hg => by cases hg) symmCycles_den
def symmColours_ann : Ann := (.two .nil (.two .nil (.two .nil (.two .nil (.two (.two .nil (.joinE ⟨[0, 1], [(9, (.int .i64))], []⟩ (.two (.loop ⟨[0, 1, 2, 26], [(9, (.int .i64)), (27, (.int .i64))], []⟩ (.two .nil (.two .nil (.two (.joinE ⟨[0, 1, 2, 26, 27], [(9, (.int .i64))], []⟩ (.two (.two .nil (.two .nil (.two (.two .nil (.joinE ⟨[0, 1, 2, 9, 26, 27], [(11, (.int .i64))], []⟩ (.two (.loop ⟨[0, 1, 2, 9, 26, 27, 33], [(11, (.int .i64)), (34, (.int .i64))], []⟩ .nil) .nil))) .nil))) .nil)) .nil)))) .nil))) .nil)))))
noncomputable def symmColours_con : Con := ⟨[(.int .i64), (.int .i64), (.int .i64)], false, [(.int .i64), (.int .i64)], (.st (.int .i64) (.st (.int .i64) .nil)), fun x => symmColours x.1 x.2.1 x.2.2.1, none⟩
noncomputable def symmColours_env : Env := (65, .con symmCycles_con) :: (64, .con symmCount_con) :: (63, .con symmCheck_con) :: []
theorem symmColours_den (x : DL symmColours_con.ps) : symmColours_con.φ x = denF Try.prog symmColours_env symmColours_ann Try.f17 symmColours_con.ps symmColours_con.one symmColours_con.res symmColours_con.ρ x := by kernel_rfl
theorem symmColours_ok : ConOK Try.prog 17 symmColours_con :=
  con_of_den (env := symmColours_env) ((EnvOK.cons (EnvOK.cons (EnvOK.cons (EnvOK.nil _) symmCheck_ok) symmCount_ok) symmCycles_ok)) mixed Try.func17 symmColours_con symmColours_ann (by kernel_rfl) (fun h => by first | rfl | cases h) (fun g hg => by cases hg) symmColours_den
def ref1In_ann : Ann := .nil
noncomputable def ref1In_con : Con := ⟨[(.int .i64), (.int .i64), (.int .i64)], true, [], .bool, fun x => ref1In_o x.1 x.2.1 x.2.2.1, some fun x => ref1In x.1 x.2.1 x.2.2.1⟩
noncomputable def ref1In_env : Env := []
theorem ref1In_den (x : DL ref1In_con.ps) : ref1In_con.φ x = denF Try.prog ref1In_env ref1In_ann Try.f16 ref1In_con.ps ref1In_con.one ref1In_con.res ref1In_con.ρ x := by kernel_rfl
theorem ref1In_ok : ConOK Try.prog 16 ref1In_con :=
  con_of_den (env := ref1In_env) ((EnvOK.nil _)) mixed Try.func16 ref1In_con ref1In_ann (by kernel_rfl) (fun h => by first | rfl | cases h) (fun g hg x => by
    cases hg
    exact ref1In_eq _ _ _) ref1In_den
def ref1Symmetries_ann : Ann := .nil
noncomputable def ref1Symmetries_con : Con := ⟨[(.int .i64), (.int .i64)], true, [], (.int .i64), fun x => ref1Symmetries_o x.1 x.2.1, some fun x => ref1Symmetries x.1 x.2.1⟩
noncomputable def ref1Symmetries_env : Env := (16, .con ref1In_con) :: []
theorem ref1Symmetries_den (x : DL ref1Symmetries_con.ps) : ref1Symmetries_con.φ x = denF Try.prog ref1Symmetries_env ref1Symmetries_ann Try.f18 ref1Symmetries_con.ps ref1Symmetries_con.one ref1Symmetries_con.res ref1Symmetries_con.ρ x := by kernel_rfl
theorem ref1Symmetries_ok : ConOK Try.prog 18 ref1Symmetries_con :=
  con_of_den (env := ref1Symmetries_env) ((EnvOK.cons (EnvOK.nil _) ref1In_ok)) mixed Try.func18 ref1Symmetries_con ref1Symmetries_ann (by kernel_rfl) (fun h => by first | rfl | cases h) (fun g hg x => by
    cases hg
    exact ref1Symmetries_eq _ _) ref1Symmetries_den
def ref1Moved_ann : Ann := (.two .nil (.two .nil (.two (.two .nil (.join ⟨[0, 1, 2], [(9, (.int .i64)), (10, (.int .i64))], []⟩ .nil)) (.two (.two .nil (.join ⟨[0, 1, 2, 10], [(9, (.int .i64))], []⟩ .nil)) (.two (.two .nil (.join ⟨[0, 9], [(10, (.int .i64))], []⟩ .nil)) .nil)))))
noncomputable def ref1Moved_con : Con := ⟨[(.int .i64), (.int .i64), (.int .i64), (.int .i64)], true, [], (.int .i64), fun x => ref1Moved x.1 x.2.1 x.2.2.1 x.2.2.2.1, none⟩
noncomputable def ref1Moved_env : Env := []
theorem ref1Moved_den (x : DL ref1Moved_con.ps) : ref1Moved_con.φ x = denF Try.prog ref1Moved_env ref1Moved_ann Try.f19 ref1Moved_con.ps ref1Moved_con.one ref1Moved_con.res ref1Moved_con.ρ x := by kernel_rfl
theorem ref1Moved_ok : ConOK Try.prog 19 ref1Moved_con :=
  con_of_den (env := ref1Moved_env) ((EnvOK.nil _)) mixed Try.func19 ref1Moved_con ref1Moved_ann (by kernel_rfl) (fun h => by first | rfl | cases h) (fun g hg => by cases hg) ref1Moved_den
def law1SymmColours_ann : Ann := (.two .nil (.two .nil (.two .nil (.two .nil (.two .nil (.two .nil (.two .nil (.two (.two .nil (.join ⟨[0, 1, 2, 9, 10], [(11, (.int .i64))], []⟩ (.two (.loop ⟨[0, 1, 2, 9, 10, 69], [(11, (.int .i64)), (70, (.int .i64))], []⟩ .nil) .nil))) (.two .nil (.two (.two .nil (.join ⟨[9, 10], [(12, (.int .i64))], []⟩ (.two (.loop ⟨[0, 1, 2, 9, 10, 76], [(12, (.int .i64)), (77, (.int .i64))], []⟩ (.two .nil (.two .nil (.two (.join ⟨[0, 1, 2, 9, 10, 76, 77], [(12, (.int .i64))], []⟩ (.two (.two .nil (.two .nil (.two (.two .nil (.join ⟨[0, 1, 2, 9, 10, 12, 14, 76, 77], [], [(0, some (.arr 3 (.int .i64)))]⟩ (.two (.loop ⟨[0, 1, 2, 9, 10, 12, 14, 76, 77], [(15, (.int .i64)), (16, (.int .i64))], [(0, some (.arr 3 (.int .i64)))]⟩ .nil) .nil))) (.two .nil (.two (.two .nil (.join ⟨[0, 1, 2, 9, 10, 12, 76, 77], [(17, .bool)], []⟩ (.two (.loop ⟨[0, 1, 2, 9, 10, 12, 14, 76, 77, 102], [(17, .bool), (103, (.int .i64))], []⟩ (.two .nil (.two .nil (.two (.join ⟨[0, 1, 2, 9, 10, 12, 14, 76, 77, 102, 103], [(17, .bool)], []⟩ (.two (.two .nil (.two .nil (.two (.two .nil (.join ⟨[0, 1, 2, 9, 10, 12, 14, 17, 19, 76, 77, 102, 103], [], [(1, some (.arr 3 (.int .i64)))]⟩ (.two (.loop ⟨[0, 1, 2, 9, 10, 12, 14, 17, 18, 19, 76, 77, 102, 103, 109, 110], [(111, (.int .i64))], [(1, some (.arr 3 (.int .i64)))]⟩ .nil) .nil))) (.two .nil (.join ⟨[0, 1, 2, 9, 10, 12, 14, 76, 77, 102, 103], [(17, .bool)], []⟩ (.two (.loop ⟨[0, 1, 2, 9, 10, 12, 14, 19, 76, 77, 102, 103, 126], [(17, .bool), (127, (.int .i64))], []⟩ .nil) .nil)))))) .nil)) .nil)))) .nil))) (.two .nil (.join ⟨[0, 1, 2, 9, 10, 76, 77], [(12, (.int .i64))], []⟩ .nil))))))) .nil)) .nil)))) .nil))) .nil))))))))))
noncomputable def law1SymmColours_con : Con := ⟨[(.int .i64), (.int .i64), (.int .i64)], true, [], .bool, fun x => law1SymmColours x.1 x.2.1 x.2.2.1, none⟩
noncomputable def law1SymmColours_env : Env := (19, .con ref1Moved_con) :: (16, .con ref1In_con) :: (18, .con ref1Symmetries_con) :: (17, .con symmColours_con) :: []
theorem law1SymmColours_den (x : DL law1SymmColours_con.ps) : law1SymmColours_con.φ x = denF Try.prog law1SymmColours_env law1SymmColours_ann Try.f5 law1SymmColours_con.ps law1SymmColours_con.one law1SymmColours_con.res law1SymmColours_con.ρ x := by kernel_rfl
theorem law1SymmColours_ok : ConOK Try.prog 5 law1SymmColours_con :=
  con_of_den (env := law1SymmColours_env) ((EnvOK.cons (EnvOK.cons (EnvOK.cons (EnvOK.cons (EnvOK.nil _) symmColours_ok) ref1Symmetries_ok) ref1In_ok) ref1Moved_ok)) mixed Try.func5 law1SymmColours_con law1SymmColours_ann (by kernel_rfl) (fun h => by first | rfl | cases h) (fun g hg => by cases hg) law1SymmColours_den
end Go.Proofs.Ytejmikpmkfnlgaa
