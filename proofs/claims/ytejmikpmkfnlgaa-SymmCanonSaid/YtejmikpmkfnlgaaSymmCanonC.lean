/- Contracts: SymmCanon. No condition of its own. -/
import Derived.Test.YtejmikpmkfnlgaaBase
import Derived.Test.YtejmikpmkfnlgaaSymmCanonS
namespace Go.Proofs.Ytejmikpmkfnlgaa
open Go.Den
set_option linter.unusedVariables false
set_option maxRecDepth 100000
def symmCheck_ann : Ann := .nil
noncomputable def symmCheck_con : Con := ⟨[(.int .i64), (.int .i64)], true, [], (.int .i64), fun x => symmCheck_o x.1 x.2.1, some fun x => symmCheck x.1 x.2.1⟩
noncomputable def symmCheck_env : Env := []
theorem symmCheck_den (x : DL symmCheck_con.ps) : symmCheck_con.φ x = denF Try.prog symmCheck_env symmCheck_ann Try.f63 symmCheck_con.ps symmCheck_con.one symmCheck_con.res symmCheck_con.ρ x := by kernel_rfl
theorem symmCheck_ok : ConOK Try.prog 63 symmCheck_con :=
  con_of_den (env := symmCheck_env) ((EnvOK.nil _)) mixed Try.func63 symmCheck_con symmCheck_ann (by kernel_rfl) (fun h => by first | rfl | cases h) (fun g hg x => by
    cases hg
    exact symmCheck_eq _ _) symmCheck_den
def slicesClone_int_ann : Ann := .nil
noncomputable def slicesClone_int_con : Con := ⟨[(.sl (.int .i64))], true, [], (.osl 3 (.int .i64)), fun x => slicesClone_int x.1, none⟩
noncomputable def slicesClone_int_env : Env := []
theorem slicesClone_int_den (x : DL slicesClone_int_con.ps) : slicesClone_int_con.φ x = denF Try.prog slicesClone_int_env slicesClone_int_ann Try.f77 slicesClone_int_con.ps slicesClone_int_con.one slicesClone_int_con.res slicesClone_int_con.ρ x := by kernel_rfl
theorem slicesClone_int_ok : ConOK Try.prog 77 slicesClone_int_con :=
  con_of_den (env := slicesClone_int_env) ((EnvOK.nil _)) mixed Try.func77 slicesClone_int_con slicesClone_int_ann (by kernel_rfl) (fun h => by first | rfl | cases h) (fun g hg => by cases hg) slicesClone_int_den
def symmCount_ann : Ann := .nil
noncomputable def symmCount_con : Con := ⟨[(.int .i64), (.int .i64)], true, [], (.int .i64), fun x => symmCount_o x.1 x.2.1, some fun x => symmCount x.1 x.2.1⟩
noncomputable def symmCount_env : Env := []
theorem symmCount_den (x : DL symmCount_con.ps) : symmCount_con.φ x = denF Try.prog symmCount_env symmCount_ann Try.f64 symmCount_con.ps symmCount_con.one symmCount_con.res symmCount_con.ρ x := by kernel_rfl
theorem symmCount_ok : ConOK Try.prog 64 symmCount_con :=
  con_of_den (env := symmCount_env) ((EnvOK.nil _)) mixed Try.func64 symmCount_con symmCount_ann (by kernel_rfl) (fun h => by first | rfl | cases h) (fun g hg x => by
    cases hg
    exact symmCount_eq _ _) symmCount_den
def symmTo_ann : Ann := (.two .nil (.two .nil (.two (.two .nil (.join ⟨[0, 1, 2], [(9, (.int .i64)), (10, (.int .i64))], []⟩ .nil)) (.two (.two .nil (.join ⟨[0, 1, 2, 10], [(9, (.int .i64))], []⟩ .nil)) (.two (.two .nil (.join ⟨[0, 9], [(10, (.int .i64))], []⟩ .nil)) .nil)))))
noncomputable def symmTo_con : Con := ⟨[(.int .i64), (.int .i64), (.int .i64), (.int .i64)], true, [], (.int .i64), fun x => symmTo x.1 x.2.1 x.2.2.1 x.2.2.2.1, none⟩
noncomputable def symmTo_env : Env := []
theorem symmTo_den (x : DL symmTo_con.ps) : symmTo_con.φ x = denF Try.prog symmTo_env symmTo_ann Try.f94 symmTo_con.ps symmTo_con.one symmTo_con.res symmTo_con.ρ x := by kernel_rfl
theorem symmTo_ok : ConOK Try.prog 94 symmTo_con :=
  con_of_den (env := symmTo_env) ((EnvOK.nil _)) mixed Try.func94 symmTo_con symmTo_ann (by kernel_rfl) (fun h => by first | rfl | cases h) (fun g hg => by cases hg) symmTo_den
def symmApply_ann : Ann := (.two .nil (.two .nil (.two (.two .nil (.join ⟨[9], [], [(0, some (.arr 3 (.int .i64)))]⟩ (.two (.loop ⟨[0, 1, 2, 9, 15, 16], [(17, (.int .i64))], [(0, some (.arr 3 (.int .i64)))]⟩ .nil) .nil))) .nil)))
noncomputable def symmApply_con : Con := ⟨[(.int .i64), (.int .i64), (.int .i64), (.sl (.int .i64))], true, [], (.osl 3 (.int .i64)), fun x => symmApply x.1 x.2.1 x.2.2.1 x.2.2.2.1, none⟩
noncomputable def symmApply_env : Env := (94, .con symmTo_con) :: []
theorem symmApply_den (x : DL symmApply_con.ps) : symmApply_con.φ x = denF Try.prog symmApply_env symmApply_ann Try.f78 symmApply_con.ps symmApply_con.one symmApply_con.res symmApply_con.ρ x := by kernel_rfl
theorem symmApply_ok : ConOK Try.prog 78 symmApply_con :=
  con_of_den (env := symmApply_env) ((EnvOK.cons (EnvOK.nil _) symmTo_ok)) mixed Try.func78 symmApply_con symmApply_ann (by kernel_rfl) (fun h => by first | rfl | cases h) (fun g hg => by cases hg) symmApply_den
def cmpIsNaN_int_ann : Ann := .nil
noncomputable def cmpIsNaN_int_con : Con := ⟨[(.int .i64)], true, [], .bool, fun x => cmpIsNaN_int_o x.1, some fun x => cmpIsNaN_int x.1⟩
noncomputable def cmpIsNaN_int_env : Env := []
theorem cmpIsNaN_int_den (x : DL cmpIsNaN_int_con.ps) : cmpIsNaN_int_con.φ x = denF Try.prog cmpIsNaN_int_env cmpIsNaN_int_ann Try.f100 cmpIsNaN_int_con.ps cmpIsNaN_int_con.one cmpIsNaN_int_con.res cmpIsNaN_int_con.ρ x := by kernel_rfl
theorem cmpIsNaN_int_ok : ConOK Try.prog 100 cmpIsNaN_int_con :=
  con_of_den (env := cmpIsNaN_int_env) ((EnvOK.nil _)) mixed Try.func100 cmpIsNaN_int_con cmpIsNaN_int_ann (by kernel_rfl) (fun h => by first | rfl | cases h) (fun g hg x => by
    cases hg
    exact cmpIsNaN_int_eq _) cmpIsNaN_int_den
def cmpCompare_int_ann : Ann := .nil
noncomputable def cmpCompare_int_con : Con := ⟨[(.int .i64), (.int .i64)], true, [], (.int .i64), fun x => cmpCompare_int_o x.1 x.2.1, some fun x => cmpCompare_int x.1 x.2.1⟩
noncomputable def cmpCompare_int_env : Env := (100, .con cmpIsNaN_int_con) :: []
theorem cmpCompare_int_den (x : DL cmpCompare_int_con.ps) : cmpCompare_int_con.φ x = denF Try.prog cmpCompare_int_env cmpCompare_int_ann Try.f96 cmpCompare_int_con.ps cmpCompare_int_con.one cmpCompare_int_con.res cmpCompare_int_con.ρ x := by kernel_rfl
theorem cmpCompare_int_ok : ConOK Try.prog 96 cmpCompare_int_con :=
  con_of_den (env := cmpCompare_int_env) ((EnvOK.cons (EnvOK.nil _) cmpIsNaN_int_ok)) mixed Try.func96 cmpCompare_int_con cmpCompare_int_ann (by kernel_rfl) (fun h => by first | rfl | cases h) (fun g hg x => by
    cases hg
    exact cmpCompare_int_eq _ _) cmpCompare_int_den
def slicesCompare_int_ann : Ann := (.two .nil (.two (.two .nil (.joinE ⟨[0, 1], [], []⟩ (.two (.loop ⟨[0, 1, 9, 10], [(11, (.int .i64))], []⟩ .nil) .nil))) .nil))
noncomputable def slicesCompare_int_con : Con := ⟨[(.sl (.int .i64)), (.sl (.int .i64))], true, [], (.int .i64), fun x => slicesCompare_int x.1 x.2.1, none⟩
noncomputable def slicesCompare_int_env : Env := (96, .con cmpCompare_int_con) :: []
theorem slicesCompare_int_den (x : DL slicesCompare_int_con.ps) : slicesCompare_int_con.φ x = denF Try.prog slicesCompare_int_env slicesCompare_int_ann Try.f79 slicesCompare_int_con.ps slicesCompare_int_con.one slicesCompare_int_con.res slicesCompare_int_con.ρ x := by kernel_rfl
theorem slicesCompare_int_ok : ConOK Try.prog 79 slicesCompare_int_con :=
  con_of_den (env := slicesCompare_int_env) ((EnvOK.cons (EnvOK.nil _) cmpCompare_int_ok)) mixed Try.func79 slicesCompare_int_con slicesCompare_int_ann (by kernel_rfl) (fun h => by first | rfl | cases h) (fun g hg => by cases hg) slicesCompare_int_den
def symmCanon_ann : Ann := (.two .nil (.two .nil (.two .nil (.two .nil (.two (.two .nil (.join ⟨[], [(10, (.osl 3 (.int .i64))), (11, (.int .i64))], [(0, none)]⟩ (.two (.loop ⟨[0, 1, 2, 30], [(10, (.osl 3 (.int .i64))), (11, (.int .i64)), (31, (.int .i64))], [(0, none)]⟩ (.two .nil (.two .nil (.two (.two (.two .nil (.two .nil (.two .nil (.join ⟨[0, 1, 2, 30, 31], [(10, (.osl 3 (.int .i64))), (11, (.int .i64))], [(1, none), (2, none)]⟩ .nil)))) .nil) .nil)))) .nil))) .nil)))))
noncomputable def symmCanon_con : Con := ⟨[(.int .i64), (.int .i64), (.sl (.int .i64))], false, [(.osl 3 (.int .i64)), (.int .i64), (.int .i64)], (.st (.osl 3 (.int .i64)) (.st (.int .i64) (.st (.int .i64) .nil))), fun x => symmCanon x.1 x.2.1 x.2.2.1, none⟩
noncomputable def symmCanon_env : Env := (79, .con slicesCompare_int_con) :: (78, .con symmApply_con) :: (64, .con symmCount_con) :: (77, .con slicesClone_int_con) :: (63, .con symmCheck_con) :: []
theorem symmCanon_den (x : DL symmCanon_con.ps) : symmCanon_con.φ x = denF Try.prog symmCanon_env symmCanon_ann Try.f34 symmCanon_con.ps symmCanon_con.one symmCanon_con.res symmCanon_con.ρ x := by kernel_rfl
theorem symmCanon_ok : ConOK Try.prog 34 symmCanon_con :=
  con_of_den (env := symmCanon_env) ((EnvOK.cons (EnvOK.cons (EnvOK.cons (EnvOK.cons (EnvOK.cons (EnvOK.nil _) symmCheck_ok) slicesClone_int_ok) symmCount_ok) symmApply_ok) slicesCompare_int_ok)) mixed Try.func34 symmCanon_con symmCanon_ann (by kernel_rfl) (fun h => by first | rfl | cases h) (fun g hg => by cases hg) symmCanon_den
def ref1SameInts_ann : Ann := (.two .nil (.two .nil (.two (.two .nil (.joinE ⟨[], [], []⟩ (.two (.loop ⟨[0, 1, 12], [(13, (.int .i64))], []⟩ .nil) .nil))) .nil)))
noncomputable def ref1SameInts_con : Con := ⟨[(.sl (.int .i64)), (.sl (.int .i64))], true, [], .bool, fun x => ref1SameInts x.1 x.2.1, none⟩
noncomputable def ref1SameInts_env : Env := []
theorem ref1SameInts_den (x : DL ref1SameInts_con.ps) : ref1SameInts_con.φ x = denF Try.prog ref1SameInts_env ref1SameInts_ann Try.f35 ref1SameInts_con.ps ref1SameInts_con.one ref1SameInts_con.res ref1SameInts_con.ρ x := by kernel_rfl
theorem ref1SameInts_ok : ConOK Try.prog 35 ref1SameInts_con :=
  con_of_den (env := ref1SameInts_env) ((EnvOK.nil _)) mixed Try.func35 ref1SameInts_con ref1SameInts_ann (by kernel_rfl) (fun h => by first | rfl | cases h) (fun g hg => by cases hg) ref1SameInts_den
def ref1In_ann : Ann := .nil
noncomputable def ref1In_con : Con := ⟨[(.int .i64), (.int .i64), (.int .i64)], true, [], .bool, fun x => ref1In_o x.1 x.2.1 x.2.2.1, some fun x => ref1In x.1 x.2.1 x.2.2.1⟩
noncomputable def ref1In_env : Env := []
theorem ref1In_den (x : DL ref1In_con.ps) : ref1In_con.φ x = denF Try.prog ref1In_env ref1In_ann Try.f16 ref1In_con.ps ref1In_con.one ref1In_con.res ref1In_con.ρ x := by kernel_rfl
theorem ref1In_ok : ConOK Try.prog 16 ref1In_con :=
  con_of_den (env := ref1In_env) ((EnvOK.nil _)) mixed Try.func16 ref1In_con ref1In_ann (by kernel_rfl) (fun h => by first | rfl | cases h) (fun g hg x => by
    cases hg
    exact ref1In_eq _ _ _) ref1In_den
def ref1Symmetries_ann : Ann := .nil
noncomputable def ref1Symmetries_con : Con := ⟨[(.int .i64), (.int .i64)], true, [], (.int .i64), fun x => ref1Symmetries_o x.1 x.2.1, some fun x => ref1Symmetries x.1 x.2.1⟩
noncomputable def ref1Symmetries_env : Env := (16, .con ref1In_con) :: []
theorem ref1Symmetries_den (x : DL ref1Symmetries_con.ps) : ref1Symmetries_con.φ x = denF Try.prog ref1Symmetries_env ref1Symmetries_ann Try.f18 ref1Symmetries_con.ps ref1Symmetries_con.one ref1Symmetries_con.res ref1Symmetries_con.ρ x := by kernel_rfl
theorem ref1Symmetries_ok : ConOK Try.prog 18 ref1Symmetries_con :=
  con_of_den (env := ref1Symmetries_env) ((EnvOK.cons (EnvOK.nil _) ref1In_ok)) mixed Try.func18 ref1Symmetries_con ref1Symmetries_ann (by kernel_rfl) (fun h => by first | rfl | cases h) (fun g hg x => by
    cases hg
    exact ref1Symmetries_eq _ _) ref1Symmetries_den
def ref1Moved_ann : Ann := (.two .nil (.two .nil (.two (.two .nil (.join ⟨[0, 1, 2], [(9, (.int .i64)), (10, (.int .i64))], []⟩ .nil)) (.two (.two .nil (.join ⟨[0, 1, 2, 10], [(9, (.int .i64))], []⟩ .nil)) (.two (.two .nil (.join ⟨[0, 9], [(10, (.int .i64))], []⟩ .nil)) .nil)))))
noncomputable def ref1Moved_con : Con := ⟨[(.int .i64), (.int .i64), (.int .i64), (.int .i64)], true, [], (.int .i64), fun x => ref1Moved x.1 x.2.1 x.2.2.1 x.2.2.2.1, none⟩
noncomputable def ref1Moved_env : Env := []
theorem ref1Moved_den (x : DL ref1Moved_con.ps) : ref1Moved_con.φ x = denF Try.prog ref1Moved_env ref1Moved_ann Try.f19 ref1Moved_con.ps ref1Moved_con.one ref1Moved_con.res ref1Moved_con.ρ x := by kernel_rfl
theorem ref1Moved_ok : ConOK Try.prog 19 ref1Moved_con :=
  con_of_den (env := ref1Moved_env) ((EnvOK.nil _)) mixed Try.func19 ref1Moved_con ref1Moved_ann (by kernel_rfl) (fun h => by first | rfl | cases h) (fun g hg => by cases hg) ref1Moved_den
def law1SymmCanon_ann : Ann := (.two .nil (.two (.two .nil (.two (.join ⟨[0, 1, 2], [(39, .bool)], []⟩ .nil) .nil)) (.two .nil (.two .nil (.two .nil (.two (.two .nil (.join ⟨[0, 1, 2, 10, 11, 12, 13], [(14, (.int .i64))], []⟩ (.two .nil (.two .nil (.join ⟨[0, 1, 2, 10, 11, 12, 13], [(14, (.int .i64))], []⟩ .nil))))) (.two .nil (.two .nil (.two (.two .nil (.join ⟨[10, 11, 12], [(15, (.sl (.int .i64))), (16, (.int .i64))], []⟩ (.two (.loop ⟨[0, 1, 2, 10, 11, 12, 74], [(15, (.sl (.int .i64))), (16, (.int .i64)), (75, (.int .i64))], []⟩ (.two .nil (.two .nil (.two (.join ⟨[0, 1, 2, 10, 11, 12, 74, 75], [(15, (.sl (.int .i64))), (16, (.int .i64))], []⟩ (.two (.two .nil (.two .nil (.two (.two .nil (.join ⟨[0, 1, 2, 10, 11, 12, 15, 16, 17, 18, 74, 75], [], [(3, some (.arr 3 (.int .i64)))]⟩ (.two (.loop ⟨[0, 1, 2, 10, 11, 12, 15, 16, 17, 18, 74, 75, 81, 82], [(83, (.int .i64))], [(3, some (.arr 3 (.int .i64)))]⟩ .nil) .nil))) (.two .nil (.join ⟨[0, 1, 2, 10, 11, 12, 74, 75], [(15, (.sl (.int .i64))), (16, (.int .i64))], [(3, none)]⟩ (.two (.loop ⟨[0, 1, 2, 10, 11, 12, 17, 18, 74, 75, 98], [(15, (.sl (.int .i64))), (16, (.int .i64)), (99, (.int .i64))], []⟩ .nil) .nil)))))) .nil)) .nil)))) .nil))) .nil)))))))))
noncomputable def law1SymmCanon_con : Con := ⟨[(.int .i64), (.int .i64), (.sl (.int .i64))], true, [], .bool, fun x => law1SymmCanon x.1 x.2.1 x.2.2.1, none⟩
noncomputable def law1SymmCanon_env : Env := (19, .con ref1Moved_con) :: (18, .con ref1Symmetries_con) :: (35, .con ref1SameInts_con) :: (34, .con symmCanon_con) :: []
theorem law1SymmCanon_den (x : DL law1SymmCanon_con.ps) : law1SymmCanon_con.φ x = denF Try.prog law1SymmCanon_env law1SymmCanon_ann Try.f8 law1SymmCanon_con.ps law1SymmCanon_con.one law1SymmCanon_con.res law1SymmCanon_con.ρ x := by kernel_rfl
theorem law1SymmCanon_ok : ConOK Try.prog 8 law1SymmCanon_con :=
  con_of_den (env := law1SymmCanon_env) ((EnvOK.cons (EnvOK.cons (EnvOK.cons (EnvOK.cons (EnvOK.nil _) symmCanon_ok) ref1SameInts_ok) ref1Symmetries_ok) ref1Moved_ok)) mixed Try.func8 law1SymmCanon_con law1SymmCanon_ann (by kernel_rfl) (fun h => by first | rfl | cases h) (fun g hg => by cases hg) law1SymmCanon_den
end Go.Proofs.Ytejmikpmkfnlgaa
