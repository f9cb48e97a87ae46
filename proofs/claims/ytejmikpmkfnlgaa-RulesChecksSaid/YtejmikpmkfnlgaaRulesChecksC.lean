/- Contracts: RulesChecks. No condition of its own. -/
import Derived.Test.YtejmikpmkfnlgaaBase
import Derived.Test.YtejmikpmkfnlgaaRulesChecksS
namespace Go.Proofs.Ytejmikpmkfnlgaa
open Go.Den
set_option linter.unusedVariables false
set_option maxRecDepth 100000
def rulesName_ann : Ann := (.two .nil (.two (.two .nil (.joinE ⟨[0], [], []⟩ (.two (.loop ⟨[0, 6], [(7, (.int .i64))], []⟩ .nil) .nil))) .nil))
noncomputable def rulesName_con : Con := ⟨[.str], true, [], .bool, fun x => rulesName x.1, none⟩
noncomputable def rulesName_env : Env := []
theorem rulesName_den (x : DL rulesName_con.ps) : rulesName_con.φ x = denF Try.prog rulesName_env rulesName_ann Try.f58 rulesName_con.ps rulesName_con.one rulesName_con.res rulesName_con.ρ x := by kernel_rfl
theorem rulesName_ok : ConOK Try.prog 58 rulesName_con :=
  con_of_den (env := rulesName_env) ((EnvOK.nil _)) mixed Try.func58 rulesName_con rulesName_ann (by kernel_rfl) (fun h => by first | rfl | cases h) (fun g hg => by cases hg) rulesName_den
def rulesWithin_ann : Ann := .nil
noncomputable def rulesWithin_con : Con := ⟨[(.int .i64), (.int .i64), (.int .i64)], true, [], .bool, fun x => rulesWithin_o x.1 x.2.1 x.2.2.1, some fun x => rulesWithin x.1 x.2.1 x.2.2.1⟩
noncomputable def rulesWithin_env : Env := []
theorem rulesWithin_den (x : DL rulesWithin_con.ps) : rulesWithin_con.φ x = denF Try.prog rulesWithin_env rulesWithin_ann Try.f87 rulesWithin_con.ps rulesWithin_con.one rulesWithin_con.res rulesWithin_con.ρ x := by kernel_rfl
theorem rulesWithin_ok : ConOK Try.prog 87 rulesWithin_con :=
  con_of_den (env := rulesWithin_env) ((EnvOK.nil _)) mixed Try.func87 rulesWithin_con rulesWithin_ann (by kernel_rfl) (fun h => by first | rfl | cases h) (fun g hg x => by
    cases hg
    exact rulesWithin_eq _ _ _) rulesWithin_den
def rulesPieces_ann : Ann := (.two .nil (.two .nil (.two .nil (.two (.two .nil (.joinE ⟨[], [], []⟩ (.two (.loop ⟨[1, 16, 17], [(18, (.int .i64))], []⟩ (.two .nil (.two .nil (.two (.joinE ⟨[1, 16, 17, 18], [], []⟩ (.two (.two .nil (.two (.two (.two .nil (.two .nil (.two (.two (.two .nil (.two (.two (.two .nil (.two (.two .nil (.joinE ⟨[], [], []⟩ (.two (.loop ⟨[0, 1, 7], [(8, (.int .i64))], []⟩ .nil) .nil))) .nil)) .nil) .nil)) .nil) .nil))) .nil) (.two .nil (.joinE ⟨[1, 16, 17, 18], [], []⟩ (.two (.loop ⟨[1, 16, 17, 18, 59, 60], [(61, (.int .i64))], []⟩ .nil) .nil))))) .nil)) .nil)))) .nil))) .nil))))
noncomputable def rulesPieces_con : Con := ⟨[(.st .str (.st (.int .i64) (.st (.int .i64) (.st (.sl (.st (.int .u8) (.st (.int .i64) (.st (.int .i64) (.st (.sl (.st (.int .i64) (.st (.int .i64) (.st (.int .i64) (.st (.int .i64) .nil))))) .nil))))) (.st (.sl (.int .i64)) (.st .bool (.st .bool (.st (.sl (.st (.int .i64) (.st (.int .i64) (.st (.int .i64) (.st .bool .nil))))) (.st (.int .i64) (.st (.int .i64) (.st (.int .i64) .nil)))))))))))], true, [], (.int .i64), fun x => rulesPieces x.1, none⟩
noncomputable def rulesPieces_env : Env := (87, .con rulesWithin_con) :: (99, .body Try.f99) :: (101, .body Try.f101) :: (98, .body Try.f98) :: []
theorem rulesPieces_den (x : DL rulesPieces_con.ps) : rulesPieces_con.φ x = denF Try.prog rulesPieces_env rulesPieces_ann Try.f88 rulesPieces_con.ps rulesPieces_con.one rulesPieces_con.res rulesPieces_con.ρ x := by kernel_rfl
theorem rulesPieces_ok : ConOK Try.prog 88 rulesPieces_con :=
  con_of_den (env := rulesPieces_env) ((EnvOK.cons (EnvOK.body (EnvOK.body (EnvOK.body (EnvOK.nil _) Try.func98) Try.func101) Try.func99) rulesWithin_ok)) mixed Try.func88 rulesPieces_con rulesPieces_ann (by kernel_rfl) (fun h => by first | rfl | cases h) (fun g hg => by cases hg) rulesPieces_den
def rulesConditions_ann : Ann := (.two .nil (.two .nil (.two (.two .nil (.joinE ⟨[], [], []⟩ (.two (.loop ⟨[1, 12, 13], [(14, (.int .i64))], []⟩ (.two .nil (.two .nil (.two (.two (.two .nil (.two .nil (.two (.two .nil (.two (.two .nil (.joinE ⟨[1, 12, 13, 14], [(5, .bool), (6, .bool)], []⟩ (.two .nil (.two .nil (.joinE ⟨[1, 6, 12, 13, 14], [(5, .bool)], []⟩ .nil))))) .nil)) .nil))) .nil) .nil)))) .nil))) .nil)))
noncomputable def rulesConditions_con : Con := ⟨[(.st .str (.st (.int .i64) (.st (.int .i64) (.st (.sl (.st (.int .u8) (.st (.int .i64) (.st (.int .i64) (.st (.sl (.st (.int .i64) (.st (.int .i64) (.st (.int .i64) (.st (.int .i64) .nil))))) .nil))))) (.st (.sl (.int .i64)) (.st .bool (.st .bool (.st (.sl (.st (.int .i64) (.st (.int .i64) (.st (.int .i64) (.st .bool .nil))))) (.st (.int .i64) (.st (.int .i64) (.st (.int .i64) .nil)))))))))))], true, [], (.int .i64), fun x => rulesConditions x.1, none⟩
noncomputable def rulesConditions_env : Env := (87, .con rulesWithin_con) :: []
theorem rulesConditions_den (x : DL rulesConditions_con.ps) : rulesConditions_con.φ x = denF Try.prog rulesConditions_env rulesConditions_ann Try.f90 rulesConditions_con.ps rulesConditions_con.one rulesConditions_con.res rulesConditions_con.ρ x := by kernel_rfl
theorem rulesConditions_ok : ConOK Try.prog 90 rulesConditions_con :=
  con_of_den (env := rulesConditions_env) ((EnvOK.cons (EnvOK.nil _) rulesWithin_ok)) mixed Try.func90 rulesConditions_con rulesConditions_ann (by kernel_rfl) (fun h => by first | rfl | cases h) (fun g hg => by cases hg) rulesConditions_den
def rulesCheck_ann : Ann := (.two .nil (.two .nil (.two .nil (.two .nil (.two .nil (.two (.two (.two (.two .nil (.two (.two (.two .nil (.two (.two .nil (.joinE ⟨[], [], []⟩ (.two (.loop ⟨[0, 1, 7], [(8, (.int .i64))], []⟩ .nil) .nil))) .nil)) .nil) .nil)) .nil) .nil) .nil))))))
noncomputable def rulesCheck_con : Con := ⟨[(.st .str (.st (.int .i64) (.st (.int .i64) (.st (.sl (.st (.int .u8) (.st (.int .i64) (.st (.int .i64) (.st (.sl (.st (.int .i64) (.st (.int .i64) (.st (.int .i64) (.st (.int .i64) .nil))))) .nil))))) (.st (.sl (.int .i64)) (.st .bool (.st .bool (.st (.sl (.st (.int .i64) (.st (.int .i64) (.st (.int .i64) (.st .bool .nil))))) (.st (.int .i64) (.st (.int .i64) (.st (.int .i64) .nil)))))))))))], true, [], (.int .i64), fun x => rulesCheck x.1, none⟩
noncomputable def rulesCheck_env : Env := (90, .con rulesConditions_con) :: (89, .body Try.f89) :: (93, .body Try.f93) :: (61, .body Try.f61) :: (88, .con rulesPieces_con) :: (87, .con rulesWithin_con) :: (58, .con rulesName_con) :: []
theorem rulesCheck_den (x : DL rulesCheck_con.ps) : rulesCheck_con.φ x = denF Try.prog rulesCheck_env rulesCheck_ann Try.f55 rulesCheck_con.ps rulesCheck_con.one rulesCheck_con.res rulesCheck_con.ρ x := by kernel_rfl
theorem rulesCheck_ok : ConOK Try.prog 55 rulesCheck_con :=
  con_of_den (env := rulesCheck_env) ((EnvOK.cons (EnvOK.body (EnvOK.body (EnvOK.body (EnvOK.cons (EnvOK.cons (EnvOK.cons (EnvOK.nil _) rulesName_ok) rulesWithin_ok) rulesPieces_ok) Try.func61) Try.func93) Try.func89) rulesConditions_ok)) mixed Try.func55 rulesCheck_con rulesCheck_ann (by kernel_rfl) (fun h => by first | rfl | cases h) (fun g hg => by cases hg) rulesCheck_den
def law1Three_ann : Ann := .nil
noncomputable def law1Three_con : Con := ⟨[], true, [], (.st .str (.st (.int .i64) (.st (.int .i64) (.st (.osl 115 (.st (.int .u8) (.st (.int .i64) (.st (.int .i64) (.st (.sl (.st (.int .i64) (.st (.int .i64) (.st (.int .i64) (.st (.int .i64) .nil))))) .nil))))) (.st (.osl 3 (.int .i64)) (.st .bool (.st .bool (.st (.osl 117 (.st (.int .i64) (.st (.int .i64) (.st (.int .i64) (.st .bool .nil))))) (.st (.int .i64) (.st (.int .i64) (.st (.int .i64) .nil))))))))))), fun x => law1Three_o, some fun x => law1Three⟩
noncomputable def law1Three_env : Env := []
theorem law1Three_den (x : DL law1Three_con.ps) : law1Three_con.φ x = denF Try.prog law1Three_env law1Three_ann Try.f56 law1Three_con.ps law1Three_con.one law1Three_con.res law1Three_con.ρ x := by kernel_rfl
theorem law1Three_ok : ConOK Try.prog 56 law1Three_con :=
  con_of_den (env := law1Three_env) ((EnvOK.nil _)) mixed Try.func56 law1Three_con law1Three_ann (by kernel_rfl) (fun h => by first | rfl | cases h) (fun g hg x => by
    cases hg
    exact law1Three_eq ) law1Three_den
def rulesIsLast_ann : Ann := .nil
noncomputable def rulesIsLast_con : Con := ⟨[(.st .str (.st (.int .i64) (.st (.int .i64) (.st (.sl (.st (.int .u8) (.st (.int .i64) (.st (.int .i64) (.st (.sl (.st (.int .i64) (.st (.int .i64) (.st (.int .i64) (.st (.int .i64) .nil))))) .nil))))) (.st (.sl (.int .i64)) (.st .bool (.st .bool (.st (.sl (.st (.int .i64) (.st (.int .i64) (.st (.int .i64) (.st .bool .nil))))) (.st (.int .i64) (.st (.int .i64) (.st (.int .i64) .nil))))))))))), (.int .i64), (.int .i64)], true, [], .bool, fun x => rulesIsLast x.1 x.2.1 x.2.2.1, none⟩
noncomputable def rulesIsLast_env : Env := []
theorem rulesIsLast_den (x : DL rulesIsLast_con.ps) : rulesIsLast_con.φ x = denF Try.prog rulesIsLast_env rulesIsLast_ann Try.f91 rulesIsLast_con.ps rulesIsLast_con.one rulesIsLast_con.res rulesIsLast_con.ρ x := by kernel_rfl
theorem rulesIsLast_ok : ConOK Try.prog 91 rulesIsLast_con :=
  con_of_den (env := rulesIsLast_env) ((EnvOK.nil _)) mixed Try.func91 rulesIsLast_con rulesIsLast_ann (by kernel_rfl) (fun h => by first | rfl | cases h) (fun g hg => by cases hg) rulesIsLast_den
def rulesLast_ann : Ann := .nil
noncomputable def rulesLast_con : Con := ⟨[(.st .str (.st (.int .i64) (.st (.int .i64) (.st (.sl (.st (.int .u8) (.st (.int .i64) (.st (.int .i64) (.st (.sl (.st (.int .i64) (.st (.int .i64) (.st (.int .i64) (.st (.int .i64) .nil))))) .nil))))) (.st (.sl (.int .i64)) (.st .bool (.st .bool (.st (.sl (.st (.int .i64) (.st (.int .i64) (.st (.int .i64) (.st .bool .nil))))) (.st (.int .i64) (.st (.int .i64) (.st (.int .i64) .nil))))))))))), (.int .i64), (.int .i64)], false, [.bool, (.int .i64)], (.st .bool (.st (.int .i64) .nil)), fun x => rulesLast x.1 x.2.1 x.2.2.1, none⟩
noncomputable def rulesLast_env : Env := (91, .con rulesIsLast_con) :: (87, .con rulesWithin_con) :: (55, .con rulesCheck_con) :: []
theorem rulesLast_den (x : DL rulesLast_con.ps) : rulesLast_con.φ x = denF Try.prog rulesLast_env rulesLast_ann Try.f57 rulesLast_con.ps rulesLast_con.one rulesLast_con.res rulesLast_con.ρ x := by kernel_rfl
theorem rulesLast_ok : ConOK Try.prog 57 rulesLast_con :=
  con_of_den (env := rulesLast_env) ((EnvOK.cons (EnvOK.cons (EnvOK.cons (EnvOK.nil _) rulesCheck_ok) rulesWithin_ok) rulesIsLast_ok)) mixed Try.func57 rulesLast_con rulesLast_ann (by kernel_rfl) (fun h => by first | rfl | cases h) (fun g hg => by cases hg) rulesLast_den
def ref1In_ann : Ann := .nil
noncomputable def ref1In_con : Con := ⟨[(.int .i64), (.int .i64), (.int .i64)], true, [], .bool, fun x => ref1In_o x.1 x.2.1 x.2.2.1, some fun x => ref1In x.1 x.2.1 x.2.2.1⟩
noncomputable def ref1In_env : Env := []
theorem ref1In_den (x : DL ref1In_con.ps) : ref1In_con.φ x = denF Try.prog ref1In_env ref1In_ann Try.f16 ref1In_con.ps ref1In_con.one ref1In_con.res ref1In_con.ρ x := by kernel_rfl
theorem ref1In_ok : ConOK Try.prog 16 ref1In_con :=
  con_of_den (env := ref1In_env) ((EnvOK.nil _)) mixed Try.func16 ref1In_con ref1In_ann (by kernel_rfl) (fun h => by first | rfl | cases h) (fun g hg x => by
    cases hg
    exact ref1In_eq _ _ _) ref1In_den
def ref1Named_ann : Ann := (.two .nil (.two (.two .nil (.joinE ⟨[0], [], []⟩ (.two (.loop ⟨[0, 6], [(7, (.int .i64))], []⟩ .nil) .nil))) .nil))
noncomputable def ref1Named_con : Con := ⟨[.str], true, [], .bool, fun x => ref1Named x.1, none⟩
noncomputable def ref1Named_env : Env := (16, .con ref1In_con) :: []
theorem ref1Named_den (x : DL ref1Named_con.ps) : ref1Named_con.φ x = denF Try.prog ref1Named_env ref1Named_ann Try.f60 ref1Named_con.ps ref1Named_con.one ref1Named_con.res ref1Named_con.ρ x := by kernel_rfl
theorem ref1Named_ok : ConOK Try.prog 60 ref1Named_con :=
  con_of_den (env := ref1Named_env) ((EnvOK.cons (EnvOK.nil _) ref1In_ok)) mixed Try.func60 ref1Named_con ref1Named_ann (by kernel_rfl) (fun h => by first | rfl | cases h) (fun g hg => by cases hg) ref1Named_den
def ref1PieceError_ann : Ann := (.two .nil (.two .nil (.two .nil (.two (.two .nil (.joinE ⟨[0, 5], [], []⟩ (.two (.loop ⟨[0, 5, 18], [(19, (.int .i64))], []⟩ .nil) .nil))) (.two .nil (.two .nil (.two (.two .nil (.joinE ⟨[], [], []⟩ (.two (.loop ⟨[48, 49], [(50, (.int .i64))], []⟩ .nil) .nil))) .nil)))))))
noncomputable def ref1PieceError_con : Con := ⟨[(.sl (.st (.int .u8) (.st (.int .i64) (.st (.int .i64) (.st (.sl (.st (.int .i64) (.st (.int .i64) (.st (.int .i64) (.st (.int .i64) .nil))))) .nil))))), (.int .i64)], true, [], (.int .i64), fun x => ref1PieceError x.1 x.2.1, none⟩
noncomputable def ref1PieceError_env : Env := (16, .con ref1In_con) :: []
theorem ref1PieceError_den (x : DL ref1PieceError_con.ps) : ref1PieceError_con.φ x = denF Try.prog ref1PieceError_env ref1PieceError_ann Try.f92 ref1PieceError_con.ps ref1PieceError_con.one ref1PieceError_con.res ref1PieceError_con.ρ x := by kernel_rfl
theorem ref1PieceError_ok : ConOK Try.prog 92 ref1PieceError_con :=
  con_of_den (env := ref1PieceError_env) ((EnvOK.cons (EnvOK.nil _) ref1In_ok)) mixed Try.func92 ref1PieceError_con ref1PieceError_ann (by kernel_rfl) (fun h => by first | rfl | cases h) (fun g hg => by cases hg) ref1PieceError_den
def ref1RulesError_ann : Ann := (.two .nil (.two .nil (.two .nil (.two .nil (.two .nil (.two .nil (.two (.two .nil (.joinE ⟨[1, 3], [], []⟩ (.two (.loop ⟨[1, 3, 35], [(36, (.int .i64))], []⟩ .nil) .nil))) (.two .nil (.two (.two .nil (.joinE ⟨[1, 3], [], []⟩ (.two (.loop ⟨[1, 3, 57, 58], [(59, (.int .i64))], []⟩ .nil) .nil))) (.two .nil (.two (.two .nil (.joinE ⟨[1], [], []⟩ (.two (.loop ⟨[1, 3, 74, 75], [(76, (.int .i64))], []⟩ (.two .nil (.two .nil (.two (.two (.two .nil (.two .nil (.two .nil (.two (.two .nil (.join ⟨[1, 3, 9, 11, 74, 75, 76], [(10, .bool)], []⟩ .nil)) (.two (.two .nil (.join ⟨[1, 3, 10, 74, 75, 76], [(11, .bool)], []⟩ .nil)) .nil))))) .nil) .nil)))) .nil))) .nil)))))))))))
noncomputable def ref1RulesError_con : Con := ⟨[(.st .str (.st (.int .i64) (.st (.int .i64) (.st (.sl (.st (.int .u8) (.st (.int .i64) (.st (.int .i64) (.st (.sl (.st (.int .i64) (.st (.int .i64) (.st (.int .i64) (.st (.int .i64) .nil))))) .nil))))) (.st (.sl (.int .i64)) (.st .bool (.st .bool (.st (.sl (.st (.int .i64) (.st (.int .i64) (.st (.int .i64) (.st .bool .nil))))) (.st (.int .i64) (.st (.int .i64) (.st (.int .i64) .nil)))))))))))], true, [], (.int .i64), fun x => ref1RulesError x.1, none⟩
noncomputable def ref1RulesError_env : Env := (92, .con ref1PieceError_con) :: (16, .con ref1In_con) :: (60, .con ref1Named_con) :: []
theorem ref1RulesError_den (x : DL ref1RulesError_con.ps) : ref1RulesError_con.φ x = denF Try.prog ref1RulesError_env ref1RulesError_ann Try.f59 ref1RulesError_con.ps ref1RulesError_con.one ref1RulesError_con.res ref1RulesError_con.ρ x := by kernel_rfl
theorem ref1RulesError_ok : ConOK Try.prog 59 ref1RulesError_con :=
  con_of_den (env := ref1RulesError_env) ((EnvOK.cons (EnvOK.cons (EnvOK.cons (EnvOK.nil _) ref1Named_ok) ref1In_ok) ref1PieceError_ok)) mixed Try.func59 ref1RulesError_con ref1RulesError_ann (by kernel_rfl) (fun h => by first | rfl | cases h) (fun g hg => by cases hg) ref1RulesError_den
def law1RulesChecks_ann : Ann := (.two .nil (.two (.two (.join ⟨[1, 2, 3, 4], [(22, .bool)], []⟩ .nil) .nil) (.two .nil (.two .nil (.two .nil (.two .nil (.two (.two .nil (.join ⟨[2, 3, 4, 12, 13], [(11, (.int .i64))], []⟩ .nil)) (.two (.two .nil (.join ⟨[2, 3, 4, 12, 13], [(11, (.int .i64))], []⟩ .nil)) .nil))))))))
noncomputable def law1RulesChecks_con : Con := ⟨[(.st .str (.st (.int .i64) (.st (.int .i64) (.st (.sl (.st (.int .u8) (.st (.int .i64) (.st (.int .i64) (.st (.sl (.st (.int .i64) (.st (.int .i64) (.st (.int .i64) (.st (.int .i64) .nil))))) .nil))))) (.st (.sl (.int .i64)) (.st .bool (.st .bool (.st (.sl (.st (.int .i64) (.st (.int .i64) (.st (.int .i64) (.st .bool .nil))))) (.st (.int .i64) (.st (.int .i64) (.st (.int .i64) .nil))))))))))), .str, (.int .i64), (.int .i64)], true, [], .bool, fun x => law1RulesChecks x.1 x.2.1 x.2.2.1 x.2.2.2.1, none⟩
noncomputable def law1RulesChecks_env : Env := (16, .con ref1In_con) :: (60, .con ref1Named_con) :: (59, .con ref1RulesError_con) :: (58, .con rulesName_con) :: (57, .con rulesLast_con) :: (56, .con law1Three_con) :: (55, .con rulesCheck_con) :: []
theorem law1RulesChecks_den (x : DL law1RulesChecks_con.ps) : law1RulesChecks_con.φ x = denF Try.prog law1RulesChecks_env law1RulesChecks_ann Try.f12 law1RulesChecks_con.ps law1RulesChecks_con.one law1RulesChecks_con.res law1RulesChecks_con.ρ x := by kernel_rfl
theorem law1RulesChecks_ok : ConOK Try.prog 12 law1RulesChecks_con :=
  con_of_den (env := law1RulesChecks_env) ((EnvOK.cons (EnvOK.cons (EnvOK.cons (EnvOK.cons (EnvOK.cons (EnvOK.cons (EnvOK.cons (EnvOK.nil _) rulesCheck_ok) law1Three_ok) rulesLast_ok) rulesName_ok) ref1RulesError_ok) ref1Named_ok) ref1In_ok)) mixed Try.func12 law1RulesChecks_con law1RulesChecks_ann (by kernel_rfl) (fun h => by first | rfl | cases h) (fun g hg => by cases hg) law1RulesChecks_den
end Go.Proofs.Ytejmikpmkfnlgaa
