/- Contracts: WindowClamps. No condition of its own. -/
import Derived.Test.YtpajmeljfpolcaaBase
import Derived.Test.YtpajmeljfpolcaaWindowClampsS
import Derived.Test.YtpajmeljfpolcaaSearchC
namespace Go.Proofs.Ytpajmeljfpolcaa
open Go.Den
set_option linter.unusedVariables false
set_option maxRecDepth 100000
def windowScore_ann : Ann := .nil
noncomputable def windowScore_con : Con := ⟨[(.st .str (.st (.int .i64) (.st (.int .i64) (.st (.sl (.st (.int .u8) (.st (.int .i64) (.st (.int .i64) (.st (.sl (.st (.int .i64) (.st (.int .i64) (.st (.int .i64) (.st (.int .i64) .nil))))) .nil))))) (.st (.sl (.int .i64)) (.st .bool (.st .bool (.st (.sl (.st (.int .i64) (.st (.int .i64) (.st (.int .i64) (.st .bool .nil))))) (.st (.int .i64) (.st (.int .i64) (.st (.int .i64) .nil))))))))))), (.st (.sl (.int .i64)) (.st (.st (.sl (.int .i64)) (.st (.sl (.int .i64)) .nil)) (.st (.int .i64) (.st (.int .i64) .nil)))), (.int .i64), (.int .i64), (.int .i64)], false, [(.int .i64), (.int .i64), (.int .i64)], (.st (.int .i64) (.st (.int .i64) (.st (.int .i64) .nil))), fun x => windowScore x.1 x.2.1 x.2.2.1 x.2.2.2.1 x.2.2.2.2.1, none⟩
noncomputable def windowScore_env : Env := (126, .con minimaxOf_con) :: (30, .con perftTree_con) :: []
theorem windowScore_den (x : DL windowScore_con.ps) : windowScore_con.φ x = denF Try.prog windowScore_env windowScore_ann Try.f72 windowScore_con.ps windowScore_con.one windowScore_con.res windowScore_con.ρ x := by kernel_rfl
theorem windowScore_ok : ConOK Try.prog 72 windowScore_con :=
  con_of_den (env := windowScore_env) ((EnvOK.cons (EnvOK.cons (EnvOK.nil _) perftTree_ok) minimaxOf_ok)) mixed Try.func72 windowScore_con windowScore_ann (by kernel_rfl) (fun h => by first | rfl | cases h) (fun g hg => by cases hg) windowScore_den
def windowReaches_ann : Ann := .nil
noncomputable def windowReaches_con : Con := ⟨[(.st .str (.st (.int .i64) (.st (.int .i64) (.st (.sl (.st (.int .u8) (.st (.int .i64) (.st (.int .i64) (.st (.sl (.st (.int .i64) (.st (.int .i64) (.st (.int .i64) (.st (.int .i64) .nil))))) .nil))))) (.st (.sl (.int .i64)) (.st .bool (.st .bool (.st (.sl (.st (.int .i64) (.st (.int .i64) (.st (.int .i64) (.st .bool .nil))))) (.st (.int .i64) (.st (.int .i64) (.st (.int .i64) .nil))))))))))), (.st (.sl (.int .i64)) (.st (.st (.sl (.int .i64)) (.st (.sl (.int .i64)) .nil)) (.st (.int .i64) (.st (.int .i64) .nil)))), (.int .i64), (.int .i64)], false, [.bool, (.int .i64)], (.st .bool (.st (.int .i64) .nil)), fun x => windowReaches x.1 x.2.1 x.2.2.1 x.2.2.2.1, none⟩
noncomputable def windowReaches_env : Env := (126, .con minimaxOf_con) :: (30, .con perftTree_con) :: []
theorem windowReaches_den (x : DL windowReaches_con.ps) : windowReaches_con.φ x = denF Try.prog windowReaches_env windowReaches_ann Try.f73 windowReaches_con.ps windowReaches_con.one windowReaches_con.res windowReaches_con.ρ x := by kernel_rfl
theorem windowReaches_ok : ConOK Try.prog 73 windowReaches_con :=
  con_of_den (env := windowReaches_env) ((EnvOK.cons (EnvOK.cons (EnvOK.nil _) perftTree_ok) minimaxOf_ok)) mixed Try.func73 windowReaches_con windowReaches_ann (by kernel_rfl) (fun h => by first | rfl | cases h) (fun g hg => by cases hg) windowReaches_den
def law1WindowClamps_ann : Ann := (.two .nil (.two .nil (.two .nil (.two .nil (.two .nil (.two .nil (.two .nil (.two .nil (.two .nil (.two (.two .nil (.joinE ⟨[2, 3, 4, 5, 6, 16, 17, 18, 22], [], []⟩ .nil)) .nil))))))))))
noncomputable def law1WindowClamps_con : Con := ⟨[(.st .str (.st (.int .i64) (.st (.int .i64) (.st (.sl (.st (.int .u8) (.st (.int .i64) (.st (.int .i64) (.st (.sl (.st (.int .i64) (.st (.int .i64) (.st (.int .i64) (.st (.int .i64) .nil))))) .nil))))) (.st (.sl (.int .i64)) (.st .bool (.st .bool (.st (.sl (.st (.int .i64) (.st (.int .i64) (.st (.int .i64) (.st .bool .nil))))) (.st (.int .i64) (.st (.int .i64) (.st (.int .i64) .nil))))))))))), (.st (.sl (.int .i64)) (.st (.st (.sl (.int .i64)) (.st (.sl (.int .i64)) .nil)) (.st (.int .i64) (.st (.int .i64) .nil)))), (.int .i64), (.int .i64), (.int .i64)], true, [], .bool, fun x => law1WindowClamps x.1 x.2.1 x.2.2.1 x.2.2.2.1 x.2.2.2.2.1, none⟩
noncomputable def law1WindowClamps_env : Env := (33, .con ref1Tree_con) :: (53, .con ref1In_con) :: (70, .con ref1Score_con) :: (31, .con law1TreeError_con) :: (28, .con law1Light_con) :: (67, .con law1Scored_con) :: (73, .con windowReaches_con) :: (72, .con windowScore_con) :: (26, .con law1Near_con) :: (16, .con law1Three_con) :: []
theorem law1WindowClamps_den (x : DL law1WindowClamps_con.ps) : law1WindowClamps_con.φ x = denF Try.prog law1WindowClamps_env law1WindowClamps_ann Try.f10 law1WindowClamps_con.ps law1WindowClamps_con.one law1WindowClamps_con.res law1WindowClamps_con.ρ x := by kernel_rfl
theorem law1WindowClamps_ok : ConOK Try.prog 10 law1WindowClamps_con :=
  con_of_den (env := law1WindowClamps_env) ((EnvOK.cons (EnvOK.cons (EnvOK.cons (EnvOK.cons (EnvOK.cons (EnvOK.cons (EnvOK.cons (EnvOK.cons (EnvOK.cons (EnvOK.cons (EnvOK.nil _) law1Three_ok) law1Near_ok) windowScore_ok) windowReaches_ok) law1Scored_ok) law1Light_ok) law1TreeError_ok) ref1Score_ok) ref1In_ok) ref1Tree_ok)) mixed Try.func10 law1WindowClamps_con law1WindowClamps_ann (by kernel_rfl) (fun h => by first | rfl | cases h) (fun g hg => by cases hg) law1WindowClamps_den
end Go.Proofs.Ytpajmeljfpolcaa
