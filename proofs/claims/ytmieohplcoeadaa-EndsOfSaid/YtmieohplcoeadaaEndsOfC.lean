/- Contracts: EndsOf. No condition of its own. -/
import Derived.Test.YtmieohplcoeadaaBase
import Derived.Test.YtmieohplcoeadaaEndsOfS
import Derived.Test.YtmieohplcoeadaaCoreC
namespace Go.Proofs.Ytmieohplcoeadaa
open Go.Den
set_option linter.unusedVariables false
set_option maxRecDepth 100000
def law1EndsOf_ann : Ann := .nil
noncomputable def law1EndsOf_con : Con := ⟨[(.st .str (.st (.int .i64) (.st (.int .i64) (.st (.sl (.st (.int .u8) (.st (.int .i64) (.st (.int .i64) (.st (.sl (.st (.int .i64) (.st (.int .i64) (.st (.int .i64) (.st (.int .i64) .nil))))) .nil))))) (.st (.sl (.int .i64)) (.st .bool (.st .bool (.st (.sl (.st (.int .i64) (.st (.int .i64) (.st (.int .i64) (.st .bool .nil))))) (.st (.int .i64) (.st (.int .i64) (.st (.int .i64) .nil))))))))))), (.st (.sl (.int .i64)) (.st (.st (.sl (.int .i64)) (.st (.sl (.int .i64)) .nil)) (.st (.int .i64) (.st (.int .i64) .nil))))], true, [], .bool, fun x => law1EndsOf x.1 x.2.1, none⟩
noncomputable def law1EndsOf_env : Env := (25, .con ref1Result_con) :: (24, .con ref1PlaceError_con) :: (21, .con endsOf_con) :: (23, .con law1Won_con) :: (22, .con law1Three_con) :: []
theorem law1EndsOf_den (x : DL law1EndsOf_con.ps) : law1EndsOf_con.φ x = denF Try.prog law1EndsOf_env law1EndsOf_ann Try.f4 law1EndsOf_con.ps law1EndsOf_con.one law1EndsOf_con.res law1EndsOf_con.ρ x := by kernel_rfl
theorem law1EndsOf_ok : ConOK Try.prog 4 law1EndsOf_con :=
  con_of_den (env := law1EndsOf_env) ((EnvOK.cons (EnvOK.cons (EnvOK.cons (EnvOK.cons (EnvOK.cons (EnvOK.nil _) law1Three_ok) law1Won_ok) endsOf_ok) ref1PlaceError_ok) ref1Result_ok)) mixed Try.func4 law1EndsOf_con law1EndsOf_ann (by kernel_rfl) (fun h => by first | rfl | cases h) (fun g hg => by cases hg) law1EndsOf_den
end Go.Proofs.Ytmieohplcoeadaa
