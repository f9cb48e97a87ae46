/- Contracts: Search. No condition of its own. -/
import Derived.Test.YtocnfflklfeocaaBase
import Derived.Test.YtocnfflklfeocaaSearchS
import Derived.Test.YtocnfflklfeocaaCoreC
namespace Go.Proofs.Ytocnfflklfeocaa
open Go.Den
set_option linter.unusedVariables false
set_option maxRecDepth 100000
def law1Near_ann : Ann := .nil
noncomputable def law1Near_con : Con := ⟨[], true, [], (.st (.osl 3 (.int .i64)) (.st (.st (.osl 3 (.int .i64)) (.st (.osl 3 (.int .i64)) .nil)) (.st (.int .i64) (.st (.int .i64) .nil)))), fun x => law1Near_o, some fun x => law1Near⟩
noncomputable def law1Near_env : Env := []
theorem law1Near_den (x : DL law1Near_con.ps) : law1Near_con.φ x = denF Try.prog law1Near_env law1Near_ann Try.f45 law1Near_con.ps law1Near_con.one law1Near_con.res law1Near_con.ρ x := by kernel_rfl
theorem law1Near_ok : ConOK Try.prog 45 law1Near_con :=
  con_of_den (env := law1Near_env) ((EnvOK.nil _)) mixed Try.func45 law1Near_con law1Near_ann (by kernel_rfl) (fun h => by first | rfl | cases h) (fun g hg x => by
    cases hg
    exact law1Near_eq ) law1Near_den
end Go.Proofs.Ytocnfflklfeocaa
