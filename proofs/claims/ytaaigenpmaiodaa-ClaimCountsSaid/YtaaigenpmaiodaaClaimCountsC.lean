/- Contracts: ClaimCounts. No condition of its own. -/
import Derived.Test.YtaaigenpmaiodaaBase
import Derived.Test.YtaaigenpmaiodaaClaimCountsS
import Derived.Test.YtaaigenpmaiodaaGameC
namespace Go.Proofs.Ytaaigenpmaiodaa
open Go.Den
set_option linter.unusedVariables false
set_option maxRecDepth 100000
def law3ClaimCounts_ann : Ann := (.two .nil (.two .nil (.two .nil (.two .nil (.two .nil (.two .nil (.two .nil (.two .nil (.two .nil (.two (.two .nil (.join ⟨[5, 6, 7, 8, 9], [(11, (.int .i64))], []⟩ (.two (.loop ⟨[5, 6, 7, 8, 9, 54, 55], [(11, (.int .i64)), (56, (.int .i64))], []⟩ (.two .nil (.two .nil (.two (.two (.two .nil (.two .nil (.two .nil (.join ⟨[5, 6, 7, 8, 9, 54, 55, 56], [(11, (.int .i64))], []⟩ .nil)))) .nil) .nil)))) .nil))) .nil))))))))))
noncomputable def law3ClaimCounts_con : Con := ⟨[(.st .str (.st (.int .i64) (.st (.int .i64) (.st (.sl (.st (.int .u8) (.st (.int .i64) (.st (.int .i64) (.st (.sl (.st (.int .i64) (.st (.int .i64) (.st (.int .i64) (.st (.int .i64) .nil))))) .nil))))) (.st (.sl (.int .i64)) (.st .bool (.st .bool (.st (.sl (.st (.int .i64) (.st (.int .i64) (.st (.int .i64) (.st .bool .nil))))) (.st (.int .i64) (.st (.int .i64) (.st (.int .i64) .nil))))))))))), (.sl (.st (.int .i64) (.st (.int .i64) (.st (.int .i64) .nil))))], true, [], .bool, fun x => law3ClaimCounts x.1 x.2.1, none⟩
noncomputable def law3ClaimCounts_env : Env := (44, .con ref3Times_con) :: (43, .con ref3Places_con) :: (42, .con claimQuiet_con) :: (41, .con claimRepeats_con) :: (29, .con law3Great_con) :: (40, .con law3Cut_con) :: (39, .con law3Claims_con) :: []
theorem law3ClaimCounts_den (x : DL law3ClaimCounts_con.ps) : law3ClaimCounts_con.φ x = denF Try.prog law3ClaimCounts_env law3ClaimCounts_ann Try.f7 law3ClaimCounts_con.ps law3ClaimCounts_con.one law3ClaimCounts_con.res law3ClaimCounts_con.ρ x := by kernel_rfl
theorem law3ClaimCounts_ok : ConOK Try.prog 7 law3ClaimCounts_con :=
  con_of_den (env := law3ClaimCounts_env) ((EnvOK.cons (EnvOK.cons (EnvOK.cons (EnvOK.cons (EnvOK.cons (EnvOK.cons (EnvOK.cons (EnvOK.nil _) law3Claims_ok) law3Cut_ok) law3Great_ok) claimRepeats_ok) claimQuiet_ok) ref3Places_ok) ref3Times_ok)) mixed Try.func7 law3ClaimCounts_con law3ClaimCounts_ann (by kernel_rfl) (fun h => by first | rfl | cases h) (fun g hg => by cases hg) law3ClaimCounts_den
end Go.Proofs.Ytaaigenpmaiodaa
