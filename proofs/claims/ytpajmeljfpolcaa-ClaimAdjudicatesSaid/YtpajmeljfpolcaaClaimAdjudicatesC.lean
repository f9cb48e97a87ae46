/- Contracts: ClaimAdjudicates. No condition of its own. -/
import Derived.Test.YtpajmeljfpolcaaBase
import Derived.Test.YtpajmeljfpolcaaClaimAdjudicatesS
import Derived.Test.YtpajmeljfpolcaaGameC
namespace Go.Proofs.Ytpajmeljfpolcaa
open Go.Den
set_option linter.unusedVariables false
set_option maxRecDepth 100000
def claimAdjudicate_ann : Ann := .nil
noncomputable def claimAdjudicate_con : Con := ⟨[(.st .str (.st (.int .i64) (.st (.int .i64) (.st (.sl (.st (.int .u8) (.st (.int .i64) (.st (.int .i64) (.st (.sl (.st (.int .i64) (.st (.int .i64) (.st (.int .i64) (.st (.int .i64) .nil))))) .nil))))) (.st (.sl (.int .i64)) (.st .bool (.st .bool (.st (.sl (.st (.int .i64) (.st (.int .i64) (.st (.int .i64) (.st .bool .nil))))) (.st (.int .i64) (.st (.int .i64) (.st (.int .i64) .nil))))))))))), (.st (.sl (.int .i64)) (.st (.st (.sl (.int .i64)) (.st (.sl (.int .i64)) .nil)) (.st (.int .i64) (.st (.int .i64) .nil)))), (.int .i64)], false, [(.int .i64), (.int .i64)], (.st (.int .i64) (.st (.int .i64) .nil)), fun x => claimAdjudicate x.1 x.2.1 x.2.2.1, none⟩
noncomputable def claimAdjudicate_env : Env := (68, .con minimaxScore_con) :: (137, .con endsOf_con) :: []
theorem claimAdjudicate_den (x : DL claimAdjudicate_con.ps) : claimAdjudicate_con.φ x = denF Try.prog claimAdjudicate_env claimAdjudicate_ann Try.f85 claimAdjudicate_con.ps claimAdjudicate_con.one claimAdjudicate_con.res claimAdjudicate_con.ρ x := by kernel_rfl
theorem claimAdjudicate_ok : ConOK Try.prog 85 claimAdjudicate_con :=
  con_of_den (env := claimAdjudicate_env) ((EnvOK.cons (EnvOK.cons (EnvOK.nil _) endsOf_ok) minimaxScore_ok)) mixed Try.func85 claimAdjudicate_con claimAdjudicate_ann (by kernel_rfl) (fun h => by first | rfl | cases h) (fun g hg => by cases hg) claimAdjudicate_den
def law3ClaimAdjudicates_ann : Ann := (.two .nil (.two .nil (.two .nil (.two .nil (.two .nil (.two .nil (.two .nil (.two .nil (.two .nil (.two (.two .nil (.join ⟨[7, 8], [(13, (.int .i64))], []⟩ (.two (.two .nil (.two .nil (.join ⟨[7, 8], [(13, (.int .i64))], []⟩ .nil))) .nil))) .nil))))))))))
noncomputable def law3ClaimAdjudicates_con : Con := ⟨[(.st .str (.st (.int .i64) (.st (.int .i64) (.st (.sl (.st (.int .u8) (.st (.int .i64) (.st (.int .i64) (.st (.sl (.st (.int .i64) (.st (.int .i64) (.st (.int .i64) (.st (.int .i64) .nil))))) .nil))))) (.st (.sl (.int .i64)) (.st .bool (.st .bool (.st (.sl (.st (.int .i64) (.st (.int .i64) (.st (.int .i64) (.st .bool .nil))))) (.st (.int .i64) (.st (.int .i64) (.st (.int .i64) .nil))))))))))), (.st (.sl (.int .i64)) (.st (.st (.sl (.int .i64)) (.st (.sl (.int .i64)) .nil)) (.st (.int .i64) (.st (.int .i64) .nil)))), (.int .i64)], true, [], .bool, fun x => law3ClaimAdjudicates x.1 x.2.1 x.2.2.1, none⟩
noncomputable def law3ClaimAdjudicates_env : Env := (68, .con minimaxScore_con) :: (87, .con ref3Result_con) :: (86, .con placeCheck_con) :: (85, .con claimAdjudicate_con) :: (84, .con law3Great_con) :: (83, .con law3Claims_con) :: []
theorem law3ClaimAdjudicates_den (x : DL law3ClaimAdjudicates_con.ps) : law3ClaimAdjudicates_con.φ x = denF Try.prog law3ClaimAdjudicates_env law3ClaimAdjudicates_ann Try.f14 law3ClaimAdjudicates_con.ps law3ClaimAdjudicates_con.one law3ClaimAdjudicates_con.res law3ClaimAdjudicates_con.ρ x := by kernel_rfl
theorem law3ClaimAdjudicates_ok : ConOK Try.prog 14 law3ClaimAdjudicates_con :=
  con_of_den (env := law3ClaimAdjudicates_env) ((EnvOK.cons (EnvOK.cons (EnvOK.cons (EnvOK.cons (EnvOK.cons (EnvOK.cons (EnvOK.nil _) law3Claims_ok) law3Great_ok) claimAdjudicate_ok) placeCheck_ok) ref3Result_ok) minimaxScore_ok)) mixed Try.func14 law3ClaimAdjudicates_con law3ClaimAdjudicates_ann (by kernel_rfl) (fun h => by first | rfl | cases h) (fun g hg => by cases hg) law3ClaimAdjudicates_den
end Go.Proofs.Ytpajmeljfpolcaa
