/- Contracts: MovetextReads. No condition of its own. -/
import Derived.Test.YtaaigenpmaiodaaBase
import Derived.Test.YtaaigenpmaiodaaMovetextReadsS
import Derived.Test.YtaaigenpmaiodaaTextC
namespace Go.Proofs.Ytaaigenpmaiodaa
open Go.Den
set_option linter.unusedVariables false
set_option maxRecDepth 100000
def law3MovetextReads_ann : Ann := (.two .nil (.two .nil (.two .nil (.two .nil (.two .nil (.two .nil (.two .nil (.two .nil (.two .nil (.two (.two .nil (.joinE ⟨[9, 10, 13], [(14, (.int .i64))], [(5, some (.box (.st (.int .i64) (.st (.int .i64) (.st (.int .i64) .nil)))))]⟩ (.two (.loop ⟨[2, 3, 4, 7, 9, 10, 13, 71, 72], [(14, (.int .i64)), (73, (.int .i64))], [(5, some (.box (.st (.int .i64) (.st (.int .i64) (.st (.int .i64) .nil)))))]⟩ (.two .nil (.two .nil (.two (.two (.two .nil (.two .nil (.two .nil (.two .nil (.join ⟨[2, 3, 4, 7, 9, 10, 13, 71, 72, 73], [(14, (.int .i64))], [(5, some (.box (.st (.int .i64) (.st (.int .i64) (.st (.int .i64) .nil)))))]⟩ .nil))))) .nil) .nil)))) .nil))) .nil))))))))))
noncomputable def law3MovetextReads_con : Con := ⟨[(.st .str (.st (.int .i64) (.st (.int .i64) (.st (.sl (.st (.int .u8) (.st (.int .i64) (.st (.int .i64) (.st (.sl (.st (.int .i64) (.st (.int .i64) (.st (.int .i64) (.st (.int .i64) .nil))))) .nil))))) (.st (.sl (.int .i64)) (.st .bool (.st .bool (.st (.sl (.st (.int .i64) (.st (.int .i64) (.st (.int .i64) (.st .bool .nil))))) (.st (.int .i64) (.st (.int .i64) (.st (.int .i64) .nil))))))))))), (.st (.sl (.int .i64)) (.st (.st (.sl (.int .i64)) (.st (.sl (.int .i64)) .nil)) (.st (.int .i64) (.st (.int .i64) .nil)))), .str], true, [], .bool, fun x => law3MovetextReads x.1 x.2.1 x.2.2.1, none⟩
noncomputable def law3MovetextReads_env : Env := (35, .con ref3MoveText_con) :: (38, .con movesAll_con) :: (37, .con movetextRead_con) :: (36, .con movetextList_con) :: (29, .con law3Great_con) :: (28, .con law3Writes_con) :: []
theorem law3MovetextReads_den (x : DL law3MovetextReads_con.ps) : law3MovetextReads_con.φ x = denF Try.prog law3MovetextReads_env law3MovetextReads_ann Try.f6 law3MovetextReads_con.ps law3MovetextReads_con.one law3MovetextReads_con.res law3MovetextReads_con.ρ x := by kernel_rfl
theorem law3MovetextReads_ok : ConOK Try.prog 6 law3MovetextReads_con :=
  con_of_den (env := law3MovetextReads_env) ((EnvOK.cons (EnvOK.cons (EnvOK.cons (EnvOK.cons (EnvOK.cons (EnvOK.cons (EnvOK.nil _) law3Writes_ok) law3Great_ok) movetextList_ok) movetextRead_ok) movesAll_ok) ref3MoveText_ok)) mixed Try.func6 law3MovetextReads_con law3MovetextReads_ann (by kernel_rfl) (fun h => by first | rfl | cases h) (fun g hg => by cases hg) law3MovetextReads_den
end Go.Proofs.Ytaaigenpmaiodaa
