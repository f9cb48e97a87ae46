/- Contracts: MovetextWrites. No condition of its own. -/
import Derived.Test.YtaaigenpmaiodaaBase
import Derived.Test.YtaaigenpmaiodaaMovetextWritesS
import Derived.Test.YtaaigenpmaiodaaTextC
namespace Go.Proofs.Ytaaigenpmaiodaa
open Go.Den
set_option linter.unusedVariables false
set_option maxRecDepth 100000
def movetextSquare_i_ann : Ann := .nil
noncomputable def movetextSquare_i_con : Con := ⟨[(.st .str (.st (.int .i64) (.st (.int .i64) (.st (.sl (.st (.int .u8) (.st (.int .i64) (.st (.int .i64) (.st (.sl (.st (.int .i64) (.st (.int .i64) (.st (.int .i64) (.st (.int .i64) .nil))))) .nil))))) (.st (.sl (.int .i64)) (.st .bool (.st .bool (.st (.sl (.st (.int .i64) (.st (.int .i64) (.st (.int .i64) (.st .bool .nil))))) (.st (.int .i64) (.st (.int .i64) (.st (.int .i64) .nil))))))))))), (.int .i64)], false, [.str, (.int .i64)], (.st .str (.st (.int .i64) .nil)), fun x => movetextSquare_i x.1 x.2.1, none⟩
noncomputable def movetextSquare_i_env : Env := (97, .con movetextSquare_con) :: (31, .con rulesCheck_con) :: []
theorem movetextSquare_i_den (x : DL movetextSquare_i_con.ps) : movetextSquare_i_con.φ x = denF Try.prog movetextSquare_i_env movetextSquare_i_ann Try.f30 movetextSquare_i_con.ps movetextSquare_i_con.one movetextSquare_i_con.res movetextSquare_i_con.ρ x := by kernel_rfl
theorem movetextSquare_i_ok : ConOK Try.prog 30 movetextSquare_i_con :=
  con_of_den (env := movetextSquare_i_env) ((EnvOK.cons (EnvOK.cons (EnvOK.nil _) rulesCheck_ok) movetextSquare_ok)) mixed Try.func30 movetextSquare_i_con movetextSquare_i_ann (by kernel_rfl) (fun h => by first | rfl | cases h) (fun g hg => by cases hg) movetextSquare_i_den
def law3MovetextWrites_ann : Ann := (.two .nil (.two .nil (.two .nil (.two .nil (.two (.two .nil (.two (.two .nil (.joinE ⟨[4, 5, 6], [], []⟩ (.two .nil (.two .nil (.joinE ⟨[4, 5, 6], [], []⟩ .nil))))) .nil)) .nil)))))
noncomputable def law3MovetextWrites_con : Con := ⟨[(.st .str (.st (.int .i64) (.st (.int .i64) (.st (.sl (.st (.int .u8) (.st (.int .i64) (.st (.int .i64) (.st (.sl (.st (.int .i64) (.st (.int .i64) (.st (.int .i64) (.st (.int .i64) .nil))))) .nil))))) (.st (.sl (.int .i64)) (.st .bool (.st .bool (.st (.sl (.st (.int .i64) (.st (.int .i64) (.st (.int .i64) (.st .bool .nil))))) (.st (.int .i64) (.st (.int .i64) (.st (.int .i64) .nil))))))))))), (.st (.sl (.int .i64)) (.st (.st (.sl (.int .i64)) (.st (.sl (.int .i64)) .nil)) (.st (.int .i64) (.st (.int .i64) .nil)))), (.st (.int .i64) (.st (.int .i64) (.st (.int .i64) .nil))), (.int .i64)], true, [], .bool, fun x => law3MovetextWrites x.1 x.2.1 x.2.2.1 x.2.2.2.1, none⟩
noncomputable def law3MovetextWrites_env : Env := (35, .con ref3MoveText_con) :: (34, .con movesLegal_con) :: (33, .con movetextText_con) :: (32, .con ref3Square_con) :: (31, .con rulesCheck_con) :: (30, .con movetextSquare_i_con) :: (29, .con law3Great_con) :: (28, .con law3Writes_con) :: []
theorem law3MovetextWrites_den (x : DL law3MovetextWrites_con.ps) : law3MovetextWrites_con.φ x = denF Try.prog law3MovetextWrites_env law3MovetextWrites_ann Try.f5 law3MovetextWrites_con.ps law3MovetextWrites_con.one law3MovetextWrites_con.res law3MovetextWrites_con.ρ x := by kernel_rfl
theorem law3MovetextWrites_ok : ConOK Try.prog 5 law3MovetextWrites_con :=
  con_of_den (env := law3MovetextWrites_env) ((EnvOK.cons (EnvOK.cons (EnvOK.cons (EnvOK.cons (EnvOK.cons (EnvOK.cons (EnvOK.cons (EnvOK.cons (EnvOK.nil _) law3Writes_ok) law3Great_ok) movetextSquare_i_ok) rulesCheck_ok) ref3Square_ok) movetextText_ok) movesLegal_ok) ref3MoveText_ok)) mixed Try.func5 law3MovetextWrites_con law3MovetextWrites_ann (by kernel_rfl) (fun h => by first | rfl | cases h) (fun g hg => by cases hg) law3MovetextWrites_den
end Go.Proofs.Ytaaigenpmaiodaa
