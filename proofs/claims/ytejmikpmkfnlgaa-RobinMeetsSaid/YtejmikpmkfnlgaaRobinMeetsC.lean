/- Contracts: RobinMeets. No condition of its own. -/
import Derived.Test.YtejmikpmkfnlgaaBase
import Derived.Test.YtejmikpmkfnlgaaRobinMeetsS
namespace Go.Proofs.Ytejmikpmkfnlgaa
open Go.Den
set_option linter.unusedVariables false
set_option maxRecDepth 100000
def robinHalf_ann : Ann := .nil
noncomputable def robinHalf_con : Con := ⟨[(.int .i64)], true, [], (.int .i64), fun x => robinHalf_o x.1, some fun x => robinHalf x.1⟩
noncomputable def robinHalf_env : Env := []
theorem robinHalf_den (x : DL robinHalf_con.ps) : robinHalf_con.φ x = denF Try.prog robinHalf_env robinHalf_ann Try.f69 robinHalf_con.ps robinHalf_con.one robinHalf_con.res robinHalf_con.ρ x := by kernel_rfl
theorem robinHalf_ok : ConOK Try.prog 69 robinHalf_con :=
  con_of_den (env := robinHalf_env) ((EnvOK.nil _)) mixed Try.func69 robinHalf_con robinHalf_ann (by kernel_rfl) (fun h => by first | rfl | cases h) (fun g hg x => by
    cases hg
    exact robinHalf_eq _) robinHalf_den
def robinRounds_ann : Ann := .nil
noncomputable def robinRounds_con : Con := ⟨[(.int .i64), .bool], true, [], (.int .i64), fun x => robinRounds_o x.1 x.2.1, some fun x => robinRounds x.1 x.2.1⟩
noncomputable def robinRounds_env : Env := (69, .con robinHalf_con) :: []
theorem robinRounds_den (x : DL robinRounds_con.ps) : robinRounds_con.φ x = denF Try.prog robinRounds_env robinRounds_ann Try.f66 robinRounds_con.ps robinRounds_con.one robinRounds_con.res robinRounds_con.ρ x := by kernel_rfl
theorem robinRounds_ok : ConOK Try.prog 66 robinRounds_con :=
  con_of_den (env := robinRounds_env) ((EnvOK.cons (EnvOK.nil _) robinHalf_ok)) mixed Try.func66 robinRounds_con robinRounds_ann (by kernel_rfl) (fun h => by first | rfl | cases h) (fun g hg x => by
    cases hg
    exact robinRounds_eq _ _) robinRounds_den
def robinRounds_i_ann : Ann := .nil
noncomputable def robinRounds_i_con : Con := ⟨[(.int .i64), .bool], false, [(.int .i64), (.int .i64)], (.st (.int .i64) (.st (.int .i64) .nil)), fun x => robinRounds_i_o x.1 x.2.1, some fun x => robinRounds_i x.1 x.2.1⟩
noncomputable def robinRounds_i_env : Env := (66, .con robinRounds_con) :: []
theorem robinRounds_i_den (x : DL robinRounds_i_con.ps) : robinRounds_i_con.φ x = denF Try.prog robinRounds_i_env robinRounds_i_ann Try.f21 robinRounds_i_con.ps robinRounds_i_con.one robinRounds_i_con.res robinRounds_i_con.ρ x := by kernel_rfl
theorem robinRounds_i_ok : ConOK Try.prog 21 robinRounds_i_con :=
  con_of_den (env := robinRounds_i_env) ((EnvOK.cons (EnvOK.nil _) robinRounds_ok)) mixed Try.func21 robinRounds_i_con robinRounds_i_ann (by kernel_rfl) (fun h => by first | rfl | cases h) (fun g hg x => by
    cases hg
    exact robinRounds_i_eq _ _) robinRounds_i_den
def law3Rounds_ann : Ann := .nil
noncomputable def law3Rounds_con : Con := ⟨[], true, [], .bool, fun x => law3Rounds_o, some fun x => law3Rounds⟩
noncomputable def law3Rounds_env : Env := (21, .con robinRounds_i_con) :: []
theorem law3Rounds_den (x : DL law3Rounds_con.ps) : law3Rounds_con.φ x = denF Try.prog law3Rounds_env law3Rounds_ann Try.f20 law3Rounds_con.ps law3Rounds_con.one law3Rounds_con.res law3Rounds_con.ρ x := by kernel_rfl
theorem law3Rounds_ok : ConOK Try.prog 20 law3Rounds_con :=
  con_of_den (env := law3Rounds_env) ((EnvOK.cons (EnvOK.nil _) robinRounds_i_ok)) mixed Try.func20 law3Rounds_con law3Rounds_ann (by kernel_rfl) (fun h => by first | rfl | cases h) (fun g hg x => by
    cases hg
    exact law3Rounds_eq ) law3Rounds_den
def robinCheck_ann : Ann := (.two .nil (.two .nil (.two (.two .nil (.join ⟨[], [(8, (.int .i64))], []⟩ .nil)) .nil)))
noncomputable def robinCheck_con : Con := ⟨[(.int .i64), .bool, (.int .i64)], true, [], (.int .i64), fun x => robinCheck x.1 x.2.1 x.2.2.1, none⟩
noncomputable def robinCheck_env : Env := (21, .con robinRounds_i_con) :: []
theorem robinCheck_den (x : DL robinCheck_con.ps) : robinCheck_con.φ x = denF Try.prog robinCheck_env robinCheck_ann Try.f67 robinCheck_con.ps robinCheck_con.one robinCheck_con.res robinCheck_con.ρ x := by kernel_rfl
theorem robinCheck_ok : ConOK Try.prog 67 robinCheck_con :=
  con_of_den (env := robinCheck_env) ((EnvOK.cons (EnvOK.nil _) robinRounds_i_ok)) mixed Try.func67 robinCheck_con robinCheck_ann (by kernel_rfl) (fun h => by first | rfl | cases h) (fun g hg => by cases hg) robinCheck_den
def robinGames_ann : Ann := (.two .nil (.two .nil (.two .nil (.two .nil (.two .nil (.two (.two .nil (.join ⟨[5, 6, 8, 9], [], [(1, some (.box (.st (.osl 43 (.st (.int .i64) (.st (.int .i64) .nil))) .nil)))]⟩ (.two (.two (.two (.two .nil (.join ⟨[4], [(0, (.int .i64)), (1, (.int .i64))], []⟩ .nil)) .nil) .nil) .nil))) (.two (.two .nil (.join ⟨[8], [], [(1, some (.box (.st (.osl 43 (.st (.int .i64) (.st (.int .i64) .nil))) .nil))), (2, none)]⟩ (.two (.loop ⟨[5, 6, 8, 9], [(10, (.int .i64))], [(1, some (.box (.st (.osl 43 (.st (.int .i64) (.st (.int .i64) .nil))) .nil))), (2, none)]⟩ (.two .nil (.two (.two (.tail 16 (.two (.two (.two .nil (.join ⟨[4], [(0, (.int .i64)), (1, (.int .i64))], []⟩ .nil)) .nil) .nil)) .nil) .nil))) .nil))) .nil)))))))
noncomputable def robinGames_con : Con := ⟨[(.int .i64), (.int .i64)], true, [], (.osl 43 (.st (.int .i64) (.st (.int .i64) .nil))), fun x => robinGames x.1 x.2.1, none⟩
noncomputable def robinGames_env : Env := (95, .body Try.f95) :: (69, .con robinHalf_con) :: []
theorem robinGames_den (x : DL robinGames_con.ps) : robinGames_con.φ x = denF Try.prog robinGames_env robinGames_ann Try.f68 robinGames_con.ps robinGames_con.one robinGames_con.res robinGames_con.ρ x := by kernel_rfl
theorem robinGames_ok : ConOK Try.prog 68 robinGames_con :=
  con_of_den (env := robinGames_env) ((EnvOK.body (EnvOK.cons (EnvOK.nil _) robinHalf_ok) Try.func95)) mixed Try.func68 robinGames_con robinGames_ann (by kernel_rfl) (fun h => by first | rfl | cases h) (fun g hg => by cases hg) robinGames_den
def robinRound_ann : Ann := .nil
noncomputable def robinRound_con : Con := ⟨[(.int .i64), .bool, (.int .i64)], false, [(.osl 43 (.st (.int .i64) (.st (.int .i64) .nil))), (.int .i64)], (.st (.osl 43 (.st (.int .i64) (.st (.int .i64) .nil))) (.st (.int .i64) .nil)), fun x => robinRound x.1 x.2.1 x.2.2.1, none⟩
noncomputable def robinRound_env : Env := (68, .con robinGames_con) :: (67, .con robinCheck_con) :: []
theorem robinRound_den (x : DL robinRound_con.ps) : robinRound_con.φ x = denF Try.prog robinRound_env robinRound_ann Try.f22 robinRound_con.ps robinRound_con.one robinRound_con.res robinRound_con.ρ x := by kernel_rfl
theorem robinRound_ok : ConOK Try.prog 22 robinRound_con :=
  con_of_den (env := robinRound_env) ((EnvOK.cons (EnvOK.cons (EnvOK.nil _) robinCheck_ok) robinGames_ok)) mixed Try.func22 robinRound_con robinRound_ann (by kernel_rfl) (fun h => by first | rfl | cases h) (fun g hg => by cases hg) robinRound_den
def robinBye_ann : Ann := .nil
noncomputable def robinBye_con : Con := ⟨[(.int .i64), .bool, (.int .i64)], false, [(.int .i64), (.int .i64)], (.st (.int .i64) (.st (.int .i64) .nil)), fun x => robinBye x.1 x.2.1 x.2.2.1, none⟩
noncomputable def robinBye_env : Env := (69, .con robinHalf_con) :: (67, .con robinCheck_con) :: []
theorem robinBye_den (x : DL robinBye_con.ps) : robinBye_con.φ x = denF Try.prog robinBye_env robinBye_ann Try.f23 robinBye_con.ps robinBye_con.one robinBye_con.res robinBye_con.ρ x := by kernel_rfl
theorem robinBye_ok : ConOK Try.prog 23 robinBye_con :=
  con_of_den (env := robinBye_env) ((EnvOK.cons (EnvOK.cons (EnvOK.nil _) robinCheck_ok) robinHalf_ok)) mixed Try.func23 robinBye_con robinBye_ann (by kernel_rfl) (fun h => by first | rfl | cases h) (fun g hg => by cases hg) robinBye_den
def robinTwo_ann : Ann := .nil
noncomputable def robinTwo_con : Con := ⟨[(.int .i64), (.int .i64), (.int .i64)], true, [], .bool, fun x => robinTwo_o x.1 x.2.1 x.2.2.1, some fun x => robinTwo x.1 x.2.1 x.2.2.1⟩
noncomputable def robinTwo_env : Env := []
theorem robinTwo_den (x : DL robinTwo_con.ps) : robinTwo_con.φ x = denF Try.prog robinTwo_env robinTwo_ann Try.f70 robinTwo_con.ps robinTwo_con.one robinTwo_con.res robinTwo_con.ρ x := by kernel_rfl
theorem robinTwo_ok : ConOK Try.prog 70 robinTwo_con :=
  con_of_den (env := robinTwo_env) ((EnvOK.nil _)) mixed Try.func70 robinTwo_con robinTwo_ann (by kernel_rfl) (fun h => by first | rfl | cases h) (fun g hg x => by
    cases hg
    exact robinTwo_eq _ _ _) robinTwo_den
def robinWhen_ann : Ann := (.two .nil (.two .nil (.two .nil (.two .nil (.two (.two .nil (.joinE ⟨[], [], []⟩ (.two (.loop ⟨[0, 1, 2, 3, 29], [(30, (.int .i64))], []⟩ (.two .nil (.two .nil (.two (.joinE ⟨[0, 1, 2, 3, 29, 30], [], []⟩ (.two (.two .nil (.two .nil (.joinE ⟨[0, 1, 2, 3, 29, 30], [], []⟩ (.two (.loop ⟨[0, 1, 2, 3, 12, 29, 30, 35, 36], [(37, (.int .i64))], []⟩ .nil) .nil)))) .nil)) .nil)))) .nil))) .nil)))))
noncomputable def robinWhen_con : Con := ⟨[(.int .i64), .bool, (.int .i64), (.int .i64)], false, [(.int .i64), (.int .i64)], (.st (.int .i64) (.st (.int .i64) .nil)), fun x => robinWhen x.1 x.2.1 x.2.2.1 x.2.2.2.1, none⟩
noncomputable def robinWhen_env : Env := (68, .con robinGames_con) :: (70, .con robinTwo_con) :: (21, .con robinRounds_i_con) :: []
theorem robinWhen_den (x : DL robinWhen_con.ps) : robinWhen_con.φ x = denF Try.prog robinWhen_env robinWhen_ann Try.f24 robinWhen_con.ps robinWhen_con.one robinWhen_con.res robinWhen_con.ρ x := by kernel_rfl
theorem robinWhen_ok : ConOK Try.prog 24 robinWhen_con :=
  con_of_den (env := robinWhen_env) ((EnvOK.cons (EnvOK.cons (EnvOK.cons (EnvOK.nil _) robinRounds_i_ok) robinTwo_ok) robinGames_ok)) mixed Try.func24 robinWhen_con robinWhen_ann (by kernel_rfl) (fun h => by first | rfl | cases h) (fun g hg => by cases hg) robinWhen_den
def ref3Round_ann : Ann := (.two .nil (.two .nil (.two (.two .nil (.joinE ⟨[], [], []⟩ (.two (.loop ⟨[0, 1, 2, 29], [(30, (.int .i64))], []⟩ (.two .nil (.two .nil (.two (.joinE ⟨[0, 1, 2, 29, 30], [], []⟩ (.two (.two .nil (.two .nil (.two .nil (.joinE ⟨[0, 1, 2, 29, 30], [], []⟩ (.two (.loop ⟨[0, 1, 2, 10, 29, 30], [(11, (.int .i64))], []⟩ .nil) .nil))))) .nil)) .nil)))) .nil))) .nil)))
noncomputable def ref3Round_con : Con := ⟨[(.int .i64), (.int .i64), (.int .i64)], false, [(.int .i64), .bool], (.st (.int .i64) (.st .bool .nil)), fun x => ref3Round x.1 x.2.1 x.2.2.1, none⟩
noncomputable def ref3Round_env (φ : DL [(.int .i64), (.int .i64), (.int .i64)] → Option (D (.st (.int .i64) (.st .bool .nil)))) : Env := (25, .con ⟨[(.int .i64), (.int .i64), (.int .i64)], false, [(.int .i64), .bool], (.st (.int .i64) (.st .bool .nil)), φ, none⟩) :: []
theorem ref3Round_den (φ : DL [(.int .i64), (.int .i64), (.int .i64)] → Option (D (.st (.int .i64) (.st .bool .nil)))) (x : DL [(.int .i64), (.int .i64), (.int .i64)]) : ref3Round_G φ x = denF Try.prog (ref3Round_env φ) ref3Round_ann Try.f25 ref3Round_con.ps ref3Round_con.one ref3Round_con.res ref3Round_con.ρ x := by kernel_rfl
theorem ref3Round_ok : ConOK Try.prog 25 ref3Round_con :=
  con_fix (ps := [(.int .i64), (.int .i64), (.int .i64)]) (ρ := (.st (.int .i64) (.st .bool .nil))) (G := ref3Round_G) (by kernel_rfl) (fun h => by first | rfl | cases h) fun φ hφ =>
  con_of_den (env := ref3Round_env φ) ((EnvOK.cons (EnvOK.nil _) hφ)) mixed Try.func25 ⟨[(.int .i64), (.int .i64), (.int .i64)], false, [(.int .i64), .bool], (.st (.int .i64) (.st .bool .nil)), ref3Round_G φ, none⟩ ref3Round_ann (by kernel_rfl) (fun h => by first | rfl | cases h) (fun g hg => by cases hg) (ref3Round_den φ)
def law3RobinMeets_ann : Ann := (.two .nil (.two .nil (.two .nil (.two .nil (.two .nil (.two .nil (.two .nil (.two .nil (.two .nil (.two (.two .nil (.join ⟨[0, 1, 2, 3, 4, 11, 12, 13, 14, 15, 16, 17, 18, 19], [(20, (.int .i64))], []⟩ .nil)) (.two .nil (.two (.two .nil (.joinE ⟨[0, 1, 2, 3, 17, 18, 19], [], []⟩ (.two .nil (.two .nil (.two (.two .nil (.joinE ⟨[0, 1, 2, 3, 4, 15, 17, 18, 19], [], []⟩ (.two (.loop ⟨[0, 1, 2, 3, 4, 15, 17, 18, 19, 152, 153], [(154, (.int .i64))], []⟩ .nil) .nil))) (.two .nil (.joinE ⟨[0, 1, 2, 3, 17, 18, 19], [], []⟩ .nil))))))) (.two .nil (.two .nil (.two (.two .nil (.join ⟨[17, 18], [(27, (.int .i64))], []⟩ .nil)) .nil)))))))))))))))
noncomputable def law3RobinMeets_con : Con := ⟨[(.int .i64), .bool, (.int .i64), (.int .i64), (.int .i64)], true, [], .bool, fun x => law3RobinMeets x.1 x.2.1 x.2.2.1 x.2.2.2.1 x.2.2.2.2.1, none⟩
noncomputable def law3RobinMeets_env : Env := (25, .con ref3Round_con) :: (24, .con robinWhen_con) :: (23, .con robinBye_con) :: (22, .con robinRound_con) :: (21, .con robinRounds_i_con) :: (20, .con law3Rounds_con) :: []
theorem law3RobinMeets_den (x : DL law3RobinMeets_con.ps) : law3RobinMeets_con.φ x = denF Try.prog law3RobinMeets_env law3RobinMeets_ann Try.f6 law3RobinMeets_con.ps law3RobinMeets_con.one law3RobinMeets_con.res law3RobinMeets_con.ρ x := by kernel_rfl
theorem law3RobinMeets_ok : ConOK Try.prog 6 law3RobinMeets_con :=
  con_of_den (env := law3RobinMeets_env) ((EnvOK.cons (EnvOK.cons (EnvOK.cons (EnvOK.cons (EnvOK.cons (EnvOK.cons (EnvOK.nil _) law3Rounds_ok) robinRounds_i_ok) robinRound_ok) robinBye_ok) robinWhen_ok) ref3Round_ok)) mixed Try.func6 law3RobinMeets_con law3RobinMeets_ann (by kernel_rfl) (fun h => by first | rfl | cases h) (fun g hg => by cases hg) law3RobinMeets_den
end Go.Proofs.Ytejmikpmkfnlgaa
