/- Contracts: ClockRuns. No condition of its own. -/
import Derived.Test.YtcdpkebphgeipaaBase
import Derived.Test.YtcdpkebphgeipaaClockRunsS
namespace Go.Proofs.Ytcdpkebphgeipaa
open Go.Den
set_option linter.unusedVariables false
set_option maxRecDepth 100000
def law3Minute_ann : Ann := .nil
noncomputable def law3Minute_con : Con := ⟨[], true, [], (.st (.osl 103 (.st (.int .i64) (.st (.int .i64) .nil))) (.st (.int .i64) (.st (.int .i64) .nil))), fun x => law3Minute_o, some fun x => law3Minute⟩
noncomputable def law3Minute_env : Env := []
theorem law3Minute_den (x : DL law3Minute_con.ps) : law3Minute_con.φ x = denF Try.prog law3Minute_env law3Minute_ann Try.f46 law3Minute_con.ps law3Minute_con.one law3Minute_con.res law3Minute_con.ρ x := by kernel_rfl
theorem law3Minute_ok : ConOK Try.prog 46 law3Minute_con :=
  con_of_den (env := law3Minute_env) ((EnvOK.nil _)) mixed Try.func46 law3Minute_con law3Minute_ann (by kernel_rfl) (fun h => by first | rfl | cases h) (fun g hg x => by
    cases hg
    exact law3Minute_eq ) law3Minute_den
def clockWithin_ann : Ann := .nil
noncomputable def clockWithin_con : Con := ⟨[(.int .i64), (.int .i64), (.int .i64)], true, [], .bool, fun x => clockWithin_o x.1 x.2.1 x.2.2.1, some fun x => clockWithin x.1 x.2.1 x.2.2.1⟩
noncomputable def clockWithin_env : Env := []
theorem clockWithin_den (x : DL clockWithin_con.ps) : clockWithin_con.φ x = denF Try.prog clockWithin_env clockWithin_ann Try.f47 clockWithin_con.ps clockWithin_con.one clockWithin_con.res clockWithin_con.ρ x := by kernel_rfl
theorem clockWithin_ok : ConOK Try.prog 47 clockWithin_con :=
  con_of_den (env := clockWithin_env) ((EnvOK.nil _)) mixed Try.func47 clockWithin_con clockWithin_ann (by kernel_rfl) (fun h => by first | rfl | cases h) (fun g hg x => by
    cases hg
    exact clockWithin_eq _ _ _) clockWithin_den
def clockCheck_ann : Ann := (.two .nil (.two .nil (.two .nil (.two (.two .nil (.joinE ⟨[], [], []⟩ (.two (.loop ⟨[1, 21, 22], [(23, (.int .i64))], []⟩ .nil) .nil))) .nil))))
noncomputable def clockCheck_con : Con := ⟨[(.st (.sl (.st (.int .i64) (.st (.int .i64) .nil))) (.st (.int .i64) (.st (.int .i64) .nil)))], true, [], (.int .i64), fun x => clockCheck x.1, none⟩
noncomputable def clockCheck_env : Env := (47, .con clockWithin_con) :: []
theorem clockCheck_den (x : DL clockCheck_con.ps) : clockCheck_con.φ x = denF Try.prog clockCheck_env clockCheck_ann Try.f11 clockCheck_con.ps clockCheck_con.one clockCheck_con.res clockCheck_con.ρ x := by kernel_rfl
theorem clockCheck_ok : ConOK Try.prog 11 clockCheck_con :=
  con_of_den (env := clockCheck_env) ((EnvOK.cons (EnvOK.nil _) clockWithin_ok)) mixed Try.func11 clockCheck_con clockCheck_ann (by kernel_rfl) (fun h => by first | rfl | cases h) (fun g hg => by cases hg) clockCheck_den
def clockStart_ann : Ann := .nil
noncomputable def clockStart_con : Con := ⟨[(.st (.sl (.st (.int .i64) (.st (.int .i64) .nil))) (.st (.int .i64) (.st (.int .i64) .nil))), (.int .i64)], false, [(.st (.st (.int .i64) (.st (.int .i64) .nil)) (.st (.st (.int .i64) (.st (.int .i64) .nil)) (.st (.st (.int .i64) (.st (.int .i64) .nil)) (.st (.int .i64) (.st (.int .i64) (.st .bool (.st (.int .i64) .nil))))))), (.int .i64)], (.st (.st (.st (.int .i64) (.st (.int .i64) .nil)) (.st (.st (.int .i64) (.st (.int .i64) .nil)) (.st (.st (.int .i64) (.st (.int .i64) .nil)) (.st (.int .i64) (.st (.int .i64) (.st .bool (.st (.int .i64) .nil))))))) (.st (.int .i64) .nil)), fun x => clockStart x.1 x.2.1, none⟩
noncomputable def clockStart_env : Env := (47, .con clockWithin_con) :: (11, .con clockCheck_con) :: []
theorem clockStart_den (x : DL clockStart_con.ps) : clockStart_con.φ x = denF Try.prog clockStart_env clockStart_ann Try.f10 clockStart_con.ps clockStart_con.one clockStart_con.res clockStart_con.ρ x := by kernel_rfl
theorem clockStart_ok : ConOK Try.prog 10 clockStart_con :=
  con_of_den (env := clockStart_env) ((EnvOK.cons (EnvOK.cons (EnvOK.nil _) clockCheck_ok) clockWithin_ok)) mixed Try.func10 clockStart_con clockStart_ann (by kernel_rfl) (fun h => by first | rfl | cases h) (fun g hg => by cases hg) clockStart_den
def law3Ticks_ann : Ann := .nil
noncomputable def law3Ticks_con : Con := ⟨[], true, [], .bool, fun x => law3Ticks, none⟩
noncomputable def law3Ticks_env : Env := (10, .con clockStart_con) :: (46, .con law3Minute_con) :: []
theorem law3Ticks_den (x : DL law3Ticks_con.ps) : law3Ticks_con.φ x = denF Try.prog law3Ticks_env law3Ticks_ann Try.f8 law3Ticks_con.ps law3Ticks_con.one law3Ticks_con.res law3Ticks_con.ρ x := by kernel_rfl
theorem law3Ticks_ok : ConOK Try.prog 8 law3Ticks_con :=
  con_of_den (env := law3Ticks_env) ((EnvOK.cons (EnvOK.cons (EnvOK.nil _) law3Minute_ok) clockStart_ok)) mixed Try.func8 law3Ticks_con law3Ticks_ann (by kernel_rfl) (fun h => by first | rfl | cases h) (fun g hg => by cases hg) law3Ticks_den
def ref3Ruled_ann : Ann := (.two .nil (.two .nil (.two .nil (.two .nil (.two (.two .nil (.joinE ⟨[], [], []⟩ (.two (.loop ⟨[3, 34, 35], [(36, (.int .i64))], []⟩ .nil) .nil))) .nil)))))
noncomputable def ref3Ruled_con : Con := ⟨[(.st (.sl (.st (.int .i64) (.st (.int .i64) .nil))) (.st (.int .i64) (.st (.int .i64) .nil)))], true, [], (.int .i64), fun x => ref3Ruled x.1, none⟩
noncomputable def ref3Ruled_env : Env := []
theorem ref3Ruled_den (x : DL ref3Ruled_con.ps) : ref3Ruled_con.φ x = denF Try.prog ref3Ruled_env ref3Ruled_ann Try.f9 ref3Ruled_con.ps ref3Ruled_con.one ref3Ruled_con.res ref3Ruled_con.ρ x := by kernel_rfl
theorem ref3Ruled_ok : ConOK Try.prog 9 ref3Ruled_con :=
  con_of_den (env := ref3Ruled_env) ((EnvOK.nil _)) mixed Try.func9 ref3Ruled_con ref3Ruled_ann (by kernel_rfl) (fun h => by first | rfl | cases h) (fun g hg => by cases hg) ref3Ruled_den
def ref3Budget_ann : Ann := (.two .nil (.two .nil (.two (.two .nil (.join ⟨[], [(7, (.int .i64)), (8, (.int .i64)), (9, (.int .i64))], []⟩ (.two (.loop ⟨[2, 16], [(7, (.int .i64)), (8, (.int .i64)), (9, (.int .i64)), (17, (.int .i64))], []⟩ (.two .nil (.two .nil (.two (.two (.two .nil (.two .nil (.two .nil (.join ⟨[2, 16, 17], [(7, (.int .i64)), (8, (.int .i64)), (9, (.int .i64))], []⟩ .nil)))) .nil) .nil)))) .nil))) .nil)))
noncomputable def ref3Budget_con : Con := ⟨[(.st (.sl (.st (.int .i64) (.st (.int .i64) .nil))) (.st (.int .i64) (.st (.int .i64) .nil))), (.int .i64)], false, [(.int .i64), (.int .i64), (.int .i64)], (.st (.int .i64) (.st (.int .i64) (.st (.int .i64) .nil))), fun x => ref3Budget x.1 x.2.1, none⟩
noncomputable def ref3Budget_env : Env := []
theorem ref3Budget_den (x : DL ref3Budget_con.ps) : ref3Budget_con.φ x = denF Try.prog ref3Budget_env ref3Budget_ann Try.f12 ref3Budget_con.ps ref3Budget_con.one ref3Budget_con.res ref3Budget_con.ρ x := by kernel_rfl
theorem ref3Budget_ok : ConOK Try.prog 12 ref3Budget_con :=
  con_of_den (env := ref3Budget_env) ((EnvOK.nil _)) mixed Try.func12 ref3Budget_con ref3Budget_ann (by kernel_rfl) (fun h => by first | rfl | cases h) (fun g hg => by cases hg) ref3Budget_den
def clockValid_ann : Ann := (.two .nil (.two .nil (.two .nil (.two (.two .nil (.join ⟨[], [(6, .bool)], []⟩ (.two (.loop ⟨[2, 3], [(6, .bool), (26, (.int .i64))], []⟩ .nil) .nil))) .nil))))
noncomputable def clockValid_con : Con := ⟨[(.st (.sl (.st (.int .i64) (.st (.int .i64) .nil))) (.st (.int .i64) (.st (.int .i64) .nil))), (.st (.st (.int .i64) (.st (.int .i64) .nil)) (.st (.st (.int .i64) (.st (.int .i64) .nil)) (.st (.st (.int .i64) (.st (.int .i64) .nil)) (.st (.int .i64) (.st (.int .i64) (.st .bool (.st (.int .i64) .nil)))))))], true, [], (.int .i64), fun x => clockValid x.1 x.2.1, none⟩
noncomputable def clockValid_env : Env := (47, .con clockWithin_con) :: (11, .con clockCheck_con) :: []
theorem clockValid_den (x : DL clockValid_con.ps) : clockValid_con.φ x = denF Try.prog clockValid_env clockValid_ann Try.f50 clockValid_con.ps clockValid_con.one clockValid_con.res clockValid_con.ρ x := by kernel_rfl
theorem clockValid_ok : ConOK Try.prog 50 clockValid_con :=
  con_of_den (env := clockValid_env) ((EnvOK.cons (EnvOK.cons (EnvOK.nil _) clockCheck_ok) clockWithin_ok)) mixed Try.func50 clockValid_con clockValid_ann (by kernel_rfl) (fun h => by first | rfl | cases h) (fun g hg => by cases hg) clockValid_den
def clockUsed_ann : Ann := .nil
noncomputable def clockUsed_con : Con := ⟨[(.st (.sl (.st (.int .i64) (.st (.int .i64) .nil))) (.st (.int .i64) (.st (.int .i64) .nil))), (.st (.st (.int .i64) (.st (.int .i64) .nil)) (.st (.st (.int .i64) (.st (.int .i64) .nil)) (.st (.st (.int .i64) (.st (.int .i64) .nil)) (.st (.int .i64) (.st (.int .i64) (.st .bool (.st (.int .i64) .nil))))))), (.int .i64)], true, [], (.int .i64), fun x => clockUsed_o x.1 x.2.1 x.2.2.1, some fun x => clockUsed x.1 x.2.1 x.2.2.1⟩
noncomputable def clockUsed_env : Env := []
theorem clockUsed_den (x : DL clockUsed_con.ps) : clockUsed_con.φ x = denF Try.prog clockUsed_env clockUsed_ann Try.f49 clockUsed_con.ps clockUsed_con.one clockUsed_con.res clockUsed_con.ρ x := by kernel_rfl
theorem clockUsed_ok : ConOK Try.prog 49 clockUsed_con :=
  con_of_den (env := clockUsed_env) ((EnvOK.nil _)) mixed Try.func49 clockUsed_con clockUsed_ann (by kernel_rfl) (fun h => by first | rfl | cases h) (fun g hg x => by
    cases hg
    exact clockUsed_eq _ _ _) clockUsed_den
def clockLook_ann : Ann := (.two .nil (.two .nil (.two .nil (.two (.two .nil (.join ⟨[4, 6], [], [(1, some (.box (.st (.int .i64) (.st (.int .i64) (.st (.int .i64) (.st (.int .i64) (.st (.int .i64) (.st (.int .i64) (.st (.int .i64) (.st (.int .i64) (.st .bool (.st (.int .i64) .nil))))))))))))]⟩ .nil)) .nil))))
noncomputable def clockLook_con : Con := ⟨[(.st (.sl (.st (.int .i64) (.st (.int .i64) .nil))) (.st (.int .i64) (.st (.int .i64) .nil))), (.st (.st (.int .i64) (.st (.int .i64) .nil)) (.st (.st (.int .i64) (.st (.int .i64) .nil)) (.st (.st (.int .i64) (.st (.int .i64) .nil)) (.st (.int .i64) (.st (.int .i64) (.st .bool (.st (.int .i64) .nil))))))), (.int .i64)], false, [(.st (.st (.int .i64) (.st (.int .i64) .nil)) (.st (.st (.int .i64) (.st (.int .i64) .nil)) (.st (.st (.int .i64) (.st (.int .i64) .nil)) (.st (.int .i64) (.st (.int .i64) (.st .bool (.st (.int .i64) .nil))))))), (.int .i64)], (.st (.st (.st (.int .i64) (.st (.int .i64) .nil)) (.st (.st (.int .i64) (.st (.int .i64) .nil)) (.st (.st (.int .i64) (.st (.int .i64) .nil)) (.st (.int .i64) (.st (.int .i64) (.st .bool (.st (.int .i64) .nil))))))) (.st (.int .i64) .nil)), fun x => clockLook x.1 x.2.1 x.2.2.1, none⟩
noncomputable def clockLook_env : Env := (49, .con clockUsed_con) :: (47, .con clockWithin_con) :: (50, .con clockValid_con) :: []
theorem clockLook_den (x : DL clockLook_con.ps) : clockLook_con.φ x = denF Try.prog clockLook_env clockLook_ann Try.f16 clockLook_con.ps clockLook_con.one clockLook_con.res clockLook_con.ρ x := by kernel_rfl
theorem clockLook_ok : ConOK Try.prog 16 clockLook_con :=
  con_of_den (env := clockLook_env) ((EnvOK.cons (EnvOK.cons (EnvOK.cons (EnvOK.nil _) clockValid_ok) clockWithin_ok) clockUsed_ok)) mixed Try.func16 clockLook_con clockLook_ann (by kernel_rfl) (fun h => by first | rfl | cases h) (fun g hg => by cases hg) clockLook_den
def clockReady_ann : Ann := .nil
noncomputable def clockReady_con : Con := ⟨[(.st (.sl (.st (.int .i64) (.st (.int .i64) .nil))) (.st (.int .i64) (.st (.int .i64) .nil))), (.st (.st (.int .i64) (.st (.int .i64) .nil)) (.st (.st (.int .i64) (.st (.int .i64) .nil)) (.st (.st (.int .i64) (.st (.int .i64) .nil)) (.st (.int .i64) (.st (.int .i64) (.st .bool (.st (.int .i64) .nil))))))), (.int .i64), .bool], false, [(.st (.st (.int .i64) (.st (.int .i64) .nil)) (.st (.st (.int .i64) (.st (.int .i64) .nil)) (.st (.st (.int .i64) (.st (.int .i64) .nil)) (.st (.int .i64) (.st (.int .i64) (.st .bool (.st (.int .i64) .nil))))))), (.int .i64)], (.st (.st (.st (.int .i64) (.st (.int .i64) .nil)) (.st (.st (.int .i64) (.st (.int .i64) .nil)) (.st (.st (.int .i64) (.st (.int .i64) .nil)) (.st (.int .i64) (.st (.int .i64) (.st .bool (.st (.int .i64) .nil))))))) (.st (.int .i64) .nil)), fun x => clockReady x.1 x.2.1 x.2.2.1 x.2.2.2.1, none⟩
noncomputable def clockReady_env : Env := (16, .con clockLook_con) :: []
theorem clockReady_den (x : DL clockReady_con.ps) : clockReady_con.φ x = denF Try.prog clockReady_env clockReady_ann Try.f48 clockReady_con.ps clockReady_con.one clockReady_con.res clockReady_con.ρ x := by kernel_rfl
theorem clockReady_ok : ConOK Try.prog 48 clockReady_con :=
  con_of_den (env := clockReady_env) ((EnvOK.cons (EnvOK.nil _) clockLook_ok)) mixed Try.func48 clockReady_con clockReady_ann (by kernel_rfl) (fun h => by first | rfl | cases h) (fun g hg => by cases hg) clockReady_den
def clockPress_ann : Ann := (.two .nil (.two .nil (.two .nil (.two .nil (.two (.tail 16 .nil) (.two .nil (.two (.two .nil (.two .nil (.join ⟨[2, 4, 6, 9], [], [(1, some (.box (.st (.int .i64) (.st (.int .i64) (.st (.int .i64) (.st (.int .i64) (.st (.int .i64) (.st (.int .i64) (.st (.int .i64) (.st (.int .i64) (.st .bool (.st (.int .i64) .nil))))))))))))]⟩ (.two (.two .nil (.two .nil (.tail 18 .nil))) .nil)))) .nil)))))))
noncomputable def clockPress_con : Con := ⟨[(.st (.sl (.st (.int .i64) (.st (.int .i64) .nil))) (.st (.int .i64) (.st (.int .i64) .nil))), (.st (.st (.int .i64) (.st (.int .i64) .nil)) (.st (.st (.int .i64) (.st (.int .i64) .nil)) (.st (.st (.int .i64) (.st (.int .i64) .nil)) (.st (.int .i64) (.st (.int .i64) (.st .bool (.st (.int .i64) .nil))))))), (.int .i64)], false, [(.st (.st (.int .i64) (.st (.int .i64) .nil)) (.st (.st (.int .i64) (.st (.int .i64) .nil)) (.st (.st (.int .i64) (.st (.int .i64) .nil)) (.st (.int .i64) (.st (.int .i64) (.st .bool (.st (.int .i64) .nil))))))), (.int .i64)], (.st (.st (.st (.int .i64) (.st (.int .i64) .nil)) (.st (.st (.int .i64) (.st (.int .i64) .nil)) (.st (.st (.int .i64) (.st (.int .i64) .nil)) (.st (.int .i64) (.st (.int .i64) (.st .bool (.st (.int .i64) .nil))))))) (.st (.int .i64) .nil)), fun x => clockPress x.1 x.2.1 x.2.2.1, none⟩
noncomputable def clockPress_env : Env := (49, .con clockUsed_con) :: (48, .con clockReady_con) :: []
theorem clockPress_den (x : DL clockPress_con.ps) : clockPress_con.φ x = denF Try.prog clockPress_env clockPress_ann Try.f13 clockPress_con.ps clockPress_con.one clockPress_con.res clockPress_con.ρ x := by kernel_rfl
theorem clockPress_ok : ConOK Try.prog 13 clockPress_con :=
  con_of_den (env := clockPress_env) ((EnvOK.cons (EnvOK.cons (EnvOK.nil _) clockReady_ok) clockUsed_ok)) mixed Try.func13 clockPress_con clockPress_ann (by kernel_rfl) (fun h => by first | rfl | cases h) (fun g hg => by cases hg) clockPress_den
def clockLeft_ann : Ann := .nil
noncomputable def clockLeft_con : Con := ⟨[(.st (.sl (.st (.int .i64) (.st (.int .i64) .nil))) (.st (.int .i64) (.st (.int .i64) .nil))), (.st (.st (.int .i64) (.st (.int .i64) .nil)) (.st (.st (.int .i64) (.st (.int .i64) .nil)) (.st (.st (.int .i64) (.st (.int .i64) .nil)) (.st (.int .i64) (.st (.int .i64) (.st .bool (.st (.int .i64) .nil))))))), (.int .i64), (.int .i64)], false, [(.int .i64), (.int .i64)], (.st (.int .i64) (.st (.int .i64) .nil)), fun x => clockLeft x.1 x.2.1 x.2.2.1 x.2.2.2.1, none⟩
noncomputable def clockLeft_env : Env := (49, .con clockUsed_con) :: (16, .con clockLook_con) :: (47, .con clockWithin_con) :: []
theorem clockLeft_den (x : DL clockLeft_con.ps) : clockLeft_con.φ x = denF Try.prog clockLeft_env clockLeft_ann Try.f14 clockLeft_con.ps clockLeft_con.one clockLeft_con.res clockLeft_con.ρ x := by kernel_rfl
theorem clockLeft_ok : ConOK Try.prog 14 clockLeft_con :=
  con_of_den (env := clockLeft_env) ((EnvOK.cons (EnvOK.cons (EnvOK.cons (EnvOK.nil _) clockWithin_ok) clockLook_ok) clockUsed_ok)) mixed Try.func14 clockLeft_con clockLeft_ann (by kernel_rfl) (fun h => by first | rfl | cases h) (fun g hg => by cases hg) clockLeft_den
def ref3Spent_ann : Ann := .nil
noncomputable def ref3Spent_con : Con := ⟨[(.st (.sl (.st (.int .i64) (.st (.int .i64) .nil))) (.st (.int .i64) (.st (.int .i64) .nil))), (.int .i64)], true, [], (.int .i64), fun x => ref3Spent_o x.1 x.2.1, some fun x => ref3Spent x.1 x.2.1⟩
noncomputable def ref3Spent_env : Env := []
theorem ref3Spent_den (x : DL ref3Spent_con.ps) : ref3Spent_con.φ x = denF Try.prog ref3Spent_env ref3Spent_ann Try.f15 ref3Spent_con.ps ref3Spent_con.one ref3Spent_con.res ref3Spent_con.ρ x := by kernel_rfl
theorem ref3Spent_ok : ConOK Try.prog 15 ref3Spent_con :=
  con_of_den (env := ref3Spent_env) ((EnvOK.nil _)) mixed Try.func15 ref3Spent_con ref3Spent_ann (by kernel_rfl) (fun h => by first | rfl | cases h) (fun g hg x => by
    cases hg
    exact ref3Spent_eq _ _) ref3Spent_den
def clockFall_ann : Ann := .nil
noncomputable def clockFall_con : Con := ⟨[(.st (.sl (.st (.int .i64) (.st (.int .i64) .nil))) (.st (.int .i64) (.st (.int .i64) .nil))), (.st (.st (.int .i64) (.st (.int .i64) .nil)) (.st (.st (.int .i64) (.st (.int .i64) .nil)) (.st (.st (.int .i64) (.st (.int .i64) .nil)) (.st (.int .i64) (.st (.int .i64) (.st .bool (.st (.int .i64) .nil)))))))], false, [(.int .i64), (.int .i64)], (.st (.int .i64) (.st (.int .i64) .nil)), fun x => clockFall x.1 x.2.1, none⟩
noncomputable def clockFall_env : Env := (50, .con clockValid_con) :: []
theorem clockFall_den (x : DL clockFall_con.ps) : clockFall_con.φ x = denF Try.prog clockFall_env clockFall_ann Try.f51 clockFall_con.ps clockFall_con.one clockFall_con.res clockFall_con.ρ x := by kernel_rfl
theorem clockFall_ok : ConOK Try.prog 51 clockFall_con :=
  con_of_den (env := clockFall_env) ((EnvOK.cons (EnvOK.nil _) clockValid_ok)) mixed Try.func51 clockFall_con clockFall_ann (by kernel_rfl) (fun h => by first | rfl | cases h) (fun g hg => by cases hg) clockFall_den
def law3Fell_ann : Ann := .nil
noncomputable def law3Fell_con : Con := ⟨[(.st (.sl (.st (.int .i64) (.st (.int .i64) .nil))) (.st (.int .i64) (.st (.int .i64) .nil))), (.st (.st (.int .i64) (.st (.int .i64) .nil)) (.st (.st (.int .i64) (.st (.int .i64) .nil)) (.st (.st (.int .i64) (.st (.int .i64) .nil)) (.st (.int .i64) (.st (.int .i64) (.st .bool (.st (.int .i64) .nil))))))), (.int .i64)], true, [], .bool, fun x => law3Fell x.1 x.2.1 x.2.2.1, none⟩
noncomputable def law3Fell_env : Env := (16, .con clockLook_con) :: (51, .con clockFall_con) :: []
theorem law3Fell_den (x : DL law3Fell_con.ps) : law3Fell_con.φ x = denF Try.prog law3Fell_env law3Fell_ann Try.f17 law3Fell_con.ps law3Fell_con.one law3Fell_con.res law3Fell_con.ρ x := by kernel_rfl
theorem law3Fell_ok : ConOK Try.prog 17 law3Fell_con :=
  con_of_den (env := law3Fell_env) ((EnvOK.cons (EnvOK.cons (EnvOK.nil _) clockFall_ok) clockLook_ok)) mixed Try.func17 law3Fell_con law3Fell_ann (by kernel_rfl) (fun h => by first | rfl | cases h) (fun g hg => by cases hg) law3Fell_den
def law3ClockRuns_ann : Ann := (.two .nil (.two .nil (.two .nil (.two .nil (.two .nil (.two .nil (.two (.two .nil (.join ⟨[1, 2, 3, 4, 10, 11], [(9, (.int .i64))], []⟩ .nil)) (.two .nil (.two .nil (.two .nil (.two (.two .nil (.joinE ⟨[3, 4, 10], [], [(1, some (.box (.st (.int .i64) (.st (.int .i64) (.st (.int .i64) (.st (.int .i64) (.st (.int .i64) (.st (.int .i64) (.st (.int .i64) (.st (.int .i64) (.st .bool (.st (.int .i64) .nil)))))))))))), (2, some (.box (.st (.int .i64) (.st (.int .i64) .nil)))), (3, some (.box (.st (.int .i64) (.st (.int .i64) .nil))))]⟩ (.two (.loop ⟨[3, 4, 10, 13, 14, 72, 73], [(12, (.int .i64)), (74, (.int .i64))], [(1, some (.box (.st (.int .i64) (.st (.int .i64) (.st (.int .i64) (.st (.int .i64) (.st (.int .i64) (.st (.int .i64) (.st (.int .i64) (.st (.int .i64) (.st .bool (.st (.int .i64) .nil)))))))))))), (2, some (.box (.st (.int .i64) (.st (.int .i64) .nil)))), (3, some (.box (.st (.int .i64) (.st (.int .i64) .nil))))]⟩ (.two .nil (.two .nil (.two (.two (.two .nil (.two .nil (.two .nil (.two .nil (.two .nil (.two .nil (.two .nil (.two .nil (.two .nil (.two .nil (.two (.join ⟨[3, 4, 10, 13, 14, 17, 21, 72, 73, 74], [(12, (.int .i64))], [(2, some (.box (.st (.int .i64) (.st (.int .i64) .nil)))), (3, some (.box (.st (.int .i64) (.st (.int .i64) .nil))))]⟩ (.any 196607 0 (.ord 0 0 .nil (.ord 1 0 .nil (.ord 2 0 .nil (.ord 3 0 .nil (.ord 4 0 .nil (.ord 5 0 .nil (.ord 6 0 .nil (.ord 7 32383 .nil (.ord 8 0 .nil (.ord 9 0 .nil (.ord 10 0 .nil (.ord 12 0 .nil (.ord 14 0 .nil (.ord 15 0 .nil (.alt (.ord 11 0 .nil (.ord 13 0 .nil (.ord 16 0 .nil (.ord 17 0 .nil (.ord 18 0 .nil .nil))))) (.ord 16 0 .nil (.ord 11 0 .nil (.ord 13 0 .nil (.ord 17 0 .nil (.ord 18 0 .nil .nil)))))))))))))))))))))) .nil))))))))))) .nil) .nil)))) .nil))) .nil)))))))))))
noncomputable def law3ClockRuns_con : Con := ⟨[(.st (.sl (.st (.int .i64) (.st (.int .i64) .nil))) (.st (.int .i64) (.st (.int .i64) .nil))), (.int .i64), (.sl (.int .i64)), (.int .i64)], true, [], .bool, fun x => law3ClockRuns x.1 x.2.1 x.2.2.1 x.2.2.2.1, none⟩
noncomputable def law3ClockRuns_env : Env := (17, .con law3Fell_con) :: (16, .con clockLook_con) :: (15, .con ref3Spent_con) :: (14, .con clockLeft_con) :: (13, .con clockPress_con) :: (12, .con ref3Budget_con) :: (11, .con clockCheck_con) :: (10, .con clockStart_con) :: (9, .con ref3Ruled_con) :: (8, .con law3Ticks_con) :: []
theorem law3ClockRuns_den (x : DL law3ClockRuns_con.ps) : law3ClockRuns_con.φ x = denF Try.prog law3ClockRuns_env law3ClockRuns_ann Try.f3 law3ClockRuns_con.ps law3ClockRuns_con.one law3ClockRuns_con.res law3ClockRuns_con.ρ x := by kernel_rfl
theorem law3ClockRuns_ok : ConOK Try.prog 3 law3ClockRuns_con :=
  con_of_den (env := law3ClockRuns_env) ((EnvOK.cons (EnvOK.cons (EnvOK.cons (EnvOK.cons (EnvOK.cons (EnvOK.cons (EnvOK.cons (EnvOK.cons (EnvOK.cons (EnvOK.cons (EnvOK.nil _) law3Ticks_ok) ref3Ruled_ok) clockStart_ok) clockCheck_ok) ref3Budget_ok) clockPress_ok) clockLeft_ok) ref3Spent_ok) clockLook_ok) law3Fell_ok)) mixed Try.func3 law3ClockRuns_con law3ClockRuns_ann (by kernel_rfl) (fun h => by first | rfl | cases h) (fun g hg => by cases hg) law3ClockRuns_den
end Go.Proofs.Ytcdpkebphgeipaa
