/- Contracts: ClockStops. No condition of its own. -/
import Derived.Test.YtejmikpmkfnlgaaBase
import Derived.Test.YtejmikpmkfnlgaaClockStopsS
namespace Go.Proofs.Ytejmikpmkfnlgaa
open Go.Den
set_option linter.unusedVariables false
set_option maxRecDepth 100000
def law3Minute_ann : Ann := .nil
noncomputable def law3Minute_con : Con := ⟨[], true, [], (.st (.osl 104 (.st (.int .i64) (.st (.int .i64) .nil))) (.st (.int .i64) (.st (.int .i64) .nil))), fun x => law3Minute_o, some fun x => law3Minute⟩
noncomputable def law3Minute_env : Env := []
theorem law3Minute_den (x : DL law3Minute_con.ps) : law3Minute_con.φ x = denF Try.prog law3Minute_env law3Minute_ann Try.f72 law3Minute_con.ps law3Minute_con.one law3Minute_con.res law3Minute_con.ρ x := by kernel_rfl
theorem law3Minute_ok : ConOK Try.prog 72 law3Minute_con :=
  con_of_den (env := law3Minute_env) ((EnvOK.nil _)) mixed Try.func72 law3Minute_con law3Minute_ann (by kernel_rfl) (fun h => by first | rfl | cases h) (fun g hg x => by
    cases hg
    exact law3Minute_eq ) law3Minute_den
def clockWithin_ann : Ann := .nil
noncomputable def clockWithin_con : Con := ⟨[(.int .i64), (.int .i64), (.int .i64)], true, [], .bool, fun x => clockWithin_o x.1 x.2.1 x.2.2.1, some fun x => clockWithin x.1 x.2.1 x.2.2.1⟩
noncomputable def clockWithin_env : Env := []
theorem clockWithin_den (x : DL clockWithin_con.ps) : clockWithin_con.φ x = denF Try.prog clockWithin_env clockWithin_ann Try.f76 clockWithin_con.ps clockWithin_con.one clockWithin_con.res clockWithin_con.ρ x := by kernel_rfl
theorem clockWithin_ok : ConOK Try.prog 76 clockWithin_con :=
  con_of_den (env := clockWithin_env) ((EnvOK.nil _)) mixed Try.func76 clockWithin_con clockWithin_ann (by kernel_rfl) (fun h => by first | rfl | cases h) (fun g hg x => by
    cases hg
    exact clockWithin_eq _ _ _) clockWithin_den
def clockCheck_ann : Ann := (.two .nil (.two .nil (.two .nil (.two (.two .nil (.joinE ⟨[], [], []⟩ (.two (.loop ⟨[1, 21, 22], [(23, (.int .i64))], []⟩ .nil) .nil))) .nil))))
noncomputable def clockCheck_con : Con := ⟨[(.st (.sl (.st (.int .i64) (.st (.int .i64) .nil))) (.st (.int .i64) (.st (.int .i64) .nil)))], true, [], (.int .i64), fun x => clockCheck x.1, none⟩
noncomputable def clockCheck_env : Env := (76, .con clockWithin_con) :: []
theorem clockCheck_den (x : DL clockCheck_con.ps) : clockCheck_con.φ x = denF Try.prog clockCheck_env clockCheck_ann Try.f75 clockCheck_con.ps clockCheck_con.one clockCheck_con.res clockCheck_con.ρ x := by kernel_rfl
theorem clockCheck_ok : ConOK Try.prog 75 clockCheck_con :=
  con_of_den (env := clockCheck_env) ((EnvOK.cons (EnvOK.nil _) clockWithin_ok)) mixed Try.func75 clockCheck_con clockCheck_ann (by kernel_rfl) (fun h => by first | rfl | cases h) (fun g hg => by cases hg) clockCheck_den
def clockStart_ann : Ann := .nil
noncomputable def clockStart_con : Con := ⟨[(.st (.sl (.st (.int .i64) (.st (.int .i64) .nil))) (.st (.int .i64) (.st (.int .i64) .nil))), (.int .i64)], false, [(.st (.st (.int .i64) (.st (.int .i64) .nil)) (.st (.st (.int .i64) (.st (.int .i64) .nil)) (.st (.st (.int .i64) (.st (.int .i64) .nil)) (.st (.int .i64) (.st (.int .i64) (.st .bool (.st (.int .i64) .nil))))))), (.int .i64)], (.st (.st (.st (.int .i64) (.st (.int .i64) .nil)) (.st (.st (.int .i64) (.st (.int .i64) .nil)) (.st (.st (.int .i64) (.st (.int .i64) .nil)) (.st (.int .i64) (.st (.int .i64) (.st .bool (.st (.int .i64) .nil))))))) (.st (.int .i64) .nil)), fun x => clockStart x.1 x.2.1, none⟩
noncomputable def clockStart_env : Env := (76, .con clockWithin_con) :: (75, .con clockCheck_con) :: []
theorem clockStart_den (x : DL clockStart_con.ps) : clockStart_con.φ x = denF Try.prog clockStart_env clockStart_ann Try.f71 clockStart_con.ps clockStart_con.one clockStart_con.res clockStart_con.ρ x := by kernel_rfl
theorem clockStart_ok : ConOK Try.prog 71 clockStart_con :=
  con_of_den (env := clockStart_env) ((EnvOK.cons (EnvOK.cons (EnvOK.nil _) clockCheck_ok) clockWithin_ok)) mixed Try.func71 clockStart_con clockStart_ann (by kernel_rfl) (fun h => by first | rfl | cases h) (fun g hg => by cases hg) clockStart_den
def law3Ticks_ann : Ann := .nil
noncomputable def law3Ticks_con : Con := ⟨[], true, [], .bool, fun x => law3Ticks, none⟩
noncomputable def law3Ticks_env : Env := (71, .con clockStart_con) :: (72, .con law3Minute_con) :: []
theorem law3Ticks_den (x : DL law3Ticks_con.ps) : law3Ticks_con.φ x = denF Try.prog law3Ticks_env law3Ticks_ann Try.f26 law3Ticks_con.ps law3Ticks_con.one law3Ticks_con.res law3Ticks_con.ρ x := by kernel_rfl
theorem law3Ticks_ok : ConOK Try.prog 26 law3Ticks_con :=
  con_of_den (env := law3Ticks_env) ((EnvOK.cons (EnvOK.cons (EnvOK.nil _) law3Minute_ok) clockStart_ok)) mixed Try.func26 law3Ticks_con law3Ticks_ann (by kernel_rfl) (fun h => by first | rfl | cases h) (fun g hg => by cases hg) law3Ticks_den
def clockValid_ann : Ann := (.two .nil (.two .nil (.two .nil (.two (.two .nil (.join ⟨[], [(6, .bool)], []⟩ (.two (.loop ⟨[2, 3], [(6, .bool), (26, (.int .i64))], []⟩ .nil) .nil))) .nil))))
noncomputable def clockValid_con : Con := ⟨[(.st (.sl (.st (.int .i64) (.st (.int .i64) .nil))) (.st (.int .i64) (.st (.int .i64) .nil))), (.st (.st (.int .i64) (.st (.int .i64) .nil)) (.st (.st (.int .i64) (.st (.int .i64) .nil)) (.st (.st (.int .i64) (.st (.int .i64) .nil)) (.st (.int .i64) (.st (.int .i64) (.st .bool (.st (.int .i64) .nil)))))))], true, [], (.int .i64), fun x => clockValid x.1 x.2.1, none⟩
noncomputable def clockValid_env : Env := (76, .con clockWithin_con) :: (75, .con clockCheck_con) :: []
theorem clockValid_den (x : DL clockValid_con.ps) : clockValid_con.φ x = denF Try.prog clockValid_env clockValid_ann Try.f30 clockValid_con.ps clockValid_con.one clockValid_con.res clockValid_con.ρ x := by kernel_rfl
theorem clockValid_ok : ConOK Try.prog 30 clockValid_con :=
  con_of_den (env := clockValid_env) ((EnvOK.cons (EnvOK.cons (EnvOK.nil _) clockCheck_ok) clockWithin_ok)) mixed Try.func30 clockValid_con clockValid_ann (by kernel_rfl) (fun h => by first | rfl | cases h) (fun g hg => by cases hg) clockValid_den
def clockUsed_ann : Ann := .nil
noncomputable def clockUsed_con : Con := ⟨[(.st (.sl (.st (.int .i64) (.st (.int .i64) .nil))) (.st (.int .i64) (.st (.int .i64) .nil))), (.st (.st (.int .i64) (.st (.int .i64) .nil)) (.st (.st (.int .i64) (.st (.int .i64) .nil)) (.st (.st (.int .i64) (.st (.int .i64) .nil)) (.st (.int .i64) (.st (.int .i64) (.st .bool (.st (.int .i64) .nil))))))), (.int .i64)], true, [], (.int .i64), fun x => clockUsed_o x.1 x.2.1 x.2.2.1, some fun x => clockUsed x.1 x.2.1 x.2.2.1⟩
noncomputable def clockUsed_env : Env := []
theorem clockUsed_den (x : DL clockUsed_con.ps) : clockUsed_con.φ x = denF Try.prog clockUsed_env clockUsed_ann Try.f74 clockUsed_con.ps clockUsed_con.one clockUsed_con.res clockUsed_con.ρ x := by kernel_rfl
theorem clockUsed_ok : ConOK Try.prog 74 clockUsed_con :=
  con_of_den (env := clockUsed_env) ((EnvOK.nil _)) mixed Try.func74 clockUsed_con clockUsed_ann (by kernel_rfl) (fun h => by first | rfl | cases h) (fun g hg x => by
    cases hg
    exact clockUsed_eq _ _ _) clockUsed_den
def clockLook_ann : Ann := (.two .nil (.two .nil (.two .nil (.two (.two .nil (.join ⟨[4, 6], [], [(1, some (.box (.st (.int .i64) (.st (.int .i64) (.st (.int .i64) (.st (.int .i64) (.st (.int .i64) (.st (.int .i64) (.st (.int .i64) (.st (.int .i64) (.st .bool (.st (.int .i64) .nil))))))))))))]⟩ .nil)) .nil))))
noncomputable def clockLook_con : Con := ⟨[(.st (.sl (.st (.int .i64) (.st (.int .i64) .nil))) (.st (.int .i64) (.st (.int .i64) .nil))), (.st (.st (.int .i64) (.st (.int .i64) .nil)) (.st (.st (.int .i64) (.st (.int .i64) .nil)) (.st (.st (.int .i64) (.st (.int .i64) .nil)) (.st (.int .i64) (.st (.int .i64) (.st .bool (.st (.int .i64) .nil))))))), (.int .i64)], false, [(.st (.st (.int .i64) (.st (.int .i64) .nil)) (.st (.st (.int .i64) (.st (.int .i64) .nil)) (.st (.st (.int .i64) (.st (.int .i64) .nil)) (.st (.int .i64) (.st (.int .i64) (.st .bool (.st (.int .i64) .nil))))))), (.int .i64)], (.st (.st (.st (.int .i64) (.st (.int .i64) .nil)) (.st (.st (.int .i64) (.st (.int .i64) .nil)) (.st (.st (.int .i64) (.st (.int .i64) .nil)) (.st (.int .i64) (.st (.int .i64) (.st .bool (.st (.int .i64) .nil))))))) (.st (.int .i64) .nil)), fun x => clockLook x.1 x.2.1 x.2.2.1, none⟩
noncomputable def clockLook_env : Env := (74, .con clockUsed_con) :: (76, .con clockWithin_con) :: (30, .con clockValid_con) :: []
theorem clockLook_den (x : DL clockLook_con.ps) : clockLook_con.φ x = denF Try.prog clockLook_env clockLook_ann Try.f33 clockLook_con.ps clockLook_con.one clockLook_con.res clockLook_con.ρ x := by kernel_rfl
theorem clockLook_ok : ConOK Try.prog 33 clockLook_con :=
  con_of_den (env := clockLook_env) ((EnvOK.cons (EnvOK.cons (EnvOK.cons (EnvOK.nil _) clockValid_ok) clockWithin_ok) clockUsed_ok)) mixed Try.func33 clockLook_con clockLook_ann (by kernel_rfl) (fun h => by first | rfl | cases h) (fun g hg => by cases hg) clockLook_den
def clockReady_ann : Ann := .nil
noncomputable def clockReady_con : Con := ⟨[(.st (.sl (.st (.int .i64) (.st (.int .i64) .nil))) (.st (.int .i64) (.st (.int .i64) .nil))), (.st (.st (.int .i64) (.st (.int .i64) .nil)) (.st (.st (.int .i64) (.st (.int .i64) .nil)) (.st (.st (.int .i64) (.st (.int .i64) .nil)) (.st (.int .i64) (.st (.int .i64) (.st .bool (.st (.int .i64) .nil))))))), (.int .i64), .bool], false, [(.st (.st (.int .i64) (.st (.int .i64) .nil)) (.st (.st (.int .i64) (.st (.int .i64) .nil)) (.st (.st (.int .i64) (.st (.int .i64) .nil)) (.st (.int .i64) (.st (.int .i64) (.st .bool (.st (.int .i64) .nil))))))), (.int .i64)], (.st (.st (.st (.int .i64) (.st (.int .i64) .nil)) (.st (.st (.int .i64) (.st (.int .i64) .nil)) (.st (.st (.int .i64) (.st (.int .i64) .nil)) (.st (.int .i64) (.st (.int .i64) (.st .bool (.st (.int .i64) .nil))))))) (.st (.int .i64) .nil)), fun x => clockReady x.1 x.2.1 x.2.2.1 x.2.2.2.1, none⟩
noncomputable def clockReady_env : Env := (33, .con clockLook_con) :: []
theorem clockReady_den (x : DL clockReady_con.ps) : clockReady_con.φ x = denF Try.prog clockReady_env clockReady_ann Try.f73 clockReady_con.ps clockReady_con.one clockReady_con.res clockReady_con.ρ x := by kernel_rfl
theorem clockReady_ok : ConOK Try.prog 73 clockReady_con :=
  con_of_den (env := clockReady_env) ((EnvOK.cons (EnvOK.nil _) clockLook_ok)) mixed Try.func73 clockReady_con clockReady_ann (by kernel_rfl) (fun h => by first | rfl | cases h) (fun g hg => by cases hg) clockReady_den
def clockStop_ann : Ann := (.two .nil (.two .nil (.two .nil (.two (.tail 12 .nil) .nil))))
noncomputable def clockStop_con : Con := ⟨[(.st (.sl (.st (.int .i64) (.st (.int .i64) .nil))) (.st (.int .i64) (.st (.int .i64) .nil))), (.st (.st (.int .i64) (.st (.int .i64) .nil)) (.st (.st (.int .i64) (.st (.int .i64) .nil)) (.st (.st (.int .i64) (.st (.int .i64) .nil)) (.st (.int .i64) (.st (.int .i64) (.st .bool (.st (.int .i64) .nil))))))), (.int .i64)], false, [(.st (.st (.int .i64) (.st (.int .i64) .nil)) (.st (.st (.int .i64) (.st (.int .i64) .nil)) (.st (.st (.int .i64) (.st (.int .i64) .nil)) (.st (.int .i64) (.st (.int .i64) (.st .bool (.st (.int .i64) .nil))))))), (.int .i64)], (.st (.st (.st (.int .i64) (.st (.int .i64) .nil)) (.st (.st (.int .i64) (.st (.int .i64) .nil)) (.st (.st (.int .i64) (.st (.int .i64) .nil)) (.st (.int .i64) (.st (.int .i64) (.st .bool (.st (.int .i64) .nil))))))) (.st (.int .i64) .nil)), fun x => clockStop x.1 x.2.1 x.2.2.1, none⟩
noncomputable def clockStop_env : Env := (74, .con clockUsed_con) :: (73, .con clockReady_con) :: []
theorem clockStop_den (x : DL clockStop_con.ps) : clockStop_con.φ x = denF Try.prog clockStop_env clockStop_ann Try.f27 clockStop_con.ps clockStop_con.one clockStop_con.res clockStop_con.ρ x := by kernel_rfl
theorem clockStop_ok : ConOK Try.prog 27 clockStop_con :=
  con_of_den (env := clockStop_env) ((EnvOK.cons (EnvOK.cons (EnvOK.nil _) clockReady_ok) clockUsed_ok)) mixed Try.func27 clockStop_con clockStop_ann (by kernel_rfl) (fun h => by first | rfl | cases h) (fun g hg => by cases hg) clockStop_den
def ref3Ruled_ann : Ann := (.two .nil (.two .nil (.two .nil (.two .nil (.two (.two .nil (.joinE ⟨[], [], []⟩ (.two (.loop ⟨[3, 34, 35], [(36, (.int .i64))], []⟩ .nil) .nil))) .nil)))))
noncomputable def ref3Ruled_con : Con := ⟨[(.st (.sl (.st (.int .i64) (.st (.int .i64) .nil))) (.st (.int .i64) (.st (.int .i64) .nil)))], true, [], (.int .i64), fun x => ref3Ruled x.1, none⟩
noncomputable def ref3Ruled_env : Env := []
theorem ref3Ruled_den (x : DL ref3Ruled_con.ps) : ref3Ruled_con.φ x = denF Try.prog ref3Ruled_env ref3Ruled_ann Try.f28 ref3Ruled_con.ps ref3Ruled_con.one ref3Ruled_con.res ref3Ruled_con.ρ x := by kernel_rfl
theorem ref3Ruled_ok : ConOK Try.prog 28 ref3Ruled_con :=
  con_of_den (env := ref3Ruled_env) ((EnvOK.nil _)) mixed Try.func28 ref3Ruled_con ref3Ruled_ann (by kernel_rfl) (fun h => by first | rfl | cases h) (fun g hg => by cases hg) ref3Ruled_den
def law3Clocked_ann : Ann := (.two .nil (.two .nil (.two (.two .nil (.join ⟨[], [(5, .bool)], []⟩ (.two (.loop ⟨[2, 3], [(5, .bool), (35, (.int .i64))], []⟩ .nil) .nil))) .nil)))
noncomputable def law3Clocked_con : Con := ⟨[(.st (.sl (.st (.int .i64) (.st (.int .i64) .nil))) (.st (.int .i64) (.st (.int .i64) .nil))), (.st (.st (.int .i64) (.st (.int .i64) .nil)) (.st (.st (.int .i64) (.st (.int .i64) .nil)) (.st (.st (.int .i64) (.st (.int .i64) .nil)) (.st (.int .i64) (.st (.int .i64) (.st .bool (.st (.int .i64) .nil)))))))], true, [], .bool, fun x => law3Clocked x.1 x.2.1, none⟩
noncomputable def law3Clocked_env : Env := []
theorem law3Clocked_den (x : DL law3Clocked_con.ps) : law3Clocked_con.φ x = denF Try.prog law3Clocked_env law3Clocked_ann Try.f29 law3Clocked_con.ps law3Clocked_con.one law3Clocked_con.res law3Clocked_con.ρ x := by kernel_rfl
theorem law3Clocked_ok : ConOK Try.prog 29 law3Clocked_con :=
  con_of_den (env := law3Clocked_env) ((EnvOK.nil _)) mixed Try.func29 law3Clocked_con law3Clocked_ann (by kernel_rfl) (fun h => by first | rfl | cases h) (fun g hg => by cases hg) law3Clocked_den
def clockGo_ann : Ann := .nil
noncomputable def clockGo_con : Con := ⟨[(.st (.sl (.st (.int .i64) (.st (.int .i64) .nil))) (.st (.int .i64) (.st (.int .i64) .nil))), (.st (.st (.int .i64) (.st (.int .i64) .nil)) (.st (.st (.int .i64) (.st (.int .i64) .nil)) (.st (.st (.int .i64) (.st (.int .i64) .nil)) (.st (.int .i64) (.st (.int .i64) (.st .bool (.st (.int .i64) .nil))))))), (.int .i64)], false, [(.st (.st (.int .i64) (.st (.int .i64) .nil)) (.st (.st (.int .i64) (.st (.int .i64) .nil)) (.st (.st (.int .i64) (.st (.int .i64) .nil)) (.st (.int .i64) (.st (.int .i64) (.st .bool (.st (.int .i64) .nil))))))), (.int .i64)], (.st (.st (.st (.int .i64) (.st (.int .i64) .nil)) (.st (.st (.int .i64) (.st (.int .i64) .nil)) (.st (.st (.int .i64) (.st (.int .i64) .nil)) (.st (.int .i64) (.st (.int .i64) (.st .bool (.st (.int .i64) .nil))))))) (.st (.int .i64) .nil)), fun x => clockGo x.1 x.2.1 x.2.2.1, none⟩
noncomputable def clockGo_env : Env := (73, .con clockReady_con) :: []
theorem clockGo_den (x : DL clockGo_con.ps) : clockGo_con.φ x = denF Try.prog clockGo_env clockGo_ann Try.f31 clockGo_con.ps clockGo_con.one clockGo_con.res clockGo_con.ρ x := by kernel_rfl
theorem clockGo_ok : ConOK Try.prog 31 clockGo_con :=
  con_of_den (env := clockGo_env) ((EnvOK.cons (EnvOK.nil _) clockReady_ok)) mixed Try.func31 clockGo_con clockGo_ann (by kernel_rfl) (fun h => by first | rfl | cases h) (fun g hg => by cases hg) clockGo_den
def ref3Spent_ann : Ann := .nil
noncomputable def ref3Spent_con : Con := ⟨[(.st (.sl (.st (.int .i64) (.st (.int .i64) .nil))) (.st (.int .i64) (.st (.int .i64) .nil))), (.int .i64)], true, [], (.int .i64), fun x => ref3Spent_o x.1 x.2.1, some fun x => ref3Spent x.1 x.2.1⟩
noncomputable def ref3Spent_env : Env := []
theorem ref3Spent_den (x : DL ref3Spent_con.ps) : ref3Spent_con.φ x = denF Try.prog ref3Spent_env ref3Spent_ann Try.f32 ref3Spent_con.ps ref3Spent_con.one ref3Spent_con.res ref3Spent_con.ρ x := by kernel_rfl
theorem ref3Spent_ok : ConOK Try.prog 32 ref3Spent_con :=
  con_of_den (env := ref3Spent_env) ((EnvOK.nil _)) mixed Try.func32 ref3Spent_con ref3Spent_ann (by kernel_rfl) (fun h => by first | rfl | cases h) (fun g hg x => by
    cases hg
    exact ref3Spent_eq _ _) ref3Spent_den
def law3ClockStops_ann : Ann := (.two .nil (.two .nil (.two .nil (.two .nil (.two (.two .nil (.join ⟨[2, 3, 5, 6, 11, 12], [(13, (.int .i64))], []⟩ .nil)) (.two .nil (.two (.two .nil (.join ⟨[2, 3, 5, 6, 11, 12], [(13, (.int .i64))], []⟩ .nil)) .nil)))))))
noncomputable def law3ClockStops_con : Con := ⟨[(.st (.sl (.st (.int .i64) (.st (.int .i64) .nil))) (.st (.int .i64) (.st (.int .i64) .nil))), (.st (.st (.int .i64) (.st (.int .i64) .nil)) (.st (.st (.int .i64) (.st (.int .i64) .nil)) (.st (.st (.int .i64) (.st (.int .i64) .nil)) (.st (.int .i64) (.st (.int .i64) (.st .bool (.st (.int .i64) .nil))))))), (.int .i64), (.int .i64), (.int .i64)], true, [], .bool, fun x => law3ClockStops x.1 x.2.1 x.2.2.1 x.2.2.2.1 x.2.2.2.2.1, none⟩
noncomputable def law3ClockStops_env : Env := (33, .con clockLook_con) :: (32, .con ref3Spent_con) :: (31, .con clockGo_con) :: (30, .con clockValid_con) :: (29, .con law3Clocked_con) :: (28, .con ref3Ruled_con) :: (27, .con clockStop_con) :: (26, .con law3Ticks_con) :: []
theorem law3ClockStops_den (x : DL law3ClockStops_con.ps) : law3ClockStops_con.φ x = denF Try.prog law3ClockStops_env law3ClockStops_ann Try.f7 law3ClockStops_con.ps law3ClockStops_con.one law3ClockStops_con.res law3ClockStops_con.ρ x := by kernel_rfl
theorem law3ClockStops_ok : ConOK Try.prog 7 law3ClockStops_con :=
  con_of_den (env := law3ClockStops_env) ((EnvOK.cons (EnvOK.cons (EnvOK.cons (EnvOK.cons (EnvOK.cons (EnvOK.cons (EnvOK.cons (EnvOK.cons (EnvOK.nil _) law3Ticks_ok) clockStop_ok) ref3Ruled_ok) law3Clocked_ok) clockValid_ok) clockGo_ok) ref3Spent_ok) clockLook_ok)) mixed Try.func7 law3ClockStops_con law3ClockStops_ann (by kernel_rfl) (fun h => by first | rfl | cases h) (fun g hg => by cases hg) law3ClockStops_den
end Go.Proofs.Ytejmikpmkfnlgaa
