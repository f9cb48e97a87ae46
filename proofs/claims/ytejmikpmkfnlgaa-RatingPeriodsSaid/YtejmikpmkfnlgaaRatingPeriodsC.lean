/- Contracts: RatingPeriods. No condition of its own. -/
import Derived.Test.YtejmikpmkfnlgaaBase
import Derived.Test.YtejmikpmkfnlgaaRatingPeriodsS
namespace Go.Proofs.Ytejmikpmkfnlgaa
open Go.Den
set_option linter.unusedVariables false
set_option maxRecDepth 100000
def ratingExpect_ann : Ann := (.two .nil (.two .nil (.two (.two .nil (.join ⟨[], [(3, (.int .i64))], []⟩ (.two (.loop ⟨[0, 6], [(3, (.int .i64)), (7, (.int .i64))], []⟩ (.two .nil (.two .nil (.two (.two (.two .nil (.two (.two .nil (.join ⟨[0, 6, 7], [(3, (.int .i64))], []⟩ (.two .nil (.two .nil (.join ⟨[0, 6, 7], [(3, (.int .i64))], []⟩ .nil))))) .nil)) .nil) .nil)))) .nil))) .nil)))
noncomputable def ratingExpect_con : Con := ⟨[(.int .i64)], true, [], (.int .i64), fun x => ratingExpect x.1, none⟩
noncomputable def ratingExpect_env : Env := []
theorem ratingExpect_den (x : DL ratingExpect_con.ps) : ratingExpect_con.φ x = denF Try.prog ratingExpect_env ratingExpect_ann Try.f37 ratingExpect_con.ps ratingExpect_con.one ratingExpect_con.res ratingExpect_con.ρ x := by kernel_rfl
theorem ratingExpect_ok : ConOK Try.prog 37 ratingExpect_con :=
  con_of_den (env := ratingExpect_env) ((EnvOK.nil _)) mixed Try.func37 ratingExpect_con ratingExpect_ann (by kernel_rfl) (fun h => by first | rfl | cases h) (fun g hg => by cases hg) ratingExpect_den
def law3Rates_ann : Ann := .nil
noncomputable def law3Rates_con : Con := ⟨[], true, [], .bool, fun x => law3Rates, none⟩
noncomputable def law3Rates_env : Env := (37, .con ratingExpect_con) :: []
theorem law3Rates_den (x : DL law3Rates_con.ps) : law3Rates_con.φ x = denF Try.prog law3Rates_env law3Rates_ann Try.f36 law3Rates_con.ps law3Rates_con.one law3Rates_con.res law3Rates_con.ρ x := by kernel_rfl
theorem law3Rates_ok : ConOK Try.prog 36 law3Rates_con :=
  con_of_den (env := law3Rates_env) ((EnvOK.cons (EnvOK.nil _) ratingExpect_ok)) mixed Try.func36 law3Rates_con law3Rates_ann (by kernel_rfl) (fun h => by first | rfl | cases h) (fun g hg => by cases hg) law3Rates_den
def ratingOut_ann : Ann := .nil
noncomputable def ratingOut_con : Con := ⟨[(.int .i64)], true, [], .bool, fun x => ratingOut_o x.1, some fun x => ratingOut x.1⟩
noncomputable def ratingOut_env : Env := []
theorem ratingOut_den (x : DL ratingOut_con.ps) : ratingOut_con.φ x = denF Try.prog ratingOut_env ratingOut_ann Try.f81 ratingOut_con.ps ratingOut_con.one ratingOut_con.res ratingOut_con.ρ x := by kernel_rfl
theorem ratingOut_ok : ConOK Try.prog 81 ratingOut_con :=
  con_of_den (env := ratingOut_env) ((EnvOK.nil _)) mixed Try.func81 ratingOut_con ratingOut_ann (by kernel_rfl) (fun h => by first | rfl | cases h) (fun g hg x => by
    cases hg
    exact ratingOut_eq _) ratingOut_den
def ratingCheck_ann : Ann := (.two .nil (.two .nil (.two (.two (.two (.two .nil (.two (.two (.two .nil (.two (.two .nil (.joinE ⟨[], [], []⟩ (.two (.loop ⟨[0, 1, 7], [(8, (.int .i64))], []⟩ .nil) .nil))) .nil)) .nil) .nil)) .nil) .nil) .nil)))
noncomputable def ratingCheck_con : Con := ⟨[(.sl (.int .i64))], true, [], (.int .i64), fun x => ratingCheck x.1, none⟩
noncomputable def ratingCheck_env : Env := (81, .con ratingOut_con) :: (93, .body Try.f93) :: (61, .body Try.f61) :: []
theorem ratingCheck_den (x : DL ratingCheck_con.ps) : ratingCheck_con.φ x = denF Try.prog ratingCheck_env ratingCheck_ann Try.f40 ratingCheck_con.ps ratingCheck_con.one ratingCheck_con.res ratingCheck_con.ρ x := by kernel_rfl
theorem ratingCheck_ok : ConOK Try.prog 40 ratingCheck_con :=
  con_of_den (env := ratingCheck_env) ((EnvOK.cons (EnvOK.body (EnvOK.body (EnvOK.nil _) Try.func61) Try.func93) ratingOut_ok)) mixed Try.func40 ratingCheck_con ratingCheck_ann (by kernel_rfl) (fun h => by first | rfl | cases h) (fun g hg => by cases hg) ratingCheck_den
def ratingCheckAll_ann : Ann := .nil
noncomputable def ratingCheckAll_con : Con := ⟨[(.sl (.int .i64)), (.sl (.st (.int .i64) (.st (.int .i64) (.st (.int .i64) .nil))))], true, [], (.int .i64), fun x => ratingCheckAll x.1 x.2.1, none⟩
noncomputable def ratingCheckAll_env : Env := (40, .con ratingCheck_con) :: []
theorem ratingCheckAll_den (x : DL ratingCheckAll_con.ps) : ratingCheckAll_con.φ x = denF Try.prog ratingCheckAll_env ratingCheckAll_ann Try.f80 ratingCheckAll_con.ps ratingCheckAll_con.one ratingCheckAll_con.res ratingCheckAll_con.ρ x := by kernel_rfl
theorem ratingCheckAll_ok : ConOK Try.prog 80 ratingCheckAll_con :=
  con_of_den (env := ratingCheckAll_env) ((EnvOK.cons (EnvOK.nil _) ratingCheck_ok)) mixed Try.func80 ratingCheckAll_con ratingCheckAll_ann (by kernel_rfl) (fun h => by first | rfl | cases h) (fun g hg => by cases hg) ratingCheckAll_den
def slicesClone_int_ann : Ann := .nil
noncomputable def slicesClone_int_con : Con := ⟨[(.sl (.int .i64))], true, [], (.osl 3 (.int .i64)), fun x => slicesClone_int x.1, none⟩
noncomputable def slicesClone_int_env : Env := []
theorem slicesClone_int_den (x : DL slicesClone_int_con.ps) : slicesClone_int_con.φ x = denF Try.prog slicesClone_int_env slicesClone_int_ann Try.f77 slicesClone_int_con.ps slicesClone_int_con.one slicesClone_int_con.res slicesClone_int_con.ρ x := by kernel_rfl
theorem slicesClone_int_ok : ConOK Try.prog 77 slicesClone_int_con :=
  con_of_den (env := slicesClone_int_env) ((EnvOK.nil _)) mixed Try.func77 slicesClone_int_con slicesClone_int_ann (by kernel_rfl) (fun h => by first | rfl | cases h) (fun g hg => by cases hg) slicesClone_int_den
def ratingChange_ann : Ann := .nil
noncomputable def ratingChange_con : Con := ⟨[(.int .i64), (.int .i64), (.int .i64), (.int .i64)], false, [(.int .i64), (.int .i64)], (.st (.int .i64) (.st (.int .i64) .nil)), fun x => ratingChange x.1 x.2.1 x.2.2.1 x.2.2.2.1, none⟩
noncomputable def ratingChange_env : Env := (37, .con ratingExpect_con) :: (81, .con ratingOut_con) :: []
theorem ratingChange_den (x : DL ratingChange_con.ps) : ratingChange_con.φ x = denF Try.prog ratingChange_env ratingChange_ann Try.f42 ratingChange_con.ps ratingChange_con.one ratingChange_con.res ratingChange_con.ρ x := by kernel_rfl
theorem ratingChange_ok : ConOK Try.prog 42 ratingChange_con :=
  con_of_den (env := ratingChange_env) ((EnvOK.cons (EnvOK.cons (EnvOK.nil _) ratingOut_ok) ratingExpect_ok)) mixed Try.func42 ratingChange_con ratingChange_ann (by kernel_rfl) (fun h => by first | rfl | cases h) (fun g hg => by cases hg) ratingChange_den
def ratingChange_i_ann : Ann := .nil
noncomputable def ratingChange_i_con : Con := ⟨[(.sl (.int .i64)), (.st (.int .i64) (.st (.int .i64) (.st (.int .i64) .nil))), (.int .i64)], false, [(.int .i64), (.int .i64)], (.st (.int .i64) (.st (.int .i64) .nil)), fun x => ratingChange_i x.1 x.2.1 x.2.2.1, none⟩
noncomputable def ratingChange_i_env : Env := (42, .con ratingChange_con) :: []
theorem ratingChange_i_den (x : DL ratingChange_i_con.ps) : ratingChange_i_con.φ x = denF Try.prog ratingChange_i_env ratingChange_i_ann Try.f82 ratingChange_i_con.ps ratingChange_i_con.one ratingChange_i_con.res ratingChange_i_con.ρ x := by kernel_rfl
theorem ratingChange_i_ok : ConOK Try.prog 82 ratingChange_i_con :=
  con_of_den (env := ratingChange_i_env) ((EnvOK.cons (EnvOK.nil _) ratingChange_ok)) mixed Try.func82 ratingChange_i_con ratingChange_i_ann (by kernel_rfl) (fun h => by first | rfl | cases h) (fun g hg => by cases hg) ratingChange_i_den
def ratingPeriod_ann : Ann := (.two .nil (.two .nil (.two .nil (.two (.two .nil (.joinE ⟨[9], [], [(0, some (.arr 3 (.int .i64)))]⟩ (.two (.loop ⟨[0, 2, 9, 23, 24], [(25, (.int .i64))], [(0, some (.arr 3 (.int .i64)))]⟩ .nil) .nil))) .nil))))
noncomputable def ratingPeriod_con : Con := ⟨[(.sl (.int .i64)), (.sl (.st (.int .i64) (.st (.int .i64) (.st (.int .i64) .nil)))), (.int .i64)], false, [(.osl 3 (.int .i64)), (.int .i64)], (.st (.osl 3 (.int .i64)) (.st (.int .i64) .nil)), fun x => ratingPeriod x.1 x.2.1 x.2.2.1, none⟩
noncomputable def ratingPeriod_env : Env := (40, .con ratingCheck_con) :: (82, .con ratingChange_i_con) :: (77, .con slicesClone_int_con) :: (80, .con ratingCheckAll_con) :: []
theorem ratingPeriod_den (x : DL ratingPeriod_con.ps) : ratingPeriod_con.φ x = denF Try.prog ratingPeriod_env ratingPeriod_ann Try.f52 ratingPeriod_con.ps ratingPeriod_con.one ratingPeriod_con.res ratingPeriod_con.ρ x := by kernel_rfl
theorem ratingPeriod_ok : ConOK Try.prog 52 ratingPeriod_con :=
  con_of_den (env := ratingPeriod_env) ((EnvOK.cons (EnvOK.cons (EnvOK.cons (EnvOK.cons (EnvOK.nil _) ratingCheckAll_ok) slicesClone_int_ok) ratingChange_i_ok) ratingCheck_ok)) mixed Try.func52 ratingPeriod_con ratingPeriod_ann (by kernel_rfl) (fun h => by first | rfl | cases h) (fun g hg => by cases hg) ratingPeriod_den
def ratingPerformance_ann : Ann := (.two .nil (.two .nil (.two .nil (.two (.two .nil (.joinE ⟨[], [], []⟩ (.two (.loop ⟨[0, 1], [(7, (.int .i64))], []⟩ (.two .nil (.two (.joinE ⟨[0, 1, 7], [], []⟩ (.two (.two .nil (.two (.two .nil (.join ⟨[0, 1, 7], [(8, (.int .i64))], []⟩ (.two (.loop ⟨[0, 1, 7, 29, 30], [(8, (.int .i64)), (31, (.int .i64))], []⟩ .nil) .nil))) .nil)) .nil)) .nil))) .nil))) .nil))))
noncomputable def ratingPerformance_con : Con := ⟨[(.sl (.int .i64)), (.int .i64)], false, [(.int .i64), (.int .i64)], (.st (.int .i64) (.st (.int .i64) .nil)), fun x => ratingPerformance x.1 x.2.1, none⟩
noncomputable def ratingPerformance_env : Env := (37, .con ratingExpect_con) :: (40, .con ratingCheck_con) :: []
theorem ratingPerformance_den (x : DL ratingPerformance_con.ps) : ratingPerformance_con.φ x = denF Try.prog ratingPerformance_env ratingPerformance_ann Try.f53 ratingPerformance_con.ps ratingPerformance_con.one ratingPerformance_con.res ratingPerformance_con.ρ x := by kernel_rfl
theorem ratingPerformance_ok : ConOK Try.prog 53 ratingPerformance_con :=
  con_of_den (env := ratingPerformance_env) ((EnvOK.cons (EnvOK.cons (EnvOK.nil _) ratingCheck_ok) ratingExpect_ok)) mixed Try.func53 ratingPerformance_con ratingPerformance_ann (by kernel_rfl) (fun h => by first | rfl | cases h) (fun g hg => by cases hg) ratingPerformance_den
def ref3Hundredths_ann : Ann := (.two .nil (.two .nil (.two .nil (.two (.two .nil (.join ⟨[], [(3, (.int .i64))], []⟩ (.two (.loop ⟨[0, 19, 20], [(3, (.int .i64)), (21, (.int .i64))], []⟩ (.two .nil (.two .nil (.two (.join ⟨[0, 19, 20, 21], [(3, (.int .i64))], []⟩ (.two (.two .nil (.two .nil (.join ⟨[0, 19, 20, 21], [(3, (.int .i64))], []⟩ (.two (.loop ⟨[0, 19, 20, 21, 25, 26], [(3, (.int .i64)), (27, (.int .i64))], []⟩ (.two .nil (.two .nil (.two (.two (.two .nil (.two .nil (.join ⟨[0, 19, 20, 21, 25, 26, 27], [(3, (.int .i64))], []⟩ .nil))) .nil) .nil)))) .nil)))) .nil)) .nil)))) .nil))) .nil))))
noncomputable def ref3Hundredths_con : Con := ⟨[(.int .i64)], true, [], (.int .i64), fun x => ref3Hundredths x.1, none⟩
noncomputable def ref3Hundredths_env (φ : DL [(.int .i64)] → Option (D (.int .i64))) : Env := (38, .con ⟨[(.int .i64)], true, [], (.int .i64), φ, none⟩) :: []
theorem ref3Hundredths_den (φ : DL [(.int .i64)] → Option (D (.int .i64))) (x : DL [(.int .i64)]) : ref3Hundredths_G φ x = denF Try.prog (ref3Hundredths_env φ) ref3Hundredths_ann Try.f38 ref3Hundredths_con.ps ref3Hundredths_con.one ref3Hundredths_con.res ref3Hundredths_con.ρ x := by kernel_rfl
theorem ref3Hundredths_ok : ConOK Try.prog 38 ref3Hundredths_con :=
  con_fix (ps := [(.int .i64)]) (ρ := (.int .i64)) (G := ref3Hundredths_G) (by kernel_rfl) (fun h => by first | rfl | cases h) fun φ hφ =>
  con_of_den (env := ref3Hundredths_env φ) ((EnvOK.cons (EnvOK.nil _) hφ)) mixed Try.func38 ⟨[(.int .i64)], true, [], (.int .i64), ref3Hundredths_G φ, none⟩ ref3Hundredths_ann (by kernel_rfl) (fun h => by first | rfl | cases h) (fun g hg => by cases hg) (ref3Hundredths_den φ)
def law3Gets_ann : Ann := (.two .nil (.two .nil (.two (.two .nil (.join ⟨[], [(5, (.int .i64))], []⟩ (.two (.loop ⟨[1, 8, 9], [(5, (.int .i64)), (10, (.int .i64))], []⟩ .nil) .nil))) .nil)))
noncomputable def law3Gets_con : Con := ⟨[(.sl (.int .i64)), (.int .i64)], true, [], (.int .i64), fun x => law3Gets x.1 x.2.1, none⟩
noncomputable def law3Gets_env : Env := (38, .con ref3Hundredths_con) :: []
theorem law3Gets_den (x : DL law3Gets_con.ps) : law3Gets_con.φ x = denF Try.prog law3Gets_env law3Gets_ann Try.f54 law3Gets_con.ps law3Gets_con.one law3Gets_con.res law3Gets_con.ρ x := by kernel_rfl
theorem law3Gets_ok : ConOK Try.prog 54 law3Gets_con :=
  con_of_den (env := law3Gets_env) ((EnvOK.cons (EnvOK.nil _) ref3Hundredths_ok)) mixed Try.func54 law3Gets_con law3Gets_ann (by kernel_rfl) (fun h => by first | rfl | cases h) (fun g hg => by cases hg) law3Gets_den
def law3SameInts_ann : Ann := (.two .nil (.two .nil (.two (.two .nil (.joinE ⟨[], [], []⟩ (.two (.loop ⟨[0, 1, 12], [(13, (.int .i64))], []⟩ .nil) .nil))) .nil)))
noncomputable def law3SameInts_con : Con := ⟨[(.sl (.int .i64)), (.sl (.int .i64))], true, [], .bool, fun x => law3SameInts x.1 x.2.1, none⟩
noncomputable def law3SameInts_env : Env := []
theorem law3SameInts_den (x : DL law3SameInts_con.ps) : law3SameInts_con.φ x = denF Try.prog law3SameInts_env law3SameInts_ann Try.f43 law3SameInts_con.ps law3SameInts_con.one law3SameInts_con.res law3SameInts_con.ρ x := by kernel_rfl
theorem law3SameInts_ok : ConOK Try.prog 43 law3SameInts_con :=
  con_of_den (env := law3SameInts_env) ((EnvOK.nil _)) mixed Try.func43 law3SameInts_con law3SameInts_ann (by kernel_rfl) (fun h => by first | rfl | cases h) (fun g hg => by cases hg) law3SameInts_den
def law3RatingPeriods_ann : Ann := (.two .nil (.two .nil (.two .nil (.two .nil (.two .nil (.two .nil (.two (.two (.two .nil (.joinE ⟨[0, 1, 2, 9, 10], [], []⟩ (.two .nil (.two .nil (.joinE ⟨[0, 1, 2, 9, 10], [], []⟩ .nil))))) .nil) (.two .nil (.two (.two .nil (.joinE ⟨[9, 10, 14], [], [(2, some (.arr 3 (.int .i64)))]⟩ (.two (.loop ⟨[0, 2, 9, 10, 14, 118, 119], [(120, (.int .i64))], [(2, some (.arr 3 (.int .i64)))]⟩ .nil) .nil))) .nil)))))))))
noncomputable def law3RatingPeriods_con : Con := ⟨[(.sl (.int .i64)), (.sl (.st (.int .i64) (.st (.int .i64) (.st (.int .i64) .nil)))), (.int .i64), (.int .i64)], true, [], .bool, fun x => law3RatingPeriods x.1 x.2.1 x.2.2.1 x.2.2.2.1, none⟩
noncomputable def law3RatingPeriods_env : Env := (43, .con law3SameInts_con) :: (38, .con ref3Hundredths_con) :: (54, .con law3Gets_con) :: (40, .con ratingCheck_con) :: (53, .con ratingPerformance_con) :: (52, .con ratingPeriod_con) :: (36, .con law3Rates_con) :: []
theorem law3RatingPeriods_den (x : DL law3RatingPeriods_con.ps) : law3RatingPeriods_con.φ x = denF Try.prog law3RatingPeriods_env law3RatingPeriods_ann Try.f11 law3RatingPeriods_con.ps law3RatingPeriods_con.one law3RatingPeriods_con.res law3RatingPeriods_con.ρ x := by kernel_rfl
theorem law3RatingPeriods_ok : ConOK Try.prog 11 law3RatingPeriods_con :=
  con_of_den (env := law3RatingPeriods_env) ((EnvOK.cons (EnvOK.cons (EnvOK.cons (EnvOK.cons (EnvOK.cons (EnvOK.cons (EnvOK.cons (EnvOK.nil _) law3Rates_ok) ratingPeriod_ok) ratingPerformance_ok) ratingCheck_ok) law3Gets_ok) ref3Hundredths_ok) law3SameInts_ok)) mixed Try.func11 law3RatingPeriods_con law3RatingPeriods_ann (by kernel_rfl) (fun h => by first | rfl | cases h) (fun g hg => by cases hg) law3RatingPeriods_den
end Go.Proofs.Ytejmikpmkfnlgaa
