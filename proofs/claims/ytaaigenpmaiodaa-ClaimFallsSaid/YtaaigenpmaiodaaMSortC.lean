/- Contracts: MSort. No condition of its own. -/
import Derived.Test.YtaaigenpmaiodaaBase
import Derived.Test.YtaaigenpmaiodaaDenS
import Derived.Test.YtaaigenpmaiodaaDenP
import Derived.Test.YtaaigenpmaiodaaMSortS
namespace Go.Proofs.Ytaaigenpmaiodaa
open Go.Den
set_option linter.unusedVariables false
set_option maxRecDepth 100000
def cmpIsNaN_int_ann : Ann := .nil
noncomputable def cmpIsNaN_int_con : Con := ⟨[(.int .i64)], true, [], .bool, fun x => cmpIsNaN_int_o x.1, some fun x => cmpIsNaN_int x.1⟩
noncomputable def cmpIsNaN_int_env : Env := []
theorem cmpIsNaN_int_den (x : DL cmpIsNaN_int_con.ps) : cmpIsNaN_int_con.φ x = denF Try.prog cmpIsNaN_int_env cmpIsNaN_int_ann Try.f152 cmpIsNaN_int_con.ps cmpIsNaN_int_con.one cmpIsNaN_int_con.res cmpIsNaN_int_con.ρ x := by kernel_rfl
theorem cmpIsNaN_int_ok : ConOK Try.prog 152 cmpIsNaN_int_con :=
  con_of_den (env := cmpIsNaN_int_env) ((EnvOK.nil _)) mixed Try.func152 cmpIsNaN_int_con cmpIsNaN_int_ann (by kernel_rfl) (fun h => by first | rfl | cases h) (fun g hg x => by
    cases hg
    exact cmpIsNaN_int_eq _) cmpIsNaN_int_den
def cmpCompare_int_ann : Ann := .nil
noncomputable def cmpCompare_int_con : Con := ⟨[(.int .i64), (.int .i64)], true, [], (.int .i64), fun x => cmpCompare_int_o x.1 x.2.1, some fun x => cmpCompare_int x.1 x.2.1⟩
noncomputable def cmpCompare_int_env : Env := (152, .con cmpIsNaN_int_con) :: []
theorem cmpCompare_int_den (x : DL cmpCompare_int_con.ps) : cmpCompare_int_con.φ x = denF Try.prog cmpCompare_int_env cmpCompare_int_ann Try.f92 cmpCompare_int_con.ps cmpCompare_int_con.one cmpCompare_int_con.res cmpCompare_int_con.ρ x := by kernel_rfl
theorem cmpCompare_int_ok : ConOK Try.prog 92 cmpCompare_int_con :=
  con_of_den (env := cmpCompare_int_env) ((EnvOK.cons (EnvOK.nil _) cmpIsNaN_int_ok)) mixed Try.func92 cmpCompare_int_con cmpCompare_int_ann (by kernel_rfl) (fun h => by first | rfl | cases h) (fun g hg x => by
    cases hg
    exact cmpCompare_int_eq _ _) cmpCompare_int_den
def cmpOr_int_ann : Ann := (.two .nil (.two .nil (.two (.two .nil (.joinE ⟨[3], [], []⟩ (.two (.loop ⟨[3, 6, 7], [(8, (.int .i64))], []⟩ .nil) .nil))) .nil)))
noncomputable def cmpOr_int_con : Con := ⟨[(.sl (.int .i64))], true, [], (.int .i64), fun x => cmpOr_int x.1, none⟩
noncomputable def cmpOr_int_env : Env := []
theorem cmpOr_int_den (x : DL cmpOr_int_con.ps) : cmpOr_int_con.φ x = denF Try.prog cmpOr_int_env cmpOr_int_ann Try.f150 cmpOr_int_con.ps cmpOr_int_con.one cmpOr_int_con.res cmpOr_int_con.ρ x := by kernel_rfl
theorem cmpOr_int_ok : ConOK Try.prog 150 cmpOr_int_con :=
  con_of_den (env := cmpOr_int_env) ((EnvOK.nil _)) mixed Try.func150 cmpOr_int_con cmpOr_int_ann (by kernel_rfl) (fun h => by first | rfl | cases h) (fun g hg => by cases hg) cmpOr_int_den
def movesCmp_ann : Ann := (.two .nil (.two (.tail 15 .nil) .nil))
noncomputable def movesCmp_con : Con := ⟨[(.st (.int .i64) (.st (.int .i64) (.st (.int .i64) .nil))), (.st (.int .i64) (.st (.int .i64) (.st (.int .i64) .nil)))], true, [], (.int .i64), fun x => movesCmp x.1 x.2.1, none⟩
noncomputable def movesCmp_env : Env := (150, .con cmpOr_int_con) :: (92, .con cmpCompare_int_con) :: []
theorem movesCmp_den (x : DL movesCmp_con.ps) : movesCmp_con.φ x = denF Try.prog movesCmp_env movesCmp_ann Try.f165 movesCmp_con.ps movesCmp_con.one movesCmp_con.res movesCmp_con.ρ x := by kernel_rfl
theorem movesCmp_ok : ConOK Try.prog 165 movesCmp_con :=
  con_of_den (env := movesCmp_env) ((EnvOK.cons (EnvOK.cons (EnvOK.nil _) cmpCompare_int_ok) cmpOr_int_ok)) mixed Try.func165 movesCmp_con movesCmp_ann (by kernel_rfl) (fun h => by first | rfl | cases h) (fun g hg => by cases hg) movesCmp_den
def msort_ren : Go.Shelf.Ren := ⟨fun | 6 => 164 | 15 => 210 | 14 => 209 | 28 => 232 | 29 => 233 | 20 => 224 | 21 => 225 | 22 => 226 | 23 => 227 | 24 => 228 | 25 => 229 | 26 => 230 | 27 => 231 | 46 => 237 | 47 => 238 | 48 => 239 | 49 => 240 | 50 => 241 | 57 => 244 | n => n, fun | 22 => 84 | 24 => 68 | 25 => 235 | 3 => 3 | 39 => 221 | 0 => 0 | 53 => 265 | 55 => 139 | 4 => 4 | 46 => 289 | 45 => 288 | 50 => 260 | 5 => 5 | 9 => 9 | 66 => 297 | 70 => 301 | 76 => 305 | 77 => 306 | n => n, fun | n => n⟩
theorem msort_lay : SlLaysF0.n6 Try.prog msort_ren where
  mixed := by kernel_rfl
  f6 := ⟨Try.f164.name, by decide, Try.func164.trans (congrArg some (by kernel_rfl))⟩
  f14 := ⟨Try.f209.name, by decide, Try.func209.trans (congrArg some (by kernel_rfl))⟩
  f15 := Try.func210.trans (congrArg some (by kernel_rfl))
  f20 := ⟨Try.f224.name, by decide, Try.func224.trans (congrArg some (by kernel_rfl))⟩
  f21 := ⟨Try.f225.name, by decide, Try.func225.trans (congrArg some (by kernel_rfl))⟩
  f22 := ⟨Try.f226.name, by decide, Try.func226.trans (congrArg some (by kernel_rfl))⟩
  f23 := ⟨Try.f227.name, by decide, Try.func227.trans (congrArg some (by kernel_rfl))⟩
  f24 := ⟨Try.f228.name, by decide, Try.func228.trans (congrArg some (by kernel_rfl))⟩
  f25 := ⟨Try.f229.name, by decide, Try.func229.trans (congrArg some (by kernel_rfl))⟩
  f26 := ⟨Try.f230.name, by decide, Try.func230.trans (congrArg some (by kernel_rfl))⟩
  f27 := ⟨Try.f231.name, by decide, Try.func231.trans (congrArg some (by kernel_rfl))⟩
  f28 := Try.func232.trans (congrArg some (by kernel_rfl))
  f29 := Try.func233.trans (congrArg some (by kernel_rfl))
  f46 := ⟨Try.f237.name, by decide, Try.func237.trans (congrArg some (by kernel_rfl))⟩
  f47 := Try.func238.trans (congrArg some (by kernel_rfl))
  f48 := Try.func239.trans (congrArg some (by kernel_rfl))
  f49 := ⟨Try.f240.name, by decide, Try.func240.trans (congrArg some (by kernel_rfl))⟩
  f50 := ⟨Try.f241.name, by decide, Try.func241.trans (congrArg some (by kernel_rfl))⟩
  f57 := ⟨Try.f244.name, by decide, Try.func244.trans (congrArg some (by kernel_rfl))⟩
  t0 := Try.underlying0
  a0 := Try.isAgg0
  z0 := Try.sizeOf0
  v0 := Try.zeroValue0
  t3 := Try.underlying3
  a3 := Try.isAgg3
  z3 := Try.sizeOf3
  v3 := Try.zeroValue3
  t4 := Try.underlying4
  a4 := Try.isAgg4
  z4 := Try.sizeOf4
  v4 := Try.zeroValue4
  t5 := Try.underlying5
  a5 := Try.isAgg5
  z5 := Try.sizeOf5
  v5 := Try.zeroValue5
  t9 := Try.underlying9
  a9 := Try.isAgg9
  z9 := Try.sizeOf9
  v9 := Try.zeroValue9
  t22 := Try.underlying84
  a22 := Try.isAgg84
  z22 := Try.sizeOf84
  v22 := Try.zeroValue84
  t25 := Try.underlying235
  a25 := Try.isAgg235
  z25 := Try.sizeOf235
  v25 := Try.zeroValue235
  t39 := Try.underlying221
  a39 := Try.isAgg221
  z39 := Try.sizeOf221
  v39 := Try.zeroValue221
  t45 := Try.underlying288
  a45 := Try.isAgg288
  z45 := Try.sizeOf288
  v45 := Try.zeroValue288
  t46 := Try.underlying289
  a46 := Try.isAgg289
  z46 := Try.sizeOf289
  v46 := Try.zeroValue289
  t50 := Try.underlying260
  a50 := Try.isAgg260
  z50 := Try.sizeOf260
  v50 := Try.zeroValue260
  t53 := Try.underlying265
  a53 := Try.isAgg265
  z53 := Try.sizeOf265
  v53 := Try.zeroValue265
  t55 := Try.underlying139
  a55 := Try.isAgg139
  z55 := Try.sizeOf139
  v55 := Try.zeroValue139
  t66 := Try.underlying297
  a66 := Try.isAgg297
  z66 := Try.sizeOf297
  v66 := Try.zeroValue297
  t70 := Try.underlying301
  a70 := Try.isAgg301
  z70 := Try.sizeOf301
  v70 := Try.zeroValue301
  t76 := Try.underlying305
  a76 := Try.isAgg305
  z76 := Try.sizeOf305
  v76 := Try.zeroValue305
  t77 := Try.underlying306
  a77 := Try.isAgg306
  z77 := Try.sizeOf306
  v77 := Try.zeroValue306
open Go.Sort Go.Lib in
section
def cmp3 (a b : Int) : Int := if a < b then -1 else if b < a then 1 else 0
theorem cmp3_eq (a b : Int) : cmpCompare_int a b = cmp3 a b := by
  unfold cmpCompare_int cmpIsNaN_int cmp3
  by_cases h : a < b
  · simp [h]
  · by_cases h2 : b < a <;> simp [h, h2]
theorem cmpOr_spec (a b c : Int) : cmpOr_int [a, b, c] = some (if a = 0 then if b = 0 then c else b else a) := by
  unfold cmpOr_int
  by_cases ha : a = 0
  · subst ha
    rw [iterW_inl (y := ((1, ()), ())) (by simp [cmpOr_int_L1, at?, w64_id])]
    by_cases hb : b = 0
    · subst hb
      rw [iterW_inl (y := ((2, ()), ())) (by simp [cmpOr_int_L1, at?, w64_id])]
      by_cases hc : c = 0
      · subst hc
        rw [iterW_inl (y := ((3, ()), ())) (by simp [cmpOr_int_L1, at?, w64_id])]
        rw [iterW_inr (r := .inl ((), ())) (by simp [cmpOr_int_L1])]
        rfl
      · rw [iterW_inr (r := .inr c) (by simp [cmpOr_int_L1, at?, bne_t hc])]
        simp
    · rw [iterW_inr (r := .inr b) (by simp [cmpOr_int_L1, at?, bne_t hb])]
      simp [hb]
  · rw [iterW_inr (r := .inr a) (by simp [cmpOr_int_L1, at?, bne_t ha])]
    simp [ha]
def mvCf (x y : Mv) : Int := if cmp3 x.1 y.1 = 0 then if cmp3 x.2.1 y.2.1 = 0 then cmp3 x.2.2.1 y.2.2.1 else cmp3 x.2.1 y.2.1 else cmp3 x.1 y.1
theorem movesCmp_spec (x y : Mv) : movesCmp x y = some (mvCf x y) := by
  unfold movesCmp mvCf
  rw [cmp3_eq, cmp3_eq, cmp3_eq, cmpOr_spec]
  rfl
theorem cmp3_0 (a b : Int) : cmp3 a b = 0 ↔ a = b := by
  unfold cmp3
  split
  · constructor <;> intro h <;> omega
  · split <;> constructor <;> intro h <;> omega
theorem cmp3_lt (a b : Int) : cmp3 a b < 0 ↔ a < b := by
  unfold cmp3
  split
  · constructor <;> intro h <;> omega
  · split <;> constructor <;> intro h <;> omega
theorem mvCf_lt : ltOf mvCf = mvLt := by
  funext x y
  unfold ltOf mvCf mvLt
  by_cases h1 : x.1 = y.1
  · by_cases h2 : x.2.1 = y.2.1
    · simp [h1, h2, (cmp3_0 y.1 y.1).2 rfl, (cmp3_0 y.2.1 y.2.1).2 rfl, cmp3_lt]
    · have : ¬ cmp3 x.2.1 y.2.1 = 0 := fun h => h2 ((cmp3_0 _ _).1 h)
      simp [h1, h2, (cmp3_0 y.1 y.1).2 rfl, this, cmp3_lt]
  · have : ¬ cmp3 x.1 y.1 = 0 := fun h => h1 ((cmp3_0 _ _).1 h)
    simp [h1, this, cmp3_lt]
theorem mvLt_iff (x y : Mv) : mvLt x y = true ↔ x.1 < y.1 ∨ x.1 = y.1 ∧ (x.2.1 < y.2.1 ∨ x.2.1 = y.2.1 ∧ x.2.2.1 < y.2.2.1) := by simp [mvLt]
theorem mvLt_f (x y : Mv) : mvLt x y = false ↔ ¬ (x.1 < y.1 ∨ x.1 = y.1 ∧ (x.2.1 < y.2.1 ∨ x.2.1 = y.2.1 ∧ x.2.2.1 < y.2.2.1)) := by rw [← mvLt_iff, Bool.not_eq_true]
theorem mv_swo : SWO mvLt where
  irrefl x := by rw [mvLt_f]; omega
  trans x y z h1 h2 := by rw [mvLt_iff] at *; omega
  ntrans x y z h1 h2 := by rw [mvLt_f] at *; omega
theorem mv_tot (x y : Mv) (h1 : mvLt x y = false) (h2 : mvLt y x = false) : x = y := by
  rw [mvLt_f] at h1 h2
  obtain ⟨a, b, c, ⟨⟩⟩ := x
  obtain ⟨a', b', c', ⟨⟩⟩ := y
  simp only at h1 h2
  have e1 : a = a' := by omega
  subst e1
  have e2 : b = b' := by omega
  subst e2
  have e3 : c = c' := by omega
  subst e3
  rfl
def sortMoves_srt : Srt := ⟨68, (.st (.int .i64) (.st (.int .i64) (.st (.int .i64) .nil))), some 165, sortMoves⟩
theorem sortMoves_ok : SrtOK Try.prog 164 sortMoves_srt := by
  have h := srt_structs (ρ := msort_ren) (g := 165) (f := 164) (τ := (.st (.int .i64) (.st (.int .i64) (.st (.int .i64) .nil)))) (i := 68) msort_lay rfl rfl rfl rfl Try.isAgg68 Try.sizeOf68 movesCmp_ok mvCf (fun x y => movesCmp_spec x y) (show SWO (ltOf mvCf) from mvCf_lt ▸ mv_swo) (fun x y h1 h2 => mv_tot x y (by rw [← mvCf_lt]; exact h1) (by rw [← mvCf_lt]; exact h2)) (enters_of Try.func165 (by kernel_rfl) rfl)
  have e : (fun xs : List Mv => xs.mergeSort fun x y => !(ltOf mvCf) y x) = sortMoves := by rw [mvCf_lt]; rfl
  have : sortMoves_srt = ⟨68, (.st (.int .i64) (.st (.int .i64) (.st (.int .i64) .nil))), some 165, fun xs : List Mv => xs.mergeSort fun x y => !(ltOf mvCf) y x⟩ := by rw [e]; rfl
  rw [this]
  exact h
end
end Go.Proofs.Ytaaigenpmaiodaa
