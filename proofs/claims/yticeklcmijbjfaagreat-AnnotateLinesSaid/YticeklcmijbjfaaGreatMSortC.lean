/- Contracts: MSort. No condition of its own. -/
import Derived.Test.YticeklcmijbjfaaGreatBase
import Derived.Test.YticeklcmijbjfaaGreatDenS
import Derived.Test.YticeklcmijbjfaaGreatDenP
import Derived.Test.YticeklcmijbjfaaGreatMSortS
namespace Go.Proofs.YticeklcmijbjfaaGreat
open Go.Den
set_option linter.unusedVariables false
set_option maxRecDepth 100000
def cmpIsNaN_int_ann : Ann := .nil
noncomputable def cmpIsNaN_int_con : Con := ⟨[(.int .i64)], true, [], .bool, fun x => cmpIsNaN_int_o x.1, some fun x => cmpIsNaN_int x.1⟩
noncomputable def cmpIsNaN_int_env : Env := []
theorem cmpIsNaN_int_den (x : DL cmpIsNaN_int_con.ps) : cmpIsNaN_int_con.φ x = denF Tryz.prog cmpIsNaN_int_env cmpIsNaN_int_ann Tryz.f129 cmpIsNaN_int_con.ps cmpIsNaN_int_con.one cmpIsNaN_int_con.res cmpIsNaN_int_con.ρ x := by kernel_rfl
theorem cmpIsNaN_int_ok : ConOK Tryz.prog 129 cmpIsNaN_int_con :=
  con_of_den (env := cmpIsNaN_int_env) ((EnvOK.nil _)) mixed Tryz.func129 cmpIsNaN_int_con cmpIsNaN_int_ann (by kernel_rfl) (fun h => by first | rfl | cases h) (fun g hg x => by
    cases hg
    exact cmpIsNaN_int_eq _) cmpIsNaN_int_den
def cmpCompare_int_ann : Ann := .nil
noncomputable def cmpCompare_int_con : Con := ⟨[(.int .i64), (.int .i64)], true, [], (.int .i64), fun x => cmpCompare_int_o x.1 x.2.1, some fun x => cmpCompare_int x.1 x.2.1⟩
noncomputable def cmpCompare_int_env : Env := (129, .con cmpIsNaN_int_con) :: []
theorem cmpCompare_int_den (x : DL cmpCompare_int_con.ps) : cmpCompare_int_con.φ x = denF Tryz.prog cmpCompare_int_env cmpCompare_int_ann Tryz.f119 cmpCompare_int_con.ps cmpCompare_int_con.one cmpCompare_int_con.res cmpCompare_int_con.ρ x := by kernel_rfl
theorem cmpCompare_int_ok : ConOK Tryz.prog 119 cmpCompare_int_con :=
  con_of_den (env := cmpCompare_int_env) ((EnvOK.cons (EnvOK.nil _) cmpIsNaN_int_ok)) mixed Tryz.func119 cmpCompare_int_con cmpCompare_int_ann (by kernel_rfl) (fun h => by first | rfl | cases h) (fun g hg x => by
    cases hg
    exact cmpCompare_int_eq _ _) cmpCompare_int_den
def cmpOr_int_ann : Ann := (.two .nil (.two .nil (.two (.two .nil (.joinE ⟨[3], [], []⟩ (.two (.loop ⟨[3, 6, 7], [(8, (.int .i64))], []⟩ .nil) .nil))) .nil)))
noncomputable def cmpOr_int_con : Con := ⟨[(.sl (.int .i64))], true, [], (.int .i64), fun x => cmpOr_int x.1, none⟩
noncomputable def cmpOr_int_env : Env := []
theorem cmpOr_int_den (x : DL cmpOr_int_con.ps) : cmpOr_int_con.φ x = denF Tryz.prog cmpOr_int_env cmpOr_int_ann Tryz.f118 cmpOr_int_con.ps cmpOr_int_con.one cmpOr_int_con.res cmpOr_int_con.ρ x := by kernel_rfl
theorem cmpOr_int_ok : ConOK Tryz.prog 118 cmpOr_int_con :=
  con_of_den (env := cmpOr_int_env) ((EnvOK.nil _)) mixed Tryz.func118 cmpOr_int_con cmpOr_int_ann (by kernel_rfl) (fun h => by first | rfl | cases h) (fun g hg => by cases hg) cmpOr_int_den
def movesCmp_ann : Ann := (.two .nil (.two (.tail 15 .nil) .nil))
noncomputable def movesCmp_con : Con := ⟨[(.st (.int .i64) (.st (.int .i64) (.st (.int .i64) .nil))), (.st (.int .i64) (.st (.int .i64) (.st (.int .i64) .nil)))], true, [], (.int .i64), fun x => movesCmp x.1 x.2.1, none⟩
noncomputable def movesCmp_env : Env := (118, .con cmpOr_int_con) :: (119, .con cmpCompare_int_con) :: []
theorem movesCmp_den (x : DL movesCmp_con.ps) : movesCmp_con.φ x = denF Tryz.prog movesCmp_env movesCmp_ann Tryz.f117 movesCmp_con.ps movesCmp_con.one movesCmp_con.res movesCmp_con.ρ x := by kernel_rfl
theorem movesCmp_ok : ConOK Tryz.prog 117 movesCmp_con :=
  con_of_den (env := movesCmp_env) ((EnvOK.cons (EnvOK.cons (EnvOK.nil _) cmpCompare_int_ok) cmpOr_int_ok)) mixed Tryz.func117 movesCmp_con movesCmp_ann (by kernel_rfl) (fun h => by first | rfl | cases h) (fun g hg => by cases hg) movesCmp_den
def msort_ren : Go.Shelf.Ren := ⟨fun | 6 => 116 | 15 => 128 | 14 => 127 | 28 => 138 | 29 => 139 | 20 => 130 | 21 => 131 | 22 => 132 | 23 => 133 | 24 => 134 | 25 => 135 | 26 => 136 | 27 => 137 | 46 => 140 | 47 => 141 | 48 => 142 | 49 => 143 | 50 => 144 | 57 => 145 | n => n, fun | 22 => 31 | 24 => 50 | 25 => 172 | 3 => 3 | 39 => 183 | 0 => 0 | 53 => 193 | 55 => 195 | 4 => 4 | 46 => 186 | 45 => 185 | 50 => 190 | 5 => 5 | 9 => 9 | 66 => 196 | 70 => 200 | 76 => 202 | 77 => 203 | n => n, fun | n => n⟩
theorem msort_lay : SlLaysF0.n6 Tryz.prog msort_ren where
  mixed := by kernel_rfl
  f6 := ⟨Tryz.f116.name, by decide, Tryz.func116.trans (congrArg some (by kernel_rfl))⟩
  f14 := ⟨Tryz.f127.name, by decide, Tryz.func127.trans (congrArg some (by kernel_rfl))⟩
  f15 := Tryz.func128.trans (congrArg some (by kernel_rfl))
  f20 := ⟨Tryz.f130.name, by decide, Tryz.func130.trans (congrArg some (by kernel_rfl))⟩
  f21 := ⟨Tryz.f131.name, by decide, Tryz.func131.trans (congrArg some (by kernel_rfl))⟩
  f22 := ⟨Tryz.f132.name, by decide, Tryz.func132.trans (congrArg some (by kernel_rfl))⟩
  f23 := ⟨Tryz.f133.name, by decide, Tryz.func133.trans (congrArg some (by kernel_rfl))⟩
  f24 := ⟨Tryz.f134.name, by decide, Tryz.func134.trans (congrArg some (by kernel_rfl))⟩
  f25 := ⟨Tryz.f135.name, by decide, Tryz.func135.trans (congrArg some (by kernel_rfl))⟩
  f26 := ⟨Tryz.f136.name, by decide, Tryz.func136.trans (congrArg some (by kernel_rfl))⟩
  f27 := ⟨Tryz.f137.name, by decide, Tryz.func137.trans (congrArg some (by kernel_rfl))⟩
  f28 := Tryz.func138.trans (congrArg some (by kernel_rfl))
  f29 := Tryz.func139.trans (congrArg some (by kernel_rfl))
  f46 := ⟨Tryz.f140.name, by decide, Tryz.func140.trans (congrArg some (by kernel_rfl))⟩
  f47 := Tryz.func141.trans (congrArg some (by kernel_rfl))
  f48 := Tryz.func142.trans (congrArg some (by kernel_rfl))
  f49 := ⟨Tryz.f143.name, by decide, Tryz.func143.trans (congrArg some (by kernel_rfl))⟩
  f50 := ⟨Tryz.f144.name, by decide, Tryz.func144.trans (congrArg some (by kernel_rfl))⟩
  f57 := ⟨Tryz.f145.name, by decide, Tryz.func145.trans (congrArg some (by kernel_rfl))⟩
  t0 := Tryz.underlying0
  a0 := Tryz.isAgg0
  z0 := Tryz.sizeOf0
  v0 := Tryz.zeroValue0
  t3 := Tryz.underlying3
  a3 := Tryz.isAgg3
  z3 := Tryz.sizeOf3
  v3 := Tryz.zeroValue3
  t4 := Tryz.underlying4
  a4 := Tryz.isAgg4
  z4 := Tryz.sizeOf4
  v4 := Tryz.zeroValue4
  t5 := Tryz.underlying5
  a5 := Tryz.isAgg5
  z5 := Tryz.sizeOf5
  v5 := Tryz.zeroValue5
  t9 := Tryz.underlying9
  a9 := Tryz.isAgg9
  z9 := Tryz.sizeOf9
  v9 := Tryz.zeroValue9
  t22 := Tryz.underlying31
  a22 := Tryz.isAgg31
  z22 := Tryz.sizeOf31
  v22 := Tryz.zeroValue31
  t25 := Tryz.underlying172
  a25 := Tryz.isAgg172
  z25 := Tryz.sizeOf172
  v25 := Tryz.zeroValue172
  t39 := Tryz.underlying183
  a39 := Tryz.isAgg183
  z39 := Tryz.sizeOf183
  v39 := Tryz.zeroValue183
  t45 := Tryz.underlying185
  a45 := Tryz.isAgg185
  z45 := Tryz.sizeOf185
  v45 := Tryz.zeroValue185
  t46 := Tryz.underlying186
  a46 := Tryz.isAgg186
  z46 := Tryz.sizeOf186
  v46 := Tryz.zeroValue186
  t50 := Tryz.underlying190
  a50 := Tryz.isAgg190
  z50 := Tryz.sizeOf190
  v50 := Tryz.zeroValue190
  t53 := Tryz.underlying193
  a53 := Tryz.isAgg193
  z53 := Tryz.sizeOf193
  v53 := Tryz.zeroValue193
  t55 := Tryz.underlying195
  a55 := Tryz.isAgg195
  z55 := Tryz.sizeOf195
  v55 := Tryz.zeroValue195
  t66 := Tryz.underlying196
  a66 := Tryz.isAgg196
  z66 := Tryz.sizeOf196
  v66 := Tryz.zeroValue196
  t70 := Tryz.underlying200
  a70 := Tryz.isAgg200
  z70 := Tryz.sizeOf200
  v70 := Tryz.zeroValue200
  t76 := Tryz.underlying202
  a76 := Tryz.isAgg202
  z76 := Tryz.sizeOf202
  v76 := Tryz.zeroValue202
  t77 := Tryz.underlying203
  a77 := Tryz.isAgg203
  z77 := Tryz.sizeOf203
  v77 := Tryz.zeroValue203
open Go.Sort Go.Lib in
section
def cmp3 (a b : Int) : Int := if a < b then -1 else if b < a then 1 else 0
theorem cmp3_eq (a b : Int) : cmpCompare_int a b = cmp3 a b := by
  unfold cmpCompare_int cmpIsNaN_int cmp3
  by_cases h : a < b
  · simp [h]
  · by_cases h2 : b < a <;> simp [h, h2]
theorem cmpOr_spec (a b c : Int) : cmpOr_int [a, b, c] = some (if a = 0 then if b = 0 then c else b else a) := by
  unfold cmpOr_int
  by_cases ha : a = 0
  · subst ha
    rw [iterW_inl (y := ((1, ()), ())) (by simp [cmpOr_int_L1, at?, w64_id])]
    by_cases hb : b = 0
    · subst hb
      rw [iterW_inl (y := ((2, ()), ())) (by simp [cmpOr_int_L1, at?, w64_id])]
      by_cases hc : c = 0
      · subst hc
        rw [iterW_inl (y := ((3, ()), ())) (by simp [cmpOr_int_L1, at?, w64_id])]
        rw [iterW_inr (r := .inl ((), ())) (by simp [cmpOr_int_L1])]
        rfl
      · rw [iterW_inr (r := .inr c) (by simp [cmpOr_int_L1, at?, bne_t hc])]
        simp
    · rw [iterW_inr (r := .inr b) (by simp [cmpOr_int_L1, at?, bne_t hb])]
      simp [hb]
  · rw [iterW_inr (r := .inr a) (by simp [cmpOr_int_L1, at?, bne_t ha])]
    simp [ha]
def mvCf (x y : Mv) : Int := if cmp3 x.1 y.1 = 0 then if cmp3 x.2.1 y.2.1 = 0 then cmp3 x.2.2.1 y.2.2.1 else cmp3 x.2.1 y.2.1 else cmp3 x.1 y.1
theorem movesCmp_spec (x y : Mv) : movesCmp x y = some (mvCf x y) := by
  unfold movesCmp mvCf
  rw [cmp3_eq, cmp3_eq, cmp3_eq, cmpOr_spec]
  rfl
theorem cmp3_0 (a b : Int) : cmp3 a b = 0 ↔ a = b := by
  unfold cmp3
  split
  · constructor <;> intro h <;> omega
  · split <;> constructor <;> intro h <;> omega
theorem cmp3_lt (a b : Int) : cmp3 a b < 0 ↔ a < b := by
  unfold cmp3
  split
  · constructor <;> intro h <;> omega
  · split <;> constructor <;> intro h <;> omega
theorem mvCf_lt : ltOf mvCf = mvLt := by
  funext x y
  unfold ltOf mvCf mvLt
  by_cases h1 : x.1 = y.1
  · by_cases h2 : x.2.1 = y.2.1
    · simp [h1, h2, (cmp3_0 y.1 y.1).2 rfl, (cmp3_0 y.2.1 y.2.1).2 rfl, cmp3_lt]
    · have : ¬ cmp3 x.2.1 y.2.1 = 0 := fun h => h2 ((cmp3_0 _ _).1 h)
      simp [h1, h2, (cmp3_0 y.1 y.1).2 rfl, this, cmp3_lt]
  · have : ¬ cmp3 x.1 y.1 = 0 := fun h => h1 ((cmp3_0 _ _).1 h)
    simp [h1, this, cmp3_lt]
theorem mvLt_iff (x y : Mv) : mvLt x y = true ↔ x.1 < y.1 ∨ x.1 = y.1 ∧ (x.2.1 < y.2.1 ∨ x.2.1 = y.2.1 ∧ x.2.2.1 < y.2.2.1) := by simp [mvLt]
theorem mvLt_f (x y : Mv) : mvLt x y = false ↔ ¬ (x.1 < y.1 ∨ x.1 = y.1 ∧ (x.2.1 < y.2.1 ∨ x.2.1 = y.2.1 ∧ x.2.2.1 < y.2.2.1)) := by rw [← mvLt_iff, Bool.not_eq_true]
theorem mv_swo : SWO mvLt where
  irrefl x := by rw [mvLt_f]; omega
  trans x y z h1 h2 := by rw [mvLt_iff] at *; omega
  ntrans x y z h1 h2 := by rw [mvLt_f] at *; omega
theorem mv_tot (x y : Mv) (h1 : mvLt x y = false) (h2 : mvLt y x = false) : x = y := by
  rw [mvLt_f] at h1 h2
  obtain ⟨a, b, c, ⟨⟩⟩ := x
  obtain ⟨a', b', c', ⟨⟩⟩ := y
  simp only at h1 h2
  have e1 : a = a' := by omega
  subst e1
  have e2 : b = b' := by omega
  subst e2
  have e3 : c = c' := by omega
  subst e3
  rfl
def sortMoves_srt : Srt := ⟨50, (.st (.int .i64) (.st (.int .i64) (.st (.int .i64) .nil))), some 117, sortMoves⟩
theorem sortMoves_ok : SrtOK Tryz.prog 116 sortMoves_srt := by
  have h := srt_structs (ρ := msort_ren) (g := 117) (f := 116) (τ := (.st (.int .i64) (.st (.int .i64) (.st (.int .i64) .nil)))) (i := 50) msort_lay rfl rfl rfl rfl rfl rfl Tryz.isAgg50 Tryz.sizeOf50 movesCmp_ok mvCf (fun x y => movesCmp_spec x y) (show SWO (ltOf mvCf) from mvCf_lt ▸ mv_swo) (fun x y h1 h2 => mv_tot x y (by rw [← mvCf_lt]; exact h1) (by rw [← mvCf_lt]; exact h2)) (enters_of Tryz.func117 (by kernel_rfl) rfl)
  have e : (fun xs : List Mv => xs.mergeSort fun x y => !(ltOf mvCf) y x) = sortMoves := by rw [mvCf_lt]; rfl
  have : sortMoves_srt = ⟨50, (.st (.int .i64) (.st (.int .i64) (.st (.int .i64) .nil))), some 117, fun xs : List Mv => xs.mergeSort fun x y => !(ltOf mvCf) y x⟩ := by rw [e]; rfl
  rw [this]
  exact h
end
end Go.Proofs.YticeklcmijbjfaaGreat
