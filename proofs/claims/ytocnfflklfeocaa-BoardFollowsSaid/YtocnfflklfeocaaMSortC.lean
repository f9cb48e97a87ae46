/- Contracts: MSort. No condition of its own. -/
import Derived.Test.YtocnfflklfeocaaBase
import Derived.Test.YtocnfflklfeocaaDenS
import Derived.Test.YtocnfflklfeocaaDenP
import Derived.Test.YtocnfflklfeocaaMSortS
namespace Go.Proofs.Ytocnfflklfeocaa
open Go.Den
set_option linter.unusedVariables false
set_option maxRecDepth 100000
def cmpIsNaN_int_ann : Ann := .nil
noncomputable def cmpIsNaN_int_con : Con := ⟨[(.int .i64)], true, [], .bool, fun x => cmpIsNaN_int_o x.1, some fun x => cmpIsNaN_int x.1⟩
noncomputable def cmpIsNaN_int_env : Env := []
theorem cmpIsNaN_int_den (x : DL cmpIsNaN_int_con.ps) : cmpIsNaN_int_con.φ x = denF (CT := ctxUp) Try.prog cmpIsNaN_int_env cmpIsNaN_int_ann Try.f121 cmpIsNaN_int_con.ps cmpIsNaN_int_con.one cmpIsNaN_int_con.res cmpIsNaN_int_con.ρ x := by kernel_rfl
theorem cmpIsNaN_int_ok : ConOK (CT := ctxUp) Try.prog 121 cmpIsNaN_int_con :=
  con_of_den (CT := ctxUp) (env := cmpIsNaN_int_env) ((EnvOK.nil (CT := ctxUp) _)) mixed Try.func121 cmpIsNaN_int_con cmpIsNaN_int_ann (by kernel_rfl) (fun h => by first | rfl | cases h) (fun g hg x => by
    cases hg
    exact cmpIsNaN_int_eq _) cmpIsNaN_int_den
def cmpCompare_int_ann : Ann := .nil
noncomputable def cmpCompare_int_con : Con := ⟨[(.int .i64), (.int .i64)], true, [], (.int .i64), fun x => cmpCompare_int_o x.1 x.2.1, some fun x => cmpCompare_int x.1 x.2.1⟩
noncomputable def cmpCompare_int_env : Env := (121, .con cmpIsNaN_int_con) :: []
theorem cmpCompare_int_den (x : DL cmpCompare_int_con.ps) : cmpCompare_int_con.φ x = denF (CT := ctxUp) Try.prog cmpCompare_int_env cmpCompare_int_ann Try.f77 cmpCompare_int_con.ps cmpCompare_int_con.one cmpCompare_int_con.res cmpCompare_int_con.ρ x := by kernel_rfl
theorem cmpCompare_int_ok : ConOK (CT := ctxUp) Try.prog 77 cmpCompare_int_con :=
  con_of_den (CT := ctxUp) (env := cmpCompare_int_env) ((EnvOK.cons (CT := ctxUp) (EnvOK.nil (CT := ctxUp) _) cmpIsNaN_int_ok)) mixed Try.func77 cmpCompare_int_con cmpCompare_int_ann (by kernel_rfl) (fun h => by first | rfl | cases h) (fun g hg x => by
    cases hg
    exact cmpCompare_int_eq _ _) cmpCompare_int_den
def cmpOr_int_ann : Ann := (.two .nil (.two .nil (.two (.two .nil (.joinE ⟨[3], [], []⟩ (.two (.loop ⟨[3, 6, 7], [(8, (.int .i64))], []⟩ .nil) .nil))) .nil)))
noncomputable def cmpOr_int_con : Con := ⟨[(.sl (.int .i64))], true, [], (.int .i64), fun x => cmpOr_int x.1, none⟩
noncomputable def cmpOr_int_env : Env := []
theorem cmpOr_int_den (x : DL cmpOr_int_con.ps) : cmpOr_int_con.φ x = denF (CT := ctxUp) Try.prog cmpOr_int_env cmpOr_int_ann Try.f119 cmpOr_int_con.ps cmpOr_int_con.one cmpOr_int_con.res cmpOr_int_con.ρ x := by kernel_rfl
theorem cmpOr_int_ok : ConOK (CT := ctxUp) Try.prog 119 cmpOr_int_con :=
  con_of_den (CT := ctxUp) (env := cmpOr_int_env) ((EnvOK.nil (CT := ctxUp) _)) mixed Try.func119 cmpOr_int_con cmpOr_int_ann (by kernel_rfl) (fun h => by first | rfl | cases h) (fun g hg => by cases hg) cmpOr_int_den
def movesCmp_ann : Ann := (.two .nil (.two (.tail 15 .nil) .nil))
noncomputable def movesCmp_con : Con := ⟨[(.st (.int .i64) (.st (.int .i64) (.st (.int .i64) .nil))), (.st (.int .i64) (.st (.int .i64) (.st (.int .i64) .nil)))], true, [], (.int .i64), fun x => movesCmp x.1 x.2.1, none⟩
noncomputable def movesCmp_env : Env := (119, .con cmpOr_int_con) :: (77, .con cmpCompare_int_con) :: []
theorem movesCmp_den (x : DL movesCmp_con.ps) : movesCmp_con.φ x = denF (CT := ctxUp) Try.prog movesCmp_env movesCmp_ann Try.f132 movesCmp_con.ps movesCmp_con.one movesCmp_con.res movesCmp_con.ρ x := by kernel_rfl
theorem movesCmp_ok : ConOK (CT := ctxUp) Try.prog 132 movesCmp_con :=
  con_of_den (CT := ctxUp) (env := movesCmp_env) ((EnvOK.cons (CT := ctxUp) (EnvOK.cons (CT := ctxUp) (EnvOK.nil (CT := ctxUp) _) cmpCompare_int_ok) cmpOr_int_ok)) mixed Try.func132 movesCmp_con movesCmp_ann (by kernel_rfl) (fun h => by first | rfl | cases h) (fun g hg => by cases hg) movesCmp_den
def msort_ren : Go.Shelf.Ren := ⟨fun | 6 => 131 | 15 => 167 | 14 => 166 | 28 => 192 | 29 => 193 | 20 => 184 | 21 => 185 | 22 => 186 | 23 => 187 | 24 => 188 | 25 => 189 | 26 => 190 | 27 => 191 | 46 => 200 | 47 => 201 | 48 => 202 | 49 => 203 | 50 => 204 | 57 => 207 | n => n, fun | 22 => 80 | 24 => 74 | 25 => 214 | 3 => 3 | 39 => 200 | 0 => 0 | 53 => 240 | 55 => 86 | 4 => 4 | 46 => 262 | 45 => 261 | 50 => 235 | 5 => 5 | 9 => 9 | 66 => 273 | 70 => 276 | 76 => 279 | 77 => 101 | n => n, fun | n => n⟩
theorem msort_lay : SlLaysF0.n6 Try.prog msort_ren where
  mixed := by kernel_rfl
  f6 := ⟨Try.f131.name, by decide, Try.func131.trans (congrArg some (by kernel_rfl))⟩
  f14 := ⟨Try.f166.name, by decide, Try.func166.trans (congrArg some (by kernel_rfl))⟩
  f15 := Try.func167.trans (congrArg some (by kernel_rfl))
  f20 := ⟨Try.f184.name, by decide, Try.func184.trans (congrArg some (by kernel_rfl))⟩
  f21 := ⟨Try.f185.name, by decide, Try.func185.trans (congrArg some (by kernel_rfl))⟩
  f22 := ⟨Try.f186.name, by decide, Try.func186.trans (congrArg some (by kernel_rfl))⟩
  f23 := ⟨Try.f187.name, by decide, Try.func187.trans (congrArg some (by kernel_rfl))⟩
  f24 := ⟨Try.f188.name, by decide, Try.func188.trans (congrArg some (by kernel_rfl))⟩
  f25 := ⟨Try.f189.name, by decide, Try.func189.trans (congrArg some (by kernel_rfl))⟩
  f26 := ⟨Try.f190.name, by decide, Try.func190.trans (congrArg some (by kernel_rfl))⟩
  f27 := ⟨Try.f191.name, by decide, Try.func191.trans (congrArg some (by kernel_rfl))⟩
  f28 := Try.func192.trans (congrArg some (by kernel_rfl))
  f29 := Try.func193.trans (congrArg some (by kernel_rfl))
  f46 := ⟨Try.f200.name, by decide, Try.func200.trans (congrArg some (by kernel_rfl))⟩
  f47 := Try.func201.trans (congrArg some (by kernel_rfl))
  f48 := Try.func202.trans (congrArg some (by kernel_rfl))
  f49 := ⟨Try.f203.name, by decide, Try.func203.trans (congrArg some (by kernel_rfl))⟩
  f50 := ⟨Try.f204.name, by decide, Try.func204.trans (congrArg some (by kernel_rfl))⟩
  f57 := ⟨Try.f207.name, by decide, Try.func207.trans (congrArg some (by kernel_rfl))⟩
  t0 := Try.underlying0
  a0 := Try.isAgg0
  z0 := Try.sizeOf0
  v0 := Try.zeroValue0
  t3 := Try.underlying3
  a3 := Try.isAgg3
  z3 := Try.sizeOf3
  v3 := Try.zeroValue3
  t4 := Try.underlying4
  a4 := Try.isAgg4
  z4 := Try.sizeOf4
  v4 := Try.zeroValue4
  t5 := Try.underlying5
  a5 := Try.isAgg5
  z5 := Try.sizeOf5
  v5 := Try.zeroValue5
  t9 := Try.underlying9
  a9 := Try.isAgg9
  z9 := Try.sizeOf9
  v9 := Try.zeroValue9
  t22 := Try.underlying80
  a22 := Try.isAgg80
  z22 := Try.sizeOf80
  v22 := Try.zeroValue80
  t25 := Try.underlying214
  a25 := Try.isAgg214
  z25 := Try.sizeOf214
  v25 := Try.zeroValue214
  t39 := Try.underlying200
  a39 := Try.isAgg200
  z39 := Try.sizeOf200
  v39 := Try.zeroValue200
  t45 := Try.underlying261
  a45 := Try.isAgg261
  z45 := Try.sizeOf261
  v45 := Try.zeroValue261
  t46 := Try.underlying262
  a46 := Try.isAgg262
  z46 := Try.sizeOf262
  v46 := Try.zeroValue262
  t50 := Try.underlying235
  a50 := Try.isAgg235
  z50 := Try.sizeOf235
  v50 := Try.zeroValue235
  t53 := Try.underlying240
  a53 := Try.isAgg240
  z53 := Try.sizeOf240
  v53 := Try.zeroValue240
  t55 := Try.underlying86
  a55 := Try.isAgg86
  z55 := Try.sizeOf86
  v55 := Try.zeroValue86
  t66 := Try.underlying273
  a66 := Try.isAgg273
  z66 := Try.sizeOf273
  v66 := Try.zeroValue273
  t70 := Try.underlying276
  a70 := Try.isAgg276
  z70 := Try.sizeOf276
  v70 := Try.zeroValue276
  t76 := Try.underlying279
  a76 := Try.isAgg279
  z76 := Try.sizeOf279
  v76 := Try.zeroValue279
  t77 := Try.underlying101
  a77 := Try.isAgg101
  z77 := Try.sizeOf101
  v77 := Try.zeroValue101
open Go.Sort Go.Lib in
section
def cmp3 (a b : Int) : Int := if a < b then -1 else if b < a then 1 else 0
theorem cmp3_eq (a b : Int) : cmpCompare_int a b = cmp3 a b := by
  unfold cmpCompare_int cmpIsNaN_int cmp3
  by_cases h : a < b
  · simp [h]
  · by_cases h2 : b < a <;> simp [h, h2]
theorem cmpOr_spec (a b c : Int) : cmpOr_int [a, b, c] = some (if a = 0 then if b = 0 then c else b else a) := by
  unfold cmpOr_int
  by_cases ha : a = 0
  · subst ha
    rw [iterW_inl (y := ((1, ()), ())) (by simp [cmpOr_int_L1, at?, w64_id])]
    by_cases hb : b = 0
    · subst hb
      rw [iterW_inl (y := ((2, ()), ())) (by simp [cmpOr_int_L1, at?, w64_id])]
      by_cases hc : c = 0
      · subst hc
        rw [iterW_inl (y := ((3, ()), ())) (by simp [cmpOr_int_L1, at?, w64_id])]
        rw [iterW_inr (r := .inl ((), ())) (by simp [cmpOr_int_L1])]
        rfl
      · rw [iterW_inr (r := .inr c) (by simp [cmpOr_int_L1, at?, bne_t hc])]
        simp
    · rw [iterW_inr (r := .inr b) (by simp [cmpOr_int_L1, at?, bne_t hb])]
      simp [hb]
  · rw [iterW_inr (r := .inr a) (by simp [cmpOr_int_L1, at?, bne_t ha])]
    simp [ha]
def mvCf (x y : Mv) : Int := if cmp3 x.1 y.1 = 0 then if cmp3 x.2.1 y.2.1 = 0 then cmp3 x.2.2.1 y.2.2.1 else cmp3 x.2.1 y.2.1 else cmp3 x.1 y.1
theorem movesCmp_spec (x y : Mv) : movesCmp x y = some (mvCf x y) := by
  unfold movesCmp mvCf
  rw [cmp3_eq, cmp3_eq, cmp3_eq, cmpOr_spec]
  rfl
theorem cmp3_0 (a b : Int) : cmp3 a b = 0 ↔ a = b := by
  unfold cmp3
  split
  · constructor <;> intro h <;> omega
  · split <;> constructor <;> intro h <;> omega
theorem cmp3_lt (a b : Int) : cmp3 a b < 0 ↔ a < b := by
  unfold cmp3
  split
  · constructor <;> intro h <;> omega
  · split <;> constructor <;> intro h <;> omega
theorem mvCf_lt : ltOf mvCf = mvLt := by
  funext x y
  unfold ltOf mvCf mvLt
  by_cases h1 : x.1 = y.1
  · by_cases h2 : x.2.1 = y.2.1
    · simp [h1, h2, (cmp3_0 y.1 y.1).2 rfl, (cmp3_0 y.2.1 y.2.1).2 rfl, cmp3_lt]
    · have : ¬ cmp3 x.2.1 y.2.1 = 0 := fun h => h2 ((cmp3_0 _ _).1 h)
      simp [h1, h2, (cmp3_0 y.1 y.1).2 rfl, this, cmp3_lt]
  · have : ¬ cmp3 x.1 y.1 = 0 := fun h => h1 ((cmp3_0 _ _).1 h)
    simp [h1, this, cmp3_lt]
theorem mvLt_iff (x y : Mv) : mvLt x y = true ↔ x.1 < y.1 ∨ x.1 = y.1 ∧ (x.2.1 < y.2.1 ∨ x.2.1 = y.2.1 ∧ x.2.2.1 < y.2.2.1) := by simp [mvLt]
theorem mvLt_f (x y : Mv) : mvLt x y = false ↔ ¬ (x.1 < y.1 ∨ x.1 = y.1 ∧ (x.2.1 < y.2.1 ∨ x.2.1 = y.2.1 ∧ x.2.2.1 < y.2.2.1)) := by rw [← mvLt_iff, Bool.not_eq_true]
theorem mv_swo : SWO mvLt where
  irrefl x := by rw [mvLt_f]; omega
  trans x y z h1 h2 := by rw [mvLt_iff] at *; omega
  ntrans x y z h1 h2 := by rw [mvLt_f] at *; omega
theorem mv_tot (x y : Mv) (h1 : mvLt x y = false) (h2 : mvLt y x = false) : x = y := by
  rw [mvLt_f] at h1 h2
  obtain ⟨a, b, c, ⟨⟩⟩ := x
  obtain ⟨a', b', c', ⟨⟩⟩ := y
  simp only at h1 h2
  have e1 : a = a' := by omega
  subst e1
  have e2 : b = b' := by omega
  subst e2
  have e3 : c = c' := by omega
  subst e3
  rfl
def sortMoves_srt : Srt := ⟨74, (.st (.int .i64) (.st (.int .i64) (.st (.int .i64) .nil))), some 132, sortMoves⟩
theorem sortMoves_ok : SrtOK Try.prog 131 sortMoves_srt := by
  have h := srt_structs (ρ := msort_ren) (g := 132) (f := 131) (τ := (.st (.int .i64) (.st (.int .i64) (.st (.int .i64) .nil)))) (i := 74) msort_lay rfl rfl rfl rfl Try.isAgg74 Try.sizeOf74 movesCmp_ok mvCf (fun x y => movesCmp_spec x y) (show SWO (ltOf mvCf) from mvCf_lt ▸ mv_swo) (fun x y h1 h2 => mv_tot x y (by rw [← mvCf_lt]; exact h1) (by rw [← mvCf_lt]; exact h2)) (enters_of Try.func132 (by kernel_rfl) rfl)
  have e : (fun xs : List Mv => xs.mergeSort fun x y => !(ltOf mvCf) y x) = sortMoves := by rw [mvCf_lt]; rfl
  have : sortMoves_srt = ⟨74, (.st (.int .i64) (.st (.int .i64) (.st (.int .i64) .nil))), some 132, fun xs : List Mv => xs.mergeSort fun x y => !(ltOf mvCf) y x⟩ := by rw [e]; rfl
  rw [this]
  exact h
end
end Go.Proofs.Ytocnfflklfeocaa
