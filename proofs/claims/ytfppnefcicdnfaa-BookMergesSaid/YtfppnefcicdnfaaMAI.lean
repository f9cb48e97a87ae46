/- Several texts in one: What the contracts of this program share. No condition of its own.; Contracts: MSort. No condition of its own.; slices.Insert at structs, walked. No condition of its own. -/
import Derived.Test.YtfppnefcicdnfaaProg
import Derived.Test.YtfppnefcicdnfaaMAE
import Derived.Test.YtfppnefcicdnfaaMAF
import Derived.Test.YtfppnefcicdnfaaMAG
import Derived.Shelf.Spec.SlicesInsertGrow
namespace Go.Proofs.Ytfppnefcicdnfaa
theorem mixed : Try.prog.follows .mixedOrders = true := by kernel_rfl
end Go.Proofs.Ytfppnefcicdnfaa
namespace Go.Proofs.Ytfppnefcicdnfaa
open Go.Den
set_option linter.unusedVariables false
set_option maxRecDepth 100000
def cmpIsNaN_int_ann : Ann := .nil
noncomputable def cmpIsNaN_int_con : Con := ⟨[(.int .i64)], true, [], .bool, fun x => cmpIsNaN_int_o x.1, some fun x => cmpIsNaN_int x.1⟩
noncomputable def cmpIsNaN_int_env : Env := []
theorem cmpIsNaN_int_denU (x : DL cmpIsNaN_int_con.ps) : cmpIsNaN_int_con.φ x = denF (CT := ctxUp) Try.prog cmpIsNaN_int_env cmpIsNaN_int_ann Try.f96 cmpIsNaN_int_con.ps cmpIsNaN_int_con.one cmpIsNaN_int_con.res cmpIsNaN_int_con.ρ x := by kernel_rfl
theorem cmpIsNaN_int_okU : ConOK (CT := ctxUp) Try.prog 96 cmpIsNaN_int_con :=
  con_of_den (CT := ctxUp) (env := cmpIsNaN_int_env) ((EnvOK.nil (CT := ctxUp) _)) mixed Try.func96 cmpIsNaN_int_con cmpIsNaN_int_ann (by kernel_rfl) (fun h => by first | rfl | cases h) (fun g hg x => by
    cases hg
    exact cmpIsNaN_int_eq _) cmpIsNaN_int_denU
def cmpCompare_int_ann : Ann := .nil
noncomputable def cmpCompare_int_con : Con := ⟨[(.int .i64), (.int .i64)], true, [], (.int .i64), fun x => cmpCompare_int_o x.1 x.2.1, some fun x => cmpCompare_int x.1 x.2.1⟩
noncomputable def cmpCompare_int_env : Env := (96, .con cmpIsNaN_int_con) :: []
theorem cmpCompare_int_denU (x : DL cmpCompare_int_con.ps) : cmpCompare_int_con.φ x = denF (CT := ctxUp) Try.prog cmpCompare_int_env cmpCompare_int_ann Try.f61 cmpCompare_int_con.ps cmpCompare_int_con.one cmpCompare_int_con.res cmpCompare_int_con.ρ x := by kernel_rfl
theorem cmpCompare_int_okU : ConOK (CT := ctxUp) Try.prog 61 cmpCompare_int_con :=
  con_of_den (CT := ctxUp) (env := cmpCompare_int_env) ((EnvOK.cons (CT := ctxUp) (EnvOK.nil (CT := ctxUp) _) cmpIsNaN_int_okU)) mixed Try.func61 cmpCompare_int_con cmpCompare_int_ann (by kernel_rfl) (fun h => by first | rfl | cases h) (fun g hg x => by
    cases hg
    exact cmpCompare_int_eq _ _) cmpCompare_int_denU
def cmpOr_int_ann : Ann := (.two .nil (.two .nil (.two (.two .nil (.joinE ⟨[3], [], []⟩ (.two (.loop ⟨[3, 6, 7], [(8, (.int .i64))], []⟩ .nil) .nil))) .nil)))
noncomputable def cmpOr_int_con : Con := ⟨[(.sl (.int .i64))], true, [], (.int .i64), fun x => cmpOr_int x.1, none⟩
noncomputable def cmpOr_int_env : Env := []
theorem cmpOr_int_denU (x : DL cmpOr_int_con.ps) : cmpOr_int_con.φ x = denF (CT := ctxUp) Try.prog cmpOr_int_env cmpOr_int_ann Try.f94 cmpOr_int_con.ps cmpOr_int_con.one cmpOr_int_con.res cmpOr_int_con.ρ x := by kernel_rfl
theorem cmpOr_int_okU : ConOK (CT := ctxUp) Try.prog 94 cmpOr_int_con :=
  con_of_den (CT := ctxUp) (env := cmpOr_int_env) ((EnvOK.nil (CT := ctxUp) _)) mixed Try.func94 cmpOr_int_con cmpOr_int_ann (by kernel_rfl) (fun h => by first | rfl | cases h) (fun g hg => by cases hg) cmpOr_int_denU
def movesCmp_ann : Ann := (.two .nil (.two (.tail 15 .nil) .nil))
noncomputable def movesCmp_con : Con := ⟨[(.st (.int .i64) (.st (.int .i64) (.st (.int .i64) .nil))), (.st (.int .i64) (.st (.int .i64) (.st (.int .i64) .nil)))], true, [], (.int .i64), fun x => movesCmp x.1 x.2.1, none⟩
noncomputable def movesCmp_env : Env := (94, .con cmpOr_int_con) :: (61, .con cmpCompare_int_con) :: []
theorem movesCmp_den (x : DL movesCmp_con.ps) : movesCmp_con.φ x = denF (CT := ctxUp) Try.prog movesCmp_env movesCmp_ann Try.f105 movesCmp_con.ps movesCmp_con.one movesCmp_con.res movesCmp_con.ρ x := by kernel_rfl
theorem movesCmp_ok : ConOK (CT := ctxUp) Try.prog 105 movesCmp_con :=
  con_of_den (CT := ctxUp) (env := movesCmp_env) ((EnvOK.cons (CT := ctxUp) (EnvOK.cons (CT := ctxUp) (EnvOK.nil (CT := ctxUp) _) cmpCompare_int_okU) cmpOr_int_okU)) mixed Try.func105 movesCmp_con movesCmp_ann (by kernel_rfl) (fun h => by first | rfl | cases h) (fun g hg => by cases hg) movesCmp_den
theorem cmpIsNaN_int_den (x : DL cmpIsNaN_int_con.ps) : cmpIsNaN_int_con.φ x = denF Try.prog cmpIsNaN_int_env cmpIsNaN_int_ann Try.f96 cmpIsNaN_int_con.ps cmpIsNaN_int_con.one cmpIsNaN_int_con.res cmpIsNaN_int_con.ρ x := by kernel_rfl
theorem cmpIsNaN_int_ok : ConOK Try.prog 96 cmpIsNaN_int_con :=
  con_of_den (env := cmpIsNaN_int_env) ((EnvOK.nil _)) mixed Try.func96 cmpIsNaN_int_con cmpIsNaN_int_ann (by kernel_rfl) (fun h => by first | rfl | cases h) (fun g hg x => by
    cases hg
    exact cmpIsNaN_int_eq _) cmpIsNaN_int_den
theorem cmpCompare_int_den (x : DL cmpCompare_int_con.ps) : cmpCompare_int_con.φ x = denF Try.prog cmpCompare_int_env cmpCompare_int_ann Try.f61 cmpCompare_int_con.ps cmpCompare_int_con.one cmpCompare_int_con.res cmpCompare_int_con.ρ x := by kernel_rfl
theorem cmpCompare_int_ok : ConOK Try.prog 61 cmpCompare_int_con :=
  con_of_den (env := cmpCompare_int_env) ((EnvOK.cons (EnvOK.nil _) cmpIsNaN_int_ok)) mixed Try.func61 cmpCompare_int_con cmpCompare_int_ann (by kernel_rfl) (fun h => by first | rfl | cases h) (fun g hg x => by
    cases hg
    exact cmpCompare_int_eq _ _) cmpCompare_int_den
theorem cmpOr_int_den (x : DL cmpOr_int_con.ps) : cmpOr_int_con.φ x = denF Try.prog cmpOr_int_env cmpOr_int_ann Try.f94 cmpOr_int_con.ps cmpOr_int_con.one cmpOr_int_con.res cmpOr_int_con.ρ x := by kernel_rfl
theorem cmpOr_int_ok : ConOK Try.prog 94 cmpOr_int_con :=
  con_of_den (env := cmpOr_int_env) ((EnvOK.nil _)) mixed Try.func94 cmpOr_int_con cmpOr_int_ann (by kernel_rfl) (fun h => by first | rfl | cases h) (fun g hg => by cases hg) cmpOr_int_den
def msort_ren : Go.Shelf.Ren := ⟨fun | 6 => 104 | 15 => 137 | 14 => 136 | 28 => 168 | 29 => 169 | 20 => 160 | 21 => 161 | 22 => 162 | 23 => 163 | 24 => 164 | 25 => 165 | 26 => 166 | 27 => 167 | 46 => 180 | 47 => 181 | 48 => 182 | 49 => 183 | 50 => 184 | 57 => 191 | n => n, fun | 22 => 87 | 24 => 74 | 25 => 195 | 3 => 3 | 39 => 176 | 0 => 0 | 53 => 219 | 55 => 109 | 4 => 4 | 46 => 241 | 45 => 240 | 50 => 214 | 5 => 5 | 9 => 9 | 66 => 257 | 70 => 261 | 76 => 269 | 77 => 82 | n => n, fun | n => n⟩
theorem msort_lay : SlLaysF0.n6 Try.prog msort_ren where
  mixed := by kernel_rfl
  f6 := ⟨Try.f104.name, by decide, Try.func104.trans (congrArg some (by kernel_rfl))⟩
  f14 := ⟨Try.f136.name, by decide, Try.func136.trans (congrArg some (by kernel_rfl))⟩
  f15 := Try.func137.trans (congrArg some (by kernel_rfl))
  f20 := ⟨Try.f160.name, by decide, Try.func160.trans (congrArg some (by kernel_rfl))⟩
  f21 := ⟨Try.f161.name, by decide, Try.func161.trans (congrArg some (by kernel_rfl))⟩
  f22 := ⟨Try.f162.name, by decide, Try.func162.trans (congrArg some (by kernel_rfl))⟩
  f23 := ⟨Try.f163.name, by decide, Try.func163.trans (congrArg some (by kernel_rfl))⟩
  f24 := ⟨Try.f164.name, by decide, Try.func164.trans (congrArg some (by kernel_rfl))⟩
  f25 := ⟨Try.f165.name, by decide, Try.func165.trans (congrArg some (by kernel_rfl))⟩
  f26 := ⟨Try.f166.name, by decide, Try.func166.trans (congrArg some (by kernel_rfl))⟩
  f27 := ⟨Try.f167.name, by decide, Try.func167.trans (congrArg some (by kernel_rfl))⟩
  f28 := Try.func168.trans (congrArg some (by kernel_rfl))
  f29 := Try.func169.trans (congrArg some (by kernel_rfl))
  f46 := ⟨Try.f180.name, by decide, Try.func180.trans (congrArg some (by kernel_rfl))⟩
  f47 := Try.func181.trans (congrArg some (by kernel_rfl))
  f48 := Try.func182.trans (congrArg some (by kernel_rfl))
  f49 := ⟨Try.f183.name, by decide, Try.func183.trans (congrArg some (by kernel_rfl))⟩
  f50 := ⟨Try.f184.name, by decide, Try.func184.trans (congrArg some (by kernel_rfl))⟩
  f57 := ⟨Try.f191.name, by decide, Try.func191.trans (congrArg some (by kernel_rfl))⟩
  t0 := Try.underlying0
  a0 := Try.isAgg0
  z0 := Try.sizeOf0
  v0 := Try.zeroValue0
  t3 := Try.underlying3
  a3 := Try.isAgg3
  z3 := Try.sizeOf3
  v3 := Try.zeroValue3
  t4 := Try.underlying4
  a4 := Try.isAgg4
  z4 := Try.sizeOf4
  v4 := Try.zeroValue4
  t5 := Try.underlying5
  a5 := Try.isAgg5
  z5 := Try.sizeOf5
  v5 := Try.zeroValue5
  t9 := Try.underlying9
  a9 := Try.isAgg9
  z9 := Try.sizeOf9
  v9 := Try.zeroValue9
  t22 := Try.underlying87
  a22 := Try.isAgg87
  z22 := Try.sizeOf87
  v22 := Try.zeroValue87
  t25 := Try.underlying195
  a25 := Try.isAgg195
  z25 := Try.sizeOf195
  v25 := Try.zeroValue195
  t39 := Try.underlying176
  a39 := Try.isAgg176
  z39 := Try.sizeOf176
  v39 := Try.zeroValue176
  t45 := Try.underlying240
  a45 := Try.isAgg240
  z45 := Try.sizeOf240
  v45 := Try.zeroValue240
  t46 := Try.underlying241
  a46 := Try.isAgg241
  z46 := Try.sizeOf241
  v46 := Try.zeroValue241
  t50 := Try.underlying214
  a50 := Try.isAgg214
  z50 := Try.sizeOf214
  v50 := Try.zeroValue214
  t53 := Try.underlying219
  a53 := Try.isAgg219
  z53 := Try.sizeOf219
  v53 := Try.zeroValue219
  t55 := Try.underlying109
  a55 := Try.isAgg109
  z55 := Try.sizeOf109
  v55 := Try.zeroValue109
  t66 := Try.underlying257
  a66 := Try.isAgg257
  z66 := Try.sizeOf257
  v66 := Try.zeroValue257
  t70 := Try.underlying261
  a70 := Try.isAgg261
  z70 := Try.sizeOf261
  v70 := Try.zeroValue261
  t76 := Try.underlying269
  a76 := Try.isAgg269
  z76 := Try.sizeOf269
  v76 := Try.zeroValue269
  t77 := Try.underlying82
  a77 := Try.isAgg82
  z77 := Try.sizeOf82
  v77 := Try.zeroValue82
open Go.Sort Go.Lib in
section
def cmp3 (a b : Int) : Int := if a < b then -1 else if b < a then 1 else 0
theorem cmp3_eq (a b : Int) : cmpCompare_int a b = cmp3 a b := by
  unfold cmpCompare_int cmpIsNaN_int cmp3
  by_cases h : a < b
  · simp [h]
  · by_cases h2 : b < a <;> simp [h, h2]
theorem cmpOr_spec (a b c : Int) : cmpOr_int [a, b, c] = some (if a = 0 then if b = 0 then c else b else a) := by
  unfold cmpOr_int
  by_cases ha : a = 0
  · subst ha
    rw [iterW_inl (y := ((1, ()), ())) (by simp [cmpOr_int_L1, at?, w64_id])]
    by_cases hb : b = 0
    · subst hb
      rw [iterW_inl (y := ((2, ()), ())) (by simp [cmpOr_int_L1, at?, w64_id])]
      by_cases hc : c = 0
      · subst hc
        rw [iterW_inl (y := ((3, ()), ())) (by simp [cmpOr_int_L1, at?, w64_id])]
        rw [iterW_inr (r := .inl ((), ())) (by simp [cmpOr_int_L1])]
        rfl
      · rw [iterW_inr (r := .inr c) (by simp [cmpOr_int_L1, at?, bne_t hc])]
        simp
    · rw [iterW_inr (r := .inr b) (by simp [cmpOr_int_L1, at?, bne_t hb])]
      simp [hb]
  · rw [iterW_inr (r := .inr a) (by simp [cmpOr_int_L1, at?, bne_t ha])]
    simp [ha]
def mvCf (x y : Mv) : Int := if cmp3 x.1 y.1 = 0 then if cmp3 x.2.1 y.2.1 = 0 then cmp3 x.2.2.1 y.2.2.1 else cmp3 x.2.1 y.2.1 else cmp3 x.1 y.1
theorem movesCmp_spec (x y : Mv) : movesCmp x y = some (mvCf x y) := by
  unfold movesCmp mvCf
  rw [cmp3_eq, cmp3_eq, cmp3_eq, cmpOr_spec]
  rfl
theorem cmp3_0 (a b : Int) : cmp3 a b = 0 ↔ a = b := by
  unfold cmp3
  split
  · constructor <;> intro h <;> omega
  · split <;> constructor <;> intro h <;> omega
theorem cmp3_lt (a b : Int) : cmp3 a b < 0 ↔ a < b := by
  unfold cmp3
  split
  · constructor <;> intro h <;> omega
  · split <;> constructor <;> intro h <;> omega
theorem mvCf_lt : ltOf mvCf = mvLt := by
  funext x y
  unfold ltOf mvCf mvLt
  by_cases h1 : x.1 = y.1
  · by_cases h2 : x.2.1 = y.2.1
    · simp [h1, h2, (cmp3_0 y.1 y.1).2 rfl, (cmp3_0 y.2.1 y.2.1).2 rfl, cmp3_lt]
    · have : ¬ cmp3 x.2.1 y.2.1 = 0 := fun h => h2 ((cmp3_0 _ _).1 h)
      simp [h1, h2, (cmp3_0 y.1 y.1).2 rfl, this, cmp3_lt]
  · have : ¬ cmp3 x.1 y.1 = 0 := fun h => h1 ((cmp3_0 _ _).1 h)
    simp [h1, this, cmp3_lt]
theorem mvLt_iff (x y : Mv) : mvLt x y = true ↔ x.1 < y.1 ∨ x.1 = y.1 ∧ (x.2.1 < y.2.1 ∨ x.2.1 = y.2.1 ∧ x.2.2.1 < y.2.2.1) := by simp [mvLt]
theorem mvLt_f (x y : Mv) : mvLt x y = false ↔ ¬ (x.1 < y.1 ∨ x.1 = y.1 ∧ (x.2.1 < y.2.1 ∨ x.2.1 = y.2.1 ∧ x.2.2.1 < y.2.2.1)) := by rw [← mvLt_iff, Bool.not_eq_true]
theorem mv_swo : SWO mvLt where
  irrefl x := by rw [mvLt_f]; omega
  trans x y z h1 h2 := by rw [mvLt_iff] at *; omega
  ntrans x y z h1 h2 := by rw [mvLt_f] at *; omega
theorem mv_tot (x y : Mv) (h1 : mvLt x y = false) (h2 : mvLt y x = false) : x = y := by
  rw [mvLt_f] at h1 h2
  obtain ⟨a, b, c, ⟨⟩⟩ := x
  obtain ⟨a', b', c', ⟨⟩⟩ := y
  simp only at h1 h2
  have e1 : a = a' := by omega
  subst e1
  have e2 : b = b' := by omega
  subst e2
  have e3 : c = c' := by omega
  subst e3
  rfl
def sortMoves_srt : Srt := ⟨74, (.st (.int .i64) (.st (.int .i64) (.st (.int .i64) .nil))), some 105, sortMoves⟩
theorem sortMoves_ok : SrtOK Try.prog 104 sortMoves_srt := by
  have h := srt_structs (ρ := msort_ren) (g := 105) (f := 104) (τ := (.st (.int .i64) (.st (.int .i64) (.st (.int .i64) .nil)))) (i := 74) msort_lay rfl rfl rfl rfl Try.isAgg74 Try.sizeOf74 movesCmp_ok mvCf (fun x y => movesCmp_spec x y) (show SWO (ltOf mvCf) from mvCf_lt ▸ mv_swo) (fun x y h1 h2 => mv_tot x y (by rw [← mvCf_lt]; exact h1) (by rw [← mvCf_lt]; exact h2)) (enters_of Try.func105 (by kernel_rfl) rfl)
  have e : (fun xs : List Mv => xs.mergeSort fun x y => !(ltOf mvCf) y x) = sortMoves := by rw [mvCf_lt]; rfl
  have : sortMoves_srt = ⟨74, (.st (.int .i64) (.st (.int .i64) (.st (.int .i64) .nil))), some 105, fun xs : List Mv => xs.mergeSort fun x y => !(ltOf mvCf) y x⟩ := by rw [e]; rfl
  rw [this]
  exact h
end
end Go.Proofs.Ytfppnefcicdnfaa
namespace Go.Proofs.Ytfppnefcicdnfaa
open Go Go.Proofs Go.RowKit Go.Shelf Go.Lib Go.Den Go.Eng
set_option linter.unusedVariables false
set_option linter.unusedSimpArgs false
theorem insInfo : (Try.prog.info? 111).map (fun i => (i.size, i.bytes)) = some (5, 40) := by kernel_rfl
theorem insSize : (Try.prog.info? 111).map (·.size) = some 5 := by kernel_rfl
theorem insZero : ∃ i z, Try.prog.info? 111 = some i ∧ i.zero = some z ∧ i.size = 5 ∧ i.bytes = 40 ∧ z.cells.size = 5 := by
  have h : (Try.prog.info? 111).bind (fun i => i.zero.map (fun z => (i.size, i.bytes, z.cells.size))) = some (5, 40, 5) := by kernel_rfl
  obtain ⟨i, h1, h2⟩ := Option.bind_eq_some_iff.1 h
  obtain ⟨z, h3, h4⟩ := Option.map_eq_some_iff.1 h2
  simp only [Prod.mk.injEq] at h4
  exact ⟨i, z, h1, h3, h4.1, h4.2.1, h4.2.2⟩
theorem ins_list {A : Type} (C cs vs : List A) (a q N : Nat) (ha : a ≤ N) (hN : cs.length = N) (hq : vs.length = q) (hC : C.take N = cs) :
    (((C.take (a + q) ++ cs.drop a ++ C.drop (a + q + (cs.drop a).length)).take a ++ vs ++ (C.take (a + q) ++ cs.drop a ++ C.drop (a + q + (cs.drop a).length)).drop (a + vs.length)).take (N + q)) = cs.take a ++ (vs ++ cs.drop a) ∨ C.length < a + q := by
  by_cases hl : C.length < a + q
  · exact .inr hl
  · left
    have e1 : (C.take (a + q)).length = a + q := by rw [List.length_take]; omega
    have e2 : (C.take (a + q) ++ cs.drop a ++ C.drop (a + q + (cs.drop a).length)).take a = cs.take a := by
      rw [List.append_assoc, List.take_append_of_le_length (by omega), List.take_take, ← hC, List.take_take]
      congr 1; omega
    have e3 : (C.take (a + q) ++ cs.drop a ++ C.drop (a + q + (cs.drop a).length)).drop (a + vs.length) = cs.drop a ++ C.drop (a + q + (cs.drop a).length) := by
      rw [hq, List.append_assoc, List.drop_append, List.drop_of_length_le (by omega), e1]
      simp
    rw [e2, e3, List.append_assoc, ← List.append_assoc vs, ← List.append_assoc]
    have e4 : (cs.take a ++ (vs ++ cs.drop a)).length = N + q := by simp only [List.length_append, List.length_take, List.length_drop, hN, hq]; omega
    rw [← e4, List.take_left]
theorem ins_cell {w : World} {b k : Nat} {cur : Array Value} {T : TypeId} (h : w.heap[b]? = some (.cells cur T (0, 0))) : w.cell? ⟨b, k, none⟩ = cur.toList[k]? := by
  simp [World.cell?, h]
set_option maxHeartbeats 4000000 in
set_option maxRecDepth 100000 in
/-- there is room, ahead of the end -/
theorem ins_shift (b n c i vb m vc : Nat) (cs vs : List Value) (cur vcur : Array Value) (w : World) (hi : i < n) (hm : 0 < m) (hroom : n + m ≤ c) (hc63 : c ≤ 9223372036854775807) (hvb : vb ≠ b)
    (hb : w.heap[b]? = some (.cells cur 111 (0, 0))) (hcur : cur.size = c * 5) (hcs : cs.length = n * 5) (hpre : cur.toList.take (n * 5) = cs)
    (hv : w.heap[vb]? = some (.cells vcur 111 (0, 0))) (hvl : vs.length = m * 5) (hvs : vcur.toList.take (m * 5) = vs) (h1c : ∀ v ∈ cs, v.oneCell' = true) (h1v : ∀ v ∈ vs, v.oneCell' = true) :
    Calls Try.prog 126 #[.slice (some ⟨b, 0, none⟩) n c, .int .i64 i, .slice (some ⟨vb, 0, none⟩) m vc] w fun e w' =>
      e = .returned (.slice (some ⟨b, 0, none⟩) (n + m) c) ∧ ∃ cur', w' = w.drew.setRow b cur' ∧ cur'.size = c * 5 ∧ cur'.toList.take ((n + m) * 5) = cs.take (i * 5) ++ (vs ++ cs.drop (i * 5)) := by
  have hz1 : ¬ ((m : Int) = 0) := by omega
  have hz2 : ¬ ((i : Int) = (n : Int)) := by omega
  have hcl : cur.toList.length = c * 5 := by rw [Array.length_toList, hcur]
  have hvcl : m * 5 ≤ vcur.toList.length := by rw [← hvl, ← hvs, List.length_take]; omega
  have hov : ∀ lb cb, (callFunc 156 #[.slice (some ⟨vb, 0, none⟩) m vc, .slice (some ⟨b, (i + m) * 5, none⟩) lb cb]).run Try.prog w = .ok (.value (.bool false)) w := fun lb cb => by
    rw [run_callFunc_extern Try.func156 (by kernel_rfl) (by kernel_rfl) (by kernel_rfl) (e := Extern.SlicesOverlaps.overlaps #[103, 103] #[4]) (by kernel_rfl),
      Lib.run_overlaps_apart w 103 4 111 Try.underlying103 5 Try.sizeOf111 ⟨vb, 0, none⟩ ⟨b, (i + m) * 5, none⟩ m vc lb cb hvb 111 111 vcur.size cur.size (by simp [World.shape?, hv]) (by simp [World.shape?, hb]) (by rw [hcur]; omega) (by simp [World.frozen?, hv]) (by simp [World.frozen?, hv])]
    rfl
  have hdl : (cs.drop (i * 5)).length = (n - i) * 5 := by rw [List.length_drop, hcs]; omega
  have hcp1 : ∀ ty dc sc, (Builtin.copy_ #[103, 103] ty #[.slice (some ⟨b, (i + m) * 5, none⟩) (n + m - (i + m)) dc, .slice (some ⟨b, i * 5, none⟩) (n + m - i) sc]).run Try.prog w.drew =
      .ok (goInt (Nat.min (n + m - i) (n + m - (i + m)))) (w.drew.setRow b (cur.toList.take ((i + m) * 5) ++ cs.drop (i * 5) ++ cur.toList.drop ((i + m) * 5 + (cs.drop (i * 5)).length)).toArray) := fun ty dc sc =>
    run_copy_rowK Try.prog w.drew 103 103 ty 111 b ((i + m) * 5) (n + m - (i + m)) dc ⟨b, i * 5, none⟩ (n + m - i) sc 5 cur 111 (cs.drop (i * 5)) Try.underlying103 insSize hb
      (by rw [hdl]; simp only [Nat.min_def]; split <;> omega)
      (fun j v hj => by
        have hb' : w.drew.heap[b]? = some (.cells cur 111 (0, 0)) := hb
        rw [List.getElem?_drop, ← hpre, List.getElem?_take] at hj
        split at hj
        · rw [Addr.add_lit, ins_cell hb']; exact hj
        · cases hj)
      (by rw [hdl, hcur]; omega) (fun v hv => h1c v (List.mem_of_mem_drop hv))
  obtain ⟨cur1, hcur1⟩ : ∃ cur1, cur1 = (cur.toList.take ((i + m) * 5) ++ cs.drop (i * 5) ++ cur.toList.drop ((i + m) * 5 + (cs.drop (i * 5)).length)).toArray := ⟨_, rfl⟩
  have hs1 : cur1.size = c * 5 := by
    rw [hcur1]
    simp only [List.size_toArray, List.length_append, List.length_take, List.length_drop, hcl, hcs]
    omega
  rw [← hcur1] at hcp1
  have hb1 : (w.drew.setRow b cur1).heap[b]? = some (.cells cur1 111 (0, 0)) := setRow_heap w.drew b cur cur1 111 (0, 0) hb
  have hv1 : (w.drew.setRow b cur1).heap[vb]? = some (.cells vcur 111 (0, 0)) := by rw [setRow_other w.drew b vb cur1 hvb]; exact hv
  have hcp2 : ∀ ty dc, (Builtin.copy_ #[103, 103] ty #[.slice (some ⟨b, i * 5, none⟩) (n + m - i) dc, .slice (some ⟨vb, 0, none⟩) m vc]).run Try.prog (w.drew.setRow b cur1) =
      .ok (goInt (Nat.min m (n + m - i))) (w.drew.setRow b (cur1.toList.take (i * 5) ++ vs ++ cur1.toList.drop (i * 5 + vs.length)).toArray) := fun ty dc => by
    have := run_copy_rowK Try.prog (w.drew.setRow b cur1) 103 103 ty 111 b (i * 5) (n + m - i) dc ⟨vb, 0, none⟩ m vc 5 cur1 111 vs Try.underlying103 insSize hb1
      (by rw [hvl]; simp only [Nat.min_def]; split <;> omega)
      (fun j v hj => by
        rw [← hvs, List.getElem?_take] at hj
        split at hj
        · rw [Addr.add_lit, ins_cell hv1, Nat.zero_add]; exact hj
        · cases hj)
      (by rw [hvl, hs1]; omega) h1v
    rw [this, setRow_setRow]
  have hfin : ∃ cur', w.drew.setRow b (cur1.toList.take (i * 5) ++ vs ++ cur1.toList.drop (i * 5 + vs.length)).toArray = w.drew.setRow b cur' ∧ cur'.size = c * 5 ∧ cur'.toList.take ((n + m) * 5) = cs.take (i * 5) ++ (vs ++ cs.drop (i * 5)) := by
    refine ⟨_, rfl, ?_, ?_⟩
    · simp only [List.size_toArray, List.length_append, List.length_take, List.length_drop, Array.length_toList, hs1, hvl]
      omega
    · rcases ins_list cur.toList cs vs (i * 5) (m * 5) (n * 5) (by omega) hcs hvl hpre with h | h
      · rw [Nat.add_mul, ← h, hcur1, Nat.add_mul]
      · rw [hcl] at h; omega
  have mixed := mixed
  have hw1 : IntKind.i64.wrap ((i : Int) + (m : Int)) = (i : Int) + (m : Int) := by rw [IntKind.wrap_i64]; omega
  have hq1 : (0 : Int) ≤ (i : Int) + (m : Int) := by omega
  have hin : i ≤ n := by omega
  have htn : ((i : Int) + (m : Int)).toNat = i + m := by omega
  have hq2 : ¬ (c = i + m) := by omega
  have hq3 : (i : Int) ≤ (n : Int) + (m : Int) := by omega
  have hq4 : ¬ (c = i) := by omega
  clear hcur1 hcl hvcl hs1 hb1 hv1 hdl hcs hpre hvl hvs h1c h1v hcur hb hv
  go_enter Try.func126, Try.ntmps126
  go_wp2_with (simp only [hov])
  go_region_law_o (refine step_copy_runI rfl _ _ 103 103 rfl _ _ (by simp [Act.eval, Act.put]) (by simp [Act.eval, Act.put]) (hcp1 _ _ _) ?_)
  go_wp2_with (at_builtin; refine wpList_copy_runI _ rfl _ _ 103 103 rfl _ _ rfl rfl (hcp2 _ _) ?_)
  go_ret
  rw [List.append_assoc] at hfin
  exact ⟨rfl, hfin⟩
set_option maxHeartbeats 4000000 in
set_option maxRecDepth 100000 in
/-- at the end -/
theorem ins_end (base : Option Addr) (n c vb m vc : Nat) (w w' : World) (r : Value) (hm : 0 < m) (hnc : n ≤ c) (hc63 : c ≤ 9223372036854775807) (hnil : base = none → n = 0)
    (hrun : ∀ ty, (Builtin.append_ #[103, 103] ty #[.slice base n c, .slice (some ⟨vb, 0, none⟩) m vc]).run Try.prog w = .ok r w') :
    Calls Try.prog 126 #[.slice base n c, .int .i64 n, .slice (some ⟨vb, 0, none⟩) m vc] w fun e w2 => e = .returned r ∧ w2 = w' := by
  have hz1 : ¬ ((m : Int) = 0) := by omega
  have mixed := mixed
  go_enter Try.func126, Try.ntmps126
  cases base with
  | none =>
    have h0 := hnil rfl
    subst h0
    go_wp2_with (at_builtin; refine Lib.wpList_append_run _ rfl _ _ _ _ rfl _ _ rfl rfl _ _ (hrun _) ?_)
    go_ret
    exact ⟨rfl, rfl⟩
  | some a =>
    obtain ⟨ab, ao, asp⟩ := a
    go_wp2_with (at_builtin; refine Lib.wpList_append_run _ rfl _ _ _ _ rfl _ _ rfl rfl _ _ (hrun _) ?_)
    all_goals (go_ret; exact ⟨rfl, rfl⟩)
set_option maxHeartbeats 4000000 in
set_option maxRecDepth 100000 in
/-- no room, ahead of the end -/
theorem ins_grow (b n c i vb m vc : Nat) (cs vs : List Value) (cur vcur : Array Value) (w : World) (hi : i < n) (hm : 0 < m) (hnc : n ≤ c) (hroom : c < n + m) (hc63 : c ≤ 9223372036854775807) (hbig : (n + m) * 40 ≤ 140737488355328)
    (hb : w.heap[b]? = some (.cells cur 111 (0, 0))) (hcur : cur.size = c * 5) (hcs : cs.length = n * 5) (hpre : cur.toList.take (n * 5) = cs)
    (hv : w.heap[vb]? = some (.cells vcur 111 (0, 0))) (hvl : vs.length = m * 5) (hvs : vcur.toList.take (m * 5) = vs) (h1c : ∀ v ∈ cs, v.oneCell' = true) (h1v : ∀ v ∈ vs, v.oneCell' = true) :
    Calls Try.prog 126 #[.slice (some ⟨b, 0, none⟩) n c, .int .i64 i, .slice (some ⟨vb, 0, none⟩) m vc] w fun e w' =>
      ∃ G cur', e = .returned (.slice (some ⟨w.heap.size, 0, none⟩) (n + m) G) ∧ n + m ≤ G ∧ G ≤ maxLen ∧ Go.Eng.Chg [] w w' ∧ w'.heap[w.heap.size]? = some (.cells cur' 111 (0, 0)) ∧ cur'.size = G * 5 ∧ cur'.toList.take ((n + m) * 5) = cs.take (i * 5) ++ (vs ++ cs.drop (i * 5)) := by
  obtain ⟨i0, z0, hi0, hz0, hzs, hzb, hzc⟩ := insZero
  have hz1 : ¬ ((m : Int) = 0) := by omega
  have hz2 : ¬ ((i : Int) = (n : Int)) := by omega
  have hz3 : (c : Int) < (n : Int) + (m : Int) := by omega
  have hbw : b < w.heap.size := (Array.getElem?_eq_some_iff.1 hb).1
  have hvw : vb < w.heap.size := (Array.getElem?_eq_some_iff.1 hv).1
  have hkk : (n : Int) + (m : Int) - (i : Int) = ((n + m - i : Nat) : Int) := by omega
  have hik : i + (n + m - i) = n + m := by omega
  have htl : (cs.take (i * 5)).length = i * 5 := by rw [List.length_take, hcs]; omega
  have hdl : (cs.drop (i * 5)).length = (n - i) * 5 := by rw [List.length_drop, hcs]; omega
  have hold : (Builtin.firstCells i0.size i (.slice (some ⟨b, 0, none⟩) i c)).run Try.prog w.drew = .ok (cs.take (i * 5)).toArray w.drew := by
    rw [hzs]
    refine run_firstCells_some w.drew 5 i ⟨b, 0, none⟩ i c (cs.take (i * 5)) htl (fun j v hj => ?_)
    have hb' : w.drew.heap[b]? = some (.cells cur 111 (0, 0)) := hb
    rw [Addr.add_lit, ins_cell hb', Nat.zero_add]
    rw [List.getElem?_take] at hj
    split at hj
    · rw [← hpre, List.getElem?_take] at hj
      split at hj
      · exact hj
      · cases hj
    · cases hj
  have hrz : ∀ ty, (Builtin.append_ #[103, 3] ty #[.slice (some ⟨b, 0, none⟩) i c, .int .i64 ((n : Int) + (m : Int) - (i : Int))]).run Try.prog w =
      .ok (.slice (some ⟨w.heap.size, 0, none⟩) (n + m) (grownCap w (n + m) c 111)) (w.drew.alloc (.cells ((cs.take (i * 5)).toArray ++ Builtin.zeroCells z0.cells (n + m - i) ++ Builtin.zeroCells z0.cells (grownCap w (n + m) c 111 - (n + m))) 111)) := fun ty => by
    have h := Lib.run_append_grow_zeros (P := Try.prog) w 103 3 ty 111 i0 z0 .i64 .i64 Try.underlying103 Try.underlying3 hi0 hz0 (some ⟨b, 0, none⟩) i c (cs.take (i * 5)) hold (n + m - i) (by omega) (by omega) (by omega) (by omega) (by rw [hzb]; omega) (by rw [hzb, hik]; exact growslice_fits hroom hbig)
    rw [hik] at h
    rw [hkk]
    exact h
  have hGn : n + m ≤ grownCap w (n + m) c 111 := grownCap_ge w _ _ _
  have hGm : grownCap w (n + m) c 111 ≤ maxLen := grownCap_le_maxLen w (n + m) c 111 (by unfold maxLen; omega)
  obtain ⟨G, hG⟩ : ∃ G, G = grownCap w (n + m) c 111 := ⟨_, rfl⟩
  rw [← hG] at hrz hGn hGm
  have hG63 : G ≤ 9223372036854775807 := by unfold maxLen at hGm; omega
  obtain ⟨ROW, hROW⟩ : ∃ ROW : Array Value, ROW = (cs.take (i * 5)).toArray ++ Builtin.zeroCells z0.cells (n + m - i) ++ Builtin.zeroCells z0.cells (G - (n + m)) := ⟨_, rfl⟩
  rw [← hROW] at hrz
  have hRs : ROW.size = G * 5 := by
    rw [hROW]
    simp only [Array.size_append, List.size_toArray, size_zeroCells, hzc, htl, ← Nat.add_mul]
    congr 1; omega
  have hRl : ROW.toList.length = G * 5 := by rw [Array.length_toList, hRs]
  have hRt : ROW.toList.take (i * 5) = cs.take (i * 5) := by
    rw [hROW, Array.toList_append, Array.toList_append, List.append_assoc]
    simp only [List.toList_toArray]
    rw [List.take_append_of_le_length (by omega), List.take_of_length_le (by omega)]
  obtain ⟨R1, hR1⟩ : ∃ R1, R1 = (ROW.toList.take (i * 5) ++ vs ++ ROW.toList.drop (i * 5 + vs.length)).toArray := ⟨_, rfl⟩
  have hs1 : R1.size = G * 5 := by
    rw [hR1]
    simp only [List.size_toArray, List.length_append, List.length_take, List.length_drop, hRl, hvl]
    omega
  obtain ⟨R2, hR2⟩ : ∃ R2, R2 = (R1.toList.take ((i + m) * 5) ++ cs.drop (i * 5) ++ R1.toList.drop ((i + m) * 5 + (cs.drop (i * 5)).length)).toArray := ⟨_, rfl⟩
  have hs2 : R2.size = G * 5 := by
    rw [hR2]
    simp only [List.size_toArray, List.length_append, List.length_take, List.length_drop, Array.length_toList, hs1, hcs]
    omega
  have hfin : R2.toList.take ((n + m) * 5) = cs.take (i * 5) ++ (vs ++ cs.drop (i * 5)) := by
    have e1 : R1.toList.take ((i + m) * 5) = cs.take (i * 5) ++ vs := by
      rw [hR1]
      simp only [List.toList_toArray]
      have : (ROW.toList.take (i * 5) ++ vs).length = (i + m) * 5 := by rw [hRt, List.length_append, htl, hvl, Nat.add_mul]
      rw [← this, List.take_left, hRt]
    rw [hR2]
    simp only [List.toList_toArray]
    rw [e1, List.append_assoc]
    have : (cs.take (i * 5) ++ vs ++ cs.drop (i * 5)).length = (n + m) * 5 := by rw [List.length_append, List.length_append, htl, hvl, hdl]; omega
    rw [← List.append_assoc, ← this, List.take_left, List.append_assoc]
  have hcpA : ∀ (W : World), W.heap[w.heap.size]? = some (.cells ROW 111 (0, 0)) → W.heap[vb]? = some (.cells vcur 111 (0, 0)) → ∀ ty dc, (Builtin.copy_ #[103, 103] ty #[.slice (some ⟨w.heap.size, i * 5, none⟩) (n + m - i) dc, .slice (some ⟨vb, 0, none⟩) m vc]).run Try.prog W =
      .ok (goInt (Nat.min m (n + m - i))) (W.setRow w.heap.size R1) := fun W h1 h2 ty dc => by
    rw [hR1]
    exact run_copy_rowK Try.prog W 103 103 ty 111 w.heap.size (i * 5) (n + m - i) dc ⟨vb, 0, none⟩ m vc 5 ROW 111 vs Try.underlying103 insSize h1
      (by rw [hvl]; simp only [Nat.min_def]; split <;> omega)
      (fun j v hj => by
        rw [← hvs, List.getElem?_take] at hj
        split at hj
        · rw [Addr.add_lit, ins_cell h2, Nat.zero_add]; exact hj
        · cases hj)
      (by rw [hvl, hRs]; omega) h1v
  have hcpB : ∀ (W : World), W.heap[w.heap.size]? = some (.cells R1 111 (0, 0)) → W.heap[b]? = some (.cells cur 111 (0, 0)) → ∀ ty dc sc, (Builtin.copy_ #[103, 103] ty #[.slice (some ⟨w.heap.size, (i + m) * 5, none⟩) (n + m - (i + m)) dc, .slice (some ⟨b, i * 5, none⟩) (n - i) sc]).run Try.prog W =
      .ok (goInt (Nat.min (n - i) (n + m - (i + m)))) (W.setRow w.heap.size R2) := fun W h1 h2 ty dc sc => by
    rw [hR2]
    exact run_copy_rowK Try.prog W 103 103 ty 111 w.heap.size ((i + m) * 5) (n + m - (i + m)) dc ⟨b, i * 5, none⟩ (n - i) sc 5 R1 111 (cs.drop (i * 5)) Try.underlying103 insSize h1
      (by rw [hdl]; simp only [Nat.min_def]; split <;> omega)
      (fun j v hj => by
        rw [List.getElem?_drop, ← hpre, List.getElem?_take] at hj
        split at hj
        · rw [Addr.add_lit, ins_cell h2]; exact hj
        · cases hj)
      (by rw [hdl, hs1]; omega) (fun v hv => h1c v (List.mem_of_mem_drop hv))
  have hA1 : (w.drew.alloc (.cells ROW 111)).heap[w.heap.size]? = some (.cells ROW 111 (0, 0)) := heap_alloc_new w.drew _
  have hA2 : ∀ k x, w.heap[k]? = some x → (w.drew.alloc (.cells ROW 111)).heap[k]? = some x := fun k x h => by
    have := alloc_chg w.drew (.cells ROW 111)
    rw [this.block k (Array.getElem?_eq_some_iff.1 h).1 (by simp)]
    exact h
  have hA3 := hA2 vb _ hv
  have hA4 := hA2 b _ hb
  obtain ⟨W1, hW1⟩ : ∃ W1, W1 = ((w.alloc (.cells ROW 111)).drew) := ⟨_, rfl⟩
  have hE : w.drew.alloc (.cells ROW 111) = (w.alloc (.cells ROW 111)).drew := rfl
  have hB1 : ((w.alloc (.cells ROW 111)).drew).heap[w.heap.size]? = some (.cells ROW 111 (0, 0)) := hA1
  have hB3 : ((w.alloc (.cells ROW 111)).drew).heap[vb]? = some (.cells vcur 111 (0, 0)) := hA3
  have hC1 : ((((w.alloc (.cells ROW 111)).drew).setRow w.heap.size R1).drew).heap[w.heap.size]? = some (.cells R1 111 (0, 0)) := setRow_heap ((w.alloc (.cells ROW 111)).drew) w.heap.size ROW R1 111 (0, 0) hB1
  have hC2 : ((((w.alloc (.cells ROW 111)).drew).setRow w.heap.size R1).drew).heap[b]? = some (.cells cur 111 (0, 0)) := (setRow_other ((w.alloc (.cells ROW 111)).drew) w.heap.size b R1 (by omega)).trans hA4
  have hD : ∃ G' cur', Value.slice (some ⟨w.heap.size, 0, none⟩) (n + m) G = .slice (some ⟨w.heap.size, 0, none⟩) (n + m) G' ∧ n + m ≤ G' ∧ G' ≤ maxLen ∧ Go.Eng.Chg [] w (((((w.alloc (.cells ROW 111)).drew).setRow w.heap.size R1).drew).setRow w.heap.size R2) ∧
      (((((w.alloc (.cells ROW 111)).drew).setRow w.heap.size R1).drew).setRow w.heap.size R2).heap[w.heap.size]? = some (.cells cur' 111 (0, 0)) ∧ cur'.size = G' * 5 ∧ cur'.toList.take ((n + m) * 5) = cs.take (i * 5) ++ (vs ++ cs.drop (i * 5)) := by
    refine ⟨G, R2, rfl, hGn, hGm, ?_, setRow_heap _ w.heap.size R1 R2 111 (0, 0) hC1, hs2, hfin⟩
    have hch := alloc_chg w.drew (.cells ROW 111)
    refine ⟨rfl, rfl, rfl, ?_, fun k hk _ => ?_, fun _ => ?_⟩
    · simp [World.setRow]
    · rw [setRow_other _ w.heap.size k R2 (by omega)]
      exact (setRow_other ((w.alloc (.cells ROW 111)).drew) w.heap.size k R1 (by omega)).trans (hch.block k hk (by simp))
    · show w.drawn ≤ w.drawn + 1 + 1
      omega
  have mixed := mixed
  have hGi : ¬ (G = i) := by omega
  have hGim : ¬ (G = i + m) := by omega
  have hci : ¬ (c = i) := by omega
  have hw1 : IntKind.i64.wrap ((i : Int) + (m : Int)) = (i : Int) + (m : Int) := by rw [IntKind.wrap_i64]; omega
  have hq1 : (0 : Int) ≤ (i : Int) + (m : Int) := by omega
  have hin : i ≤ n := by omega
  have htn : ((i : Int) + (m : Int)).toNat = i + m := by omega
  have hq3 : (i : Int) ≤ (n : Int) := by omega
  clear hkk hik hold hROW hG hRl hR1 hR2 hRs hRt hdl htl hcs hpre hvl hvs h1c h1v hcur hb hv hA2 hz0 hi0 hzs hzb hzc hs1
  have hcpA1 := hcpA _ hB1 hB3
  have hcpB1 := hcpB _ hC1 hC2
  clear hcpA hcpB hA1 hA3 hA4 hB1 hB3 hC1 hC2 hE hW1
  go_enter Try.func126, Try.ntmps126
  go_wp2_with (at_builtin; refine Lib.wpList_append_run _ rfl _ _ _ _ rfl _ _ rfl rfl _ _ (hrz _) ?_)
  go_region_law_o (refine step_copy_runI rfl _ _ 103 103 rfl (.slice (some ⟨w.heap.size, (i + m) * 5, none⟩) (n + m - (i + m)) (G - (i + m))) (.slice (some ⟨b, i * 5, none⟩) (n - i) (c - i)) (by simp [Act.eval, Act.put]) (by simp [Act.eval, Act.put]) (hcpB1 3 (G - (i + m)) (c - i)) ?_)
  go_wp2
  go_ret
  obtain ⟨G', cur', e1, hr⟩ := hD
  exact ⟨G', cur', congrArg Ending.returned e1, hr⟩
def insBook_ins : Ins := ⟨111, (.st (.int .u64) (.st (.st (.int .i64) (.st (.int .i64) (.st (.int .i64) .nil))) (.st (.int .i64) .nil))), 40⟩
theorem insBook_ok : InsOK Try.prog 126 insBook_ins := by
  refine ⟨fun w S v vv M Mv xs ys us vs j hown hrep hown2 hrep2 hdis hM hys hj hroom => ?_⟩
  have hul : us.length = xs.length * 5 := hrep.length (Rep.slen insBook_ins.e)
  have hvl : vs.length = ys.length * 5 := hrep2.length (Rep.slen insBook_ins.e)
  have h1u : ∀ u ∈ us, u.oneCell' = true := RepL.all (fun x c hx => Rep.one insBook_ins.e hx) hrep
  have h1v : ∀ u ∈ vs, u.oneCell' = true := RepL.all (fun x c hx => Rep.one insBook_ins.e hx) hrep2
  have hsz : insBook_ins.e.size = 5 := rfl
  have hroom' : (xs.length + ys.length) * 40 ≤ 140737488355328 := hroom
  rcases hown2 with ⟨_, _, h0, _⟩ | ⟨vb, vc, vcur, rfl, rfl, hvr, hv1, hv2, hv3, hv4⟩
  · omega
  have hvh := hvr.plain (show memN 111 Ctx.bytes = false from rfl)
  have hcellv : CellsAt w ⟨vb, 0, none⟩ vs := by
    have := CellsAt.take (hvr.blk 0) (ys.length * 5)
    rw [List.drop_zero] at this
    rw [hsz] at hv4
    rw [hv4] at this
    exact this
  have hne : ys ≠ [] → ∃ ad, (some (⟨vb, 0, none⟩ : Addr)) = some ad ∧ CellsAt w ad vs := fun _ => ⟨_, rfl, hcellv⟩
  obtain ⟨i0, z0, hi0, hz0, hzs, hzb, hzc⟩ := insZero
  have happ : ∃ v' w' M', (∀ ty, (Builtin.append_ #[103, 103] ty #[v, .slice (some ⟨vb, 0, none⟩) ys.length vc]).run Try.prog w = .ok v' w') ∧ OwnR w' 111 5 v' M' (xs.length + ys.length) (us ++ vs) ∧ Chg M w w' ∧ (M' = M ∨ M' = [w.heap.size] ∧ w.heap.size < w'.heap.size) := by
    have key := fun ty => append_run (P := Try.prog) (S := S) (t := 103) (ty := ty) (τ := insBook_ins.e) (ys := ys) Try.underlying103 hi0 hz0 hzs hzc hown hul hrep2 (cap := vc) hne (by rw [hzb]; exact hroom') (by omega)
    obtain ⟨v', w', M', h1, h2⟩ := key 0
    refine ⟨v', w', M', fun ty => ?_, h2⟩
    obtain ⟨v2, w2, M2, h3, _⟩ := key ty
    have : (Builtin.append_ #[103, 103] ty #[v, .slice (some ⟨vb, 0, none⟩) ys.length vc]) = (Builtin.append_ #[103, 103] 0 #[v, .slice (some ⟨vb, 0, none⟩) ys.length vc]) := rfl
    rw [this]
    exact h1
  by_cases hjn : j = xs.length
  · subst hjn
    obtain ⟨v', w', M', hrun, hown', hch, hM'⟩ := happ
    have hlist : us.take (xs.length * insBook_ins.e.size) ++ (vs ++ us.drop (xs.length * insBook_ins.e.size)) = us ++ vs := by
      rw [hsz, List.take_of_length_le (by omega), List.drop_of_length_le (by omega), List.append_nil]
    rcases hown with ⟨hM0, ⟨ao, rfl⟩, hn0, hu0⟩ | ⟨b, cap, cur, hM0, rfl, hh, h4, h5, h6, h7⟩
    · obtain rfl : xs = [] := List.length_eq_zero_iff.1 hn0
      refine (ins_end ao 0 0 vb ys.length vc w w' v' hys (by omega) (by omega) (fun _ => rfl) hrun).mono ?_
      rintro e w2 ⟨rfl, rfl⟩
      exact ⟨v', M', rfl, hch, hM', by rw [hlist]; exact hown'⟩
    · refine (ins_end (some ⟨b, 0, none⟩) xs.length cap vb ys.length vc w w' v' hys h4 (by unfold maxLen at h5; omega) (fun h => by cases h) hrun).mono ?_
      rintro e w2 ⟨rfl, rfl⟩
      exact ⟨v', M', rfl, hch, hM', by rw [hlist]; exact hown'⟩
  · have hjl : j < xs.length := by omega
    rcases hown with ⟨_, _, hn0, _⟩ | ⟨b, cap, cur, hM0, rfl, hh, h4, h5, h6, h7⟩
    · omega
    have hbh := hh.plain (show memN 111 Ctx.bytes = false from rfl)
    have hvb : vb ≠ b := fun e => hdis b (by simp [hM0]) (by simp [e])
    have hc63 : cap ≤ 9223372036854775807 := by unfold maxLen at h5; omega
    by_cases hfit : xs.length + ys.length ≤ cap
    · refine (ins_shift b xs.length cap j vb ys.length vc us vs cur vcur w hjl hys hfit hc63 hvb hbh h6 hul h7 hvh hvl hv4 h1u h1v).mono ?_
      rintro e w2 ⟨rfl, cur', rfl, hs, ht⟩
      refine ⟨_, M, rfl, ?_, .inl rfl, .inr ⟨b, cap, cur', hM0, rfl, ?_, hfit, h5, hs, ht⟩⟩
      · rw [hM0]
        have h1 : Go.Eng.Chg [b] w w.drew := (Chg.drewN w 1).mono (by simp)
        have h2 : Go.Eng.Chg [b] w.drew (w.drew.setRow b cur') := setRow_chg
        exact ⟨h2.os.trans h1.os, h2.tape.trans h1.tape, h2.output.trans h1.output, Nat.le_trans h1.size h2.size, fun k hk hn => (h2.block k (Nat.lt_of_lt_of_le hk h1.size) hn).trans (h1.block k hk hn), fun e => Nat.le_trans (h1.drawn e) (h2.drawn e)⟩
      · exact Row.of (setRow_heap w.drew b cur cur' 111 (0, 0) hbh)
    · refine (ins_grow b xs.length cap j vb ys.length vc us vs cur vcur w hjl hys h4 (by omega) hc63 hroom' hbh h6 hul h7 hvh hvl hv4 h1u h1v).mono ?_
      rintro e w2 ⟨G, cur', rfl, hG1, hG2, hch, hheap, hs, ht⟩
      exact ⟨_, [w.heap.size], rfl, hch.mono (by simp), .inr ⟨rfl, (Array.getElem?_eq_some_iff.1 hheap).1⟩, .inr ⟨w.heap.size, G, cur', rfl, rfl, Row.of hheap, hG1, hG2, hs, ht⟩⟩
end Go.Proofs.Ytfppnefcicdnfaa
