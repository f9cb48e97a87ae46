/- Several texts in one: What the contracts of this program share. No condition of its own.; Contracts: MSort. No condition of its own.; Contracts of functions of Go's library. No condition of its own. -/
import Derived.Test.YtocnfflklfeocaaGreatProg
import Derived.Test.YtocnfflklfeocaaGreatMAD
import Derived.Test.YtocnfflklfeocaaGreatMAE
import Derived.Shelf.Strings.OnBuilder
import Derived.Shelf.Small.Strs
import Derived.Shelf.Strings.Builder1
namespace Go.Proofs.YtocnfflklfeocaaGreat
theorem mixed : Tryz.prog.follows .mixedOrders = true := by kernel_rfl
end Go.Proofs.YtocnfflklfeocaaGreat
namespace Go.Proofs.YtocnfflklfeocaaGreat
open Go.Den
set_option linter.unusedVariables false
set_option maxRecDepth 100000
def cmpIsNaN_int_ann : Ann := .nil
noncomputable def cmpIsNaN_int_con : Con := ⟨[(.int .i64)], true, [], .bool, fun x => cmpIsNaN_int_o x.1, some fun x => cmpIsNaN_int x.1⟩
noncomputable def cmpIsNaN_int_env : Env := []
theorem cmpIsNaN_int_den (x : DL cmpIsNaN_int_con.ps) : cmpIsNaN_int_con.φ x = denF (CT := ctxUp) Tryz.prog cmpIsNaN_int_env cmpIsNaN_int_ann Tryz.f123 cmpIsNaN_int_con.ps cmpIsNaN_int_con.one cmpIsNaN_int_con.res cmpIsNaN_int_con.ρ x := by kernel_rfl
theorem cmpIsNaN_int_ok : ConOK (CT := ctxUp) Tryz.prog 123 cmpIsNaN_int_con :=
  con_of_den (CT := ctxUp) (env := cmpIsNaN_int_env) ((EnvOK.nil (CT := ctxUp) _)) mixed Tryz.func123 cmpIsNaN_int_con cmpIsNaN_int_ann (by kernel_rfl) (fun h => by first | rfl | cases h) (fun g hg x => by
    cases hg
    exact cmpIsNaN_int_eq _) cmpIsNaN_int_den
def cmpCompare_int_ann : Ann := .nil
noncomputable def cmpCompare_int_con : Con := ⟨[(.int .i64), (.int .i64)], true, [], (.int .i64), fun x => cmpCompare_int_o x.1 x.2.1, some fun x => cmpCompare_int x.1 x.2.1⟩
noncomputable def cmpCompare_int_env : Env := (123, .con cmpIsNaN_int_con) :: []
theorem cmpCompare_int_den (x : DL cmpCompare_int_con.ps) : cmpCompare_int_con.φ x = denF (CT := ctxUp) Tryz.prog cmpCompare_int_env cmpCompare_int_ann Tryz.f90 cmpCompare_int_con.ps cmpCompare_int_con.one cmpCompare_int_con.res cmpCompare_int_con.ρ x := by kernel_rfl
theorem cmpCompare_int_ok : ConOK (CT := ctxUp) Tryz.prog 90 cmpCompare_int_con :=
  con_of_den (CT := ctxUp) (env := cmpCompare_int_env) ((EnvOK.cons (CT := ctxUp) (EnvOK.nil (CT := ctxUp) _) cmpIsNaN_int_ok)) mixed Tryz.func90 cmpCompare_int_con cmpCompare_int_ann (by kernel_rfl) (fun h => by first | rfl | cases h) (fun g hg x => by
    cases hg
    exact cmpCompare_int_eq _ _) cmpCompare_int_den
def cmpOr_int_ann : Ann := (.two .nil (.two .nil (.two (.two .nil (.joinE ⟨[3], [], []⟩ (.two (.loop ⟨[3, 6, 7], [(8, (.int .i64))], []⟩ .nil) .nil))) .nil)))
noncomputable def cmpOr_int_con : Con := ⟨[(.sl (.int .i64))], true, [], (.int .i64), fun x => cmpOr_int x.1, none⟩
noncomputable def cmpOr_int_env : Env := []
theorem cmpOr_int_den (x : DL cmpOr_int_con.ps) : cmpOr_int_con.φ x = denF (CT := ctxUp) Tryz.prog cmpOr_int_env cmpOr_int_ann Tryz.f88 cmpOr_int_con.ps cmpOr_int_con.one cmpOr_int_con.res cmpOr_int_con.ρ x := by kernel_rfl
theorem cmpOr_int_ok : ConOK (CT := ctxUp) Tryz.prog 88 cmpOr_int_con :=
  con_of_den (CT := ctxUp) (env := cmpOr_int_env) ((EnvOK.nil (CT := ctxUp) _)) mixed Tryz.func88 cmpOr_int_con cmpOr_int_ann (by kernel_rfl) (fun h => by first | rfl | cases h) (fun g hg => by cases hg) cmpOr_int_den
def movesCmp_ann : Ann := (.two .nil (.two (.tail 15 .nil) .nil))
noncomputable def movesCmp_con : Con := ⟨[(.st (.int .i64) (.st (.int .i64) (.st (.int .i64) .nil))), (.st (.int .i64) (.st (.int .i64) (.st (.int .i64) .nil)))], true, [], (.int .i64), fun x => movesCmp x.1 x.2.1, none⟩
noncomputable def movesCmp_env : Env := (88, .con cmpOr_int_con) :: (90, .con cmpCompare_int_con) :: []
theorem movesCmp_den (x : DL movesCmp_con.ps) : movesCmp_con.φ x = denF (CT := ctxUp) Tryz.prog movesCmp_env movesCmp_ann Tryz.f129 movesCmp_con.ps movesCmp_con.one movesCmp_con.res movesCmp_con.ρ x := by kernel_rfl
theorem movesCmp_ok : ConOK (CT := ctxUp) Tryz.prog 129 movesCmp_con :=
  con_of_den (CT := ctxUp) (env := movesCmp_env) ((EnvOK.cons (CT := ctxUp) (EnvOK.cons (CT := ctxUp) (EnvOK.nil (CT := ctxUp) _) cmpCompare_int_ok) cmpOr_int_ok)) mixed Tryz.func129 movesCmp_con movesCmp_ann (by kernel_rfl) (fun h => by first | rfl | cases h) (fun g hg => by cases hg) movesCmp_den
def msort_ren : Go.Shelf.Ren := ⟨fun | 6 => 128 | 15 => 155 | 14 => 154 | 28 => 173 | 29 => 174 | 20 => 165 | 21 => 166 | 22 => 167 | 23 => 168 | 24 => 169 | 25 => 170 | 26 => 171 | 27 => 172 | 46 => 181 | 47 => 182 | 48 => 183 | 49 => 184 | 50 => 185 | 57 => 191 | n => n, fun | 22 => 41 | 24 => 45 | 25 => 202 | 3 => 3 | 39 => 157 | 0 => 0 | 53 => 241 | 55 => 67 | 4 => 4 | 46 => 235 | 45 => 234 | 50 => 107 | 5 => 5 | 9 => 9 | 66 => 248 | 70 => 252 | 76 => 255 | 77 => 256 | n => n, fun | n => n⟩
theorem msort_lay : SlLaysF0.n6 Tryz.prog msort_ren where
  mixed := by kernel_rfl
  f6 := ⟨Tryz.f128.name, by decide, Tryz.func128.trans (congrArg some (by kernel_rfl))⟩
  f14 := ⟨Tryz.f154.name, by decide, Tryz.func154.trans (congrArg some (by kernel_rfl))⟩
  f15 := Tryz.func155.trans (congrArg some (by kernel_rfl))
  f20 := ⟨Tryz.f165.name, by decide, Tryz.func165.trans (congrArg some (by kernel_rfl))⟩
  f21 := ⟨Tryz.f166.name, by decide, Tryz.func166.trans (congrArg some (by kernel_rfl))⟩
  f22 := ⟨Tryz.f167.name, by decide, Tryz.func167.trans (congrArg some (by kernel_rfl))⟩
  f23 := ⟨Tryz.f168.name, by decide, Tryz.func168.trans (congrArg some (by kernel_rfl))⟩
  f24 := ⟨Tryz.f169.name, by decide, Tryz.func169.trans (congrArg some (by kernel_rfl))⟩
  f25 := ⟨Tryz.f170.name, by decide, Tryz.func170.trans (congrArg some (by kernel_rfl))⟩
  f26 := ⟨Tryz.f171.name, by decide, Tryz.func171.trans (congrArg some (by kernel_rfl))⟩
  f27 := ⟨Tryz.f172.name, by decide, Tryz.func172.trans (congrArg some (by kernel_rfl))⟩
  f28 := Tryz.func173.trans (congrArg some (by kernel_rfl))
  f29 := Tryz.func174.trans (congrArg some (by kernel_rfl))
  f46 := ⟨Tryz.f181.name, by decide, Tryz.func181.trans (congrArg some (by kernel_rfl))⟩
  f47 := Tryz.func182.trans (congrArg some (by kernel_rfl))
  f48 := Tryz.func183.trans (congrArg some (by kernel_rfl))
  f49 := ⟨Tryz.f184.name, by decide, Tryz.func184.trans (congrArg some (by kernel_rfl))⟩
  f50 := ⟨Tryz.f185.name, by decide, Tryz.func185.trans (congrArg some (by kernel_rfl))⟩
  f57 := ⟨Tryz.f191.name, by decide, Tryz.func191.trans (congrArg some (by kernel_rfl))⟩
  t0 := Tryz.underlying0
  a0 := Tryz.isAgg0
  z0 := Tryz.sizeOf0
  v0 := Tryz.zeroValue0
  t3 := Tryz.underlying3
  a3 := Tryz.isAgg3
  z3 := Tryz.sizeOf3
  v3 := Tryz.zeroValue3
  t4 := Tryz.underlying4
  a4 := Tryz.isAgg4
  z4 := Tryz.sizeOf4
  v4 := Tryz.zeroValue4
  t5 := Tryz.underlying5
  a5 := Tryz.isAgg5
  z5 := Tryz.sizeOf5
  v5 := Tryz.zeroValue5
  t9 := Tryz.underlying9
  a9 := Tryz.isAgg9
  z9 := Tryz.sizeOf9
  v9 := Tryz.zeroValue9
  t22 := Tryz.underlying41
  a22 := Tryz.isAgg41
  z22 := Tryz.sizeOf41
  v22 := Tryz.zeroValue41
  t25 := Tryz.underlying202
  a25 := Tryz.isAgg202
  z25 := Tryz.sizeOf202
  v25 := Tryz.zeroValue202
  t39 := Tryz.underlying157
  a39 := Tryz.isAgg157
  z39 := Tryz.sizeOf157
  v39 := Tryz.zeroValue157
  t45 := Tryz.underlying234
  a45 := Tryz.isAgg234
  z45 := Tryz.sizeOf234
  v45 := Tryz.zeroValue234
  t46 := Tryz.underlying235
  a46 := Tryz.isAgg235
  z46 := Tryz.sizeOf235
  v46 := Tryz.zeroValue235
  t50 := Tryz.underlying107
  a50 := Tryz.isAgg107
  z50 := Tryz.sizeOf107
  v50 := Tryz.zeroValue107
  t53 := Tryz.underlying241
  a53 := Tryz.isAgg241
  z53 := Tryz.sizeOf241
  v53 := Tryz.zeroValue241
  t55 := Tryz.underlying67
  a55 := Tryz.isAgg67
  z55 := Tryz.sizeOf67
  v55 := Tryz.zeroValue67
  t66 := Tryz.underlying248
  a66 := Tryz.isAgg248
  z66 := Tryz.sizeOf248
  v66 := Tryz.zeroValue248
  t70 := Tryz.underlying252
  a70 := Tryz.isAgg252
  z70 := Tryz.sizeOf252
  v70 := Tryz.zeroValue252
  t76 := Tryz.underlying255
  a76 := Tryz.isAgg255
  z76 := Tryz.sizeOf255
  v76 := Tryz.zeroValue255
  t77 := Tryz.underlying256
  a77 := Tryz.isAgg256
  z77 := Tryz.sizeOf256
  v77 := Tryz.zeroValue256
open Go.Sort Go.Lib in
section
def cmp3 (a b : Int) : Int := if a < b then -1 else if b < a then 1 else 0
theorem cmp3_eq (a b : Int) : cmpCompare_int a b = cmp3 a b := by
  unfold cmpCompare_int cmpIsNaN_int cmp3
  by_cases h : a < b
  · simp [h]
  · by_cases h2 : b < a <;> simp [h, h2]
theorem cmpOr_spec (a b c : Int) : cmpOr_int [a, b, c] = some (if a = 0 then if b = 0 then c else b else a) := by
  unfold cmpOr_int
  by_cases ha : a = 0
  · subst ha
    rw [iterW_inl (y := ((1, ()), ())) (by simp [cmpOr_int_L1, at?, w64_id])]
    by_cases hb : b = 0
    · subst hb
      rw [iterW_inl (y := ((2, ()), ())) (by simp [cmpOr_int_L1, at?, w64_id])]
      by_cases hc : c = 0
      · subst hc
        rw [iterW_inl (y := ((3, ()), ())) (by simp [cmpOr_int_L1, at?, w64_id])]
        rw [iterW_inr (r := .inl ((), ())) (by simp [cmpOr_int_L1])]
        rfl
      · rw [iterW_inr (r := .inr c) (by simp [cmpOr_int_L1, at?, bne_t hc])]
        simp
    · rw [iterW_inr (r := .inr b) (by simp [cmpOr_int_L1, at?, bne_t hb])]
      simp [hb]
  · rw [iterW_inr (r := .inr a) (by simp [cmpOr_int_L1, at?, bne_t ha])]
    simp [ha]
def mvCf (x y : Mv) : Int := if cmp3 x.1 y.1 = 0 then if cmp3 x.2.1 y.2.1 = 0 then cmp3 x.2.2.1 y.2.2.1 else cmp3 x.2.1 y.2.1 else cmp3 x.1 y.1
theorem movesCmp_spec (x y : Mv) : movesCmp x y = some (mvCf x y) := by
  unfold movesCmp mvCf
  rw [cmp3_eq, cmp3_eq, cmp3_eq, cmpOr_spec]
  rfl
theorem cmp3_0 (a b : Int) : cmp3 a b = 0 ↔ a = b := by
  unfold cmp3
  split
  · constructor <;> intro h <;> omega
  · split <;> constructor <;> intro h <;> omega
theorem cmp3_lt (a b : Int) : cmp3 a b < 0 ↔ a < b := by
  unfold cmp3
  split
  · constructor <;> intro h <;> omega
  · split <;> constructor <;> intro h <;> omega
theorem mvCf_lt : ltOf mvCf = mvLt := by
  funext x y
  unfold ltOf mvCf mvLt
  by_cases h1 : x.1 = y.1
  · by_cases h2 : x.2.1 = y.2.1
    · simp [h1, h2, (cmp3_0 y.1 y.1).2 rfl, (cmp3_0 y.2.1 y.2.1).2 rfl, cmp3_lt]
    · have : ¬ cmp3 x.2.1 y.2.1 = 0 := fun h => h2 ((cmp3_0 _ _).1 h)
      simp [h1, h2, (cmp3_0 y.1 y.1).2 rfl, this, cmp3_lt]
  · have : ¬ cmp3 x.1 y.1 = 0 := fun h => h1 ((cmp3_0 _ _).1 h)
    simp [h1, this, cmp3_lt]
theorem mvLt_iff (x y : Mv) : mvLt x y = true ↔ x.1 < y.1 ∨ x.1 = y.1 ∧ (x.2.1 < y.2.1 ∨ x.2.1 = y.2.1 ∧ x.2.2.1 < y.2.2.1) := by simp [mvLt]
theorem mvLt_f (x y : Mv) : mvLt x y = false ↔ ¬ (x.1 < y.1 ∨ x.1 = y.1 ∧ (x.2.1 < y.2.1 ∨ x.2.1 = y.2.1 ∧ x.2.2.1 < y.2.2.1)) := by rw [← mvLt_iff, Bool.not_eq_true]
theorem mv_swo : SWO mvLt where
  irrefl x := by rw [mvLt_f]; omega
  trans x y z h1 h2 := by rw [mvLt_iff] at *; omega
  ntrans x y z h1 h2 := by rw [mvLt_f] at *; omega
theorem mv_tot (x y : Mv) (h1 : mvLt x y = false) (h2 : mvLt y x = false) : x = y := by
  rw [mvLt_f] at h1 h2
  obtain ⟨a, b, c, ⟨⟩⟩ := x
  obtain ⟨a', b', c', ⟨⟩⟩ := y
  simp only at h1 h2
  have e1 : a = a' := by omega
  subst e1
  have e2 : b = b' := by omega
  subst e2
  have e3 : c = c' := by omega
  subst e3
  rfl
def sortMoves_srt : Srt := ⟨45, (.st (.int .i64) (.st (.int .i64) (.st (.int .i64) .nil))), some 129, sortMoves⟩
theorem sortMoves_ok : SrtOK Tryz.prog 128 sortMoves_srt := by
  have h := srt_structs (ρ := msort_ren) (g := 129) (f := 128) (τ := (.st (.int .i64) (.st (.int .i64) (.st (.int .i64) .nil)))) (i := 45) msort_lay rfl rfl rfl rfl Tryz.isAgg45 Tryz.sizeOf45 movesCmp_ok mvCf (fun x y => movesCmp_spec x y) (show SWO (ltOf mvCf) from mvCf_lt ▸ mv_swo) (fun x y h1 h2 => mv_tot x y (by rw [← mvCf_lt]; exact h1) (by rw [← mvCf_lt]; exact h2)) (enters_of Tryz.func129 (by kernel_rfl) rfl)
  have e : (fun xs : List Mv => xs.mergeSort fun x y => !(ltOf mvCf) y x) = sortMoves := by rw [mvCf_lt]; rfl
  have : sortMoves_srt = ⟨45, (.st (.int .i64) (.st (.int .i64) (.st (.int .i64) .nil))), some 129, fun xs : List Mv => xs.mergeSort fun x y => !(ltOf mvCf) y x⟩ := by rw [e]; rfl
  rw [this]
  exact h
end
end Go.Proofs.YtocnfflklfeocaaGreat
namespace Go.Proofs.YtocnfflklfeocaaGreat
open Go.Den
set_option linter.unusedVariables false
set_option linter.unusedSimpArgs false
set_option maxRecDepth 100000
theorem chg_below {w w' : World} (hd : Go.Den.Ctx.drawsUp = false) (h : Go.RowKit.Below w.heap.size w w') : Go.Eng.Chg [] w w' :=
  ⟨h.os, h.tape, h.output, h.size, fun k hk _ => h.block k hk, fun e => by rw [hd] at e; cases e⟩
theorem cond_inv {α : Type} {c : Bool} {x r : α} (h : (bif c then some x else none) = some r) : c = true ∧ x = r := by cases c <;> simp_all
theorem str_cells {w : World} {S : Nat → Prop} : ∀ {l : List ByteArray} {us : List Value}, RepL (fun (x : D .str) c => Rep w S .str x [] c) l us → us = l.map Value.string
  | [], us, h => h
  | n :: ns, us, ⟨c, r, h1, h2, h3⟩ => by
    subst h1
    rw [h2.2, str_cells h3]
    rfl
theorem str_repL {w : World} {S : Nat → Prop} : ∀ l : List ByteArray, RepL (fun (x : D .str) c => Rep w S .str x [] c) l (l.map Value.string)
  | [] => rfl
  | s :: l => ⟨[.string s], _, rfl, ⟨rfl, rfl⟩, str_repL l⟩
theorem open_int {S : Nat → Prop} {w : World} {g : Nat} (hT : TabR S w) (hg : (g, false) ∈ Ctx.opens) : ∃ m, w.cell? ⟨g, 0, none⟩ = some (.int .i64 m) := by
  obtain ⟨_, v, T, fz, hh, hv⟩ := hT.opn g false hg
  rw [if_neg (by decide)] at hv
  obtain ⟨m, rfl⟩ := hv
  exact ⟨m, by simp [World.cell?, hh]⟩

def join_ren : Go.Shelf.Ren := ⟨fun | 156 => 96 | 165 => 135 | 166 => 94 | 169 => 99 | 240 => 132 | 241 => 158 | 276 => 156 | 277 => 178 | n => n, fun | 31 => 171 | 9 => 9 | 3 => 3 | 4 => 4 | 0 => 0 | 20 => 20 | 72 => 166 | 76 => 169 | 70 => 164 | 37 => 142 | 75 => 168 | 127 => 206 | 164 => 224 | 5 => 5 | 80 => 179 | n => n, fun | n => n⟩
open Go.Shelf in
theorem join_lay : Go.Proofs.Lays.n156 Tryz.prog join_ren where
  mixed := by kernel_rfl
  f156 := Tryz.func96.trans (congrArg some (by kernel_rfl))
  f165 := Tryz.func135.trans (congrArg some (by kernel_rfl))
  f166 := Tryz.func94.trans (congrArg some (by kernel_rfl))
  f169 := Tryz.func99.trans (congrArg some (by kernel_rfl))
  f240 := Tryz.func132.trans (congrArg some (by kernel_rfl))
  f241 := Tryz.func158.trans (congrArg some (by kernel_rfl))
  f276 := Tryz.func156.trans (congrArg some (by kernel_rfl))
  f277 := Tryz.func178.trans (congrArg some (by kernel_rfl))
  t0 := Tryz.underlying0
  a0 := Tryz.isAgg0
  z0 := Tryz.sizeOf0
  v0 := Tryz.zeroValue0
  t3 := Tryz.underlying3
  a3 := Tryz.isAgg3
  z3 := Tryz.sizeOf3
  v3 := Tryz.zeroValue3
  t4 := Tryz.underlying4
  a4 := Tryz.isAgg4
  z4 := Tryz.sizeOf4
  v4 := Tryz.zeroValue4
  t9 := Tryz.underlying9
  a9 := Tryz.isAgg9
  z9 := Tryz.sizeOf9
  v9 := Tryz.zeroValue9
  t20 := Tryz.underlying20
  a20 := Tryz.isAgg20
  z20 := Tryz.sizeOf20
  v20 := Tryz.zeroValue20
  t31 := Tryz.underlying171
  a31 := Tryz.isAgg171
  z31 := Tryz.sizeOf171
  v31 := Tryz.zeroValue171
  t37 := Tryz.underlying142
  a37 := Tryz.isAgg142
  z37 := Tryz.sizeOf142
  v37 := Tryz.zeroValue142
  t70 := Tryz.underlying164
  a70 := Tryz.isAgg164
  z70 := Tryz.sizeOf164
  v70 := Tryz.zeroValue164
  t72 := Tryz.underlying166
  a72 := Tryz.isAgg166
  z72 := Tryz.sizeOf166
  v72 := Tryz.zeroValue166
  t75 := Tryz.underlying168
  a75 := Tryz.isAgg168
  z75 := Tryz.sizeOf168
  v75 := Tryz.zeroValue168
  t76 := Tryz.underlying169
  a76 := Tryz.isAgg169
  z76 := Tryz.sizeOf169
  v76 := Tryz.zeroValue169
  t127 := Tryz.underlying206
  a127 := Tryz.isAgg206
  z127 := Tryz.sizeOf206
  v127 := Tryz.zeroValue206
  t164 := Tryz.underlying224
  a164 := Tryz.isAgg224
  z164 := Tryz.sizeOf224
  v164 := Tryz.zeroValue224
theorem join_extra : Go.Proofs.Builder.Extra Tryz.prog join_ren where
  sizeBuilder := by kernel_rfl
  liesBuilder := by kernel_rfl
  t5 := Tryz.underlying5
  a5 := Tryz.isAgg5
  z5 := Tryz.sizeOf5
  v5 := Tryz.zeroValue5
  infoByte := by kernel_rfl
  cellsByte := by kernel_rfl
  sizeByte := by kernel_rfl
  neB5 := by decide
/-- strings.Join -/
noncomputable def joinS_con : Con := ⟨[.sl .str, .str], true, [], .str, fun x => joinS x.1 x.2.1, none⟩
theorem joinS_ok : ConOK Tryz.prog 96 joinS_con := by
  refine ⟨rfl, fun h => (by cases h), fun g h => (by cases h), fun w S args x r hS hT ha hr => ?_⟩
  obtain ⟨l, sep, ⟨⟩⟩ := x
  obtain ⟨v, q, e1, ⟨cs, ⟨_, ao, cap, us, rfl, hcap, hrep, hne⟩, rfl⟩, v2, q2, rfl, ⟨cs2, ⟨_, rfl⟩, rfl⟩, h2⟩ := ha
  obtain rfl : q2 = [] := h2
  obtain rfl : args = #[.slice ao l.length cap, .string sep] := by rw [← Array.toList_inj, e1]; rfl
  have hr : joinS l sep = some r := hr
  obtain ⟨hb, rfl⟩ := cond_inv hr
  · simp only [Bool.and_eq_true] at hb
    have h3 := Nat.le_of_ble_eq_true hb.1
    have h4 := Nat.le_of_ble_eq_true hb.2
    have hus := str_cells hrep
    subst hus
    have fin : ∀ w', Go.Eng.Chg [] w w' → ∃ v, Ending.returned (.string ⟨(Go.Lib.join (l.map (·.data.toList)) sep.data.toList).toArray⟩) = Ending.returned v ∧ Go.Eng.Chg [] w w' ∧ ResR w w' S joinS_con (⟨(Go.Lib.join (l.map (·.data.toList)) sep.data.toList).toArray⟩ : ByteArray) v :=
      fun w' hc => ⟨_, rfl, hc, [], [.string ⟨(Go.Lib.join (l.map (·.data.toList)) sep.data.toList).toArray⟩], List.nodup_nil, (by simp), ⟨rfl, rfl⟩, rfl⟩
    by_cases h0 : l = []
    · subst h0
      refine (Any.strings_Join_none (P := Tryz.prog) (ρ := join_ren) join_lay join_extra ao cap sep w).mono ?_
      rintro e w' ⟨rfl, rfl⟩
      exact fin _ (Go.Eng.Chg.refl _ _)
    · obtain ⟨a, rfl, ha, hcells⟩ := hne h0
      obtain ⟨bk, o, spot⟩ := a
      have hsp : spot = none := by
        cases l with
        | nil => exact absurd rfl h0
        | cons x l' =>
          have := hcells 0 (.string x) rfl
          cases spot with
          | none => rfl
          | some s => exact absurd this (by simp [Addr.add, World.cell?]; split <;> simp)
      subst hsp
      refine (Any.strings_Join (P := Tryz.prog) (ρ := join_ren) join_lay join_extra bk o cap l sep w (fun j x hj => by
        have := hcells j (.string x) ((List.getElem?_map (f := Value.string) (l := (l : List ByteArray)) (i := j)).trans (congrArg (Option.map Value.string) hj))
        rwa [Go.Eng.adr_add] at this) (hS bk ha) h3 hcap h4).mono ?_
      rintro e w' ⟨rfl, hb⟩
      exact fin _ (chg_below rfl hb)

def ixb_ren : Go.Shelf.Ren := ⟨fun | 137 => 139 | 217 => 160 | 266 => 179 | n => n, fun | 9 => 9 | 5 => 5 | 3 => 3 | n => n, fun | n => n⟩
open Go.Shelf in
theorem ixb_lay : Go.Proofs.Lays.n137 Tryz.prog ixb_ren where
  mixed := by kernel_rfl
  f137 := Tryz.func139.trans (congrArg some (by kernel_rfl))
  f217 := Tryz.func160.trans (congrArg some (by kernel_rfl))
  f266 := Tryz.func179.trans (congrArg some (by kernel_rfl))
  t3 := Tryz.underlying3
  a3 := Tryz.isAgg3
  z3 := Tryz.sizeOf3
  v3 := Tryz.zeroValue3
  t5 := Tryz.underlying5
  a5 := Tryz.isAgg5
  z5 := Tryz.sizeOf5
  v5 := Tryz.zeroValue5
  t9 := Tryz.underlying9
  a9 := Tryz.isAgg9
  z9 := Tryz.sizeOf9
  v9 := Tryz.zeroValue9
/-- strings.IndexByte -/
noncomputable def indexByteS_con : Con := ⟨[.str, .int .u8], true, [], .int .i64, fun x => some (indexByteS x.1 x.2.1), some fun x => indexByteS x.1 x.2.1⟩
theorem indexByteS_ok : ConOK Tryz.prog 139 indexByteS_con := by
  refine ⟨rfl, fun h => (by cases h), fun g h x => (by cases h; rfl), fun w S args x r hS hT ha hr => ?_⟩
  obtain ⟨s, c, ⟨⟩⟩ := x
  obtain ⟨v, q, e1, ⟨cs, ⟨_, rfl⟩, rfl⟩, v2, q2, rfl, ⟨cs2, ⟨_, rfl⟩, rfl⟩, h2⟩ := ha
  obtain rfl : q2 = [] := h2
  obtain rfl : args = #[.string s, .int .u8 c] := by rw [← Array.toList_inj, e1]; rfl
  obtain rfl : indexByteS s c = r := Option.some.inj hr
  refine (Any.strings_IndexByte (P := Tryz.prog) (ρ := ixb_ren) ixb_lay s c w).mono ?_
  rintro e w' ⟨rfl, rfl⟩
  exact ⟨_, rfl, Go.Eng.Chg.refl _ _, [], [.int .i64 _], List.nodup_nil, (by simp), ⟨rfl, rfl⟩, rfl⟩

def bck_ren : Go.Shelf.Ren := ⟨fun | 240 => 132 | 276 => 156 | n => n, fun | 0 => 0 | 4 => 4 | 5 => 5 | 9 => 9 | 20 => 20 | 37 => 142 | 70 => 164 | 72 => 166 | 164 => 224 | n => n, fun | n => n⟩
open Go.Shelf in
theorem bck_lay : Go.Proofs.Lays.n240 Tryz.prog bck_ren where
  mixed := by kernel_rfl
  f240 := Tryz.func132.trans (congrArg some (by kernel_rfl))
  f276 := Tryz.func156.trans (congrArg some (by kernel_rfl))
  t0 := Tryz.underlying0
  a0 := Tryz.isAgg0
  z0 := Tryz.sizeOf0
  v0 := Tryz.zeroValue0
  t4 := Tryz.underlying4
  a4 := Tryz.isAgg4
  z4 := Tryz.sizeOf4
  v4 := Tryz.zeroValue4
  t9 := Tryz.underlying9
  a9 := Tryz.isAgg9
  z9 := Tryz.sizeOf9
  v9 := Tryz.zeroValue9
  t20 := Tryz.underlying20
  a20 := Tryz.isAgg20
  z20 := Tryz.sizeOf20
  v20 := Tryz.zeroValue20
  t70 := Tryz.underlying164
  a70 := Tryz.isAgg164
  z70 := Tryz.sizeOf164
  v70 := Tryz.zeroValue164
  t72 := Tryz.underlying166
  a72 := Tryz.isAgg166
  z72 := Tryz.sizeOf166
  v72 := Tryz.zeroValue166
  t164 := Tryz.underlying224
  a164 := Tryz.isAgg224
  z164 := Tryz.sizeOf224
  v164 := Tryz.zeroValue224
theorem builderCheck_ok : CkOK Tryz.prog 132 166 := ck_of (P := Tryz.prog) (ρ := bck_ren) bck_lay ⟨by kernel_rfl, by kernel_rfl⟩

def bst_ren : Go.Shelf.Ren := ⟨fun | 169 => 99 | n => n, fun | 70 => 164 | 9 => 9 | 0 => 0 | 72 => 166 | 37 => 142 | 127 => 206 | 3 => 3 | 5 => 5 | n => n, fun | n => n⟩
open Go.Shelf in
theorem bst_lay : Go.Proofs.Lays.n169 Tryz.prog bst_ren where
  mixed := by kernel_rfl
  f169 := Tryz.func99.trans (congrArg some (by kernel_rfl))
  t0 := Tryz.underlying0
  a0 := Tryz.isAgg0
  z0 := Tryz.sizeOf0
  v0 := Tryz.zeroValue0
  t3 := Tryz.underlying3
  a3 := Tryz.isAgg3
  z3 := Tryz.sizeOf3
  v3 := Tryz.zeroValue3
  t9 := Tryz.underlying9
  a9 := Tryz.isAgg9
  z9 := Tryz.sizeOf9
  v9 := Tryz.zeroValue9
  t37 := Tryz.underlying142
  a37 := Tryz.isAgg142
  z37 := Tryz.sizeOf142
  v37 := Tryz.zeroValue142
  t70 := Tryz.underlying164
  a70 := Tryz.isAgg164
  z70 := Tryz.sizeOf164
  v70 := Tryz.zeroValue164
  t72 := Tryz.underlying166
  a72 := Tryz.isAgg166
  z72 := Tryz.sizeOf166
  v72 := Tryz.zeroValue166
  t127 := Tryz.underlying206
  a127 := Tryz.isAgg206
  z127 := Tryz.sizeOf206
  v127 := Tryz.zeroValue206
theorem bst_extra : Go.Proofs.Builder.Extra Tryz.prog bst_ren where
  sizeBuilder := by kernel_rfl
  liesBuilder := by kernel_rfl
  t5 := Tryz.underlying5
  a5 := Tryz.isAgg5
  z5 := Tryz.sizeOf5
  v5 := Tryz.zeroValue5
  infoByte := by kernel_rfl
  cellsByte := by kernel_rfl
  sizeByte := by kernel_rfl
  neB5 := by decide
theorem builderString_ok : BsOK Tryz.prog 99 166 5 := bs_of (P := Tryz.prog) (ρ := bst_ren) bst_lay bst_extra

end Go.Proofs.YtocnfflklfeocaaGreat
