/- Several texts in one: What the contracts of this program share. No condition of its own.; Contracts: MSort. No condition of its own.; Contracts of functions of Go's library. No condition of its own. -/
import Derived.Test.YteiohidcgimjlaaGreatDoorProg
import Derived.Test.YteiohidcgimjlaaGreatDoorMAD
import Derived.Test.YteiohidcgimjlaaGreatDoorMAE
import Derived.Shelf.Strings.OnBuilder
import Derived.Shelf.Small.Strs
import Derived.Shelf.Strings.Split
namespace Go.Proofs.YteiohidcgimjlaaGreatDoor
theorem mixed : Tryz.prog.follows .mixedOrders = true := by kernel_rfl
end Go.Proofs.YteiohidcgimjlaaGreatDoor
namespace Go.Proofs.YteiohidcgimjlaaGreatDoor
open Go.Den
set_option linter.unusedVariables false
set_option maxRecDepth 100000
def cmpIsNaN_int_ann : Ann := .nil
noncomputable def cmpIsNaN_int_con : Con := ⟨[(.int .i64)], true, [], .bool, fun x => cmpIsNaN_int_o x.1, some fun x => cmpIsNaN_int x.1⟩
noncomputable def cmpIsNaN_int_env : Env := []
theorem cmpIsNaN_int_den (x : DL cmpIsNaN_int_con.ps) : cmpIsNaN_int_con.φ x = denF (CT := ctxUp) Tryz.prog cmpIsNaN_int_env cmpIsNaN_int_ann Tryz.f112 cmpIsNaN_int_con.ps cmpIsNaN_int_con.one cmpIsNaN_int_con.res cmpIsNaN_int_con.ρ x := by kernel_rfl
theorem cmpIsNaN_int_ok : ConOK (CT := ctxUp) Tryz.prog 112 cmpIsNaN_int_con :=
  con_of_den (CT := ctxUp) (env := cmpIsNaN_int_env) ((EnvOK.nil (CT := ctxUp) _)) mixed Tryz.func112 cmpIsNaN_int_con cmpIsNaN_int_ann (by kernel_rfl) (fun h => by first | rfl | cases h) (fun g hg x => by
    cases hg
    exact cmpIsNaN_int_eq _) cmpIsNaN_int_den
def cmpCompare_int_ann : Ann := .nil
noncomputable def cmpCompare_int_con : Con := ⟨[(.int .i64), (.int .i64)], true, [], (.int .i64), fun x => cmpCompare_int_o x.1 x.2.1, some fun x => cmpCompare_int x.1 x.2.1⟩
noncomputable def cmpCompare_int_env : Env := (112, .con cmpIsNaN_int_con) :: []
theorem cmpCompare_int_den (x : DL cmpCompare_int_con.ps) : cmpCompare_int_con.φ x = denF (CT := ctxUp) Tryz.prog cmpCompare_int_env cmpCompare_int_ann Tryz.f64 cmpCompare_int_con.ps cmpCompare_int_con.one cmpCompare_int_con.res cmpCompare_int_con.ρ x := by kernel_rfl
theorem cmpCompare_int_ok : ConOK (CT := ctxUp) Tryz.prog 64 cmpCompare_int_con :=
  con_of_den (CT := ctxUp) (env := cmpCompare_int_env) ((EnvOK.cons (CT := ctxUp) (EnvOK.nil (CT := ctxUp) _) cmpIsNaN_int_ok)) mixed Tryz.func64 cmpCompare_int_con cmpCompare_int_ann (by kernel_rfl) (fun h => by first | rfl | cases h) (fun g hg x => by
    cases hg
    exact cmpCompare_int_eq _ _) cmpCompare_int_den
def cmpOr_int_ann : Ann := (.two .nil (.two .nil (.two (.two .nil (.joinE ⟨[3], [], []⟩ (.two (.loop ⟨[3, 6, 7], [(8, (.int .i64))], []⟩ .nil) .nil))) .nil)))
noncomputable def cmpOr_int_con : Con := ⟨[(.sl (.int .i64))], true, [], (.int .i64), fun x => cmpOr_int x.1, none⟩
noncomputable def cmpOr_int_env : Env := []
theorem cmpOr_int_den (x : DL cmpOr_int_con.ps) : cmpOr_int_con.φ x = denF (CT := ctxUp) Tryz.prog cmpOr_int_env cmpOr_int_ann Tryz.f63 cmpOr_int_con.ps cmpOr_int_con.one cmpOr_int_con.res cmpOr_int_con.ρ x := by kernel_rfl
theorem cmpOr_int_ok : ConOK (CT := ctxUp) Tryz.prog 63 cmpOr_int_con :=
  con_of_den (CT := ctxUp) (env := cmpOr_int_env) ((EnvOK.nil (CT := ctxUp) _)) mixed Tryz.func63 cmpOr_int_con cmpOr_int_ann (by kernel_rfl) (fun h => by first | rfl | cases h) (fun g hg => by cases hg) cmpOr_int_den
def movesCmp_ann : Ann := (.two .nil (.two (.tail 15 .nil) .nil))
noncomputable def movesCmp_con : Con := ⟨[(.st (.int .i64) (.st (.int .i64) (.st (.int .i64) .nil))), (.st (.int .i64) (.st (.int .i64) (.st (.int .i64) .nil)))], true, [], (.int .i64), fun x => movesCmp x.1 x.2.1, none⟩
noncomputable def movesCmp_env : Env := (63, .con cmpOr_int_con) :: (64, .con cmpCompare_int_con) :: []
theorem movesCmp_den (x : DL movesCmp_con.ps) : movesCmp_con.φ x = denF (CT := ctxUp) Tryz.prog movesCmp_env movesCmp_ann Tryz.f62 movesCmp_con.ps movesCmp_con.one movesCmp_con.res movesCmp_con.ρ x := by kernel_rfl
theorem movesCmp_ok : ConOK (CT := ctxUp) Tryz.prog 62 movesCmp_con :=
  con_of_den (CT := ctxUp) (env := movesCmp_env) ((EnvOK.cons (CT := ctxUp) (EnvOK.cons (CT := ctxUp) (EnvOK.nil (CT := ctxUp) _) cmpCompare_int_ok) cmpOr_int_ok)) mixed Tryz.func62 movesCmp_con movesCmp_ann (by kernel_rfl) (fun h => by first | rfl | cases h) (fun g hg => by cases hg) movesCmp_den
def msort_ren : Go.Shelf.Ren := ⟨fun | 6 => 61 | 15 => 111 | 14 => 110 | 28 => 151 | 29 => 152 | 20 => 143 | 21 => 144 | 22 => 145 | 23 => 146 | 24 => 147 | 25 => 148 | 26 => 149 | 27 => 150 | 46 => 177 | 47 => 178 | 48 => 179 | 49 => 180 | 50 => 181 | 57 => 191 | n => n, fun | 22 => 27 | 24 => 38 | 25 => 130 | 3 => 3 | 39 => 169 | 0 => 0 | 53 => 208 | 55 => 210 | 4 => 4 | 46 => 201 | 45 => 200 | 50 => 205 | 5 => 5 | 9 => 9 | 66 => 232 | 70 => 236 | 76 => 245 | 77 => 246 | n => n, fun | n => n⟩
theorem msort_lay : SlLaysF0.n6 Tryz.prog msort_ren where
  mixed := by kernel_rfl
  f6 := ⟨Tryz.f61.name, by decide, Tryz.func61.trans (congrArg some (by kernel_rfl))⟩
  f14 := ⟨Tryz.f110.name, by decide, Tryz.func110.trans (congrArg some (by kernel_rfl))⟩
  f15 := Tryz.func111.trans (congrArg some (by kernel_rfl))
  f20 := ⟨Tryz.f143.name, by decide, Tryz.func143.trans (congrArg some (by kernel_rfl))⟩
  f21 := ⟨Tryz.f144.name, by decide, Tryz.func144.trans (congrArg some (by kernel_rfl))⟩
  f22 := ⟨Tryz.f145.name, by decide, Tryz.func145.trans (congrArg some (by kernel_rfl))⟩
  f23 := ⟨Tryz.f146.name, by decide, Tryz.func146.trans (congrArg some (by kernel_rfl))⟩
  f24 := ⟨Tryz.f147.name, by decide, Tryz.func147.trans (congrArg some (by kernel_rfl))⟩
  f25 := ⟨Tryz.f148.name, by decide, Tryz.func148.trans (congrArg some (by kernel_rfl))⟩
  f26 := ⟨Tryz.f149.name, by decide, Tryz.func149.trans (congrArg some (by kernel_rfl))⟩
  f27 := ⟨Tryz.f150.name, by decide, Tryz.func150.trans (congrArg some (by kernel_rfl))⟩
  f28 := Tryz.func151.trans (congrArg some (by kernel_rfl))
  f29 := Tryz.func152.trans (congrArg some (by kernel_rfl))
  f46 := ⟨Tryz.f177.name, by decide, Tryz.func177.trans (congrArg some (by kernel_rfl))⟩
  f47 := Tryz.func178.trans (congrArg some (by kernel_rfl))
  f48 := Tryz.func179.trans (congrArg some (by kernel_rfl))
  f49 := ⟨Tryz.f180.name, by decide, Tryz.func180.trans (congrArg some (by kernel_rfl))⟩
  f50 := ⟨Tryz.f181.name, by decide, Tryz.func181.trans (congrArg some (by kernel_rfl))⟩
  f57 := ⟨Tryz.f191.name, by decide, Tryz.func191.trans (congrArg some (by kernel_rfl))⟩
  t0 := Tryz.underlying0
  a0 := Tryz.isAgg0
  z0 := Tryz.sizeOf0
  v0 := Tryz.zeroValue0
  t3 := Tryz.underlying3
  a3 := Tryz.isAgg3
  z3 := Tryz.sizeOf3
  v3 := Tryz.zeroValue3
  t4 := Tryz.underlying4
  a4 := Tryz.isAgg4
  z4 := Tryz.sizeOf4
  v4 := Tryz.zeroValue4
  t5 := Tryz.underlying5
  a5 := Tryz.isAgg5
  z5 := Tryz.sizeOf5
  v5 := Tryz.zeroValue5
  t9 := Tryz.underlying9
  a9 := Tryz.isAgg9
  z9 := Tryz.sizeOf9
  v9 := Tryz.zeroValue9
  t22 := Tryz.underlying27
  a22 := Tryz.isAgg27
  z22 := Tryz.sizeOf27
  v22 := Tryz.zeroValue27
  t25 := Tryz.underlying130
  a25 := Tryz.isAgg130
  z25 := Tryz.sizeOf130
  v25 := Tryz.zeroValue130
  t39 := Tryz.underlying169
  a39 := Tryz.isAgg169
  z39 := Tryz.sizeOf169
  v39 := Tryz.zeroValue169
  t45 := Tryz.underlying200
  a45 := Tryz.isAgg200
  z45 := Tryz.sizeOf200
  v45 := Tryz.zeroValue200
  t46 := Tryz.underlying201
  a46 := Tryz.isAgg201
  z46 := Tryz.sizeOf201
  v46 := Tryz.zeroValue201
  t50 := Tryz.underlying205
  a50 := Tryz.isAgg205
  z50 := Tryz.sizeOf205
  v50 := Tryz.zeroValue205
  t53 := Tryz.underlying208
  a53 := Tryz.isAgg208
  z53 := Tryz.sizeOf208
  v53 := Tryz.zeroValue208
  t55 := Tryz.underlying210
  a55 := Tryz.isAgg210
  z55 := Tryz.sizeOf210
  v55 := Tryz.zeroValue210
  t66 := Tryz.underlying232
  a66 := Tryz.isAgg232
  z66 := Tryz.sizeOf232
  v66 := Tryz.zeroValue232
  t70 := Tryz.underlying236
  a70 := Tryz.isAgg236
  z70 := Tryz.sizeOf236
  v70 := Tryz.zeroValue236
  t76 := Tryz.underlying245
  a76 := Tryz.isAgg245
  z76 := Tryz.sizeOf245
  v76 := Tryz.zeroValue245
  t77 := Tryz.underlying246
  a77 := Tryz.isAgg246
  z77 := Tryz.sizeOf246
  v77 := Tryz.zeroValue246
open Go.Sort Go.Lib in
section
def cmp3 (a b : Int) : Int := if a < b then -1 else if b < a then 1 else 0
theorem cmp3_eq (a b : Int) : cmpCompare_int a b = cmp3 a b := by
  unfold cmpCompare_int cmpIsNaN_int cmp3
  by_cases h : a < b
  · simp [h]
  · by_cases h2 : b < a <;> simp [h, h2]
theorem cmpOr_spec (a b c : Int) : cmpOr_int [a, b, c] = some (if a = 0 then if b = 0 then c else b else a) := by
  unfold cmpOr_int
  by_cases ha : a = 0
  · subst ha
    rw [iterW_inl (y := ((1, ()), ())) (by simp [cmpOr_int_L1, at?, w64_id])]
    by_cases hb : b = 0
    · subst hb
      rw [iterW_inl (y := ((2, ()), ())) (by simp [cmpOr_int_L1, at?, w64_id])]
      by_cases hc : c = 0
      · subst hc
        rw [iterW_inl (y := ((3, ()), ())) (by simp [cmpOr_int_L1, at?, w64_id])]
        rw [iterW_inr (r := .inl ((), ())) (by simp [cmpOr_int_L1])]
        rfl
      · rw [iterW_inr (r := .inr c) (by simp [cmpOr_int_L1, at?, bne_t hc])]
        simp
    · rw [iterW_inr (r := .inr b) (by simp [cmpOr_int_L1, at?, bne_t hb])]
      simp [hb]
  · rw [iterW_inr (r := .inr a) (by simp [cmpOr_int_L1, at?, bne_t ha])]
    simp [ha]
def mvCf (x y : Mv) : Int := if cmp3 x.1 y.1 = 0 then if cmp3 x.2.1 y.2.1 = 0 then cmp3 x.2.2.1 y.2.2.1 else cmp3 x.2.1 y.2.1 else cmp3 x.1 y.1
theorem movesCmp_spec (x y : Mv) : movesCmp x y = some (mvCf x y) := by
  unfold movesCmp mvCf
  rw [cmp3_eq, cmp3_eq, cmp3_eq, cmpOr_spec]
  rfl
theorem cmp3_0 (a b : Int) : cmp3 a b = 0 ↔ a = b := by
  unfold cmp3
  split
  · constructor <;> intro h <;> omega
  · split <;> constructor <;> intro h <;> omega
theorem cmp3_lt (a b : Int) : cmp3 a b < 0 ↔ a < b := by
  unfold cmp3
  split
  · constructor <;> intro h <;> omega
  · split <;> constructor <;> intro h <;> omega
theorem mvCf_lt : ltOf mvCf = mvLt := by
  funext x y
  unfold ltOf mvCf mvLt
  by_cases h1 : x.1 = y.1
  · by_cases h2 : x.2.1 = y.2.1
    · simp [h1, h2, (cmp3_0 y.1 y.1).2 rfl, (cmp3_0 y.2.1 y.2.1).2 rfl, cmp3_lt]
    · have : ¬ cmp3 x.2.1 y.2.1 = 0 := fun h => h2 ((cmp3_0 _ _).1 h)
      simp [h1, h2, (cmp3_0 y.1 y.1).2 rfl, this, cmp3_lt]
  · have : ¬ cmp3 x.1 y.1 = 0 := fun h => h1 ((cmp3_0 _ _).1 h)
    simp [h1, this, cmp3_lt]
theorem mvLt_iff (x y : Mv) : mvLt x y = true ↔ x.1 < y.1 ∨ x.1 = y.1 ∧ (x.2.1 < y.2.1 ∨ x.2.1 = y.2.1 ∧ x.2.2.1 < y.2.2.1) := by simp [mvLt]
theorem mvLt_f (x y : Mv) : mvLt x y = false ↔ ¬ (x.1 < y.1 ∨ x.1 = y.1 ∧ (x.2.1 < y.2.1 ∨ x.2.1 = y.2.1 ∧ x.2.2.1 < y.2.2.1)) := by rw [← mvLt_iff, Bool.not_eq_true]
theorem mv_swo : SWO mvLt where
  irrefl x := by rw [mvLt_f]; omega
  trans x y z h1 h2 := by rw [mvLt_iff] at *; omega
  ntrans x y z h1 h2 := by rw [mvLt_f] at *; omega
theorem mv_tot (x y : Mv) (h1 : mvLt x y = false) (h2 : mvLt y x = false) : x = y := by
  rw [mvLt_f] at h1 h2
  obtain ⟨a, b, c, ⟨⟩⟩ := x
  obtain ⟨a', b', c', ⟨⟩⟩ := y
  simp only at h1 h2
  have e1 : a = a' := by omega
  subst e1
  have e2 : b = b' := by omega
  subst e2
  have e3 : c = c' := by omega
  subst e3
  rfl
def sortMoves_srt : Srt := ⟨38, (.st (.int .i64) (.st (.int .i64) (.st (.int .i64) .nil))), some 62, sortMoves⟩
theorem sortMoves_ok : SrtOK Tryz.prog 61 sortMoves_srt := by
  have h := srt_structs (ρ := msort_ren) (g := 62) (f := 61) (τ := (.st (.int .i64) (.st (.int .i64) (.st (.int .i64) .nil)))) (i := 38) msort_lay rfl rfl rfl rfl Tryz.isAgg38 Tryz.sizeOf38 movesCmp_ok mvCf (fun x y => movesCmp_spec x y) (show SWO (ltOf mvCf) from mvCf_lt ▸ mv_swo) (fun x y h1 h2 => mv_tot x y (by rw [← mvCf_lt]; exact h1) (by rw [← mvCf_lt]; exact h2)) (enters_of Tryz.func62 (by kernel_rfl) rfl)
  have e : (fun xs : List Mv => xs.mergeSort fun x y => !(ltOf mvCf) y x) = sortMoves := by rw [mvCf_lt]; rfl
  have : sortMoves_srt = ⟨38, (.st (.int .i64) (.st (.int .i64) (.st (.int .i64) .nil))), some 62, fun xs : List Mv => xs.mergeSort fun x y => !(ltOf mvCf) y x⟩ := by rw [e]; rfl
  rw [this]
  exact h
end
end Go.Proofs.YteiohidcgimjlaaGreatDoor
namespace Go.Proofs.YteiohidcgimjlaaGreatDoor
open Go.Den
set_option linter.unusedVariables false
set_option linter.unusedSimpArgs false
set_option maxRecDepth 100000
theorem chg_below {w w' : World} (hd : Go.Den.Ctx.drawsUp = false) (h : Go.RowKit.Below w.heap.size w w') : Go.Eng.Chg [] w w' :=
  ⟨h.os, h.tape, h.output, h.size, fun k hk _ => h.block k hk, fun e => by rw [hd] at e; cases e⟩
theorem cond_inv {α : Type} {c : Bool} {x r : α} (h : (bif c then some x else none) = some r) : c = true ∧ x = r := by cases c <;> simp_all
theorem str_cells {w : World} {S : Nat → Prop} : ∀ {l : List ByteArray} {us : List Value}, RepL (fun (x : D .str) c => Rep w S .str x [] c) l us → us = l.map Value.string
  | [], us, h => h
  | n :: ns, us, ⟨c, r, h1, h2, h3⟩ => by
    subst h1
    rw [h2.2, str_cells h3]
    rfl
theorem str_repL {w : World} {S : Nat → Prop} : ∀ l : List ByteArray, RepL (fun (x : D .str) c => Rep w S .str x [] c) l (l.map Value.string)
  | [] => rfl
  | s :: l => ⟨[.string s], _, rfl, ⟨rfl, rfl⟩, str_repL l⟩
theorem open_int {S : Nat → Prop} {w : World} {g : Nat} (hT : TabR S w) (hg : (g, false) ∈ Ctx.opens) : ∃ m, w.cell? ⟨g, 0, none⟩ = some (.int .i64 m) := by
  obtain ⟨_, v, T, fz, hh, hv⟩ := hT.opn g false hg
  rw [if_neg (by decide)] at hv
  obtain ⟨m, rfl⟩ := hv
  exact ⟨m, by simp [World.cell?, hh]⟩

def join_ren : Go.Shelf.Ren := ⟨fun | 156 => 27 | 165 => 67 | 166 => 40 | 169 => 44 | 240 => 83 | 241 => 113 | 276 => 132 | 277 => 153 | n => n, fun | 31 => 65 | 9 => 9 | 3 => 3 | 4 => 4 | 0 => 0 | 20 => 20 | 72 => 92 | 76 => 97 | 70 => 89 | 37 => 90 | 75 => 96 | 127 => 151 | 164 => 185 | 5 => 5 | 80 => 105 | n => n, fun | n => n⟩
open Go.Shelf in
theorem join_lay : Go.Proofs.Lays.n156 Tryz.prog join_ren where
  mixed := by kernel_rfl
  f156 := Tryz.func27.trans (congrArg some (by kernel_rfl))
  f165 := Tryz.func67.trans (congrArg some (by kernel_rfl))
  f166 := Tryz.func40.trans (congrArg some (by kernel_rfl))
  f169 := Tryz.func44.trans (congrArg some (by kernel_rfl))
  f240 := Tryz.func83.trans (congrArg some (by kernel_rfl))
  f241 := Tryz.func113.trans (congrArg some (by kernel_rfl))
  f276 := Tryz.func132.trans (congrArg some (by kernel_rfl))
  f277 := Tryz.func153.trans (congrArg some (by kernel_rfl))
  t0 := Tryz.underlying0
  a0 := Tryz.isAgg0
  z0 := Tryz.sizeOf0
  v0 := Tryz.zeroValue0
  t3 := Tryz.underlying3
  a3 := Tryz.isAgg3
  z3 := Tryz.sizeOf3
  v3 := Tryz.zeroValue3
  t4 := Tryz.underlying4
  a4 := Tryz.isAgg4
  z4 := Tryz.sizeOf4
  v4 := Tryz.zeroValue4
  t9 := Tryz.underlying9
  a9 := Tryz.isAgg9
  z9 := Tryz.sizeOf9
  v9 := Tryz.zeroValue9
  t20 := Tryz.underlying20
  a20 := Tryz.isAgg20
  z20 := Tryz.sizeOf20
  v20 := Tryz.zeroValue20
  t31 := Tryz.underlying65
  a31 := Tryz.isAgg65
  z31 := Tryz.sizeOf65
  v31 := Tryz.zeroValue65
  t37 := Tryz.underlying90
  a37 := Tryz.isAgg90
  z37 := Tryz.sizeOf90
  v37 := Tryz.zeroValue90
  t70 := Tryz.underlying89
  a70 := Tryz.isAgg89
  z70 := Tryz.sizeOf89
  v70 := Tryz.zeroValue89
  t72 := Tryz.underlying92
  a72 := Tryz.isAgg92
  z72 := Tryz.sizeOf92
  v72 := Tryz.zeroValue92
  t75 := Tryz.underlying96
  a75 := Tryz.isAgg96
  z75 := Tryz.sizeOf96
  v75 := Tryz.zeroValue96
  t76 := Tryz.underlying97
  a76 := Tryz.isAgg97
  z76 := Tryz.sizeOf97
  v76 := Tryz.zeroValue97
  t127 := Tryz.underlying151
  a127 := Tryz.isAgg151
  z127 := Tryz.sizeOf151
  v127 := Tryz.zeroValue151
  t164 := Tryz.underlying185
  a164 := Tryz.isAgg185
  z164 := Tryz.sizeOf185
  v164 := Tryz.zeroValue185
theorem join_extra : Go.Proofs.Builder.Extra Tryz.prog join_ren where
  sizeBuilder := by kernel_rfl
  liesBuilder := by kernel_rfl
  t5 := Tryz.underlying5
  a5 := Tryz.isAgg5
  z5 := Tryz.sizeOf5
  v5 := Tryz.zeroValue5
  infoByte := by kernel_rfl
  cellsByte := by kernel_rfl
  sizeByte := by kernel_rfl
  neB5 := by decide
/-- strings.Join -/
noncomputable def joinS_con : Con := ⟨[.sl .str, .str], true, [], .str, fun x => joinS x.1 x.2.1, none⟩
theorem joinS_ok : ConOK Tryz.prog 27 joinS_con := by
  refine ⟨rfl, fun h => (by cases h), fun g h => (by cases h), fun w S args x r hS hT ha hr => ?_⟩
  obtain ⟨l, sep, ⟨⟩⟩ := x
  obtain ⟨v, q, e1, ⟨cs, ⟨_, ao, cap, us, rfl, hcap, hrep, hne⟩, rfl⟩, v2, q2, rfl, ⟨cs2, ⟨_, rfl⟩, rfl⟩, h2⟩ := ha
  obtain rfl : q2 = [] := h2
  obtain rfl : args = #[.slice ao l.length cap, .string sep] := by rw [← Array.toList_inj, e1]; rfl
  have hr : joinS l sep = some r := hr
  obtain ⟨hb, rfl⟩ := cond_inv hr
  · simp only [Bool.and_eq_true] at hb
    have h3 := Nat.le_of_ble_eq_true hb.1
    have h4 := Nat.le_of_ble_eq_true hb.2
    have hus := str_cells hrep
    subst hus
    have fin : ∀ w', Go.Eng.Chg [] w w' → ∃ v, Ending.returned (.string ⟨(Go.Lib.join (l.map (·.data.toList)) sep.data.toList).toArray⟩) = Ending.returned v ∧ Go.Eng.Chg [] w w' ∧ ResR w w' S joinS_con (⟨(Go.Lib.join (l.map (·.data.toList)) sep.data.toList).toArray⟩ : ByteArray) v :=
      fun w' hc => ⟨_, rfl, hc, [], [.string ⟨(Go.Lib.join (l.map (·.data.toList)) sep.data.toList).toArray⟩], List.nodup_nil, (by simp), ⟨rfl, rfl⟩, rfl⟩
    by_cases h0 : l = []
    · subst h0
      refine (Any.strings_Join_none (P := Tryz.prog) (ρ := join_ren) join_lay join_extra ao cap sep w).mono ?_
      rintro e w' ⟨rfl, rfl⟩
      exact fin _ (Go.Eng.Chg.refl _ _)
    · obtain ⟨a, rfl, ha, hcells⟩ := hne h0
      obtain ⟨bk, o, spot⟩ := a
      have hsp : spot = none := by
        cases l with
        | nil => exact absurd rfl h0
        | cons x l' =>
          have := hcells 0 (.string x) rfl
          cases spot with
          | none => rfl
          | some s => exact absurd this (by simp [Addr.add, World.cell?]; split <;> simp)
      subst hsp
      refine (Any.strings_Join (P := Tryz.prog) (ρ := join_ren) join_lay join_extra bk o cap l sep w (fun j x hj => by
        have := hcells j (.string x) ((List.getElem?_map (f := Value.string) (l := (l : List ByteArray)) (i := j)).trans (congrArg (Option.map Value.string) hj))
        rwa [Go.Eng.adr_add] at this) (hS bk ha) h3 hcap h4).mono ?_
      rintro e w' ⟨rfl, hb⟩
      exact fin _ (chg_below rfl hb)

def ixb_ren : Go.Shelf.Ren := ⟨fun | 137 => 163 | 217 => 184 | 266 => 192 | n => n, fun | 9 => 9 | 5 => 5 | 3 => 3 | n => n, fun | n => n⟩
open Go.Shelf in
theorem ixb_lay : Go.Proofs.Lays.n137 Tryz.prog ixb_ren where
  mixed := by kernel_rfl
  f137 := Tryz.func163.trans (congrArg some (by kernel_rfl))
  f217 := Tryz.func184.trans (congrArg some (by kernel_rfl))
  f266 := Tryz.func192.trans (congrArg some (by kernel_rfl))
  t3 := Tryz.underlying3
  a3 := Tryz.isAgg3
  z3 := Tryz.sizeOf3
  v3 := Tryz.zeroValue3
  t5 := Tryz.underlying5
  a5 := Tryz.isAgg5
  z5 := Tryz.sizeOf5
  v5 := Tryz.zeroValue5
  t9 := Tryz.underlying9
  a9 := Tryz.isAgg9
  z9 := Tryz.sizeOf9
  v9 := Tryz.zeroValue9
/-- strings.IndexByte -/
noncomputable def indexByteS_con : Con := ⟨[.str, .int .u8], true, [], .int .i64, fun x => some (indexByteS x.1 x.2.1), some fun x => indexByteS x.1 x.2.1⟩
theorem indexByteS_ok : ConOK Tryz.prog 163 indexByteS_con := by
  refine ⟨rfl, fun h => (by cases h), fun g h x => (by cases h; rfl), fun w S args x r hS hT ha hr => ?_⟩
  obtain ⟨s, c, ⟨⟩⟩ := x
  obtain ⟨v, q, e1, ⟨cs, ⟨_, rfl⟩, rfl⟩, v2, q2, rfl, ⟨cs2, ⟨_, rfl⟩, rfl⟩, h2⟩ := ha
  obtain rfl : q2 = [] := h2
  obtain rfl : args = #[.string s, .int .u8 c] := by rw [← Array.toList_inj, e1]; rfl
  obtain rfl : indexByteS s c = r := Option.some.inj hr
  refine (Any.strings_IndexByte (P := Tryz.prog) (ρ := ixb_ren) ixb_lay s c w).mono ?_
  rintro e w' ⟨rfl, rfl⟩
  exact ⟨_, rfl, Go.Eng.Chg.refl _ _, [], [.int .i64 _], List.nodup_nil, (by simp), ⟨rfl, rfl⟩, rfl⟩

def split_ren : Go.Shelf.Ren := ⟨fun | 146 => 33 | 221 => 73 | 268 => 118 | 138 => 119 | 143 => 120 | 195 => 158 | 197 => 159 | 218 => 160 | 219 => 161 | 260 => 183 | 217 => 184 | 225 => 185 | 224 => 186 | 267 => 187 | 266 => 192 | 314 => 193 | n => n, fun | 9 => 9 | 31 => 65 | 3 => 3 | 4 => 4 | 0 => 0 | 105 => 216 | 21 => 21 | 5 => 5 | 46 => 169 | 119 => 248 | 139 => 251 | 138 => 250 | 146 => 252 | 51 => 208 | n => n, fun | 1 => 0 | 3 => 1 | 4 => 2 | n => n⟩
open Go.Shelf in
theorem split_lay : Go.Proofs.Lays.n146 Tryz.prog split_ren where
  mixed := by kernel_rfl
  f138 := Tryz.func119.trans (congrArg some (by kernel_rfl))
  f143 := Tryz.func120.trans (congrArg some (by kernel_rfl))
  f146 := Tryz.func33.trans (congrArg some (by kernel_rfl))
  f195 := Tryz.func158.trans (congrArg some (by kernel_rfl))
  f197 := Tryz.func159.trans (congrArg some (by kernel_rfl))
  f217 := Tryz.func184.trans (congrArg some (by kernel_rfl))
  f218 := Tryz.func160.trans (congrArg some (by kernel_rfl))
  f219 := Tryz.func161.trans (congrArg some (by kernel_rfl))
  f221 := Tryz.func73.trans (congrArg some (by kernel_rfl))
  f224 := Tryz.func186.trans (congrArg some (by kernel_rfl))
  f225 := Tryz.func185.trans (congrArg some (by kernel_rfl))
  f260 := Tryz.func183.trans (congrArg some (by kernel_rfl))
  f266 := Tryz.func192.trans (congrArg some (by kernel_rfl))
  f267 := Tryz.func187.trans (congrArg some (by kernel_rfl))
  f268 := Tryz.func118.trans (congrArg some (by kernel_rfl))
  f314 := Tryz.func193.trans (congrArg some (by kernel_rfl))
  t0 := Tryz.underlying0
  a0 := Tryz.isAgg0
  z0 := Tryz.sizeOf0
  v0 := Tryz.zeroValue0
  t3 := Tryz.underlying3
  a3 := Tryz.isAgg3
  z3 := Tryz.sizeOf3
  v3 := Tryz.zeroValue3
  t4 := Tryz.underlying4
  a4 := Tryz.isAgg4
  z4 := Tryz.sizeOf4
  v4 := Tryz.zeroValue4
  t5 := Tryz.underlying5
  a5 := Tryz.isAgg5
  z5 := Tryz.sizeOf5
  v5 := Tryz.zeroValue5
  t9 := Tryz.underlying9
  a9 := Tryz.isAgg9
  z9 := Tryz.sizeOf9
  v9 := Tryz.zeroValue9
  t21 := Tryz.underlying21
  a21 := Tryz.isAgg21
  z21 := Tryz.sizeOf21
  v21 := Tryz.zeroValue21
  t31 := Tryz.underlying65
  a31 := Tryz.isAgg65
  z31 := Tryz.sizeOf65
  v31 := Tryz.zeroValue65
  t46 := Tryz.underlying169
  a46 := Tryz.isAgg169
  z46 := Tryz.sizeOf169
  v46 := Tryz.zeroValue169
  t51 := Tryz.underlying208
  a51 := Tryz.isAgg208
  z51 := Tryz.sizeOf208
  v51 := Tryz.zeroValue208
  t105 := Tryz.underlying216
  a105 := Tryz.isAgg216
  z105 := Tryz.sizeOf216
  v105 := Tryz.zeroValue216
  t119 := Tryz.underlying248
  a119 := Tryz.isAgg248
  z119 := Tryz.sizeOf248
  t138 := Tryz.underlying250
  a138 := Tryz.isAgg250
  z138 := Tryz.sizeOf250
  v138 := Tryz.zeroValue250
  t139 := Tryz.underlying251
  a139 := Tryz.isAgg251
  z139 := Tryz.sizeOf251
  v139 := Tryz.zeroValue251
  t146 := Tryz.underlying252
  a146 := Tryz.isAgg252
  z146 := Tryz.sizeOf252
  v146 := Tryz.zeroValue252
  g1 := by kernel_rfl
  g3 := by kernel_rfl
  g4 := by kernel_rfl
/-- strings.Split -/
noncomputable def splitS_con : Con := ⟨[.str, .str], true, [], .sl .str, fun x => splitS x.1 x.2.1, none⟩
theorem splitS_ok : ConOK Tryz.prog 33 splitS_con := by
  refine ⟨rfl, fun h => (by cases h), fun g h => (by cases h), fun w S args x r hS hT ha hr => ?_⟩
  obtain ⟨s, sep, ⟨⟩⟩ := x
  obtain ⟨v, q, e1, ⟨cs, ⟨_, rfl⟩, rfl⟩, v2, q2, rfl, ⟨cs2, ⟨_, rfl⟩, rfl⟩, h2⟩ := ha
  obtain rfl : q2 = [] := h2
  obtain rfl : args = #[.string s, .string sep] := by rw [← Array.toList_inj, e1]; rfl
  have hr : splitS s sep = some r := hr
  obtain ⟨hb, rfl⟩ := cond_inv hr
  simp only [Bool.and_eq_true] at hb
  have h3 := Nat.le_of_ble_eq_true hb.1
  have h4 := Nat.le_of_ble_eq_true hb.2
  obtain ⟨m, hm⟩ := open_int (g := 0) hT (by decide)
  have hlen := Go.Lib.splitB_all sep h4 0 _ s rfl
  refine (Any.strings_Split (P := Tryz.prog) (ρ := split_ren) split_lay (by kernel_rfl) s sep m w (Nat.lt_succ_of_le h3) hm h4).mono ?_
  rintro e w' ⟨rfl, rfl⟩
  generalize Go.Lib.splitB sep 0 (Go.Lib.countB s sep) s = l at hlen ⊢
  rw [← hlen]
  have hnew := Go.Eng.alloc_blk w (l.map Value.string).toArray (split_ren.t 9)
  have hsz := Go.Eng.alloc_size w (.cells (l.map Value.string).toArray (split_ren.t 9))
  refine ⟨_, rfl, Go.Eng.alloc_chg _ _, [], [.slice (some ⟨w.heap.size, 0, none⟩) l.length l.length], List.nodup_nil, (by simp), ⟨rfl, _, _, l.map Value.string, rfl, Nat.le_refl _, str_repL l, fun _ => ⟨_, rfl, ⟨by rw [hsz]; exact Nat.lt_succ_self _, .inr (Nat.le_refl _), by simp⟩, ?_⟩⟩, rfl⟩
  have := cellsAt_blk (w := w.alloc (.cells (l.map Value.string).toArray (split_ren.t 9))) (b := w.heap.size) hnew 0
  simpa using this

end Go.Proofs.YteiohidcgimjlaaGreatDoor
