/- Several texts in one: What the contracts of this program share. No condition of its own.; The sets of bits: their ranges over a function, walked. No condition of its own.; Contracts of the sets of bits. No condition of its own.; Contracts: Core. No condition of its own.; Contracts: BitsSets. No condition of its own. -/
import Derived.Test.YteiohidcgimjlaaDoorProg
import Derived.Test.YteiohidcgimjlaaDoorMAD
import Derived.RangeFuncBox
import Derived.RangeFuncNested
import Derived.BigRegionIn
import Derived.RegionIn
import Derived.RangeFuncLeaves
import Derived.Shelf.Abstract
import Derived.WalkKit
import Derived.OwnWalkIn
import Derived.TacticsInMore
import Derived.LoopNIn
import Derived.LoopIn
import Derived.Maps.AppendAt
import Derived.Laws.Bits64b
import Derived.WalkSmall
import Derived.Shelf.Spec.TrailingZeros
namespace Go.Proofs.YteiohidcgimjlaaDoor
theorem mixed : Tryd.prog.follows .mixedOrders = true := by kernel_rfl
end Go.Proofs.YteiohidcgimjlaaDoor
namespace Go.Proofs.YteiohidcgimjlaaDoor
open Go Go.Proofs Go.RowKit Go.Shelf
set_option linter.unusedVariables false
set_option linter.unusedSimpArgs false
attribute [local go_sem] Oper.semAt_some
/-- TrailingZeros64 at this program -/
def TzOK : Prop := ∀ (x : Nat) (w : World), x < 18446744073709551616 → TabAt 0 Lib.deBruijn64tab w → Calls Tryd.prog 28 #[.int .u64 x] w fun e w' => e = .returned (.int .i64 (Lib.ctz 64 x)) ∧ w' = w
theorem tab_below {n₀ : Nat} {A B : World} (h : Below n₀ A B) (hg : 0 < n₀) (hT : TabAt 0 Lib.deBruijn64tab A) : TabAt 0 Lib.deBruijn64tab B := fun j hj => (h.cell (p := ⟨0, j, none⟩) hg).trans (hT j hj)
def u64Of : Value → Nat
  | .int _ n => n.toNat
  | _ => 0
theorem and_key {y : Nat} (h0 : y ≠ 0) (hy : y < 18446744073709551616) : bits BinOp.and IntKind.u64 (y : Int) ((y : Int) - 1) = ((clr y : Nat) : Int) := by
  have e1 : (y : Int) - 1 = ((y - 1 : Nat) : Int) := by omega
  rw [e1, bits_and_u64_nat y _ hy (by omega)]
  rfl
set_option maxRecDepth 100000 in
set_option maxHeartbeats 1000000 in
theorem all1_in (hz : TzOK) (n : Nat) (hn : 1 ≤ n) (l Bn n₀ : Nat) (x : Nat) (hx : x < 18446744073709551616) (hG : 0 < n₀) (J Jx : List (Fin 64) → World → Prop)
    (hY : ∀ pre (k : Fin 64) W, J pre W → pre.length < (sqF x).length → YieldAt Fence.wide (n - 1) Tryd.prog l #[.int .i64 ((k.1 : Nat) : Int)] W fun e W' =>
      (e = .returned (.bool true) ∧ J (pre ++ [k]) W' ∧ Below n₀ W W') ∨ (e = .returned (.bool false) ∧ Jx (pre ++ [k]) W'))
    (W : World) (hBn : W.cell? ⟨Bn, 0, none⟩ = some (.int .u64 x)) (hT : TabAt 0 Lib.deBruijn64tab W) (h0 : J [] W) :
    CallsIn Fence.wide n Tryd.prog 40 #[.func (.yield l) #[] #[], .pointer (some ⟨Bn, 0, none⟩)] W fun e W' => (∃ v, e = .returned v) ∧
      ((∃ ys, ys = sqF x ∧ J ys W') ∨ (∃ pre, pre <+: sqF x ∧ Jx pre W')) := by
  refine callsIn_of_wp Tryd.func40 rfl trivial ?_ rfl
  simp only [Tryd.ntmps40, List.size_toArray, List.length_cons, List.length_nil, Nat.reduceAdd, Nat.reduceSub, Array.replicate_succ, Array.replicate_zero, List.push_toArray, List.append_toArray, List.nil_append, List.cons_append]
  gi_wp2
  gi_loopw [3] (fun p wr => ∃ (pre : List (Fin 64)) (y : Nat), p = .int .u64 (y : Int) ∧ sqF x = pre ++ sqF y ∧ y < 18446744073709551616 ∧ TabAt 0 Lib.deBruijn64tab wr ∧ J pre wr)
    (fun p wr => u64Of p)
  case atStart =>
    exact ⟨[], x, rfl, rfl, hx, hT, h0⟩
  case round =>
    obtain ⟨pre, y, rfl, hxy, hy, hTr, hJs⟩ := hrel
    by_cases hy0 : y = 0
    · subst hy0
      gi_wp2
      go_end0
      exact ⟨⟨_, rfl⟩, .inl ⟨pre, by rw [hxy, sqF_zero, List.append_nil], hJs⟩⟩
    · obtain ⟨k, hk, hstep⟩ := sqF_step hy0 hy
      obtain ⟨fn, tmps, assign, body, hyy, hR⟩ := hY pre k wr hJs (by rw [hxy, hstep]; simp)
      rw [hk] at hyy
      have hy1 : ¬ ((y : Int) = 0) := by omega
      have htz := hz y wr hy hTr
      gi_wp2_with (refine ⟨trivial, ?_⟩; gi_at_call 28; refine (callsIn_wide.2 htz).mono ?_; rintro e w' ⟨rfl, rfl⟩)
      refine hR.mono ?_
      rintro e W3 (⟨rfl, hJ3, hk3⟩ | ⟨rfl, hJx3⟩)
      · gi_wp2
        go_roundw
        case rel => exact ⟨pre ++ [k], clr y, by rw [and_key hy0 hy], by rw [hxy, hstep]; simp, Nat.lt_trans (clr_lt hy0) hy, tab_below hk3 hG hTr, hJ3⟩
        case measure =>
          rw [and_key hy0 hy]
          have := clr_lt hy0
          simp only [u64Of]
          omega
      · gi_wp2
        refine bodyPost_ret (results_none rfl _ _ _) rfl ?_
        exact ⟨⟨_, rfl⟩, .inr ⟨pre ++ [k], ⟨sqF (clr y), by rw [hxy, hstep]; simp⟩, hJx3⟩⟩
set_option maxHeartbeats 1000000 in
theorem all_in (n : Nat) (x : Nat) (w : World) :
    CallsIn Fence.wide n Tryd.prog 26 #[.int .u64 x] w fun e w' => e = .returned (.func (.func 40) #[] #[.pointer (some ⟨w.heap.size, 0, none⟩)]) ∧ w' = w.alloc (.cells #[.int .u64 x] 22) := by
  refine callsIn_of_wp Tryd.func26 rfl trivial ?_ rfl
  simp only [Tryd.ntmps26, List.size_toArray, List.length_cons, List.length_nil, Nat.reduceAdd, Nat.reduceSub, Array.replicate_succ, Array.replicate_zero, List.push_toArray, List.append_toArray, List.nil_append, List.cons_append]
  gi_wp2
  go_ret
  exact ⟨rfl, rfl⟩
theorem all_stops (hz : TzOK) (n : Nat) (hn : 1 ≤ n) (Bn n₀ : Nat) (x : Nat) (hx : x < 18446744073709551616) (hG : 0 < n₀) (w : World) (hBn : Bn < w.heap.size) (hn₀ : n₀ ≤ w.heap.size)
    (hc : w.cell? ⟨Bn, 0, none⟩ = some (.int .u64 x)) (hT : TabAt 0 Lib.deBruijn64tab w) :
    SeqStopsK Fence.wide n Tryd.prog 40 #[.pointer (some ⟨Bn, 0, none⟩)] (fun k : Fin 64 => #[Value.int .i64 ((k.1 : Nat) : Int)]) (Below n₀) (fun ys => ys = sqF x) (fun pre => pre <+: sqF x) (sqF x).length w := fun l J Jx W hW _ _ hY h0 =>
  all1_in hz n hn l Bn n₀ x hx hG J Jx hY W ((hW.cell (p := ⟨Bn, 0, none⟩) hBn).trans hc) (tab_below (hW.mono hn₀) hG hT) h0
theorem infoI : (Tryd.prog.info? 3).map (fun i => (i.zero, i.size, i.bytes)) = some (some (.int .i64 0), 1, 8) := by kernel_rfl
def encF (k : Fin 64) : Value := .int .i64 ((k.1 : Nat) : Int)
set_option maxRecDepth 100000 in
set_option maxHeartbeats 2000000 in
theorem list_in (hz : TzOK) (n : Nat) (hn : 3 ≤ n) (x : Nat) (hx : x < 18446744073709551616) (w : World) (hG : 0 < w.heap.size) (hT : TabAt 0 Lib.deBruijn64tab w) :
    CallsIn Fence.wide n Tryd.prog 12 #[.int .u64 x] w fun e W' => ∃ v, e = .returned v ∧ W'.ownsRow w.heap.size 3 1 v (sqF x).length ((sqF x).map encF) ∧ (v = .slice none 0 0 ↔ sqF x = []) ∧ Below w.heap.size w W' := by
  have h1 : 1 ≤ n := by omega
  obtain ⟨i0, hi, hz0, hz1, hz2⟩ := info_parts infoI
  have hlen := sqF_len x
  refine callsIn_of_wp_marks Tryd.func12 rfl trivial ?_ rfl
  simp only [Tryd.ntmps12, List.size_toArray, List.length_cons, List.length_nil, Nat.reduceAdd, Nat.reduceSub, Array.replicate_succ, Array.replicate_zero, List.push_toArray, List.append_toArray, List.nil_append, List.cons_append]
  gi_wp2_with (refine ⟨trivial, ?_⟩; gi_at_call 26; refine (all_in (n - 1) x _).mono ?_; rintro e w' ⟨rfl, rfl⟩)
  have bO := Boxed.new w 29 (.slice none 0 0)
  have bN := Boxed.new (w.alloc (.cells #[.slice none 0 0] 29)) 22 (.int .u64 x)
  rw [World.size_alloc] at bN
  have hB0 : Below w.heap.size w ((w.alloc (.cells #[.slice none 0 0] 29)).alloc (.cells #[.int .u64 x] 22)) := ((Below.refl _ w).alloc (Nat.le_refl _) _).alloc (by simp) _
  refine wpIn_rangeFunc_ownG rfl h1 (gf := 40) (lb := #[.pointer (some ⟨w.heap.size + 1, 0, none⟩)]) rfl trivial (enters_of Tryd.func40 (by kernel_rfl) rfl)
    (all_stops hz (n - 1) (by omega) (w.heap.size + 1) w.heap.size x hx hG _ (by simp) (by simp; omega) bN.cell (tab_below hB0 hG hT)) belowK_t (belowK_b (by simp; omega)) (Below.refl _ _) (fun _ => rfl)
    (fun pre W => (∃ v, Boxed W w.heap.size 29 v ∧ W.ownsRow w.heap.size 3 1 v pre.length (pre.map encF) ∧ (v = .slice none 0 0 ↔ pre = [])) ∧ Below w.heap.size w W)
    (fun _ _ _ => False)
    (OwnFrom.and (Own.from (holdsRow_own w.heap.size w.heap.size 29 3 1 (fun pre => pre.length) (fun pre => pre.map encF) (fun pre v => v = .slice none 0 0 ↔ pre = [])) _) (ownFrom_below (Nat.le_refl _) (by simp; omega)))
    (fun _ _ _ _ _ hs _ _ => hs)
    ⟨⟨_, bO.alloc _, World.ownsRow_nil _ _ _ _, by simp⟩, hB0⟩
    (fun k => { tmps := #[.int .u64 x, undef, .slice none 0 0, .pointer (some ⟨w.heap.size, 0, none⟩), .int .i64 ((k.1 : Nat) : Int), .int .u64 x, .func (.func 40) #[] #[.pointer (some ⟨w.heap.size + 1, 0, none⟩)], .int .i64 ((k.1 : Nat) : Int), undef, undef, undef, undef, undef], defers := [] }) ?assign ?body ?done ?stop
  case assign =>
    intro l k W K hK
    gi_wp2
    exact hK
  case body =>
    rintro l pre k W ⟨⟨v, hv, hrow, hnil⟩, hB⟩ hlt
    have hc := hv.cell
    gi_wp2_with (gi_at_builtin; refine wpListIn_append_own _ rfl _ _ 29 rfl w.heap.size 3 i0 (.int .i64 0) 1 8 Tryd.underlying29 hi hz0 hz1 hz2 rfl (by decide) _ _ _ rfl (hrow.alloc _) ⟨W.heap.size, 0, none⟩ 1 1 [.int .i64 ((k.1 : Nat) : Int)] rfl rfl (cell_one_new _ _ _) (by simp [Value.oneCell']) (by unfold maxLen; omega) (by omega) (by have := hB.size; simp; omega) ?_; intro v' w1 hown' hgrow _; obtain ⟨g', cap', rfl⟩ := ownsRow_succ hown'; obtain ⟨hv1, hv2, hr2, hk2, hb2⟩ := hv.appended (by decide) hrow hB.size (Nat.le_refl _) hown' hgrow; have hc1 := hv1.cell; have hf1 := hv1.frozen)
    exact ⟨hk2.from _, hb2, ⟨_, hv2, by simpa [encF] using hr2, by simp⟩, hB.trans hb2⟩
  case done =>
    rintro D ys W hD rfl ⟨⟨v, hv, hrow, hnil⟩, hB⟩ hK
    have hc := hv.cell
    gi_wp2
    refine ⟨by simp, .inl ⟨_, _, rfl, run_takeDeferred hK, ?_⟩⟩
    exact ⟨_, results_tmp rfl _ _ _, v, rfl, ownsRow_putObj hrow _ hK rfl, hnil, hB.trans (belowK_b (w := w) (Nat.le_refl _) W D _ _ (by simp at hD; omega) hK rfl rfl)⟩
  case stop =>
    rintro D c pre W _ _ h _
    exact h.elim
/-! ### Shift -/
theorem stepS_ltW (dx dy : Int) (o : Nat) (s : Fin 64) (ho : o < 18446744073709551616) : stepS dx dy o s < 18446744073709551616 := by
  unfold stepS
  split
  · rename_i h
    refine Nat.or_lt_two_pow (n := 64) ho (Nat.pow_lt_pow_right (a := 2) (by decide) ?_)
    omega
  · exact ho
theorem fold_ltW (dx dy : Int) : ∀ (l : List (Fin 64)) {o : Nat}, o < 18446744073709551616 → l.foldl (stepS dx dy) o < 18446744073709551616
  | [], _, h => h
  | s :: l, o, h => fold_ltW dx dy l (stepS_ltW dx dy o s h)
theorem or_key {o n : Nat} (ho : o < 18446744073709551616) (hn : n < 64) : bits BinOp.or IntKind.u64 (o : Int) (IntKind.u64.wrap (2 ^ n)) = ((o ||| 2 ^ n : Nat) : Int) := by
  have hp : 2 ^ n < 18446744073709551616 := Nat.pow_lt_pow_right (a := 2) (n := 64) (by decide) hn
  have e1 : IntKind.u64.wrap (2 ^ n) = ((2 ^ n : Nat) : Int) := by
    rw [show ((2 : Int) ^ n) = ((2 ^ n : Nat) : Int) by norm_cast]
    generalize 2 ^ n = p at hp
    rw [IntKind.wrap_u64]
    omega
  have hx : o ||| 2 ^ n < 2 ^ 64 := Nat.or_lt_two_pow ho hp
  rw [e1]
  have h1 : (BitVec.ofInt 64 (o : Int)).toNat = o := by rw [BitVec.ofInt_natCast, BitVec.toNat_ofNat]; exact Nat.mod_eq_of_lt ho
  have h2 : (BitVec.ofInt 64 ((2 ^ n : Nat) : Int)).toNat = 2 ^ n := by rw [BitVec.ofInt_natCast, BitVec.toNat_ofNat]; exact Nat.mod_eq_of_lt hp
  show IntKind.u64.wrap ((BitVec.ofInt 64 (o : Int) ||| BitVec.ofInt 64 ((2 ^ n : Nat) : Int)).toNat : Int) = _
  rw [BitVec.toNat_or, h1, h2, IntKind.wrap_u64]
  omega
set_option maxRecDepth 100000 in
set_option maxHeartbeats 4000000 in
theorem shift_in (hz : TzOK) (n : Nat) (hn : 3 ≤ n) (x : Nat) (dx dy : Int) (h1x : -7 ≤ dx) (h2x : dx ≤ 7) (h1y : -7 ≤ dy) (h2y : dy ≤ 7) (hx : x < 18446744073709551616) (w : World) (hG : 0 < w.heap.size) (hT : TabAt 0 Lib.deBruijn64tab w) :
    CallsIn Fence.wide n Tryd.prog 6 #[.int .u64 x, .int .i64 dx, .int .i64 dy] w fun e W' => e = .returned (.int .u64 (shiftF x dx dy)) ∧ Below w.heap.size w W' := by
  have h1 : 1 ≤ n := by omega
  refine callsIn_of_wp_marks Tryd.func6 rfl trivial ?_ rfl
  simp only [Tryd.ntmps6, List.size_toArray, List.length_cons, List.length_nil, Nat.reduceAdd, Nat.reduceSub, Array.replicate_succ, Array.replicate_zero, List.push_toArray, List.append_toArray, List.nil_append, List.cons_append]
  gi_wp2_with (refine ⟨trivial, ?_⟩; gi_at_call 26; refine (all_in (n - 1) x _).mono ?_; rintro e w' ⟨rfl, rfl⟩)
  obtain ⟨wA, hwA⟩ : ∃ wA, wA = w.alloc (Obj.cells #[Value.int IntKind.i64 dx] 3) := ⟨_, rfl⟩
  obtain ⟨wB, hwB⟩ : ∃ wB, wB = wA.alloc (Obj.cells #[Value.int IntKind.i64 dy] 3) := ⟨_, rfl⟩
  obtain ⟨wC, hwC⟩ : ∃ wC, wC = wB.alloc (Obj.cells #[Value.int IntKind.u64 0] 22) := ⟨_, rfl⟩
  obtain ⟨wD, hwD⟩ : ∃ wD, wD = wC.alloc (Obj.cells #[Value.int IntKind.u64 x] 22) := ⟨_, rfl⟩
  rw [← hwA, ← hwB, ← hwC, ← hwD]
  have sA : wA.heap.size = w.heap.size + 1 := by rw [hwA, World.size_alloc]
  have sB : wB.heap.size = w.heap.size + 1 + 1 := by rw [hwB, World.size_alloc, sA]
  have sC : wC.heap.size = w.heap.size + 1 + 1 + 1 := by rw [hwC, World.size_alloc, sB]
  have sD : wD.heap.size = w.heap.size + 1 + 1 + 1 + 1 := by rw [hwD, World.size_alloc, sC]
  have bX := Boxed.new w 3 (.int .i64 dx)
  have bY := Boxed.new wA 3 (.int .i64 dy)
  have bO := Boxed.new wB 22 (.int .u64 0)
  have bN := Boxed.new wC 22 (.int .u64 x)
  rw [← hwA] at bX
  rw [← hwB, sA] at bY
  rw [← hwC, sB] at bO
  rw [← hwD, sC] at bN
  have bX' : Boxed wD w.heap.size 3 (.int .i64 dx) := by rw [hwD, hwC, hwB]; exact ((bX.alloc _).alloc _).alloc _
  have bY' : Boxed wD (w.heap.size + 1) 3 (.int .i64 dy) := by rw [hwD, hwC]; exact (bY.alloc _).alloc _
  have bO' : Boxed wD (w.heap.size + 1 + 1) 22 (.int .u64 0) := by rw [hwD]; exact bO.alloc _
  have hB0 : Below w.heap.size w wD := by
    rw [hwD, hwC, hwB, hwA]
    exact ((((Below.refl _ w).alloc (Nat.le_refl _) _).alloc (by simp) _).alloc (by simp; omega) _).alloc (by simp; omega) _
  refine wpIn_rangeFunc_ownF rfl h1 (gf := 40) (lb := #[.pointer (some ⟨w.heap.size + 1 + 1 + 1, 0, none⟩)]) rfl trivial (enters_of Tryd.func40 (by kernel_rfl) rfl)
    (all_stops hz (n - 1) (by omega) (w.heap.size + 1 + 1 + 1) w.heap.size x hx hG _ (by rw [sD]; omega) (by rw [sD]; omega) bN.cell (tab_below hB0 hG hT)) belowK_t (belowK_b (by rw [sD]; omega)) (Below.refl _ _) (fun _ => rfl)
    (fun pre W => ((Boxed W w.heap.size 3 (.int .i64 dx) ∧ Boxed W (w.heap.size + 1) 3 (.int .i64 dy)) ∧ Boxed W (w.heap.size + 1 + 1) 22 (.int .u64 ((pre.foldl (stepS dx dy) 0 : Nat) : Int))) ∧ Below w.heap.size w W)
    (fun _ _ _ => False)
    (OwnFrom.and (Own.from (fun s A B row hs hg hr => ⟨⟨boxed_own (β := List (Fin 64)) _ _ (fun _ => Value.int IntKind.i64 dx) s A B row hs.1.1 hg hr, boxed_own (β := List (Fin 64)) _ _ (fun _ => Value.int IntKind.i64 dy) s A B row hs.1.2 hg hr⟩, boxed_own (β := List (Fin 64)) _ _ (fun pre => Value.int IntKind.u64 ((pre.foldl (stepS dx dy) 0 : Nat) : Int)) s A B row hs.2 hg hr⟩) _) (ownFrom_below (Nat.le_refl _) (by rw [sD]; omega)))
    (fun _ _ _ _ _ hs _ _ => hs)
    ⟨⟨⟨bX', bY'⟩, bO'⟩, hB0⟩
    (fun k => { tmps := #[Value.int IntKind.u64 x, Value.int IntKind.i64 dx, Value.int IntKind.i64 dy, undef, Value.pointer (some { block := w.heap.size, off := 0 }), Value.pointer (some { block := w.heap.size + 1, off := 0 }), Value.int IntKind.u64 0, Value.pointer (some { block := w.heap.size + 1 + 1, off := 0 }), Value.int IntKind.i64 ((k.1 : Nat) : Int), undef, undef, Value.int IntKind.i64 dx, Value.bool (decide (dx < -7)), Value.bool (decide (dx < -7)), Value.int IntKind.i64 dx, Value.bool (decide (7 < dx)), Value.bool (decide (dx < -7) || decide (7 < dx)), Value.bool (decide (dx < -7) || decide (7 < dx)), Value.int IntKind.i64 dy, Value.bool (decide (dy < -7)), Value.bool (decide (dx < -7) || decide (7 < dx) || decide (dy < -7)), Value.bool (decide (dx < -7) || decide (7 < dx) || decide (dy < -7)), Value.int IntKind.i64 dy, Value.bool (decide (7 < dy)), Value.bool (decide (dx < -7) || decide (7 < dx) || decide (dy < -7) || decide (7 < dy)), Value.int IntKind.u64 x, Value.func (Fn.func 40) #[] #[Value.pointer (some { block := w.heap.size + 1 + 1 + 1, off := 0 })], Value.int IntKind.i64 ((k.1 : Nat) : Int), undef, undef, undef, undef, undef, undef, undef, undef, undef, undef, undef, undef, undef, undef, undef, undef, undef, undef, undef, undef, undef, undef, undef, undef, undef, undef, undef, undef, undef, undef], defers := [] }) ?assign ?body ?done ?stop
  case assign =>
    intro l k W K hK
    gi_wp2
    exact hK
  case body =>
    rintro l pre k W ⟨⟨⟨hX, hY⟩, hO⟩, hB⟩ hlt
    have cX := hX.cell
    have cY := hY.cell
    have cO := hO.cell
    have fO := hO.frozen
    gi_wp2
    refine wpIn_region_quietR (by kernel_rfl) (by kernel_rfl) (by kernel_rfl) ?_
    repeat (gi_big_quiet_step (fail))
    refine wpQuietIn_nil ?_
    intro _ hw'
    obtain ⟨nq, hw''⟩ := hw'
    subst hw''
    gi_wp2
    · have hA0 : 0 ≤ ((k.1 : Nat) : Int) % 8 + dx := by assumption
      have hA1 : ((k.1 : Nat) : Int) % 8 + dx < 8 := by assumption
      have hB0 : 0 ≤ ((k.1 : Nat) : Int) / 8 + dy := by assumption
      have hB1 : ((k.1 : Nat) : Int) / 8 + dy < 8 := by assumption
      have hw1 : IntKind.i64.wrap (8 * (((k.1 : Nat) : Int) / 8 + dy)) = 8 * (((k.1 : Nat) : Int) / 8 + dy) := by rw [IntKind.wrap_i64]; omega
      have hw2 : IntKind.i64.wrap (8 * (((k.1 : Nat) : Int) / 8 + dy) + (((k.1 : Nat) : Int) % 8 + dx)) = 8 * (((k.1 : Nat) : Int) / 8 + dy) + (((k.1 : Nat) : Int) % 8 + dx) := by rw [IntKind.wrap_i64]; omega
      have hs0 : 0 ≤ 8 * (((k.1 : Nat) : Int) / 8 + dy) + (((k.1 : Nat) : Int) % 8 + dx) := by omega
      have hs1 : 8 * (((k.1 : Nat) : Int) / 8 + dy) + (((k.1 : Nat) : Int) % 8 + dx) ≤ 64 := by omega
      have hval := or_key (o := pre.foldl (stepS dx dy) 0) (n := (8 * (((k.1 : Nat) : Int) / 8 + dy) + (((k.1 : Nat) : Int) % 8 + dx)).toNat) (fold_ltW dx dy pre (by omega)) (by omega)
      have hst : stepS dx dy (pre.foldl (stepS dx dy) 0) k = pre.foldl (stepS dx dy) 0 ||| 2 ^ (8 * (((k.1 : Nat) : Int) / 8 + dy) + (((k.1 : Nat) : Int) % 8 + dx)).toNat := by
        unfold stepS
        rw [if_pos ⟨⟨by omega, by omega⟩, ⟨by omega, by omega⟩⟩, show (((k.1 % 8 : Nat)) : Int) = ((k.1 : Nat) : Int) % 8 by omega, show (((k.1 / 8 : Nat)) : Int) = ((k.1 : Nat) : Int) / 8 by omega]
      have hfin : ∀ N, KeepsOthers W ((W.drewN N).setCell { block := w.heap.size + 1 + 1, off := 0 } (Value.int IntKind.u64 ((pre.foldl (stepS dx dy) 0 ||| 2 ^ (8 * (((k.1 : Nat) : Int) / 8 + dy) + (((k.1 : Nat) : Int) % 8 + dx)).toNat : Nat) : Int))) ∧
          Below w.heap.size W ((W.drewN N).setCell { block := w.heap.size + 1 + 1, off := 0 } (Value.int IntKind.u64 ((pre.foldl (stepS dx dy) 0 ||| 2 ^ (8 * (((k.1 : Nat) : Int) / 8 + dy) + (((k.1 : Nat) : Int) % 8 + dx)).toNat : Nat) : Int))) ∧
          ((Boxed ((W.drewN N).setCell { block := w.heap.size + 1 + 1, off := 0 } (Value.int IntKind.u64 ((pre.foldl (stepS dx dy) 0 ||| 2 ^ (8 * (((k.1 : Nat) : Int) / 8 + dy) + (((k.1 : Nat) : Int) % 8 + dx)).toNat : Nat) : Int))) w.heap.size 3 (.int .i64 dx) ∧
            Boxed ((W.drewN N).setCell { block := w.heap.size + 1 + 1, off := 0 } (Value.int IntKind.u64 ((pre.foldl (stepS dx dy) 0 ||| 2 ^ (8 * (((k.1 : Nat) : Int) / 8 + dy) + (((k.1 : Nat) : Int) % 8 + dx)).toNat : Nat) : Int))) (w.heap.size + 1) 3 (.int .i64 dy)) ∧
            Boxed ((W.drewN N).setCell { block := w.heap.size + 1 + 1, off := 0 } (Value.int IntKind.u64 ((pre.foldl (stepS dx dy) 0 ||| 2 ^ (8 * (((k.1 : Nat) : Int) / 8 + dy) + (((k.1 : Nat) : Int) % 8 + dx)).toNat : Nat) : Int))) (w.heap.size + 1 + 1) 22 (.int .u64 (((pre ++ [k]).foldl (stepS dx dy) 0 : Nat) : Int))) ∧
          Below w.heap.size w ((W.drewN N).setCell { block := w.heap.size + 1 + 1, off := 0 } (Value.int IntKind.u64 ((pre.foldl (stepS dx dy) 0 ||| 2 ^ (8 * (((k.1 : Nat) : Int) / 8 + dy) + (((k.1 : Nat) : Int) % 8 + dx)).toNat : Nat) : Int))) := fun N => by
        rw [List.foldl_append, List.foldl_cons, List.foldl_nil, hst]
        have hX' : Boxed (W.drewN N) w.heap.size 3 (.int .i64 dx) := hX
        have hY' : Boxed (W.drewN N) (w.heap.size + 1) 3 (.int .i64 dy) := hY
        have hO' : Boxed (W.drewN N) (w.heap.size + 1 + 1) 22 (.int .u64 ((pre.foldl (stepS dx dy) 0 : Nat) : Int)) := hO
        have hk0 : KeepsOthers W (W.drewN N) := ⟨Nat.le_refl _, fun _ _ h _ => h⟩
        have hb0 : Below w.heap.size W (W.drewN N) := below_drewN (Below.refl _ W) N
        exact ⟨hk0.trans (KeepsOthers.setCell _ _ _), hb0.setCell (p := ⟨w.heap.size + 1 + 1, 0, none⟩) (by simp; omega) _, ⟨⟨hX'.other (by omega) _, hY'.other (by omega) _⟩, hO'.set _⟩, (hB.trans hb0).setCell (p := ⟨w.heap.size + 1 + 1, 0, none⟩) (by simp; omega) _⟩
      gi_region
      all_goals exact hfin (nq + 1)
    all_goals
      have hst : stepS dx dy (pre.foldl (stepS dx dy) 0) k = pre.foldl (stepS dx dy) 0 := by
        unfold stepS
        rw [if_neg (fun h => by have h1 := h.1.1; have h2 := h.1.2; have h3 := h.2.1; have h4 := h.2.2; rw [show (((k.1 % 8 : Nat)) : Int) = ((k.1 : Nat) : Int) % 8 by omega] at h1 h2; rw [show (((k.1 / 8 : Nat)) : Int) = ((k.1 : Nat) : Int) / 8 by omega] at h3 h4; omega)]
      refine ⟨⟨Nat.le_refl _, fun _ _ h _ => h⟩, below_drewN (Below.refl _ W) nq, ⟨⟨hX, hY⟩, ?_⟩, below_drewN hB nq⟩
      rw [List.foldl_append, List.foldl_cons, List.foldl_nil, hst]
      exact hO
  case done =>
    rintro D ys W hD rfl ⟨⟨_, hO⟩, hB⟩ hK
    have cO := hO.cell
    gi_wp2
    refine ⟨by simp, .inl ⟨_, _, rfl, run_takeDeferred hK, ?_⟩⟩
    exact ⟨_, results_tmp rfl _ _ _, rfl, hB.trans (belowK_b (w := w) (Nat.le_refl _) W D _ _ (by rw [sD] at hD; omega) hK rfl rfl)⟩
  case stop =>
    rintro D c pre W _ _ h _
    exact h.elim
set_option maxRecDepth 100000 in
set_option maxHeartbeats 2000000 in
theorem shift_out (x : Nat) (dx dy : Int) (h : in7 dx dy = false) (w : World) :
    Calls Tryd.prog 6 #[.int .u64 x, .int .i64 dx, .int .i64 dy] w fun e W' => e = .returned (.int .u64 0) ∧ Below w.heap.size w W' := by
  have h' : ¬ (((-7 ≤ dx ∧ dx ≤ 7) ∧ -7 ≤ dy) ∧ dy ≤ 7) := by
    intro hh
    simp only [in7, Bool.and_eq_false_iff, decide_eq_false_iff_not] at h
    omega
  refine (callsIn_wide (n := 3)).1 ?_
  refine callsIn_of_wp Tryd.func6 rfl trivial ?_ rfl
  simp only [Tryd.ntmps6, List.size_toArray, List.length_cons, List.length_nil, Nat.reduceAdd, Nat.reduceSub, Array.replicate_succ, Array.replicate_zero, List.push_toArray, List.append_toArray, List.nil_append, List.cons_append]
  gi_wp2_with (exfalso; exact absurd (by assumption) h')
  all_goals
    go_ret
    exact ⟨rfl, ((Below.refl _ w).alloc (Nat.le_refl _) _).alloc (by simp) _⟩
end Go.Proofs.YteiohidcgimjlaaDoor
namespace Go.Proofs.YteiohidcgimjlaaDoor
open Go Go.Den Go.Proofs Go.RowKit Go.Shelf
set_option linter.unusedVariables false
set_option linter.unusedSimpArgs false
set_option maxRecDepth 100000
def tz_ren : Go.Shelf.Ren := ⟨fun | 29 => 28 | n => n, fun | 22 => 22 | 3 => 3 | 4 => 4 | 25 => 63 | 54 => 80 | 0 => 0 | 5 => 5 | n => n, fun | 1 => 0 | n => n⟩
open Go.Shelf in
theorem tz_lay : Go.Proofs.Lays7.n29 Tryd.prog tz_ren where
  mixed := by kernel_rfl
  f29 := Tryd.func28.trans (congrArg some (by kernel_rfl))
  t0 := Tryd.underlying0
  a0 := Tryd.isAgg0
  z0 := Tryd.sizeOf0
  v0 := Tryd.zeroValue0
  i0 := by kernel_rfl
  t3 := Tryd.underlying3
  a3 := Tryd.isAgg3
  z3 := Tryd.sizeOf3
  v3 := Tryd.zeroValue3
  i3 := by kernel_rfl
  t4 := Tryd.underlying4
  a4 := Tryd.isAgg4
  z4 := Tryd.sizeOf4
  v4 := Tryd.zeroValue4
  i4 := by kernel_rfl
  t5 := Tryd.underlying5
  a5 := Tryd.isAgg5
  z5 := Tryd.sizeOf5
  v5 := Tryd.zeroValue5
  i5 := by kernel_rfl
  t22 := Tryd.underlying22
  a22 := Tryd.isAgg22
  z22 := Tryd.sizeOf22
  v22 := Tryd.zeroValue22
  i22 := by kernel_rfl
  t25 := Tryd.underlying63
  a25 := Tryd.isAgg63
  z25 := Tryd.sizeOf63
  v25 := Tryd.zeroValue63
  i25 := by kernel_rfl
  t54 := Tryd.underlying80
  a54 := Tryd.isAgg80
  z54 := Tryd.sizeOf80
  g1 := by kernel_rfl
theorem tz_ok : TzOK := fun x w hx hT => Any7.bits_TrailingZeros64 (P := Tryd.prog) (ρ := tz_ren) tz_lay x hx w (fun _ => hT)
theorem b_chg {w w' : World} (hd : Go.Den.Ctx.drawsUp = false) (h : Go.RowKit.Below w.heap.size w w') : Go.Eng.Chg [] w w' :=
  ⟨h.os, h.tape, h.output, h.size, fun k hk _ => h.block k hk, fun e => by rw [hd] at e; cases e⟩
theorem b_inv {α : Type} {c : Bool} {x r : α} (h : (bif c then some x else none) = some r) : c = true ∧ x = r := by cases c <;> simp_all
theorem b_tab {S : Nat → Prop} {w : World} (hS : ∀ k, S k → k < w.heap.size) (hT : TabR S w) : TabAt 0 Lib.deBruijn64tab w ∧ 0 < w.heap.size := by
  obtain ⟨h1, T, fz, h⟩ := hT.tab 0 deB64 rfl
  refine ⟨fun j hj => ?_, hS _ h1⟩
  simp only [World.cell?, h]
  rw [if_neg (by simp), List.getElem?_toArray]
  unfold deB64 deB64I
  rw [List.getElem?_map, List.getElem?_map, List.getElem?_eq_getElem hj, List.getD_eq_getElem?_getD, List.getElem?_eq_getElem hj]
  rfl
noncomputable def ctz64S_con : Con := ⟨[.int .u64], true, [], .int .i64, fun x => ctz64S x.1, none⟩
theorem ctz64S_ok : ConOK Tryd.prog 28 ctz64S_con := by
  refine ⟨rfl, fun h => (by cases h), fun g h => (by cases h), fun w S args x r hS hT ha hr => ?_⟩
  obtain ⟨n, ⟨⟩⟩ := x
  obtain ⟨v, q, e1, ⟨cs, ⟨_, rfl⟩, rfl⟩, h2⟩ := ha
  obtain rfl : q = [] := h2
  obtain rfl : args = #[.int .u64 n] := by rw [← Array.toList_inj, e1]; rfl
  have hr : ctz64S n = some r := hr
  rw [ctz64S_eq] at hr
  obtain ⟨hb, rfl⟩ := b_inv hr
  obtain ⟨x, rfl, hx⟩ := inU64_spec hb
  refine (tz_ok x w hx (b_tab hS hT).1).mono ?_
  rintro e w' ⟨rfl, rfl⟩
  exact ⟨_, rfl, Go.Eng.Chg.refl _ _, [], [.int .i64 ((Lib.ctz 64 x : Nat) : Int)], List.nodup_nil, (by simp), ⟨rfl, rfl⟩, rfl⟩
theorem b_repL {w : World} {S : Nat → Prop} : ∀ l : List (Fin 64), RepL (fun (x : D (.int .i64)) c => Rep w S (.int .i64) x [] c) (l.map fun k => ((k.1 : Nat) : Int)) (l.map encF)
  | [] => rfl
  | s :: l => ⟨[encF s], _, rfl, ⟨rfl, rfl⟩, b_repL l⟩
noncomputable def bitsListS_con : Con := ⟨[.int .u64], true, [], .sl (.int .i64), fun x => bitsListS x.1, none⟩
theorem bitsListS_ok : ConOK Tryd.prog 12 bitsListS_con := by
  refine ⟨rfl, fun h => (by cases h), fun g h => (by cases h), fun w S args x r hS hT ha hr => ?_⟩
  obtain ⟨n, ⟨⟩⟩ := x
  obtain ⟨v, q, e1, ⟨cs, ⟨_, rfl⟩, rfl⟩, h2⟩ := ha
  obtain rfl : q = [] := h2
  obtain rfl : args = #[.int .u64 n] := by rw [← Array.toList_inj, e1]; rfl
  have hr : bitsListS n = some r := hr
  rw [bitsListS_eq] at hr
  obtain ⟨hb, rfl⟩ := b_inv hr
  obtain ⟨x, rfl, hx⟩ := inU64_spec hb
  obtain ⟨hta, hG⟩ := b_tab hS hT
  refine (callsIn_wide.1 (list_in tz_ok 3 (Nat.le_refl _) x hx w hG hta)).mono ?_
  rintro e w' ⟨v, rfl, hrow, hnil, hB⟩
  rw [Int.toNat_natCast]
  generalize sqF x = l at hrow hnil
  obtain ⟨hl, hrow⟩ := hrow
  have hlen : (l.map fun k : Fin 64 => ((k.1 : Nat) : Int)).length = l.length := List.length_map _
  rcases hrow with ⟨rfl, h0⟩ | ⟨g, cap, cur, rfl, hg, hh, h1, h2, h3, h4⟩
  · have hl0 : l = [] := List.length_eq_zero_iff.1 h0
    subst hl0
    exact ⟨_, rfl, b_chg rfl hB, [], [.slice none 0 0], List.nodup_nil, (by simp), ⟨rfl, none, 0, [], rfl, Nat.le_refl _, rfl, fun h => absurd rfl h⟩, rfl⟩
  · refine ⟨_, rfl, b_chg rfl hB, [], [.slice (some ⟨g, 0, none⟩) l.length cap], List.nodup_nil, (by simp), ⟨rfl, some ⟨g, 0, none⟩, cap, l.map encF, congrArg (fun n => [Value.slice (some ⟨g, 0, none⟩) n cap]) hlen.symm, Nat.le_trans (Nat.le_of_eq hlen) h1, b_repL l, fun _ => ⟨_, rfl, ⟨(Array.getElem?_eq_some_iff.1 hh).1, .inr hg, by simp⟩, fun j u hj => ?_⟩⟩, rfl⟩
    have hlt : j < l.length := by
      have := (List.getElem?_eq_some_iff.1 hj).1
      simpa using this
    rw [Go.Eng.adr_add, Nat.zero_add]
    simp only [World.cell?, hh]
    rw [Nat.mul_one] at h4
    rw [← h4, List.getElem?_take, if_pos hlt] at hj
    simpa using hj
noncomputable def bitsShiftS_con : Con := ⟨[.int .u64, .int .i64, .int .i64], true, [], .int .u64, fun x => bitsShiftS x.1 x.2.1 x.2.2.1, none⟩
theorem bitsShiftS_ok : ConOK Tryd.prog 6 bitsShiftS_con := by
  refine ⟨rfl, fun h => (by cases h), fun g h => (by cases h), fun w S args x r hS hT ha hr => ?_⟩
  obtain ⟨n, dx, dy, ⟨⟩⟩ := x
  obtain ⟨v, q, e1, ⟨cs, ⟨_, rfl⟩, rfl⟩, v2, q2, rfl, ⟨cs2, ⟨_, rfl⟩, rfl⟩, v3, q3, rfl, ⟨cs3, ⟨_, rfl⟩, rfl⟩, h2⟩ := ha
  obtain rfl : q3 = [] := h2
  obtain rfl : args = #[.int .u64 n, .int .i64 dx, .int .i64 dy] := by rw [← Array.toList_inj, e1]; rfl
  have hr : bitsShiftS n dx dy = some r := hr
  rw [bitsShiftS_eq] at hr
  obtain ⟨hb, rfl⟩ := b_inv hr
  obtain ⟨x, rfl, hx⟩ := inU64_spec hb
  obtain ⟨hta, hG⟩ := b_tab hS hT
  rw [Int.toNat_natCast]
  cases h7 : in7 dx dy
  · refine (shift_out x dx dy h7 w).mono ?_
    rintro e w' ⟨rfl, hB⟩
    exact ⟨_, rfl, b_chg rfl hB, [], [.int .u64 0], List.nodup_nil, (by simp), ⟨rfl, rfl⟩, rfl⟩
  · have h7' := h7
    simp only [in7, Bool.and_eq_true, decide_eq_true_eq] at h7'
    refine (callsIn_wide.1 (shift_in tz_ok 3 (Nat.le_refl _) x dx dy h7'.1.1 h7'.1.2 h7'.2.1 h7'.2.2 hx w hG hta)).mono ?_
    rintro e w' ⟨rfl, hB⟩
    exact ⟨_, rfl, b_chg rfl hB, [], [.int .u64 ((shiftF x dx dy : Nat) : Int)], List.nodup_nil, (by simp), ⟨rfl, rfl⟩, rfl⟩
end Go.Proofs.YteiohidcgimjlaaDoor
namespace Go.Proofs.YteiohidcgimjlaaDoor
open Go.Den
set_option linter.unusedVariables false
set_option maxRecDepth 100000
def ref1In_ann : Ann := .nil
noncomputable def ref1In_con : Con := ⟨[(.int .i64), (.int .i64), (.int .i64)], true, [], .bool, fun x => ref1In_o x.1 x.2.1 x.2.2.1, some fun x => ref1In x.1 x.2.1 x.2.2.1⟩
noncomputable def ref1In_env : Env := []
theorem ref1In_den (x : DL ref1In_con.ps) : ref1In_con.φ x = denF Tryd.prog ref1In_env ref1In_ann Tryd.f8 ref1In_con.ps ref1In_con.one ref1In_con.res ref1In_con.ρ x := by kernel_rfl
theorem ref1In_ok : ConOK Tryd.prog 8 ref1In_con :=
  con_of_den (env := ref1In_env) ((EnvOK.nil _)) mixed Tryd.func8 ref1In_con ref1In_ann (by kernel_rfl) (fun h => by first | rfl | cases h) (fun g hg x => by
    cases hg
    exact ref1In_eq _ _ _) ref1In_den
def ref1SameInts_ann : Ann := (.two .nil (.two .nil (.two (.two .nil (.joinE ⟨[], [], []⟩ (.two (.loop ⟨[0, 1, 12], [(13, (.int .i64))], []⟩ .nil) .nil))) .nil)))
noncomputable def ref1SameInts_con : Con := ⟨[(.sl (.int .i64)), (.sl (.int .i64))], true, [], .bool, fun x => ref1SameInts x.1 x.2.1, none⟩
noncomputable def ref1SameInts_env : Env := []
theorem ref1SameInts_den (x : DL ref1SameInts_con.ps) : ref1SameInts_con.φ x = denF Tryd.prog ref1SameInts_env ref1SameInts_ann Tryd.f11 ref1SameInts_con.ps ref1SameInts_con.one ref1SameInts_con.res ref1SameInts_con.ρ x := by kernel_rfl
theorem ref1SameInts_ok : ConOK Tryd.prog 11 ref1SameInts_con :=
  con_of_den (env := ref1SameInts_env) ((EnvOK.nil _)) mixed Tryd.func11 ref1SameInts_con ref1SameInts_ann (by kernel_rfl) (fun h => by first | rfl | cases h) (fun g hg => by cases hg) ref1SameInts_den
end Go.Proofs.YteiohidcgimjlaaDoor
namespace Go.Proofs.YteiohidcgimjlaaDoor
open Go.Den
set_option linter.unusedVariables false
set_option maxRecDepth 100000
def bitsOf_ann : Ann := (.two .nil (.two .nil (.two (.two .nil (.joinE ⟨[], [(4, (.int .u64))], []⟩ (.two (.loop ⟨[7, 8], [(4, (.int .u64)), (9, (.int .i64))], []⟩ .nil) .nil))) .nil)))
noncomputable def bitsOf_con : Con := ⟨[(.sl (.int .i64))], false, [(.int .u64), (.int .i64)], (.st (.int .u64) (.st (.int .i64) .nil)), fun x => bitsOf x.1, none⟩
noncomputable def bitsOf_env : Env := []
theorem bitsOf_den (x : DL bitsOf_con.ps) : bitsOf_con.φ x = denF Tryd.prog bitsOf_env bitsOf_ann Tryd.f9 bitsOf_con.ps bitsOf_con.one bitsOf_con.res bitsOf_con.ρ x := by kernel_rfl
theorem bitsOf_ok : ConOK Tryd.prog 9 bitsOf_con :=
  con_of_den (env := bitsOf_env) ((EnvOK.nil _)) mixed Tryd.func9 bitsOf_con bitsOf_ann (by kernel_rfl) (fun h => by first | rfl | cases h) (fun g hg => by cases hg) bitsOf_den
def mathbitsOnesCount64_ann : Ann := .nil
noncomputable def mathbitsOnesCount64_con : Con := ⟨[(.int .u64)], true, [], (.int .i64), fun x => mathbitsOnesCount64_o x.1, some fun x => mathbitsOnesCount64 x.1⟩
noncomputable def mathbitsOnesCount64_env : Env := []
theorem mathbitsOnesCount64_den (x : DL mathbitsOnesCount64_con.ps) : mathbitsOnesCount64_con.φ x = denF Tryd.prog mathbitsOnesCount64_env mathbitsOnesCount64_ann Tryd.f27 mathbitsOnesCount64_con.ps mathbitsOnesCount64_con.one mathbitsOnesCount64_con.res mathbitsOnesCount64_con.ρ x := by kernel_rfl
theorem mathbitsOnesCount64_ok : ConOK Tryd.prog 27 mathbitsOnesCount64_con :=
  con_of_den (env := mathbitsOnesCount64_env) ((EnvOK.nil _)) mixed Tryd.func27 mathbitsOnesCount64_con mathbitsOnesCount64_ann (by kernel_rfl) (fun h => by first | rfl | cases h) (fun g hg x => by
    cases hg
    exact mathbitsOnesCount64_eq _) mathbitsOnesCount64_den
def bitsCount_ann : Ann := .nil
noncomputable def bitsCount_con : Con := ⟨[(.int .u64)], true, [], (.int .i64), fun x => bitsCount_o x.1, some fun x => bitsCount x.1⟩
noncomputable def bitsCount_env : Env := (27, .con mathbitsOnesCount64_con) :: []
theorem bitsCount_den (x : DL bitsCount_con.ps) : bitsCount_con.φ x = denF Tryd.prog bitsCount_env bitsCount_ann Tryd.f10 bitsCount_con.ps bitsCount_con.one bitsCount_con.res bitsCount_con.ρ x := by kernel_rfl
theorem bitsCount_ok : ConOK Tryd.prog 10 bitsCount_con :=
  con_of_den (env := bitsCount_env) ((EnvOK.cons (EnvOK.nil _) mathbitsOnesCount64_ok)) mixed Tryd.func10 bitsCount_con bitsCount_ann (by kernel_rfl) (fun h => by first | rfl | cases h) (fun g hg x => by
    cases hg
    exact bitsCount_eq _) bitsCount_den
def bitsFirst_ann : Ann := .nil
noncomputable def bitsFirst_con : Con := ⟨[(.int .u64)], false, [(.int .i64), (.int .i64)], (.st (.int .i64) (.st (.int .i64) .nil)), fun x => bitsFirst x.1, none⟩
noncomputable def bitsFirst_env : Env := (28, .con ctz64S_con) :: []
theorem bitsFirst_den (x : DL bitsFirst_con.ps) : bitsFirst_con.φ x = denF Tryd.prog bitsFirst_env bitsFirst_ann Tryd.f13 bitsFirst_con.ps bitsFirst_con.one bitsFirst_con.res bitsFirst_con.ρ x := by kernel_rfl
theorem bitsFirst_ok : ConOK Tryd.prog 13 bitsFirst_con :=
  con_of_den (env := bitsFirst_env) ((EnvOK.cons (EnvOK.nil _) ctz64S_ok)) mixed Tryd.func13 bitsFirst_con bitsFirst_ann (by kernel_rfl) (fun h => by first | rfl | cases h) (fun g hg => by cases hg) bitsFirst_den
def law1BitsSets_ann : Ann := (.two .nil (.two (.two .nil (.two (.join ⟨[0, 1], [(40, .bool)], []⟩ .nil) .nil)) (.two .nil (.two .nil (.two .nil (.two .nil (.two (.two .nil (.join ⟨[0, 1], [(10, (.int .i64)), (11, (.int .u64))], [(1, some (.arr 3 (.int .i64)))]⟩ (.two (.loop ⟨[0, 1, 9, 52, 53], [(10, (.int .i64)), (11, (.int .u64)), (54, (.int .i64))], [(1, some (.arr 3 (.int .i64)))]⟩ (.two .nil (.two .nil (.two (.two (.two .nil (.two (.two .nil (.join ⟨[0, 1, 9, 11, 13, 52, 53, 54], [(10, (.int .i64))], []⟩ .nil)) (.two (.two .nil (.join ⟨[0, 1, 9, 11, 13, 52, 53, 54], [(10, (.int .i64))], []⟩ .nil)) (.two .nil (.join ⟨[0, 1, 9, 10, 52, 53, 54], [(11, (.int .u64))], [(1, some (.arr 3 (.int .i64)))]⟩ .nil))))) .nil) .nil)))) .nil))) (.two (.two .nil (.join ⟨[0, 1, 10], [(11, (.int .u64))], []⟩ .nil)) (.two .nil (.two .nil (.two (.two .nil (.join ⟨[1, 10, 11, 14, 15], [(16, (.osl 3 (.int .i64)))], []⟩ (.two (.loop ⟨[1, 10, 11, 14, 15], [(16, (.osl 3 (.int .i64))), (94, (.int .i64))], []⟩ (.two .nil (.two .nil (.two (.two (.two .nil (.two .nil (.join ⟨[1, 10, 11, 14, 15, 94], [(16, (.osl 3 (.int .i64)))], [(2, none)]⟩ .nil))) .nil) .nil)))) .nil))) (.two .nil (.two (.two .nil (.two (.two (.join ⟨[], [(4, .bool)], []⟩ .nil) .nil) .nil)) (.two (.join ⟨[], [(4, .bool)], []⟩ .nil) .nil))))))))))))))
noncomputable def law1BitsSets_con : Con := ⟨[(.sl (.int .i64)), (.int .u64)], true, [], .bool, fun x => law1BitsSets x.1 x.2.1, none⟩
noncomputable def law1BitsSets_env : Env := (8, .con ref1In_con) :: (13, .con bitsFirst_con) :: (11, .con ref1SameInts_con) :: (12, .con bitsListS_con) :: (10, .con bitsCount_con) :: (9, .con bitsOf_con) :: []
theorem law1BitsSets_den (x : DL law1BitsSets_con.ps) : law1BitsSets_con.φ x = denF Tryd.prog law1BitsSets_env law1BitsSets_ann Tryd.f4 law1BitsSets_con.ps law1BitsSets_con.one law1BitsSets_con.res law1BitsSets_con.ρ x := by kernel_rfl
theorem law1BitsSets_ok : ConOK Tryd.prog 4 law1BitsSets_con :=
  con_of_den (env := law1BitsSets_env) ((EnvOK.cons (EnvOK.cons (EnvOK.cons (EnvOK.cons (EnvOK.cons (EnvOK.cons (EnvOK.nil _) bitsOf_ok) bitsCount_ok) bitsListS_ok) ref1SameInts_ok) bitsFirst_ok) ref1In_ok)) mixed Tryd.func4 law1BitsSets_con law1BitsSets_ann (by kernel_rfl) (fun h => by first | rfl | cases h) (fun g hg => by cases hg) law1BitsSets_den
end Go.Proofs.YteiohidcgimjlaaDoor
