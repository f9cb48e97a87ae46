/- Proved: the Go law HandicapLevels returns true, whatever it is given. Conditions: none beyond the row itself. -/
import Derived.Test.YteahiolockghkaaGreatDoorCards
import Derived.Test.YteahiolockghkaaGreatDoorTie
import Derived.OpenShut
import Derived.Deep.DeepHandedRow
import Derived.Lib.LaidTab
import Derived.Test.YteahiolockghkaaGreatDoorMAA
import Derived.Test.YteahiolockghkaaGreatDoorHandicapLevelsC
import Derived.Test.YteahiolockghkaaGreatDoorMAG
namespace Go.Proofs.YteahiolockghkaaGreatDoor.handicapLevels
open Go.ChangeShapes Go.WideShapes Go.ChangeAt Go.RowKit Go.Eng
set_option linter.unusedVariables false
set_option linter.unusedSimpArgs false

theorem own : ownKnob Tryz.prog.godebug = none := by kernel_rfl
theorem laidOut : laidOutB Tryz.prog = true := by kernel_rfl

theorem laid_tail {P : Program} {x : String × DataW Unit} {rest : List (String × DataW Unit)} {w : World} (h : laidMet P (x :: rest) w) : laidMet P rest w := by
  obtain ⟨n, d⟩ := x
  obtain ⟨ps, ⟨g, t, cs, fuel, p, q, _, _, _, _, hq, rfl⟩, hn, hc⟩ := h
  exact ⟨q, hq, (List.nodup_append.1 hn).2.1, fun b off hb => hc b off (List.mem_append_right _ hb)⟩
theorem gTab0 : Tryz.prog.globalNamed "internal/strconv.uint64pow10" = some 5 := by kernel_rfl
theorem gTabType0 : (Tryz.prog.globals[5]?).map (·.type) = some 277 := by kernel_rfl
theorem cellsT0 : Tryz.prog.cellsOf 277 = 20 := by kernel_rfl
theorem cellsE0 : Tryz.prog.cellsOf 100 = 1 := by kernel_rfl
theorem tabData_eq0 : (Rows.laid_internal_strconv_uint64pow10 : DataW Unit) = Lib.tabData .u64 Lib.pow10Tab := by kernel_rfl
theorem tabValues0 : (Lib.pow10Tab.map fun z => Value.int .u64 z).toArray = (Go.Lib.pow10Tab.map (Value.int .u64)).toArray := by kernel_rfl
/-- WHAT THE ROW's LIST GIVES: the table's cells hold its numbers. -/
theorem table0 {W : World} (h : laidMetH Tryz.prog Rows.handicapLevelsRow.laid W) : 5 < W.heap.size ∧ ∃ T fz, W.heap[5]? = some (.cells (Go.Lib.pow10Tab.map (Value.int .u64)).toArray T fz) := by
  have h1 : laidMet Tryz.prog [("math/bits.deBruijn32tab", Rows.laid_math_bits_deBruijn32tab), ("math/bits.deBruijn64tab", Rows.laid_math_bits_deBruijn64tab), ("internal/strconv.uint64pow10", Rows.laid_internal_strconv_uint64pow10), ("unicode/utf8.acceptRanges", Rows.laid_unicode_utf8_acceptRanges), ("strconv.ErrRange", Rows.laid_strconv_ErrRange), ("strconv.ErrSyntax", Rows.laid_strconv_ErrSyntax), ("unicode/utf8.first", Rows.laid_unicode_utf8_first)] W := h
  have h2 := (laid_tail (laid_tail h1))
  rw [tabData_eq0] at h2
  have ht := Lib.tabIs_of_head gTab0 gTabType0 Tryz.underlying277 Tryz.underlying100 cellsE0 cellsT0 h2
  unfold Lib.TabIs World.var? at ht
  rw [gTab0] at ht
  have ht' : (match W.heap[5]? with | some (Obj.cells cs _ _) => some cs | _ => none) = some (Lib.pow10Tab.map fun z => Value.int .u64 z).toArray := ht
  rw [tabValues0] at ht'
  split at ht'
  · rename_i cs' T fz hb
    obtain rfl := Option.some.inj ht'
    exact ⟨(Array.getElem?_eq_some_iff.1 hb).1, T, fz, hb⟩
  · cases ht'
theorem tabR {W : World} (h : laidMetH Tryz.prog Rows.handicapLevelsRow.laid W) (hs : W.ShapedOpen Tryz.prog) : Go.Den.TabR (fun k => k < W.heap.size) W where
  tab g cs hg := by
    have hg0 : (bif Nat.beq 5 g then some (Go.Lib.pow10Tab.map (Value.int .u64)) else none) = some cs := hg
    cases he0 : Nat.beq 5 g
    · rw [he0] at hg0
      cases hg0
    · rw [he0] at hg0
      obtain rfl := Nat.eq_of_beq_eq_true he0
      obtain rfl := Option.some.inj hg0
      exact table0 h
  opn g e hg := by
    cases hg
def cellsD0 : DataW Unit → List Value
  | .lit (.int k n) => [.int k n]
  | _ => []
def cellsD1 : DataW Unit → List Value
  | .agg l => l.flatMap cellsD0
  | d => cellsD0 d
/-- the cells of a table of numbers -/
def cellsD2 : DataW Unit → List Value
  | .agg l => l.flatMap cellsD1
  | d => cellsD0 d
def laying (cs : Array Value) : Obj → Obj
  | .cells _ t fz => .cells cs t fz
  | o => o
/-- A WORLD FOR THE WITNESS: the settled one, the tables holding what their initialisers lay. -/
noncomputable def laidWorld (os : Os) : World := { World.holding Tryz.prog os ⟨#[], #[], []⟩ with heap := ((((((((((World.holding Tryz.prog os ⟨#[], #[], []⟩).heap.modify 6 (laying (cellsD2 Rows.laid_math_bits_deBruijn32tab).toArray)).modify 7 (laying (cellsD2 Rows.laid_math_bits_deBruijn64tab).toArray)).modify 5 (laying (cellsD2 Rows.laid_internal_strconv_uint64pow10).toArray)).modify 4 (laying (cellsD2 Rows.laid_unicode_utf8_acceptRanges).toArray)).modify 2 (laying #[.iface 236 (.pointer (some ⟨(World.holding Tryz.prog os ⟨#[], #[], []⟩).heap.size + 0, 0, none⟩))])).modify 1 (laying #[.iface 236 (.pointer (some ⟨(World.holding Tryz.prog os ⟨#[], #[], []⟩).heap.size + 1, 0, none⟩))])).modify 3 (laying (cellsD2 Rows.laid_unicode_utf8_first).toArray)).push (.cells #[.string ⟨#[118, 97, 108, 117, 101, 32, 111, 117, 116, 32, 111, 102, 32, 114, 97, 110, 103, 101]⟩] 238)).push (.cells #[.string ⟨#[105, 110, 118, 97, 108, 105, 100, 32, 115, 121, 110, 116, 97, 120]⟩] 238)) }
theorem laid_met (os : Os) : laidMet Tryz.prog Rows.handicapLevelsRow.laid ((laidWorld os).forCall (fun _ _ => 0) ⟨#[], #[.slice none 0 0, .string ⟨#[]⟩], []⟩).memory :=
  laidMet_of_run' 8 (by kernel_rfl) (by kernel_rfl)
theorem reads (os : Os) {H : Type} (enc : TypeId × Value → H) : (DataW.whole enc Tryz.prog ((laidWorld os).forCall (fun _ _ => 0) ⟨#[], #[.slice none 0 0, .string ⟨#[]⟩], []⟩).memory Tryz.f3.params.toList Rows.handicapLevelsSpec.vars false (#[.slice none 0 0, .string ⟨#[]⟩] : Array Value).toList 8).isSome = true := by kernel_rfl

set_option maxRecDepth 100000 in
theorem lifted (os : Os) (started : os.Started) (H : Type) (ec : TypeId × Value → H) (F : Stop.Interp) :
    ReturnsInHanded {} Tryz.checked os 3 .any ((OpenSpec.ofChange Rows.handicapLevelsSpec).preRow ec Tryz.prog Tryz.f3 Rows.handicapLevelsRow.domain false Rows.handicapLevelsRow.laid) (((OpenSpec.ofChange Rows.handicapLevelsSpec).at F).post ec Tryz.prog Tryz.f3 false true false false) := by
  obtain ⟨x, hx⟩ := Option.isSome_iff_exists.1 (reads os ec)
  refine returnsInHanded_of_row (C := Tryz.checked) (s := OpenSpec.ofChange Rows.handicapLevelsSpec) own started (by kernel_rfl) Tryz.func3
    (witness_row_at (enc := ec) (C := Tryz.checked) false (laidWorld os) #[.slice none 0 0, .string ⟨#[]⟩] rfl (by kernel_rfl) (by kernel_rfl) (by kernel_rfl)
      (OpenSpec.preRow_of_cond 8 hx rfl (fun k hk => by cases hk) (by kernel_rfl) (laid_met os))) ?_
  intro W base args ds gs before hval0 hW _ _ _ hL hSh _
  have hval : ∀ (j : Nat) t v, Tryz.f3.params[j]? = some t → args[j]? = some v → Value.okWide Tryz.prog W .any base t v := hval0
  have hW' := hW
  obtain ⟨p, q, hA0, hV, rfl, hfz, hnd⟩ := hW
  have hA : DataW.TrodAll ec Tryz.prog W 0 (fun _ => true) true Tryz.f3.params.toList args.toList ds p := hA0
  rw [Tryz.params3] at hA hval
  obtain ⟨v0, vs0, d0, ds0, p0, q0, hargs, rfl, rfl, h0, r0⟩ := trodAll_cons hA
  obtain ⟨v1, vs1, d1, ds1, p1, q1, rfl, rfl, rfl, h1, r1⟩ := trodAll_cons r0
  obtain ⟨rfl, rfl, rfl⟩ := trodAll_nil r1
  obtain rfl : args = #[v0, v1] := by cases args; simp_all
  obtain ⟨rfl, rfl⟩ := trodVars_none hV
  obtain ⟨y0, rfl, o0⟩ := open_val (.sl (.sl .str)) (by kernel_rfl) (hval 0 23 v0 rfl rfl) h0
  obtain ⟨y1, rfl, o1⟩ := open_val .str (by kernel_rfl) (hval 1 24 v1 rfl rfl) h1
  have key : Calls Tryz.prog 3 #[handV _ y0, handV _ y1] W fun e W' => e = .returned (.bool true) ∧ Below W.heap.size W W' := by
    have ha : Go.Den.ArgsR W ⟨fun k => k < W.heap.size, fun _ => none⟩ [Go.Den.tyE (.sl (.sl .str)), Go.Den.tyE .str] (Go.Den.dE _ y0, Go.Den.dE _ y1, ()) #[handV _ y0, handV _ y1].toList := ⟨_, _, rfl, Go.Den.arg_of (.sl (.sl .str)) (by kernel_rfl) o0, ⟨_, _, rfl, Go.Den.arg_of .str (by kernel_rfl) o1, rfl⟩⟩
    exact Go.Den.law_call Go.Proofs.YteahiolockghkaaGreatDoor.law3HandicapLevels_ok (tabR hL hSh) ha (Go.Proofs.YteahiolockghkaaGreatDoor.law3HandicapLevels_true _ _ (Go.Den.rng_of _ o0) (Go.Den.rng_of _ o1))
  refine key.mono fun e W' ⟨he, bel⟩ => ?_
  subst he
  exact ⟨_, rfl, law_post laidOut (by kernel_rfl) (by kernel_rfl) Tryz.underlying4 rfl rfl hW' bel⟩

theorem and_ok {a b : Bool} (ha : a = true) (hb : b = true) : (a && b) = true := by rw [ha, hb]; rfl
set_option maxHeartbeats 0 in
theorem closed : joinedFacts Tryz.pinned.checked.prog 3 Tryz.f3 (OpenSpec.ofChange Rows.handicapLevelsSpec).bare Rows.handicapLevelsRow = true := by
  unfold joinedFacts
  refine and_ok (and_ok (and_ok (and_ok (and_ok (and_ok (and_ok (and_ok (and_ok (and_ok (and_ok (and_ok (and_ok (and_ok (and_ok (and_ok (and_ok (and_ok (and_ok (and_ok (and_ok (and_ok (and_ok (and_ok (and_ok (and_ok (and_ok (and_ok (and_ok (and_ok (and_ok ?_ ?_) ?_) ?_) ?_) ?_) ?_) ?_) ?_) ?_) ?_) ?_) ?_) ?_) ?_) ?_) ?_) ?_) ?_) ?_) ?_) ?_) ?_) ?_) ?_) ?_) ?_) ?_) ?_) ?_) ?_) ?_
  all_goals as_aux_lemma => kernel_rfl
set_option maxHeartbeats 0 in
theorem said : Rows.HandicapLevelsSaid :=
  OpenClaim.holds_of_cond 3 Tryz.f3 rfl rfl rfl rfl rfl rfl rfl ⟨rfl, rfl, rfl, rfl, rfl⟩ rfl rfl rfl rfl rfl (by as_aux_lemma => kernel_rfl) Tryz.func3 closed
    (of_decide_eq_true (by as_aux_lemma => kernel_rfl)) (by unfold Func.isWrapper; first | (rw [if_pos (by decide +kernel)]; kernel_rfl) | (rw [if_neg (by decide +kernel)]; exact ⟨rfl, rfl⟩))
    (fun os started H ec _ F => by rw [OpenClaim.pre_eq_preRow]; exact lifted os started H ec F)
/-- No parameter wants a stand-in; the program's own looks are off: what the card asks. -/
theorem plain (f : FuncId) (fn : Func) (hf : Tryz.pinned.checked.prog.funcNamed "gamehall/gamehalllaw3.HandicapLevels" = some f) (hfn : Tryz.pinned.checked.prog.funcs[f]? = some fn) :
    true = Tryz.pinned.checked.prog.looks [] ∧ ∀ (j : Nat) t, fn.params[j]? = some t → Tryz.pinned.checked.prog.wantsStandIn t = false := by
  obtain rfl : f = 3 := Option.some.inj ((show Tryz.prog.funcNamed "gamehall/gamehalllaw3.HandicapLevels" = some 3 by kernel_rfl).symm.trans hf) |>.symm
  obtain rfl : fn = Tryz.f3 := (Option.some.inj (Tryz.func3.symm.trans hfn)).symm
  refine ⟨by kernel_rfl, fun j t ht => ?_⟩
  rw [Tryz.params3] at ht
  have hall : (#[23, 24] : Array TypeId).all (fun t => Tryz.pinned.checked.prog.wantsStandIn t == false) = true := by kernel_rfl
  have := Array.all_eq_true_iff_forall_mem.1 hall t (Array.mem_of_getElem? ht)
  simpa using this
/-- ████ THE CARD ████ -/
theorem proved : Rows.HandicapLevelsCardSaid :=
  Claim7.holds_tied_plain_at .later [] _ _ _ _ said (fun _ h => by cases h) (by kernel_rfl) (fun _ h => by cases h) handicapLevels_row_tie rfl ⟨rfl, rfl⟩ (by kernel_rfl) rfl plain (by kernel_rfl)
#print axioms proved
end Go.Proofs.YteahiolockghkaaGreatDoor.handicapLevels

