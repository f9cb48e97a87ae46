/- Proved: the Go law JournalSays returns true, whatever it is given. Conditions: none beyond the row itself. -/
import Derived.ChangeMaps5
import Derived.Test.YtlfpfiplndkofaaDoorCards
import Derived.Test.YtlfpfiplndkofaaDoorTie
import Derived.OpenShut
import Derived.Deep.DeepHandedRow
import Derived.Lib.LaidTab
import Derived.Test.YtlfpfiplndkofaaDoorMAA
import Derived.Test.YtlfpfiplndkofaaDoorMAE
import Derived.Test.YtlfpfiplndkofaaDoorMAD
namespace Go.Proofs.YtlfpfiplndkofaaDoor.journalSays
open Go.ChangeShapes Go.WideShapes Go.ChangeAt Go.RowKit Go.Eng
set_option linter.unusedVariables false
set_option linter.unusedSimpArgs false

theorem own : ownKnob Tryd.prog.godebug = none := by kernel_rfl
theorem laidOut : laidOutB Tryd.prog = true := by kernel_rfl

theorem laid_tail {P : Program} {x : String × DataW Unit} {rest : List (String × DataW Unit)} {w : World} (h : laidMet P (x :: rest) w) : laidMet P rest w := by
  obtain ⟨n, d⟩ := x
  obtain ⟨ps, ⟨g, t, cs, fuel, p, q, _, _, _, _, hq, rfl⟩, hn, hc⟩ := h
  exact ⟨q, hq, (List.nodup_append.1 hn).2.1, fun b off hb => hc b off (List.mem_append_right _ hb)⟩
theorem gTab0 : Tryd.prog.globalNamed "internal/strconv.uint64pow10" = some 0 := by kernel_rfl
theorem gTabType0 : (Tryd.prog.globals[0]?).map (·.type) = some 99 := by kernel_rfl
theorem cellsT0 : Tryd.prog.cellsOf 99 = 20 := by kernel_rfl
theorem cellsE0 : Tryd.prog.cellsOf 23 = 1 := by kernel_rfl
theorem tabData_eq0 : (Rows.laid_internal_strconv_uint64pow10 : DataW Unit) = Lib.tabData .u64 Lib.pow10Tab := by kernel_rfl
theorem tabValues0 : (Lib.pow10Tab.map fun z => Value.int .u64 z).toArray = (Go.Lib.pow10Tab.map (Value.int .u64)).toArray := by kernel_rfl
/-- WHAT THE ROW's LIST GIVES: the table's cells hold its numbers. -/
theorem table0 {W : World} (h : laidMetH Tryd.prog Rows.journalSaysRow.laid W) : 0 < W.heap.size ∧ ∃ T fz, W.heap[0]? = some (.cells (Go.Lib.pow10Tab.map (Value.int .u64)).toArray T fz) := by
  have h1 : laidMet Tryd.prog [("math/bits.deBruijn32tab", Rows.laid_math_bits_deBruijn32tab), ("math/bits.deBruijn64tab", Rows.laid_math_bits_deBruijn64tab), ("internal/strconv.uint64pow10", Rows.laid_internal_strconv_uint64pow10), ("unicode/utf8.acceptRanges", Rows.laid_unicode_utf8_acceptRanges), ("strconv.ErrRange", Rows.laid_strconv_ErrRange), ("strconv.ErrSyntax", Rows.laid_strconv_ErrSyntax), ("unicode/utf8.first", Rows.laid_unicode_utf8_first)] W := h
  have h2 := (laid_tail (laid_tail h1))
  rw [tabData_eq0] at h2
  have ht := Lib.tabIs_of_head gTab0 gTabType0 Tryd.underlying99 Tryd.underlying23 cellsE0 cellsT0 h2
  unfold Lib.TabIs World.var? at ht
  rw [gTab0] at ht
  have ht' : (match W.heap[0]? with | some (Obj.cells cs _ _) => some cs | _ => none) = some (Lib.pow10Tab.map fun z => Value.int .u64 z).toArray := ht
  rw [tabValues0] at ht'
  split at ht'
  · rename_i cs' T fz hb
    obtain rfl := Option.some.inj ht'
    exact ⟨(Array.getElem?_eq_some_iff.1 hb).1, T, fz, hb⟩
  · cases ht'
theorem gTab1 : Tryd.prog.globalNamed "math/bits.deBruijn64tab" = some 5 := by kernel_rfl
theorem gTabType1 : (Tryd.prog.globals[5]?).map (·.type) = some 122 := by kernel_rfl
theorem cellsT1 : Tryd.prog.cellsOf 122 = 64 := by kernel_rfl
theorem cellsE1 : Tryd.prog.cellsOf 5 = 1 := by kernel_rfl
theorem tabData_eq1 : (Rows.laid_math_bits_deBruijn64tab : DataW Unit) = Lib.tabData .u8 (Go.Lib.deBruijn64tab.map fun n => ((n : Nat) : Int)) := by kernel_rfl
theorem tabValues1 : ((Go.Lib.deBruijn64tab.map fun n => ((n : Nat) : Int)).map fun z => Value.int .u8 z).toArray = (Go.Lib.deBruijn64tab.map fun n => Value.int .u8 ((n : Nat) : Int)).toArray := by kernel_rfl
/-- WHAT THE ROW's LIST GIVES: the table's cells hold its numbers. -/
theorem table1 {W : World} (h : laidMetH Tryd.prog Rows.journalSaysRow.laid W) : 5 < W.heap.size ∧ ∃ T fz, W.heap[5]? = some (.cells (Go.Lib.deBruijn64tab.map fun n => Value.int .u8 ((n : Nat) : Int)).toArray T fz) := by
  have h1 : laidMet Tryd.prog [("math/bits.deBruijn32tab", Rows.laid_math_bits_deBruijn32tab), ("math/bits.deBruijn64tab", Rows.laid_math_bits_deBruijn64tab), ("internal/strconv.uint64pow10", Rows.laid_internal_strconv_uint64pow10), ("unicode/utf8.acceptRanges", Rows.laid_unicode_utf8_acceptRanges), ("strconv.ErrRange", Rows.laid_strconv_ErrRange), ("strconv.ErrSyntax", Rows.laid_strconv_ErrSyntax), ("unicode/utf8.first", Rows.laid_unicode_utf8_first)] W := h
  have h2 := (laid_tail h1)
  rw [tabData_eq1] at h2
  have ht := Lib.tabIs_of_head gTab1 gTabType1 Tryd.underlying122 Tryd.underlying5 cellsE1 cellsT1 h2
  unfold Lib.TabIs World.var? at ht
  rw [gTab1] at ht
  have ht' : (match W.heap[5]? with | some (Obj.cells cs _ _) => some cs | _ => none) = some ((Go.Lib.deBruijn64tab.map fun n => ((n : Nat) : Int)).map fun z => Value.int .u8 z).toArray := ht
  rw [tabValues1] at ht'
  split at ht'
  · rename_i cs' T fz hb
    obtain rfl := Option.some.inj ht'
    exact ⟨(Array.getElem?_eq_some_iff.1 hb).1, T, fz, hb⟩
  · cases ht'
theorem tabR {W : World} (h : laidMetH Tryd.prog Rows.journalSaysRow.laid W) (hs : W.ShapedOpen Tryd.prog) : Go.Den.TabR (fun k => k < W.heap.size) W where
  tab g cs hg := by
    have hg0 : (bif Nat.beq 0 g then some (Go.Lib.pow10Tab.map (Value.int .u64)) else bif Nat.beq 5 g then some (Go.Lib.deBruijn64tab.map fun n => Value.int .u8 ((n : Nat) : Int)) else none) = some cs := hg
    cases he0 : Nat.beq 0 g
    · rw [he0] at hg0
      have hg1 : (bif Nat.beq 5 g then some (Go.Lib.deBruijn64tab.map fun n => Value.int .u8 ((n : Nat) : Int)) else none) = some cs := hg0
      cases he1 : Nat.beq 5 g
      · rw [he1] at hg1
        cases hg1
      · rw [he1] at hg1
        obtain rfl := Nat.eq_of_beq_eq_true he1
        obtain rfl := Option.some.inj hg1
        exact table1 h
    · rw [he0] at hg0
      obtain rfl := Nat.eq_of_beq_eq_true he0
      obtain rfl := Option.some.inj hg0
      exact table0 h
  opn g e hg := by
    cases hg
def cellsD0 : DataW Unit → List Value
  | .lit (.int k n) => [.int k n]
  | _ => []
def cellsD1 : DataW Unit → List Value
  | .agg l => l.flatMap cellsD0
  | d => cellsD0 d
/-- the cells of a table of numbers -/
def cellsD2 : DataW Unit → List Value
  | .agg l => l.flatMap cellsD1
  | d => cellsD0 d
def laying (cs : Array Value) : Obj → Obj
  | .cells _ t fz => .cells cs t fz
  | o => o
/-- A WORLD FOR THE WITNESS: the settled one, the tables holding what their initialisers lay. -/
noncomputable def laidWorld (os : Os) : World := { World.holding Tryd.prog os ⟨#[], #[], []⟩ with heap := ((((((((((World.holding Tryd.prog os ⟨#[], #[], []⟩).heap.modify 4 (laying (cellsD2 Rows.laid_math_bits_deBruijn32tab).toArray)).modify 5 (laying (cellsD2 Rows.laid_math_bits_deBruijn64tab).toArray)).modify 0 (laying (cellsD2 Rows.laid_internal_strconv_uint64pow10).toArray)).modify 7 (laying (cellsD2 Rows.laid_unicode_utf8_acceptRanges).toArray)).modify 3 (laying #[.iface 127 (.pointer (some ⟨(World.holding Tryd.prog os ⟨#[], #[], []⟩).heap.size + 0, 0, none⟩))])).modify 2 (laying #[.iface 127 (.pointer (some ⟨(World.holding Tryd.prog os ⟨#[], #[], []⟩).heap.size + 1, 0, none⟩))])).modify 6 (laying (cellsD2 Rows.laid_unicode_utf8_first).toArray)).push (.cells #[.string ⟨#[118, 97, 108, 117, 101, 32, 111, 117, 116, 32, 111, 102, 32, 114, 97, 110, 103, 101]⟩] 129)).push (.cells #[.string ⟨#[105, 110, 118, 97, 108, 105, 100, 32, 115, 121, 110, 116, 97, 120]⟩] 129)) }
theorem laid_met (os : Os) : laidMet Tryd.prog Rows.journalSaysRow.laid ((laidWorld os).forCall (fun _ _ => 0) ⟨#[], #[.slice none 0 0, .int .i64 (0 : Int), .int .u64 (0 : Int), .string ⟨#[]⟩], []⟩).memory :=
  laidMet_of_run' 8 (by kernel_rfl) (by kernel_rfl)
theorem reads (os : Os) {H : Type} (enc : TypeId × Value → H) : (DataW.whole enc Tryd.prog ((laidWorld os).forCall (fun _ _ => 0) ⟨#[], #[.slice none 0 0, .int .i64 (0 : Int), .int .u64 (0 : Int), .string ⟨#[]⟩], []⟩).memory Tryd.f3.params.toList Rows.journalSaysSpec.vars false (#[.slice none 0 0, .int .i64 (0 : Int), .int .u64 (0 : Int), .string ⟨#[]⟩] : Array Value).toList 8).isSome = true := by kernel_rfl

set_option maxRecDepth 100000 in
theorem lifted (os : Os) (started : os.Started) (H : Type) (ec : TypeId × Value → H) (F : Stop.Interp) :
    ReturnsInHanded {} Tryd.checked os 3 .any ((OpenSpec.ofChange Rows.journalSaysSpec).preRow ec Tryd.prog Tryd.f3 Rows.journalSaysRow.domain false Rows.journalSaysRow.laid) (((OpenSpec.ofChange Rows.journalSaysSpec).at F).post ec Tryd.prog Tryd.f3 false true false false) := by
  obtain ⟨x, hx⟩ := Option.isSome_iff_exists.1 (reads os ec)
  refine returnsInHanded_of_row (C := Tryd.checked) (s := OpenSpec.ofChange Rows.journalSaysSpec) own started (by kernel_rfl) Tryd.func3
    (witness_row_at (enc := ec) (C := Tryd.checked) false (laidWorld os) #[.slice none 0 0, .int .i64 (0 : Int), .int .u64 (0 : Int), .string ⟨#[]⟩] rfl (by kernel_rfl) (by kernel_rfl) (by kernel_rfl)
      (OpenSpec.preRow_of_cond 8 hx rfl (fun k hk => by cases hk) (by kernel_rfl) (laid_met os))) ?_
  intro W base args ds gs before hval0 hW _ _ hz hL hSh _
  have hval : ∀ (j : Nat) t v, Tryd.f3.params[j]? = some t → args[j]? = some v → Value.okWide Tryd.prog W .any base t v := hval0
  have hW' := hW
  obtain ⟨p, q, hA0, hV, rfl, hfz, hnd⟩ := hW
  have hA : DataW.TrodAll ec Tryd.prog W 0 (fun _ => true) true Tryd.f3.params.toList args.toList ds p := hA0
  rw [Tryd.params3] at hA hval
  obtain ⟨v0, vs0, d0, ds0, p0, q0, hargs, rfl, rfl, h0, r0⟩ := trodAll_cons hA
  obtain ⟨v1, vs1, d1, ds1, p1, q1, rfl, rfl, rfl, h1, r1⟩ := trodAll_cons r0
  obtain ⟨v2, vs2, d2, ds2, p2, q2, rfl, rfl, rfl, h2, r2⟩ := trodAll_cons r1
  obtain ⟨v3, vs3, d3, ds3, p3, q3, rfl, rfl, rfl, h3, r3⟩ := trodAll_cons r2
  obtain ⟨rfl, rfl, rfl⟩ := trodAll_nil r3
  obtain rfl : args = #[v0, v1, v2, v3] := by cases args; simp_all
  obtain ⟨rfl, rfl⟩ := trodVars_none hV
  obtain ⟨y0, rfl, o0⟩ := open_val (.sl .str) (by kernel_rfl) (hval 0 22 v0 rfl rfl) h0
  obtain ⟨y1, rfl, o1⟩ := open_val (.int .i64) (by kernel_rfl) (hval 1 3 v1 rfl rfl) h1
  obtain ⟨y2, rfl, o2⟩ := open_val (.int .u64) (by kernel_rfl) (hval 2 23 v2 rfl rfl) h2
  obtain ⟨s3, hs3, hd3, _⟩ := Go.ChangeMaps.open_string Tryd.underlying9 (hval 3 9 v3 rfl rfl) h3
  obtain ⟨y3, rfl, o3⟩ := open_val .str (by kernel_rfl) (hval 3 9 v3 rfl rfl) h3
  rw [Tryd.params3] at hz
  have hsz3 : y3.size ≤ 140737488355328 := by
    have hz1 := List.all_eq_true.1 hz s3.data.toList.length (by rw [hd3]; simp [DataW.weightsEach, DataW.weights])
    have hz2 : s3.data.toList.length ≤ 140737488351232 := of_decide_eq_true hz1
    obtain rfl : s3 = y3 := Value.string.inj hs3.symm
    rw [Array.length_toList] at hz2
    have : s3.size = s3.data.size := rfl
    omega
  have key : Calls Tryd.prog 3 #[handV _ y0, handV _ y1, handV _ y2, handV _ y3] W fun e W' => e = .returned (.bool true) ∧ Below W.heap.size W W' := by
    have ha : Go.Den.ArgsR W (fun k => k < W.heap.size) [Go.Den.tyE (.sl .str), Go.Den.tyE (.int .i64), Go.Den.tyE (.int .u64), Go.Den.tyE .str] (Go.Den.dE _ y0, Go.Den.dE _ y1, Go.Den.dE _ y2, Go.Den.dE _ y3, ()) #[handV _ y0, handV _ y1, handV _ y2, handV _ y3].toList := ⟨_, _, rfl, Go.Den.arg_of (.sl .str) (by kernel_rfl) o0, ⟨_, _, rfl, Go.Den.arg_of (.int .i64) (by kernel_rfl) o1, ⟨_, _, rfl, Go.Den.arg_of (.int .u64) (by kernel_rfl) o2, ⟨_, _, rfl, Go.Den.arg_of .str (by kernel_rfl) o3, rfl⟩⟩⟩⟩
    exact Go.Den.law_call Go.Proofs.YtlfpfiplndkofaaDoor.law3JournalSays_ok (tabR hL hSh) ha (Go.Proofs.YtlfpfiplndkofaaDoor.law3JournalSays_true _ _ _ _ (Go.Den.rng_of _ o0) (Go.Den.rng_of _ o1) (Go.Den.rng_of _ o2) (Go.Den.rng_of _ o3) hsz3)
  refine key.mono fun e W' ⟨he, bel⟩ => ?_
  subst he
  exact ⟨_, rfl, law_post laidOut (by kernel_rfl) (by kernel_rfl) Tryd.underlying4 rfl rfl hW' bel⟩

theorem and_ok {a b : Bool} (ha : a = true) (hb : b = true) : (a && b) = true := by rw [ha, hb]; rfl
set_option maxHeartbeats 0 in
theorem closed : joinedFacts Tryd.pinned.checked.prog 3 Tryd.f3 (OpenSpec.ofChange Rows.journalSaysSpec).bare Rows.journalSaysRow = true := by
  unfold joinedFacts
  refine and_ok (and_ok (and_ok (and_ok (and_ok (and_ok (and_ok (and_ok (and_ok (and_ok (and_ok (and_ok (and_ok (and_ok (and_ok (and_ok (and_ok (and_ok (and_ok (and_ok (and_ok (and_ok (and_ok (and_ok (and_ok (and_ok (and_ok (and_ok (and_ok (and_ok (and_ok ?_ ?_) ?_) ?_) ?_) ?_) ?_) ?_) ?_) ?_) ?_) ?_) ?_) ?_) ?_) ?_) ?_) ?_) ?_) ?_) ?_) ?_) ?_) ?_) ?_) ?_) ?_) ?_) ?_) ?_) ?_) ?_
  all_goals as_aux_lemma => kernel_rfl
set_option maxHeartbeats 0 in
theorem said : Rows.JournalSaysSaid :=
  OpenClaim.holds_of_cond 3 Tryd.f3 rfl rfl rfl rfl rfl rfl rfl ⟨rfl, rfl, rfl, rfl, rfl⟩ rfl rfl rfl rfl rfl (by as_aux_lemma => kernel_rfl) Tryd.func3 closed
    (of_decide_eq_true (by as_aux_lemma => kernel_rfl)) (by unfold Func.isWrapper; first | (rw [if_pos (by decide +kernel)]; kernel_rfl) | (rw [if_neg (by decide +kernel)]; exact ⟨rfl, rfl⟩))
    (fun os started H ec _ F => by rw [OpenClaim.pre_eq_preRow]; exact lifted os started H ec F)
/-- No parameter wants a stand-in; the program's own looks are off: what the card asks. -/
theorem plain (f : FuncId) (fn : Func) (hf : Tryd.pinned.checked.prog.funcNamed "gamehall/gamehalllaw3.JournalSays" = some f) (hfn : Tryd.pinned.checked.prog.funcs[f]? = some fn) :
    true = Tryd.pinned.checked.prog.looks [] ∧ ∀ (j : Nat) t, fn.params[j]? = some t → Tryd.pinned.checked.prog.wantsStandIn t = false := by
  obtain rfl : f = 3 := Option.some.inj ((show Tryd.prog.funcNamed "gamehall/gamehalllaw3.JournalSays" = some 3 by kernel_rfl).symm.trans hf) |>.symm
  obtain rfl : fn = Tryd.f3 := (Option.some.inj (Tryd.func3.symm.trans hfn)).symm
  refine ⟨by kernel_rfl, fun j t ht => ?_⟩
  rw [Tryd.params3] at ht
  have hall : (#[22, 3, 23, 9] : Array TypeId).all (fun t => Tryd.pinned.checked.prog.wantsStandIn t == false) = true := by kernel_rfl
  have := Array.all_eq_true_iff_forall_mem.1 hall t (Array.mem_of_getElem? ht)
  simpa using this
/-- ████ THE CARD ████ -/
theorem proved : Rows.JournalSaysCardSaid :=
  Claim7.holds_tied_plain_at .later [] _ _ _ _ said (fun _ h => by cases h) (by kernel_rfl) (fun _ h => by cases h) journalSays_row_tie rfl ⟨rfl, rfl⟩ (by kernel_rfl) rfl plain (by kernel_rfl)
#print axioms proved
end Go.Proofs.YtlfpfiplndkofaaDoor.journalSays

