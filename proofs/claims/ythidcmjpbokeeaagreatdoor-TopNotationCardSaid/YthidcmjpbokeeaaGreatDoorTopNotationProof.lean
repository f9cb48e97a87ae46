/- Proved: the Go law TopNotation returns true, whatever it is given. Conditions: none beyond the row itself. -/
import Derived.Test.YthidcmjpbokeeaaGreatDoorCards
import Derived.Test.YthidcmjpbokeeaaGreatDoorTie
import Derived.OpenShut
import Derived.Deep.DeepHandedRow
import Derived.Lib.LaidTab
import Derived.Test.YthidcmjpbokeeaaGreatDoorMAA
import Derived.Test.YthidcmjpbokeeaaGreatDoorMAJ
import Derived.Test.YthidcmjpbokeeaaGreatDoorMAH
namespace Go.Proofs.YthidcmjpbokeeaaGreatDoor.topNotation
open Go.ChangeShapes Go.WideShapes Go.ChangeAt Go.RowKit Go.Eng
set_option linter.unusedVariables false
set_option linter.unusedSimpArgs false

theorem own : ownKnob Tryz.prog.godebug = none := by kernel_rfl
theorem laidOut : laidOutB Tryz.prog = true := by kernel_rfl

theorem laid_tail {P : Program} {x : String × DataW Unit} {rest : List (String × DataW Unit)} {w : World} (h : laidMet P (x :: rest) w) : laidMet P rest w := by
  obtain ⟨n, d⟩ := x
  obtain ⟨ps, ⟨g, t, cs, fuel, p, q, _, _, _, _, hq, rfl⟩, hn, hc⟩ := h
  exact ⟨q, hq, (List.nodup_append.1 hn).2.1, fun b off hb => hc b off (List.mem_append_right _ hb)⟩
theorem gTab0 : Tryz.prog.globalNamed "internal/strconv.uint64pow10" = some 1 := by kernel_rfl
theorem gTabType0 : (Tryz.prog.globals[1]?).map (·.type) = some 317 := by kernel_rfl
theorem cellsT0 : Tryz.prog.cellsOf 317 = 20 := by kernel_rfl
theorem cellsE0 : Tryz.prog.cellsOf 229 = 1 := by kernel_rfl
theorem tabData_eq0 : (Rows.laid_internal_strconv_uint64pow10 : DataW Unit) = Lib.tabData .u64 Lib.pow10Tab := by kernel_rfl
theorem tabValues0 : (Lib.pow10Tab.map fun z => Value.int .u64 z).toArray = (Go.Lib.pow10Tab.map (Value.int .u64)).toArray := by kernel_rfl
/-- WHAT THE ROW's LIST GIVES: the table's cells hold its numbers. -/
theorem table0 {W : World} (h : laidMetH Tryz.prog Rows.topNotationRow.laid W) : 1 < W.heap.size ∧ ∃ T fz, W.heap[1]? = some (.cells (Go.Lib.pow10Tab.map (Value.int .u64)).toArray T fz) := by
  have h1 : laidMet Tryz.prog [("math/bits.deBruijn32tab", Rows.laid_math_bits_deBruijn32tab), ("math/bits.deBruijn64tab", Rows.laid_math_bits_deBruijn64tab), ("internal/strconv.uint64pow10", Rows.laid_internal_strconv_uint64pow10), ("unicode/utf8.acceptRanges", Rows.laid_unicode_utf8_acceptRanges), ("unicode/utf8.first", Rows.laid_unicode_utf8_first)] W := h
  have h2 := (laid_tail (laid_tail h1))
  rw [tabData_eq0] at h2
  have ht := Lib.tabIs_of_head gTab0 gTabType0 Tryz.underlying317 Tryz.underlying229 cellsE0 cellsT0 h2
  unfold Lib.TabIs World.var? at ht
  rw [gTab0] at ht
  have ht' : (match W.heap[1]? with | some (Obj.cells cs _ _) => some cs | _ => none) = some (Lib.pow10Tab.map fun z => Value.int .u64 z).toArray := ht
  rw [tabValues0] at ht'
  split at ht'
  · rename_i cs' T fz hb
    obtain rfl := Option.some.inj ht'
    exact ⟨(Array.getElem?_eq_some_iff.1 hb).1, T, fz, hb⟩
  · cases ht'
/-- A variable of type int holds an int, whatever it is. -/
theorem int_of_shape {P : Program} {w : World} {g : Nat} {t : TypeId} {zero : Array Value} (h : w.ShapedOpen P) (hg : g < P.globals.size) (h0 : ((begin P (fun _ _ => 0) default).world.heap[g]?).bind Obj.row? = some (zero, t)) (hz : zero.size = 1)
    (hb : P.buildable t = true) (hc : P.cellTypes P.depth t = some [t]) (hu : P.underlying t = some (.int .i64)) : ∃ m, w.heap[g]? = some (.cells #[.int .i64 m] t (0, 0)) := by
  obtain ⟨cs, hh, hs, hr⟩ := h.1 g zero t hg h0
  obtain ⟨ts, hts, _, hall⟩ := hr hb
  rw [hc] at hts
  cases hts
  have h1 : cs.size = 1 := by omega
  obtain ⟨⟨l⟩, hl⟩ : ∃ c : Array Value, c = cs := ⟨cs, rfl⟩
  subst hl
  match l, h1 with
  | [v], _ =>
    obtain ⟨u, hu', hok⟩ := hall 0 v rfl
    have : u = t := by simpa using hu'.symm
    subst this
    unfold Cell.ok at hok
    rw [hu] at hok
    cases v with
    | int k m =>
      obtain ⟨rfl, _⟩ := hok
      exact ⟨m, hh⟩
    | _ => exact hok.elim
theorem tabR {W : World} (h : laidMetH Tryz.prog Rows.topNotationRow.laid W) (hs : W.ShapedOpen Tryz.prog) : Go.Den.TabR (fun k => k < W.heap.size) W where
  tab g cs hg := by
    have hg0 : (bif Nat.beq 1 g then some (Go.Lib.pow10Tab.map (Value.int .u64)) else none) = some cs := hg
    cases he0 : Nat.beq 1 g
    · rw [he0] at hg0
      cases hg0
    · rw [he0] at hg0
      obtain rfl := Nat.eq_of_beq_eq_true he0
      obtain rfl := Option.some.inj hg0
      exact table0 h
  opn g e hg := by
    have hg' : (g, e) ∈ ([(0, false)] : List (Nat × Bool)) := hg
    simp only [List.mem_cons, List.not_mem_nil, or_false, Prod.mk.injEq] at hg'
    rcases hg' with ⟨rfl, rfl⟩
    · obtain ⟨m, hm⟩ := int_of_shape (g := 0) (t := 3) (zero := #[.int .i64 0]) hs (by decide +kernel) (by kernel_rfl) (by kernel_rfl) (by kernel_rfl) (by kernel_rfl) Tryz.underlying3
      exact ⟨(Array.getElem?_eq_some_iff.1 hm).1, _, _, _, hm, by rw [if_neg (by decide)]; exact ⟨m, rfl⟩⟩
def cellsD0 : DataW Unit → List Value
  | .lit (.int k n) => [.int k n]
  | _ => []
def cellsD1 : DataW Unit → List Value
  | .agg l => l.flatMap cellsD0
  | d => cellsD0 d
/-- the cells of a table of numbers -/
def cellsD2 : DataW Unit → List Value
  | .agg l => l.flatMap cellsD1
  | d => cellsD0 d
def laying (cs : Array Value) : Obj → Obj
  | .cells _ t fz => .cells cs t fz
  | o => o
/-- A WORLD FOR THE WITNESS: the settled one, the tables holding what their initialisers lay. -/
noncomputable def laidWorld (os : Os) : World := { World.holding Tryz.prog os ⟨#[], #[], []⟩ with heap := ((((((World.holding Tryz.prog os ⟨#[], #[], []⟩).heap.modify 4 (laying (cellsD2 Rows.laid_math_bits_deBruijn32tab).toArray)).modify 5 (laying (cellsD2 Rows.laid_math_bits_deBruijn64tab).toArray)).modify 1 (laying (cellsD2 Rows.laid_internal_strconv_uint64pow10).toArray)).modify 3 (laying (cellsD2 Rows.laid_unicode_utf8_acceptRanges).toArray)).modify 2 (laying (cellsD2 Rows.laid_unicode_utf8_first).toArray)) }
theorem laid_met (os : Os) : laidMet Tryz.prog Rows.topNotationRow.laid ((laidWorld os).forCall (fun _ _ => 0) ⟨#[], #[.agg #[.string ⟨#[]⟩, .int .i64 (0 : Int), .int .i64 (0 : Int), .slice none 0 0, .slice none 0 0, .bool false, .bool false, .slice none 0 0, .int .i64 (0 : Int), .int .i64 (0 : Int), .int .i64 (0 : Int)], .slice none 0 0], []⟩).memory :=
  laidMet_of_run' 8 (by kernel_rfl) (by kernel_rfl)
theorem reads (os : Os) {H : Type} (enc : TypeId × Value → H) : (DataW.whole enc Tryz.prog ((laidWorld os).forCall (fun _ _ => 0) ⟨#[], #[.agg #[.string ⟨#[]⟩, .int .i64 (0 : Int), .int .i64 (0 : Int), .slice none 0 0, .slice none 0 0, .bool false, .bool false, .slice none 0 0, .int .i64 (0 : Int), .int .i64 (0 : Int), .int .i64 (0 : Int)], .slice none 0 0], []⟩).memory Tryz.f4.params.toList Rows.topNotationSpec.vars false (#[.agg #[.string ⟨#[]⟩, .int .i64 (0 : Int), .int .i64 (0 : Int), .slice none 0 0, .slice none 0 0, .bool false, .bool false, .slice none 0 0, .int .i64 (0 : Int), .int .i64 (0 : Int), .int .i64 (0 : Int)], .slice none 0 0] : Array Value).toList 8).isSome = true := by kernel_rfl

set_option maxRecDepth 100000 in
theorem lifted (os : Os) (started : os.Started) (H : Type) (ec : TypeId × Value → H) (F : Stop.Interp) :
    ReturnsInHanded {} Tryz.checked os 4 .any ((OpenSpec.ofChange Rows.topNotationSpec).preRow ec Tryz.prog Tryz.f4 Rows.topNotationRow.domain false Rows.topNotationRow.laid) (((OpenSpec.ofChange Rows.topNotationSpec).at F).post ec Tryz.prog Tryz.f4 false true false false) := by
  obtain ⟨x, hx⟩ := Option.isSome_iff_exists.1 (reads os ec)
  refine returnsInHanded_of_row (C := Tryz.checked) (s := OpenSpec.ofChange Rows.topNotationSpec) own started (by kernel_rfl) Tryz.func4
    (witness_row_at (enc := ec) (C := Tryz.checked) false (laidWorld os) #[.agg #[.string ⟨#[]⟩, .int .i64 (0 : Int), .int .i64 (0 : Int), .slice none 0 0, .slice none 0 0, .bool false, .bool false, .slice none 0 0, .int .i64 (0 : Int), .int .i64 (0 : Int), .int .i64 (0 : Int)], .slice none 0 0] rfl (by kernel_rfl) (by kernel_rfl) (by kernel_rfl)
      (OpenSpec.preRow_of_cond 8 hx rfl (fun k hk => by cases hk) (by kernel_rfl) (laid_met os))) ?_
  intro W base args ds gs before hval0 hW _ _ _ hL hSh _
  have hval : ∀ (j : Nat) t v, Tryz.f4.params[j]? = some t → args[j]? = some v → Value.okWide Tryz.prog W .any base t v := hval0
  have hW' := hW
  obtain ⟨p, q, hA0, hV, rfl, hfz, hnd⟩ := hW
  have hA : DataW.TrodAll ec Tryz.prog W 0 (fun _ => true) true Tryz.f4.params.toList args.toList ds p := hA0
  rw [Tryz.params4] at hA hval
  obtain ⟨v0, vs0, d0, ds0, p0, q0, hargs, rfl, rfl, h0, r0⟩ := trodAll_cons hA
  obtain ⟨v1, vs1, d1, ds1, p1, q1, rfl, rfl, rfl, h1, r1⟩ := trodAll_cons r0
  obtain ⟨rfl, rfl, rfl⟩ := trodAll_nil r1
  obtain rfl : args = #[v0, v1] := by cases args; simp_all
  obtain ⟨rfl, rfl⟩ := trodVars_none hV
  obtain ⟨y0, rfl, o0⟩ := open_val (.st .str (.st (.int .i64) (.st (.int .i64) (.st (.sl (.st (.int .u8) (.st (.int .i64) (.st (.int .i64) (.st (.sl (.st (.int .i64) (.st (.int .i64) (.st (.int .i64) (.st (.int .i64) .nil))))) .nil))))) (.st (.sl (.int .i64)) (.st .bool (.st .bool (.st (.sl (.st (.int .i64) (.st (.int .i64) (.st (.int .i64) (.st .bool .nil))))) (.st (.int .i64) (.st (.int .i64) (.st (.int .i64) .nil))))))))))) (by kernel_rfl) (hval 0 26 v0 rfl rfl) h0
  obtain ⟨y1, rfl, o1⟩ := open_val (.sl (.st (.int .i64) (.st (.int .i64) (.st (.int .i64) .nil)))) (by kernel_rfl) (hval 1 42 v1 rfl rfl) h1
  have key : Calls Tryz.prog 4 #[handV _ y0, handV _ y1] W fun e W' => e = .returned (.bool true) ∧ Below W.heap.size W W' := by
    have ha : Go.Den.ArgsR W ⟨fun k => k < W.heap.size, fun _ => none⟩ [Go.Den.tyE (.st .str (.st (.int .i64) (.st (.int .i64) (.st (.sl (.st (.int .u8) (.st (.int .i64) (.st (.int .i64) (.st (.sl (.st (.int .i64) (.st (.int .i64) (.st (.int .i64) (.st (.int .i64) .nil))))) .nil))))) (.st (.sl (.int .i64)) (.st .bool (.st .bool (.st (.sl (.st (.int .i64) (.st (.int .i64) (.st (.int .i64) (.st .bool .nil))))) (.st (.int .i64) (.st (.int .i64) (.st (.int .i64) .nil))))))))))), Go.Den.tyE (.sl (.st (.int .i64) (.st (.int .i64) (.st (.int .i64) .nil))))] (Go.Den.dE _ y0, Go.Den.dE _ y1, ()) #[handV _ y0, handV _ y1].toList := ⟨_, _, rfl, Go.Den.arg_of (.st .str (.st (.int .i64) (.st (.int .i64) (.st (.sl (.st (.int .u8) (.st (.int .i64) (.st (.int .i64) (.st (.sl (.st (.int .i64) (.st (.int .i64) (.st (.int .i64) (.st (.int .i64) .nil))))) .nil))))) (.st (.sl (.int .i64)) (.st .bool (.st .bool (.st (.sl (.st (.int .i64) (.st (.int .i64) (.st (.int .i64) (.st .bool .nil))))) (.st (.int .i64) (.st (.int .i64) (.st (.int .i64) .nil))))))))))) (by kernel_rfl) o0, ⟨_, _, rfl, Go.Den.arg_of (.sl (.st (.int .i64) (.st (.int .i64) (.st (.int .i64) .nil)))) (by kernel_rfl) o1, rfl⟩⟩
    exact Go.Den.law_call Go.Proofs.YthidcmjpbokeeaaGreatDoor.gamehalltopTopNotation_ok (tabR hL hSh) ha (Go.Proofs.YthidcmjpbokeeaaGreatDoor.gamehalltopTopNotation_true _ _ (Go.Den.rng_of _ o0) (Go.Den.rng_of _ o1))
  refine key.mono fun e W' ⟨he, bel⟩ => ?_
  subst he
  exact ⟨_, rfl, law_post laidOut (by kernel_rfl) (by kernel_rfl) Tryz.underlying4 rfl rfl hW' bel⟩

theorem and_ok {a b : Bool} (ha : a = true) (hb : b = true) : (a && b) = true := by rw [ha, hb]; rfl
set_option maxHeartbeats 0 in
theorem closed : joinedFacts Tryz.pinned.checked.prog 4 Tryz.f4 (OpenSpec.ofChange Rows.topNotationSpec).bare Rows.topNotationRow = true := by
  unfold joinedFacts
  refine and_ok (and_ok (and_ok (and_ok (and_ok (and_ok (and_ok (and_ok (and_ok (and_ok (and_ok (and_ok (and_ok (and_ok (and_ok (and_ok (and_ok (and_ok (and_ok (and_ok (and_ok (and_ok (and_ok (and_ok (and_ok (and_ok (and_ok (and_ok (and_ok (and_ok (and_ok ?_ ?_) ?_) ?_) ?_) ?_) ?_) ?_) ?_) ?_) ?_) ?_) ?_) ?_) ?_) ?_) ?_) ?_) ?_) ?_) ?_) ?_) ?_) ?_) ?_) ?_) ?_) ?_) ?_) ?_) ?_) ?_
  all_goals as_aux_lemma => kernel_rfl
set_option maxHeartbeats 0 in
theorem said : Rows.TopNotationSaid :=
  OpenClaim.holds_of_cond 4 Tryz.f4 rfl rfl rfl rfl rfl rfl rfl ⟨rfl, rfl, rfl, rfl, rfl⟩ rfl rfl rfl rfl rfl (by as_aux_lemma => kernel_rfl) Tryz.func4 closed
    (of_decide_eq_true (by as_aux_lemma => kernel_rfl)) (by unfold Func.isWrapper; first | (rw [if_pos (by decide +kernel)]; kernel_rfl) | (rw [if_neg (by decide +kernel)]; exact ⟨rfl, rfl⟩))
    (fun os started H ec _ F => by rw [OpenClaim.pre_eq_preRow]; exact lifted os started H ec F)
/-- No parameter wants a stand-in; the program's own looks are off: what the card asks. -/
theorem plain (f : FuncId) (fn : Func) (hf : Tryz.pinned.checked.prog.funcNamed "gamehall/gamehalltop.TopNotation" = some f) (hfn : Tryz.pinned.checked.prog.funcs[f]? = some fn) :
    true = Tryz.pinned.checked.prog.looks [] ∧ ∀ (j : Nat) t, fn.params[j]? = some t → Tryz.pinned.checked.prog.wantsStandIn t = false := by
  obtain rfl : f = 4 := Option.some.inj ((show Tryz.prog.funcNamed "gamehall/gamehalltop.TopNotation" = some 4 by kernel_rfl).symm.trans hf) |>.symm
  obtain rfl : fn = Tryz.f4 := (Option.some.inj (Tryz.func4.symm.trans hfn)).symm
  refine ⟨by kernel_rfl, fun j t ht => ?_⟩
  rw [Tryz.params4] at ht
  have hall : (#[26, 42] : Array TypeId).all (fun t => Tryz.pinned.checked.prog.wantsStandIn t == false) = true := by kernel_rfl
  have := Array.all_eq_true_iff_forall_mem.1 hall t (Array.mem_of_getElem? ht)
  simpa using this
/-- ████ THE CARD ████ -/
theorem proved : Rows.TopNotationCardSaid :=
  Claim7.holds_tied_plain_at .later [] _ _ _ _ said (fun _ h => by cases h) (by kernel_rfl) (fun _ h => by cases h) topNotation_row_tie rfl ⟨rfl, rfl⟩ (by kernel_rfl) rfl plain (by kernel_rfl)
#print axioms proved
end Go.Proofs.YthidcmjpbokeeaaGreatDoor.topNotation

