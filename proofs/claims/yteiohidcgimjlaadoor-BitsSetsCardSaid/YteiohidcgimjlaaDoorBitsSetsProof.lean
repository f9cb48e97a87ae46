/- Proved: the Go law BitsSets returns true, whatever it is given. Conditions: none beyond the row itself. -/
import Derived.Test.YteiohidcgimjlaaDoorCards
import Derived.Test.YteiohidcgimjlaaDoorTie
import Derived.OpenShut
import Derived.Deep.DeepHandedRow
import Derived.Lib.LaidTab
import Derived.Test.YteiohidcgimjlaaDoorMAA
import Derived.Test.YteiohidcgimjlaaDoorMAE
import Derived.Test.YteiohidcgimjlaaDoorBitsSetsL
namespace Go.Proofs.YteiohidcgimjlaaDoor.bitsSets
open Go.ChangeShapes Go.WideShapes Go.ChangeAt Go.RowKit Go.Eng
set_option linter.unusedVariables false
set_option linter.unusedSimpArgs false

theorem own : ownKnob Tryd.prog.godebug = none := by kernel_rfl
theorem laidOut : laidOutB Tryd.prog = true := by kernel_rfl

theorem gTab : Tryd.prog.globalNamed "math/bits.deBruijn64tab" = some 0 := by kernel_rfl
theorem gTabType : (Tryd.prog.globals[0]?).map (·.type) = some 80 := by kernel_rfl
theorem cellsT : Tryd.prog.cellsOf 80 = 64 := by kernel_rfl
theorem cellsE : Tryd.prog.cellsOf 5 = 1 := by kernel_rfl
theorem laid_tail {P : Program} {x : String × DataW Unit} {rest : List (String × DataW Unit)} {w : World} (h : laidMet P (x :: rest) w) : laidMet P rest w := by
  obtain ⟨n, d⟩ := x
  obtain ⟨ps, ⟨g, t, cs, fuel, p, q, _, _, _, _, hq, rfl⟩, hn, hc⟩ := h
  exact ⟨q, hq, (List.nodup_append.1 hn).2.1, fun b off hb => hc b off (List.mem_append_right _ hb)⟩
theorem tabData_eq : (Rows.laid_math_bits_deBruijn64tab : DataW Unit) = Lib.tabData .u8 Go.Proofs.YteiohidcgimjlaaDoor.deB64I := by kernel_rfl
/-- WHAT THE ROW's LIST GIVES: the table's cells hold its numbers. -/
theorem table {W : World} (h : laidMetH Tryd.prog Rows.bitsSetsRow.laid W) : Lib.TabIs Tryd.prog W "math/bits.deBruijn64tab" .u8 Go.Proofs.YteiohidcgimjlaaDoor.deB64I := by
  have h1 : laidMet Tryd.prog [("math/bits.deBruijn64tab", Rows.laid_math_bits_deBruijn64tab)] W := h
  have h2 := h1
  rw [tabData_eq] at h2
  exact Lib.tabIs_of_head gTab gTabType Tryd.underlying80 Tryd.underlying5 cellsE cellsT h2
theorem tabR {W : World} (h : laidMetH Tryd.prog Rows.bitsSetsRow.laid W) (hs : W.ShapedOpen Tryd.prog) : Go.Den.TabR (fun k => k < W.heap.size) W where
  tab g cs hg := by
    have ht := table h
    unfold Lib.TabIs World.var? at ht
    rw [gTab] at ht
    have ht' : (match W.heap[0]? with | some (Obj.cells cs _ _) => some cs | _ => none) = some (Go.Proofs.YteiohidcgimjlaaDoor.deB64I.map fun z => Value.int .u8 z).toArray := ht
    split at ht'
    · rename_i cs' T fz hb
      obtain rfl := Option.some.inj ht'
      have hg' : (bif Nat.beq 0 g then some (Go.Proofs.YteiohidcgimjlaaDoor.deB64) else none) = some cs := hg
      cases he : Nat.beq 0 g
      · rw [he] at hg'; cases hg'
      · rw [he] at hg'
        obtain rfl := Nat.eq_of_beq_eq_true he
        obtain rfl := Option.some.inj hg'
        exact ⟨(Array.getElem?_eq_some_iff.1 hb).1, T, fz, hb⟩
    · cases ht'
  opn g e hg := by
    cases hg
def cellsD0 : DataW Unit → List Value
  | .lit (.int k n) => [.int k n]
  | _ => []
def cellsD1 : DataW Unit → List Value
  | .agg l => l.flatMap cellsD0
  | d => cellsD0 d
/-- the cells of a table of numbers -/
def cellsD2 : DataW Unit → List Value
  | .agg l => l.flatMap cellsD1
  | d => cellsD0 d
def laying (cs : Array Value) : Obj → Obj
  | .cells _ t fz => .cells cs t fz
  | o => o
/-- A WORLD FOR THE WITNESS: the settled one, the tables holding what their initialisers lay. -/
noncomputable def laidWorld (os : Os) : World := { World.holding Tryd.prog os ⟨#[], #[], []⟩ with heap := ((World.holding Tryd.prog os ⟨#[], #[], []⟩).heap.modify 0 (laying (cellsD2 Rows.laid_math_bits_deBruijn64tab).toArray)) }
theorem laid_met (os : Os) : laidMet Tryd.prog Rows.bitsSetsRow.laid ((laidWorld os).forCall (fun _ _ => 0) ⟨#[], #[.slice none 0 0, .int .u64 (0 : Int)], []⟩).memory :=
  laidMet_of_run' 8 (by kernel_rfl) (by kernel_rfl)
theorem reads (os : Os) {H : Type} (enc : TypeId × Value → H) : (DataW.whole enc Tryd.prog ((laidWorld os).forCall (fun _ _ => 0) ⟨#[], #[.slice none 0 0, .int .u64 (0 : Int)], []⟩).memory Tryd.f4.params.toList Rows.bitsSetsSpec.vars false (#[.slice none 0 0, .int .u64 (0 : Int)] : Array Value).toList 8).isSome = true := by kernel_rfl

set_option maxRecDepth 100000 in
theorem lifted (os : Os) (started : os.Started) (H : Type) (ec : TypeId × Value → H) (F : Stop.Interp) :
    ReturnsInHanded {} Tryd.checked os 4 .any ((OpenSpec.ofChange Rows.bitsSetsSpec).preRow ec Tryd.prog Tryd.f4 Rows.bitsSetsRow.domain false Rows.bitsSetsRow.laid) (((OpenSpec.ofChange Rows.bitsSetsSpec).at F).post ec Tryd.prog Tryd.f4 false true false false) := by
  obtain ⟨x, hx⟩ := Option.isSome_iff_exists.1 (reads os ec)
  refine returnsInHanded_of_row (C := Tryd.checked) (s := OpenSpec.ofChange Rows.bitsSetsSpec) own started (by kernel_rfl) Tryd.func4
    (witness_row_at (enc := ec) (C := Tryd.checked) false (laidWorld os) #[.slice none 0 0, .int .u64 (0 : Int)] rfl (by kernel_rfl) (by kernel_rfl) (by kernel_rfl)
      (OpenSpec.preRow_of_cond 8 hx rfl (fun k hk => by cases hk) (by kernel_rfl) (laid_met os))) ?_
  intro W base args ds gs before hval0 hW _ _ _ hL hSh _
  have hval : ∀ (j : Nat) t v, Tryd.f4.params[j]? = some t → args[j]? = some v → Value.okWide Tryd.prog W .any base t v := hval0
  have hW' := hW
  obtain ⟨p, q, hA0, hV, rfl, hfz, hnd⟩ := hW
  have hA : DataW.TrodAll ec Tryd.prog W 0 (fun _ => true) true Tryd.f4.params.toList args.toList ds p := hA0
  rw [Tryd.params4] at hA hval
  obtain ⟨v0, vs0, d0, ds0, p0, q0, hargs, rfl, rfl, h0, r0⟩ := trodAll_cons hA
  obtain ⟨v1, vs1, d1, ds1, p1, q1, rfl, rfl, rfl, h1, r1⟩ := trodAll_cons r0
  obtain ⟨rfl, rfl, rfl⟩ := trodAll_nil r1
  obtain rfl : args = #[v0, v1] := by cases args; simp_all
  obtain ⟨rfl, rfl⟩ := trodVars_none hV
  obtain ⟨y0, rfl, o0⟩ := open_val (.sl (.int .i64)) (by kernel_rfl) (hval 0 29 v0 rfl rfl) h0
  obtain ⟨y1, rfl, o1⟩ := open_val (.int .u64) (by kernel_rfl) (hval 1 22 v1 rfl rfl) h1
  have key : Calls Tryd.prog 4 #[handV _ y0, handV _ y1] W fun e W' => e = .returned (.bool true) ∧ Below W.heap.size W W' := by
    have ha : Go.Den.ArgsR W (fun k => k < W.heap.size) [Go.Den.tyE (.sl (.int .i64)), Go.Den.tyE (.int .u64)] (Go.Den.dE _ y0, Go.Den.dE _ y1, ()) #[handV _ y0, handV _ y1].toList := ⟨_, _, rfl, Go.Den.arg_of (.sl (.int .i64)) (by kernel_rfl) o0, ⟨_, _, rfl, Go.Den.arg_of (.int .u64) (by kernel_rfl) o1, rfl⟩⟩
    exact Go.Den.law_call Go.Proofs.YteiohidcgimjlaaDoor.law1BitsSets_ok (tabR hL hSh) ha (Go.Proofs.YteiohidcgimjlaaDoor.law1BitsSets_true _ _ (Go.Den.rng_of _ o0) (Go.Den.rng_of _ o1))
  refine key.mono fun e W' ⟨he, bel⟩ => ?_
  subst he
  exact ⟨_, rfl, law_post laidOut (by kernel_rfl) (by kernel_rfl) Tryd.underlying4 rfl rfl hW' bel⟩

set_option maxHeartbeats 0 in
theorem said : Rows.BitsSetsSaid :=
  OpenClaim.holds_of_cond 4 Tryd.f4 rfl rfl rfl rfl rfl rfl rfl ⟨rfl, rfl, rfl, rfl, rfl⟩ rfl rfl rfl rfl rfl (by as_aux_lemma => kernel_rfl) Tryd.func4 (by as_aux_lemma => kernel_rfl)
    (of_decide_eq_true (by as_aux_lemma => kernel_rfl)) (by unfold Func.isWrapper; first | (rw [if_pos (by decide +kernel)]; kernel_rfl) | (rw [if_neg (by decide +kernel)]; exact ⟨rfl, rfl⟩))
    (fun os started H ec _ F => by rw [OpenClaim.pre_eq_preRow]; exact lifted os started H ec F)
/-- No parameter wants a stand-in; the program's own looks are off: what the card asks. -/
theorem plain (f : FuncId) (fn : Func) (hf : Tryd.pinned.checked.prog.funcNamed "gamehall/gamehalllaw1.BitsSets" = some f) (hfn : Tryd.pinned.checked.prog.funcs[f]? = some fn) :
    true = Tryd.pinned.checked.prog.looks [] ∧ ∀ (j : Nat) t, fn.params[j]? = some t → Tryd.pinned.checked.prog.wantsStandIn t = false := by
  obtain rfl : f = 4 := Option.some.inj ((show Tryd.prog.funcNamed "gamehall/gamehalllaw1.BitsSets" = some 4 by kernel_rfl).symm.trans hf) |>.symm
  obtain rfl : fn = Tryd.f4 := (Option.some.inj (Tryd.func4.symm.trans hfn)).symm
  refine ⟨by kernel_rfl, fun j t ht => ?_⟩
  rw [Tryd.params4] at ht
  have hall : (#[29, 22] : Array TypeId).all (fun t => Tryd.pinned.checked.prog.wantsStandIn t == false) = true := by kernel_rfl
  have := Array.all_eq_true_iff_forall_mem.1 hall t (Array.mem_of_getElem? ht)
  simpa using this
/-- ████ THE CARD ████ -/
theorem proved : Rows.BitsSetsCardSaid :=
  Claim7.holds_tied_plain_at .later [] _ _ _ _ said (fun _ h => by cases h) (by kernel_rfl) (fun _ h => by cases h) bitsSets_row_tie rfl ⟨rfl, rfl⟩ (by kernel_rfl) rfl plain (by kernel_rfl)
#print axioms proved
end Go.Proofs.YteiohidcgimjlaaDoor.bitsSets
