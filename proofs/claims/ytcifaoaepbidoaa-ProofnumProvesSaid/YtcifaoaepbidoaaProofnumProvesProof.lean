/- Proved: the Go law ProofnumProves returns true, whatever it is given. Conditions: none beyond the row itself. -/
import Derived.Test.YtcifaoaepbidoaaRows
import Derived.Test.YtcifaoaepbidoaaMAA
import Derived.Test.YtcifaoaepbidoaaMAH
import Derived.Test.YtcifaoaepbidoaaMAF
namespace Go.Proofs.Ytcifaoaepbidoaa.proofnumProves
open Go.ChangeShapes Go.WideShapes Go.ChangeAt Go.RowKit Go.Eng
set_option linter.unusedVariables false
set_option linter.unusedSimpArgs false

theorem own : ownKnob Try.prog.godebug = none := by kernel_rfl
theorem laidOut : laidOutB Try.prog = true := by kernel_rfl

set_option maxRecDepth 100000 in
theorem lifted (os : Os) (started : os.Started) (H : Type) (ec : TypeId × Value → H) :
    ReturnsInHanded {} Try.checked os 7 .any (Rows.proofnumProvesSpec.pre6 ec Try.prog Try.f7 Rows.proofnumProvesRow.domain false) (Rows.proofnumProvesSpec.post ec Try.prog Try.f7 false true false false) := by
  refine returnsInHanded_of_change (C := Try.checked) own started (by kernel_rfl) Try.func7
    (ChangeSpec.witness6 (enc := ec) (C := Try.checked) false ⟨#[], #[.agg #[.string ⟨#[]⟩, .int .i64 (0 : Int), .int .i64 (0 : Int), .slice none 0 0, .slice none 0 0, .bool false, .bool false, .slice none 0 0, .int .i64 (0 : Int), .int .i64 (0 : Int), .int .i64 (0 : Int)], .agg #[.slice none 0 0, .slice none 0 0, .slice none 0 0, .int .i64 (0 : Int), .int .i64 (0 : Int)], .int .i64 (0 : Int)], []⟩ 8 (by kernel_rfl) (by kernel_rfl) (by kernel_rfl) (by kernel_rfl)) ?_
  intro W base args ds gs before hval0 hW hcnd _
  have hval : ∀ (j : Nat) t v, Try.f7.params[j]? = some t → args[j]? = some v → Value.okWide Try.prog W .any base t v := hval0
  have hW' := hW
  obtain ⟨p, q, hA0, hV, rfl, hfz, hnd⟩ := hW
  have hA : DataW.TrodAll ec Try.prog W 0 (fun _ => true) true Try.f7.params.toList args.toList ds p := hA0
  rw [Try.params7] at hA hval
  obtain ⟨v0, vs0, d0, ds0, p0, q0, hargs, rfl, rfl, h0, r0⟩ := trodAll_cons hA
  obtain ⟨v1, vs1, d1, ds1, p1, q1, rfl, rfl, rfl, h1, r1⟩ := trodAll_cons r0
  obtain ⟨v2, vs2, d2, ds2, p2, q2, rfl, rfl, rfl, h2, r2⟩ := trodAll_cons r1
  obtain ⟨rfl, rfl, rfl⟩ := trodAll_nil r2
  obtain rfl : args = #[v0, v1, v2] := by cases args; simp_all
  obtain ⟨rfl, rfl⟩ := trodVars_none hV
  obtain ⟨y0, rfl, o0⟩ := open_val (.st .str (.st (.int .i64) (.st (.int .i64) (.st (.sl (.st (.int .u8) (.st (.int .i64) (.st (.int .i64) (.st (.sl (.st (.int .i64) (.st (.int .i64) (.st (.int .i64) (.st (.int .i64) .nil))))) .nil))))) (.st (.sl (.int .i64)) (.st .bool (.st .bool (.st (.sl (.st (.int .i64) (.st (.int .i64) (.st (.int .i64) (.st .bool .nil))))) (.st (.int .i64) (.st (.int .i64) (.st (.int .i64) .nil))))))))))) (by kernel_rfl) (hval 0 73 v0 rfl rfl) h0
  obtain ⟨y1, rfl, o1⟩ := open_val (.st (.sl (.int .i64)) (.st (.st (.sl (.int .i64)) (.st (.sl (.int .i64)) .nil)) (.st (.int .i64) (.st (.int .i64) .nil)))) (by kernel_rfl) (hval 1 76 v1 rfl rfl) h1
  obtain ⟨y2, rfl, o2⟩ := open_val (.int .i64) (by kernel_rfl) (hval 2 3 v2 rfl rfl) h2
  have key : Calls Try.prog 7 #[handV _ y0, handV _ y1, handV _ y2] W fun e W' => e = .returned (.bool true) ∧ Below W.heap.size W W' := by
    have ha : Go.Den.ArgsR W ⟨fun k => k < W.heap.size, fun _ => none⟩ [Go.Den.tyE (.st .str (.st (.int .i64) (.st (.int .i64) (.st (.sl (.st (.int .u8) (.st (.int .i64) (.st (.int .i64) (.st (.sl (.st (.int .i64) (.st (.int .i64) (.st (.int .i64) (.st (.int .i64) .nil))))) .nil))))) (.st (.sl (.int .i64)) (.st .bool (.st .bool (.st (.sl (.st (.int .i64) (.st (.int .i64) (.st (.int .i64) (.st .bool .nil))))) (.st (.int .i64) (.st (.int .i64) (.st (.int .i64) .nil))))))))))), Go.Den.tyE (.st (.sl (.int .i64)) (.st (.st (.sl (.int .i64)) (.st (.sl (.int .i64)) .nil)) (.st (.int .i64) (.st (.int .i64) .nil)))), Go.Den.tyE (.int .i64)] (Go.Den.dE _ y0, Go.Den.dE _ y1, Go.Den.dE _ y2, ()) #[handV _ y0, handV _ y1, handV _ y2].toList := ⟨_, _, rfl, Go.Den.arg_of (.st .str (.st (.int .i64) (.st (.int .i64) (.st (.sl (.st (.int .u8) (.st (.int .i64) (.st (.int .i64) (.st (.sl (.st (.int .i64) (.st (.int .i64) (.st (.int .i64) (.st (.int .i64) .nil))))) .nil))))) (.st (.sl (.int .i64)) (.st .bool (.st .bool (.st (.sl (.st (.int .i64) (.st (.int .i64) (.st (.int .i64) (.st .bool .nil))))) (.st (.int .i64) (.st (.int .i64) (.st (.int .i64) .nil))))))))))) (by kernel_rfl) o0, ⟨_, _, rfl, Go.Den.arg_of (.st (.sl (.int .i64)) (.st (.st (.sl (.int .i64)) (.st (.sl (.int .i64)) .nil)) (.st (.int .i64) (.st (.int .i64) .nil)))) (by kernel_rfl) o1, ⟨_, _, rfl, Go.Den.arg_of (.int .i64) (by kernel_rfl) o2, rfl⟩⟩⟩
    exact Go.Den.law_call Go.Proofs.Ytcifaoaepbidoaa.law1ProofnumProves_ok (Go.Den.tabR_nil rfl rfl) ha (Go.Proofs.Ytcifaoaepbidoaa.law1ProofnumProves_true _ _ _ (Go.Den.rng_of _ o0) (Go.Den.rng_of _ o1) (Go.Den.rng_of _ o2))
  refine key.mono fun e W' ⟨he, bel⟩ => ?_
  subst he
  exact ⟨_, rfl, law_post laidOut (by kernel_rfl) (by kernel_rfl) Try.underlying4 rfl rfl hW' bel⟩

set_option maxHeartbeats 0 in
theorem over : Rows.proofnumProvesRow.holds Try.pinned (OpenSpec.ofChange Rows.proofnumProvesSpec) :=
  OpenClaim.holds_of_wide 7 Try.f7 rfl rfl rfl rfl rfl rfl rfl ⟨rfl, rfl, rfl, rfl, rfl⟩ rfl rfl rfl rfl rfl (by as_aux_lemma => kernel_rfl) Try.func7 (by as_aux_lemma => kernel_rfl)
    (of_decide_eq_true (by as_aux_lemma => kernel_rfl)) (by unfold Func.isWrapper; first | (rw [if_pos (by decide +kernel)]; kernel_rfl) | (rw [if_neg (by decide +kernel)]; exact ⟨rfl, rfl⟩))
    (fun os started H ec _ => lifted os started H ec)

theorem proved : Rows.ProofnumProvesSaid := over
#print axioms proved
end Go.Proofs.Ytcifaoaepbidoaa.proofnumProves

