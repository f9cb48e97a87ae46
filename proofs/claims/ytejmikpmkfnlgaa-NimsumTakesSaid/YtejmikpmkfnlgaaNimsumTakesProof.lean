/- Proved: the Go law NimsumTakes returns true for every slice of ints, and the argument reads as before. Conditions: none beyond the row itself. -/
import Derived.Test.YtejmikpmkfnlgaaRows
import Derived.Test.YtejmikpmkfnlgaaFr
import Derived.Test.YtejmikpmkfnlgaaNimsumLaw
namespace Go.Proofs.Ytejmikpmkfnlgaa.nimsumTakes
open Go.ChangeShapes Go.WideShapes Go.ChangeAt Go.RowKit Go.Eng
set_option linter.unusedVariables false
set_option linter.unusedSimpArgs false

theorem own : ownKnob Try.prog.godebug = none := by kernel_rfl
theorem laidOut : laidOutB Try.prog = true := by kernel_rfl

set_option maxRecDepth 100000 in
theorem lifted (os : Os) (started : os.Started) (H : Type) (ec : TypeId × Value → H) :
    ReturnsInHanded {} Try.checked os 4 .any (Rows.nimsumTakesSpec.pre6 ec Try.prog Try.f4 Rows.nimsumTakesRow.domain false) (Rows.nimsumTakesSpec.post ec Try.prog Try.f4 false true false false) := by
  refine returnsInHanded_of_change (C := Try.checked) own started (by kernel_rfl) Try.func4
    (ChangeSpec.witness6 (enc := ec) (C := Try.checked) false ⟨#[], #[.slice none 0 0], []⟩ 8 (by kernel_rfl) (by kernel_rfl) (by kernel_rfl) (by kernel_rfl)) ?_
  intro W base args ds gs before hval0 hW hcnd _
  have hval : ∀ (j : Nat) t v, Try.f4.params[j]? = some t → args[j]? = some v → Value.okWide Try.prog W .any base t v := hval0
  have hW' := hW
  obtain ⟨p, q, hA0, hV, rfl, hfz, hnd⟩ := hW
  have hA : DataW.TrodAll ec Try.prog W 0 (fun _ => true) true Try.f4.params.toList args.toList ds p := hA0
  rw [Try.params4] at hA hval
  obtain ⟨v0, vs0, d0, ds0, p0, q0, hargs, rfl, rfl, h0, r0⟩ := trodAll_cons hA
  obtain ⟨rfl, rfl, rfl⟩ := trodAll_nil r0
  obtain rfl : args = #[v0] := by cases args; simp_all
  obtain ⟨rfl, rfl⟩ := trodVars_none hV
  obtain ⟨y0, rfl, o0⟩ := open_val (.sl (.int .i64)) (by kernel_rfl) (hval 0 24 v0 rfl rfl) h0
  have key : Calls Try.prog 4 #[handV _ y0] W fun e W' => e = .returned (.bool true) ∧ Below W.heap.size W W' := by
    obtain ⟨ao, cap, xs⟩ := y0
    obtain ⟨h1, h2, h3⟩ := o0.ints
    exact law_any ao cap xs W h1 h3
  refine key.mono fun e W' ⟨he, bel⟩ => ?_
  subst he
  exact ⟨_, rfl, law_post laidOut (by kernel_rfl) (by kernel_rfl) Try.underlying4 rfl rfl hW' bel⟩

theorem over : Rows.nimsumTakesRow.holds Try.pinned (OpenSpec.ofChange Rows.nimsumTakesSpec) :=
  OpenClaim.holds_of_wide 4 Try.f4 rfl rfl rfl rfl rfl rfl rfl ⟨rfl, rfl, rfl, rfl, rfl⟩ rfl rfl rfl rfl rfl (by kernel_rfl) Try.func4 (by kernel_rfl)
    (of_decide_eq_true (by kernel_rfl)) (by unfold Func.isWrapper; first | (rw [if_pos (by decide +kernel)]; kernel_rfl) | (rw [if_neg (by decide +kernel)]; exact ⟨rfl, rfl⟩))
    (fun os started H ec _ => lifted os started H ec)

theorem proved : Rows.NimsumTakesSaid := over
#print axioms proved
end Go.Proofs.Ytejmikpmkfnlgaa.nimsumTakes
