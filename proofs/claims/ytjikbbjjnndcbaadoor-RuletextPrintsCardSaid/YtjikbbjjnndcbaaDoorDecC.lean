/- Contracts: Dec. No condition of its own. -/
import Derived.Test.YtjikbbjjnndcbaaDoorBase
import Derived.Test.YtjikbbjjnndcbaaDoorDecS
import Derived.Test.YtjikbbjjnndcbaaDoorStrC
namespace Go.Proofs.YtjikbbjjnndcbaaDoor
open Go.Den
set_option linter.unusedVariables false
set_option maxRecDepth 100000
def ref1Dec_ann : Ann := .nil
noncomputable def ref1Dec_con : Con := ⟨[(.int .i64)], true, [], .str, fun x => ref1Dec x.1, none⟩
noncomputable def ref1Dec_env (φ : DL [(.int .i64)] → Option (D .str)) : Env := (50, .con ⟨[(.int .i64)], true, [], .str, φ, none⟩) :: []
theorem ref1Dec_den (φ : DL [(.int .i64)] → Option (D .str)) (x : DL [(.int .i64)]) : ref1Dec_G φ x = denF Tryd.prog (ref1Dec_env φ) ref1Dec_ann Tryd.f50 ref1Dec_con.ps ref1Dec_con.one ref1Dec_con.res ref1Dec_con.ρ x := by kernel_rfl
theorem ref1Dec_ok : ConOK Tryd.prog 50 ref1Dec_con :=
  con_fix (ps := [(.int .i64)]) (ρ := .str) (G := ref1Dec_G) (by kernel_rfl) (fun h => by first | rfl | cases h) fun φ hφ =>
  con_of_den (env := ref1Dec_env φ) ((EnvOK.cons (EnvOK.nil _) hφ)) mixed Tryd.func50 ⟨[(.int .i64)], true, [], .str, ref1Dec_G φ, none⟩ ref1Dec_ann (by kernel_rfl) (fun h => by first | rfl | cases h) (fun g hg => by cases hg) (ref1Dec_den φ)
end Go.Proofs.YtjikbbjjnndcbaaDoor
