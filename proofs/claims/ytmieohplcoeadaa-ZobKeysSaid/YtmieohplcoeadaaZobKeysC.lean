/- Contracts: ZobKeys. No condition of its own. -/
import Derived.Test.YtmieohplcoeadaaBase
import Derived.Test.YtmieohplcoeadaaZobKeysS
import Derived.Test.YtmieohplcoeadaaCoreC
namespace Go.Proofs.Ytmieohplcoeadaa
open Go.Den
set_option linter.unusedVariables false
set_option maxRecDepth 100000
def law1ZobKeys_ann : Ann := (.two .nil (.two (.two .nil (.two (.join ⟨[3, 4, 5, 6], [(34, .bool)], []⟩ .nil) .nil)) (.two .nil (.two .nil (.two .nil (.two .nil (.two .nil (.two .nil (.two .nil (.two (.join ⟨[], [(8, .bool)], []⟩ .nil) .nil))))))))))
noncomputable def law1ZobKeys_con : Con := ⟨[(.st .str (.st (.int .i64) (.st (.int .i64) (.st (.sl (.st (.int .u8) (.st (.int .i64) (.st (.int .i64) (.st (.sl (.st (.int .i64) (.st (.int .i64) (.st (.int .i64) (.st (.int .i64) .nil))))) .nil))))) (.st (.sl (.int .i64)) (.st .bool (.st .bool (.st (.sl (.st (.int .i64) (.st (.int .i64) (.st (.int .i64) (.st .bool .nil))))) (.st (.int .i64) (.st (.int .i64) (.st (.int .i64) .nil))))))))))), (.st (.sl (.int .i64)) (.st (.st (.sl (.int .i64)) (.st (.sl (.int .i64)) .nil)) (.st (.int .i64) (.st (.int .i64) .nil)))), (.st (.int .i64) (.st (.int .i64) (.st (.int .i64) .nil))), (.int .i64)], true, [], .bool, fun x => law1ZobKeys x.1 x.2.1 x.2.2.1 x.2.2.2.1, none⟩
def zobMix_conV (f : Int → Int) : Con := ⟨[(.int .i64)], true, [], (.int .u64), fun x => some (f x.1), some fun x => f x.1⟩
theorem zobMix_okV : ConOK Try.prog 37 (zobMix_conV zobMix) := by
  have h : zobMix_conV zobMix = zobMix_con := by
    unfold zobMix_conV zobMix_con
    congr 1 <;> (funext x; exact (zobMix_eq _).symm)
  rw [h]; exact zobMix_ok
def ref1Mixed_conV (f : Int → Int) : Con := ⟨[(.int .i64)], true, [], (.int .u64), fun x => some (f x.1), some fun x => f x.1⟩
theorem ref1Mixed_okV : ConOK Try.prog 38 (ref1Mixed_conV ref1Mixed) := by
  have h : ref1Mixed_conV ref1Mixed = ref1Mixed_con := by
    unfold ref1Mixed_conV ref1Mixed_con
    congr 1 <;> (funext x; exact (ref1Mixed_eq _).symm)
  rw [h]; exact ref1Mixed_ok
noncomputable def law1ZobKeys_env (zobMix' : Int → Int) (ref1Mixed' : Int → Int) : Env := (34, .con ref1After_con) :: (29, .con ref1Allowed_con) :: (24, .con ref1PlaceError_con) :: (39, .con zobChange_con) :: (36, .con ref1Key_con) :: (38, .con (ref1Mixed_conV ref1Mixed')) :: (37, .con (zobMix_conV zobMix')) :: (35, .con zobKey_con) :: (23, .con law1Won_con) :: (22, .con law1Three_con) :: []
theorem law1ZobKeys_denV (zobMix' : Int → Int) (ref1Mixed' : Int → Int) (x : DL law1ZobKeys_con.ps) : law1ZobKeys_V zobMix' ref1Mixed' x.1 x.2.1 x.2.2.1 x.2.2.2.1 = denF Try.prog (law1ZobKeys_env zobMix' ref1Mixed') law1ZobKeys_ann Try.f7 law1ZobKeys_con.ps law1ZobKeys_con.one law1ZobKeys_con.res law1ZobKeys_con.ρ x := by kernel_rfl
theorem law1ZobKeys_den (x : DL law1ZobKeys_con.ps) : law1ZobKeys_con.φ x = denF Try.prog (law1ZobKeys_env zobMix ref1Mixed) law1ZobKeys_ann Try.f7 law1ZobKeys_con.ps law1ZobKeys_con.one law1ZobKeys_con.res law1ZobKeys_con.ρ x := law1ZobKeys_denV zobMix ref1Mixed x
theorem law1ZobKeys_ok : ConOK Try.prog 7 law1ZobKeys_con :=
  con_of_den (env := law1ZobKeys_env zobMix ref1Mixed) ((EnvOK.cons (EnvOK.cons (EnvOK.cons (EnvOK.cons (EnvOK.cons (EnvOK.cons (EnvOK.cons (EnvOK.cons (EnvOK.cons (EnvOK.cons (EnvOK.nil _) law1Three_ok) law1Won_ok) zobKey_ok) zobMix_okV) ref1Mixed_okV) ref1Key_ok) zobChange_ok) ref1PlaceError_ok) ref1Allowed_ok) ref1After_ok)) mixed Try.func7 law1ZobKeys_con law1ZobKeys_ann (by kernel_rfl) (fun h => by first | rfl | cases h) (fun g hg => by cases hg) law1ZobKeys_den
end Go.Proofs.Ytmieohplcoeadaa
