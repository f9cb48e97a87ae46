/- A contract of strings.IndexByte. No condition of its own. -/
import Derived.Test.YticeklcmijbjfaaGreatBase
import Derived.Test.YticeklcmijbjfaaGreatIxbS
import Derived.Shelf.Small.Strs
namespace Go.Proofs.YticeklcmijbjfaaGreat
open Go.Den
set_option linter.unusedVariables false
set_option maxRecDepth 100000
def ixb_ren : Go.Shelf.Ren := ⟨fun | 137 => 89 | 217 => 105 | 266 => 121 | n => n, fun | 9 => 9 | 5 => 5 | 3 => 3 | n => n, fun | n => n⟩
open Go.Shelf in
theorem ixb_lay : Go.Proofs.Lays.n137 Tryz.prog ixb_ren where
  mixed := by kernel_rfl
  f137 := Tryz.func89.trans (congrArg some (by kernel_rfl))
  f217 := Tryz.func105.trans (congrArg some (by kernel_rfl))
  f266 := Tryz.func121.trans (congrArg some (by kernel_rfl))
  t3 := Tryz.underlying3
  a3 := Tryz.isAgg3
  z3 := Tryz.sizeOf3
  v3 := Tryz.zeroValue3
  t5 := Tryz.underlying5
  a5 := Tryz.isAgg5
  z5 := Tryz.sizeOf5
  v5 := Tryz.zeroValue5
  t9 := Tryz.underlying9
  a9 := Tryz.isAgg9
  z9 := Tryz.sizeOf9
  v9 := Tryz.zeroValue9
/-- strings.IndexByte -/
noncomputable def indexByteS_con : Con := ⟨[.str, .int .u8], true, [], .int .i64, fun x => some (indexByteS x.1 x.2.1), some fun x => indexByteS x.1 x.2.1⟩
theorem indexByteS_ok : ConOK Tryz.prog 89 indexByteS_con := by
  refine ⟨rfl, fun h => (by cases h), fun g h x => (by cases h; rfl), fun w S args x r hS hT ha hr => ?_⟩
  obtain ⟨s, c, ⟨⟩⟩ := x
  obtain ⟨v, q, e1, ⟨cs, ⟨_, rfl⟩, rfl⟩, v2, q2, rfl, ⟨cs2, ⟨_, rfl⟩, rfl⟩, h2⟩ := ha
  obtain rfl : q2 = [] := h2
  obtain rfl : args = #[.string s, .int .u8 c] := by rw [← Array.toList_inj, e1]; rfl
  obtain rfl : indexByteS s c = r := Option.some.inj hr
  refine (Any.strings_IndexByte (P := Tryz.prog) (ρ := ixb_ren) ixb_lay s c w).mono ?_
  rintro e w' ⟨rfl, rfl⟩
  exact ⟨_, rfl, Go.Eng.Chg.refl _ _, [], [.int .i64 _], List.nodup_nil, (by simp), ⟨rfl, rfl⟩, rfl⟩
end Go.Proofs.YticeklcmijbjfaaGreat
