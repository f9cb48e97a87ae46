/- Contracts: ISort. No condition of its own. -/
import Derived.Test.YtpajmeljfpolcaaBase
import Derived.Test.YtpajmeljfpolcaaDenT
import Derived.Test.YtpajmeljfpolcaaISortS
namespace Go.Proofs.Ytpajmeljfpolcaa
open Go.Den
set_option linter.unusedVariables false
set_option maxRecDepth 100000
open Go.Shelf in
def isort_ren : Go.Shelf.Ren := ⟨fun | 189 => 120 | 125 => 170 | 257 => 169 | 128 => 200 | 129 => 201 | 294 => 191 | 295 => 192 | 296 => 193 | 297 => 194 | 298 => 195 | 299 => 196 | 216 => 197 | 300 => 198 | 301 => 199 | 328 => 217 | 329 => 218 | 330 => 219 | 331 => 220 | 332 => 221 | 215 => 185 | 343 => 225 | n => n, fun | 28 => 23 | 3 => 3 | 46 => 241 | 0 => 0 | 51 => 268 | 53 => 66 | 4 => 4 | 183 => 262 | 182 => 261 | 131 => 175 | 5 => 5 | 9 => 9 | 218 => 280 | 222 => 283 | 228 => 287 | 229 => 102 | n => n, fun | n => n⟩
open Go.Shelf in
theorem isort_lay : Lays.n189 Try.prog isort_ren where
  mixed := by kernel_rfl
  f125 := Try.func170.trans (congrArg some (by kernel_rfl))
  f128 := Try.func200.trans (congrArg some (by kernel_rfl))
  f129 := Try.func201.trans (congrArg some (by kernel_rfl))
  f189 := Try.func120.trans (congrArg some (by kernel_rfl))
  f215 := Try.func185.trans (congrArg some (by kernel_rfl))
  f216 := Try.func197.trans (congrArg some (by kernel_rfl))
  f257 := Try.func169.trans (congrArg some (by kernel_rfl))
  f294 := Try.func191.trans (congrArg some (by kernel_rfl))
  f295 := Try.func192.trans (congrArg some (by kernel_rfl))
  f296 := Try.func193.trans (congrArg some (by kernel_rfl))
  f297 := Try.func194.trans (congrArg some (by kernel_rfl))
  f298 := Try.func195.trans (congrArg some (by kernel_rfl))
  f299 := Try.func196.trans (congrArg some (by kernel_rfl))
  f300 := Try.func198.trans (congrArg some (by kernel_rfl))
  f301 := Try.func199.trans (congrArg some (by kernel_rfl))
  f328 := Try.func217.trans (congrArg some (by kernel_rfl))
  f329 := Try.func218.trans (congrArg some (by kernel_rfl))
  f330 := Try.func219.trans (congrArg some (by kernel_rfl))
  f331 := Try.func220.trans (congrArg some (by kernel_rfl))
  f332 := Try.func221.trans (congrArg some (by kernel_rfl))
  f343 := Try.func225.trans (congrArg some (by kernel_rfl))
  t0 := Try.underlying0
  a0 := Try.isAgg0
  z0 := Try.sizeOf0
  v0 := Try.zeroValue0
  t3 := Try.underlying3
  a3 := Try.isAgg3
  z3 := Try.sizeOf3
  v3 := Try.zeroValue3
  t4 := Try.underlying4
  a4 := Try.isAgg4
  z4 := Try.sizeOf4
  v4 := Try.zeroValue4
  t5 := Try.underlying5
  a5 := Try.isAgg5
  z5 := Try.sizeOf5
  v5 := Try.zeroValue5
  t9 := Try.underlying9
  a9 := Try.isAgg9
  z9 := Try.sizeOf9
  v9 := Try.zeroValue9
  t28 := Try.underlying23
  a28 := Try.isAgg23
  z28 := Try.sizeOf23
  v28 := Try.zeroValue23
  t46 := Try.underlying241
  a46 := Try.isAgg241
  z46 := Try.sizeOf241
  v46 := Try.zeroValue241
  t51 := Try.underlying268
  a51 := Try.isAgg268
  z51 := Try.sizeOf268
  v51 := Try.zeroValue268
  t53 := Try.underlying66
  a53 := Try.isAgg66
  z53 := Try.sizeOf66
  v53 := Try.zeroValue66
  t131 := Try.underlying175
  a131 := Try.isAgg175
  z131 := Try.sizeOf175
  v131 := Try.zeroValue175
  t182 := Try.underlying261
  a182 := Try.isAgg261
  z182 := Try.sizeOf261
  v182 := Try.zeroValue261
  t183 := Try.underlying262
  a183 := Try.isAgg262
  z183 := Try.sizeOf262
  v183 := Try.zeroValue262
  t218 := Try.underlying280
  a218 := Try.isAgg280
  z218 := Try.sizeOf280
  v218 := Try.zeroValue280
  t222 := Try.underlying283
  a222 := Try.isAgg283
  z222 := Try.sizeOf283
  v222 := Try.zeroValue283
  t228 := Try.underlying287
  a228 := Try.isAgg287
  z228 := Try.sizeOf287
  v228 := Try.zeroValue287
  t229 := Try.underlying102
  a229 := Try.isAgg102
  z229 := Try.sizeOf102
  v229 := Try.zeroValue102
def sortInts_srt : Srt := ⟨3, .int .i64, none, sortInts⟩
theorem sortInts_ok : SrtOK Try.prog 120 sortInts_srt := srt_ints isort_lay rfl 3
end Go.Proofs.Ytpajmeljfpolcaa
