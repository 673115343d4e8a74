/- The functions of the program as plain terms, and that they are what the evaluator makes of the code. Conditions: none. -/
import Derived.Test.YtdgcjepbgamedaaGreatDoorEvT1
import Derived.KernelRfl
namespace Go.Ev
open Go
set_option linter.unusedVariables false
set_option maxRecDepth 100000

theorem e13 (c : C3) : s13 c = fnOf PP rfs0 hk0 13 c := by kernel_rfl
theorem e21 (c : C3) : s21 c = fnOf PP rfs0 hk0 21 c := by kernel_rfl
theorem e28 (c : C3) : s28 c = fnOf PP rfs0 hk0 28 c := by kernel_rfl
theorem e38 (c : C3) : s38 c = fnOf PP rfs0 hk0 38 c := by kernel_rfl
theorem e45 (c : C3) : s45 c = fnOf PP rfs0 hk0 45 c := by kernel_rfl
theorem e48 (c : C3) : s48 c = fnOf PP rfs0 hk0 48 c := by kernel_rfl
theorem e62 (c : C3) : s62 c = fnOf PP rfs0 hk0 62 c := by kernel_rfl
theorem e64 (c : C3) : s64 c = fnOf PP rfs0 hk0 64 c := by kernel_rfl
theorem e71 (c : C3) : s71 c = fnOf PP rfs0 hk0 71 c := by kernel_rfl
theorem e79 (c : C3) : s79 c = fnOf PP rfs0 hk0 79 c := by kernel_rfl
theorem e89 (c : C3) : s89 c = fnOf PP rfs0 hk0 89 c := by kernel_rfl
theorem e105 (c : C3) : s105 c = fnOf PP rfs0 hk0 105 c := by kernel_rfl
theorem e106 (c : C3) : s106 c = fnOf PP rfs0 hk0 106 c := by kernel_rfl
theorem e112 (c : C3) : s112 c = fnOf PP rfs0 hk0 112 c := by kernel_rfl
theorem e113 (c : C3) : s113 c = fnOf PP rfs0 hk0 113 c := by kernel_rfl
theorem e114 (c : C3) : s114 c = fnOf PP rfs0 hk0 114 c := by kernel_rfl
theorem e115 (c : C3) : s115 c = fnOf PP rfs0 hk0 115 c := by kernel_rfl
theorem e117 (c : C3) : s117 c = fnOf PP rfs0 hk0 117 c := by kernel_rfl
theorem e129 (c : C3) : s129 c = fnOf PP rfs0 hk0 129 c := by kernel_rfl
theorem e131 (c : C3) : s131 c = fnOf PP rfs0 hk0 131 c := by kernel_rfl
theorem e134 (c : C3) : s134 c = fnOf PP rfs0 hk0 134 c := by kernel_rfl
theorem e135 (c : C3) : s135 c = fnOf PP rfs0 hk0 135 c := by kernel_rfl
theorem e146 (c : C3) : s146 c = fnOf PP rfs0 hk0 146 c := by kernel_rfl
theorem e150 (c : C3) : s150 c = fnOf PP rfs0 hk0 150 c := by kernel_rfl
theorem e161 (c : C3) : s161 c = fnOf PP rfs0 hk0 161 c := by kernel_rfl
theorem e168 (c : C3) : s168 c = fnOf PP rfs0 hk0 168 c := by kernel_rfl
theorem e172 (c : C3) : s172 c = fnOf PP rfs0 hk0 172 c := by kernel_rfl
theorem e177 (c : C3) : s177 c = fnOf PP rfs0 hk0 177 c := by kernel_rfl
theorem e180 (c : C3) : s180 c = fnOf PP rfs0 hk0 180 c := by kernel_rfl
theorem e183 (c : C3) : s183 c = fnOf PP rfs0 hk0 183 c := by kernel_rfl
theorem e190 (c : C3) : s190 c = fnOf PP rfs0 hk0 190 c := by kernel_rfl
theorem e208 (c : C3) : s208 c = fnOf PP rfs0 hk0 208 c := by kernel_rfl
theorem e216 (c : C3) : s216 c = fnOf PP rfs0 hk0 216 c := by kernel_rfl
theorem e222 (c : C3) : s222 c = fnOf PP rfs0 hk0 222 c := by kernel_rfl
theorem e230 (c : C3) : s230 c = fnOf PP rfs0 hk0 230 c := by kernel_rfl
theorem e232 (c : C3) : s232 c = fnOf PP rfs0 hk0 232 c := by kernel_rfl
theorem e236 (c : C3) : s236 c = fnOf PP rfs0 hk0 236 c := by kernel_rfl
theorem e266 (c : C3) : s266 c = fnOf PP rfs0 hk0 266 c := by kernel_rfl
theorem e278 (c : C3) : s278 c = fnOf PP rfs0 hk0 278 c := by kernel_rfl
theorem e279 (c : C3) : s279 c = fnOf PP rfs0 hk0 279 c := by kernel_rfl
theorem e285 (c : C3) : s285 c = fnOf PP rfs0 hk0 285 c := by kernel_rfl
theorem e289 (c : C3) : s289 c = fnOf PP rfs0 hk0 289 c := by kernel_rfl
theorem e293 (c : C3) : s293 c = fnOf PP rfs0 hk0 293 c := by kernel_rfl
theorem e301 (c : C3) : s301 c = fnOf PP rfs0 hk0 301 c := by kernel_rfl
theorem e306 (c : C3) : s306 c = fnOf PP rfs0 hk0 306 c := by kernel_rfl
theorem e308 (c : C3) : s308 c = fnOf PP rfs0 hk0 308 c := by kernel_rfl
theorem e314 (c : C3) : s314 c = fnOf PP rfs0 hk0 314 c := by kernel_rfl
theorem e327 (c : C3) : s327 c = fnOf PP rfs0 hk0 327 c := by kernel_rfl
theorem e329 (c : C3) : s329 c = fnOf PP rfs0 hk0 329 c := by kernel_rfl
theorem e344 (c : C3) : s344 c = fnOf PP rfs0 hk0 344 c := by kernel_rfl
theorem e375 (c : C3) : s375 c = fnOf PP rfs0 hk0 375 c := by kernel_rfl
theorem e381 (c : C3) : s381 c = fnOf PP rfs0 hk0 381 c := by kernel_rfl
theorem e385 (c : C3) : s385 c = fnOf PP rfs0 hk0 385 c := by kernel_rfl
theorem e388 (c : C3) : s388 c = fnOf PP rfs0 hk0 388 c := by kernel_rfl
theorem e398 (c : C3) : s398 c = fnOf PP rfs0 hk0 398 c := by kernel_rfl
theorem e407 (c : C3) : s407 c = fnOf PP rfs0 hk0 407 c := by kernel_rfl
theorem e408 (c : C3) : s408 c = fnOf PP rfs0 hk0 408 c := by kernel_rfl
theorem e413 (c : C3) : s413 c = fnOf PP rfs0 hk0 413 c := by kernel_rfl
theorem e416 (c : C3) : s416 c = fnOf PP rfs0 hk0 416 c := by kernel_rfl
theorem e435 (c : C3) : s435 c = fnOf PP rfs0 hk0 435 c := by kernel_rfl
theorem e438 (c : C3) : s438 c = fnOf PP rfs0 hk0 438 c := by kernel_rfl
theorem e458 (c : C3) : s458 c = fnOf PP rfs0 hk0 458 c := by kernel_rfl
theorem e496 (c : C3) : s496 c = fnOf PP rfs0 hk0 496 c := by kernel_rfl
theorem e529 (c : C3) : s529 c = fnOf PP rfs0 hk0 529 c := by kernel_rfl
end Go.Ev
