/- The functions of the program as plain terms, and that they are what the evaluator makes of the code. Conditions: none. -/
import Derived.Test.YtdgcjepbgamedaaGreatDoorEvT1
import Derived.KernelRfl
namespace Go.Ev
open Go
set_option linter.unusedVariables false
set_option maxRecDepth 100000

theorem e16 (c : C3) : s16 c = fnOf PP rfs0 hk0 16 c := by kernel_rfl
theorem e25 (c : C3) : s25 c = fnOf PP rfs0 hk0 25 c := by kernel_rfl
theorem e30 (c : C3) : s30 c = fnOf PP rfs0 hk0 30 c := by kernel_rfl
theorem e31 (c : C3) : s31 c = fnOf PP rfs0 hk0 31 c := by kernel_rfl
theorem e33 (c : C3) : s33 c = fnOf PP rfs0 hk0 33 c := by kernel_rfl
theorem e34 (c : C3) : s34 c = fnOf PP rfs0 hk0 34 c := by kernel_rfl
theorem e36 (c : C3) : s36 c = fnOf PP rfs0 hk0 36 c := by kernel_rfl
theorem e39 (c : C3) : s39 c = fnOf PP rfs0 hk0 39 c := by kernel_rfl
theorem e40 (c : C3) : s40 c = fnOf PP rfs0 hk0 40 c := by kernel_rfl
theorem e41 (c : C3) : s41 c = fnOf PP rfs0 hk0 41 c := by kernel_rfl
theorem e52 (c : C3) : s52 c = fnOf PP rfs0 hk0 52 c := by kernel_rfl
theorem e63 (c : C3) : s63 c = fnOf PP rfs0 hk0 63 c := by kernel_rfl
theorem e66 (c : C3) : s66 c = fnOf PP rfs0 hk0 66 c := by kernel_rfl
theorem e70 (c : C3) : s70 c = fnOf PP rfs0 hk0 70 c := by kernel_rfl
theorem e72 (c : C3) : s72 c = fnOf PP rfs0 hk0 72 c := by kernel_rfl
theorem e121 (c : C3) : s121 c = fnOf PP rfs0 hk0 121 c := by kernel_rfl
theorem e124 (c : C3) : s124 c = fnOf PP rfs0 hk0 124 c := by kernel_rfl
theorem e143 (c : C3) : s143 c = fnOf PP rfs0 hk0 143 c := by kernel_rfl
theorem e152 (c : C3) : s152 c = fnOf PP rfs0 hk0 152 c := by kernel_rfl
theorem e158 (c : C3) : s158 c = fnOf PP rfs0 hk0 158 c := by kernel_rfl
theorem e175 (c : C3) : s175 c = fnOf PP rfs0 hk0 175 c := by kernel_rfl
theorem e178 (c : C3) : s178 c = fnOf PP rfs0 hk0 178 c := by kernel_rfl
theorem e181 (c : C3) : s181 c = fnOf PP rfs0 hk0 181 c := by kernel_rfl
theorem e186 (c : C3) : s186 c = fnOf PP rfs0 hk0 186 c := by kernel_rfl
theorem e213 (c : C3) : s213 c = fnOf PP rfs0 hk0 213 c := by kernel_rfl
theorem e217 (c : C3) : s217 c = fnOf PP rfs0 hk0 217 c := by kernel_rfl
theorem e218 (c : C3) : s218 c = fnOf PP rfs0 hk0 218 c := by kernel_rfl
theorem e234 (c : C3) : s234 c = fnOf PP rfs0 hk0 234 c := by kernel_rfl
theorem e235 (c : C3) : s235 c = fnOf PP rfs0 hk0 235 c := by kernel_rfl
theorem e239 (c : C3) : s239 c = fnOf PP rfs0 hk0 239 c := by kernel_rfl
theorem e245 (c : C3) : s245 c = fnOf PP rfs0 hk0 245 c := by kernel_rfl
theorem e265 (c : C3) : s265 c = fnOf PP rfs0 hk0 265 c := by kernel_rfl
theorem e271 (c : C3) : s271 c = fnOf PP rfs0 hk0 271 c := by kernel_rfl
theorem e273 (c : C3) : s273 c = fnOf PP rfs0 hk0 273 c := by kernel_rfl
theorem e274 (c : C3) : s274 c = fnOf PP rfs0 hk0 274 c := by kernel_rfl
theorem e275 (c : C3) : s275 c = fnOf PP rfs0 hk0 275 c := by kernel_rfl
theorem e276 (c : C3) : s276 c = fnOf PP rfs0 hk0 276 c := by kernel_rfl
theorem e286 (c : C3) : s286 c = fnOf PP rfs0 hk0 286 c := by kernel_rfl
theorem e304 (c : C3) : s304 c = fnOf PP rfs0 hk0 304 c := by kernel_rfl
theorem e316 (c : C3) : s316 c = fnOf PP rfs0 hk0 316 c := by kernel_rfl
theorem e317 (c : C3) : s317 c = fnOf PP rfs0 hk0 317 c := by kernel_rfl
theorem e324 (c : C3) : s324 c = fnOf PP rfs0 hk0 324 c := by kernel_rfl
theorem e331 (c : C3) : s331 c = fnOf PP rfs0 hk0 331 c := by kernel_rfl
theorem e332 (c : C3) : s332 c = fnOf PP rfs0 hk0 332 c := by kernel_rfl
theorem e336 (c : C3) : s336 c = fnOf PP rfs0 hk0 336 c := by kernel_rfl
theorem e357 (c : C3) : s357 c = fnOf PP rfs0 hk0 357 c := by kernel_rfl
theorem e366 (c : C3) : s366 c = fnOf PP rfs0 hk0 366 c := by kernel_rfl
theorem e376 (c : C3) : s376 c = fnOf PP rfs0 hk0 376 c := by kernel_rfl
theorem e387 (c : C3) : s387 c = fnOf PP rfs0 hk0 387 c := by kernel_rfl
theorem e390 (c : C3) : s390 c = fnOf PP rfs0 hk0 390 c := by kernel_rfl
theorem e405 (c : C3) : s405 c = fnOf PP rfs0 hk0 405 c := by kernel_rfl
theorem e434 (c : C3) : s434 c = fnOf PP rfs0 hk0 434 c := by kernel_rfl
theorem e441 (c : C3) : s441 c = fnOf PP rfs0 hk0 441 c := by kernel_rfl
theorem e443 (c : C3) : s443 c = fnOf PP rfs0 hk0 443 c := by kernel_rfl
theorem e446 (c : C3) : s446 c = fnOf PP rfs0 hk0 446 c := by kernel_rfl
theorem e456 (c : C3) : s456 c = fnOf PP rfs0 hk0 456 c := by kernel_rfl
theorem e459 (c : C3) : s459 c = fnOf PP rfs0 hk0 459 c := by kernel_rfl
theorem e460 (c : C3) : s460 c = fnOf PP rfs0 hk0 460 c := by kernel_rfl
theorem e461 (c : C3) : s461 c = fnOf PP rfs0 hk0 461 c := by kernel_rfl
theorem e465 (c : C3) : s465 c = fnOf PP rfs0 hk0 465 c := by kernel_rfl
theorem e500 (c : C3) : s500 c = fnOf PP rfs0 hk0 500 c := by kernel_rfl
theorem e525 (c : C3) : s525 c = fnOf PP rfs0 hk0 525 c := by kernel_rfl
theorem e536 (c : C3) : s536 c = fnOf PP rfs0 hk0 536 c := by kernel_rfl
theorem e573 (c : C3) : s573 c = fnOf PP rfs0 hk0 573 c := by kernel_rfl
end Go.Ev
