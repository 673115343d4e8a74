/- The functions of the program as plain terms, and that they are what the evaluator makes of the code. Conditions: none. -/
import Derived.Test.YtdgcjepbgamedaaGreatDoorEvT1
import Derived.KernelRfl
namespace Go.Ev
open Go
set_option linter.unusedVariables false
set_option maxRecDepth 100000

theorem e7 (c : C3) : s7 c = fnOf PP rfs0 hk0 7 c := by kernel_rfl
theorem e12 (c : C3) : s12 c = fnOf PP rfs0 hk0 12 c := by kernel_rfl
theorem e14 (c : C3) : s14 c = fnOf PP rfs0 hk0 14 c := by kernel_rfl
theorem e20 (c : C3) : s20 c = fnOf PP rfs0 hk0 20 c := by kernel_rfl
theorem e23 (c : C3) : s23 c = fnOf PP rfs0 hk0 23 c := by kernel_rfl
theorem e24 (c : C3) : s24 c = fnOf PP rfs0 hk0 24 c := by kernel_rfl
theorem e37 (c : C3) : s37 c = fnOf PP rfs0 hk0 37 c := by kernel_rfl
theorem e42 (c : C3) : s42 c = fnOf PP rfs0 hk0 42 c := by kernel_rfl
theorem e49 (c : C3) : s49 c = fnOf PP rfs0 hk0 49 c := by kernel_rfl
theorem e57 (c : C3) : s57 c = fnOf PP rfs0 hk0 57 c := by kernel_rfl
theorem e67 (c : C3) : s67 c = fnOf PP rfs0 hk0 67 c := by kernel_rfl
theorem e68 (c : C3) : s68 c = fnOf PP rfs0 hk0 68 c := by kernel_rfl
theorem e69 (c : C3) : s69 c = fnOf PP rfs0 hk0 69 c := by kernel_rfl
theorem e76 (c : C3) : s76 c = fnOf PP rfs0 hk0 76 c := by kernel_rfl
theorem e77 (c : C3) : s77 c = fnOf PP rfs0 hk0 77 c := by kernel_rfl
theorem e82 (c : C3) : s82 c = fnOf PP rfs0 hk0 82 c := by kernel_rfl
theorem e94 (c : C3) : s94 c = fnOf PP rfs0 hk0 94 c := by kernel_rfl
theorem e110 (c : C3) : s110 c = fnOf PP rfs0 hk0 110 c := by kernel_rfl
theorem e116 (c : C3) : s116 c = fnOf PP rfs0 hk0 116 c := by kernel_rfl
theorem e132 (c : C3) : s132 c = fnOf PP rfs0 hk0 132 c := by kernel_rfl
theorem e137 (c : C3) : s137 c = fnOf PP rfs0 hk0 137 c := by kernel_rfl
theorem e142 (c : C3) : s142 c = fnOf PP rfs0 hk0 142 c := by kernel_rfl
theorem e145 (c : C3) : s145 c = fnOf PP rfs0 hk0 145 c := by kernel_rfl
theorem e148 (c : C3) : s148 c = fnOf PP rfs0 hk0 148 c := by kernel_rfl
theorem e151 (c : C3) : s151 c = fnOf PP rfs0 hk0 151 c := by kernel_rfl
theorem e153 (c : C3) : s153 c = fnOf PP rfs0 hk0 153 c := by kernel_rfl
theorem e171 (c : C3) : s171 c = fnOf PP rfs0 hk0 171 c := by kernel_rfl
theorem e173 (c : C3) : s173 c = fnOf PP rfs0 hk0 173 c := by kernel_rfl
theorem e176 (c : C3) : s176 c = fnOf PP rfs0 hk0 176 c := by kernel_rfl
theorem e193 (c : C3) : s193 c = fnOf PP rfs0 hk0 193 c := by kernel_rfl
theorem e219 (c : C3) : s219 c = fnOf PP rfs0 hk0 219 c := by kernel_rfl
theorem e223 (c : C3) : s223 c = fnOf PP rfs0 hk0 223 c := by kernel_rfl
theorem e226 (c : C3) : s226 c = fnOf PP rfs0 hk0 226 c := by kernel_rfl
theorem e227 (c : C3) : s227 c = fnOf PP rfs0 hk0 227 c := by kernel_rfl
theorem e253 (c : C3) : s253 c = fnOf PP rfs0 hk0 253 c := by kernel_rfl
theorem e263 (c : C3) : s263 c = fnOf PP rfs0 hk0 263 c := by kernel_rfl
theorem e268 (c : C3) : s268 c = fnOf PP rfs0 hk0 268 c := by kernel_rfl
theorem e277 (c : C3) : s277 c = fnOf PP rfs0 hk0 277 c := by kernel_rfl
theorem e283 (c : C3) : s283 c = fnOf PP rfs0 hk0 283 c := by kernel_rfl
theorem e287 (c : C3) : s287 c = fnOf PP rfs0 hk0 287 c := by kernel_rfl
theorem e295 (c : C3) : s295 c = fnOf PP rfs0 hk0 295 c := by kernel_rfl
theorem e297 (c : C3) : s297 c = fnOf PP rfs0 hk0 297 c := by kernel_rfl
theorem e307 (c : C3) : s307 c = fnOf PP rfs0 hk0 307 c := by kernel_rfl
theorem e319 (c : C3) : s319 c = fnOf PP rfs0 hk0 319 c := by kernel_rfl
theorem e321 (c : C3) : s321 c = fnOf PP rfs0 hk0 321 c := by kernel_rfl
theorem e322 (c : C3) : s322 c = fnOf PP rfs0 hk0 322 c := by kernel_rfl
theorem e323 (c : C3) : s323 c = fnOf PP rfs0 hk0 323 c := by kernel_rfl
theorem e328 (c : C3) : s328 c = fnOf PP rfs0 hk0 328 c := by kernel_rfl
theorem e333 (c : C3) : s333 c = fnOf PP rfs0 hk0 333 c := by kernel_rfl
theorem e334 (c : C3) : s334 c = fnOf PP rfs0 hk0 334 c := by kernel_rfl
theorem e339 (c : C3) : s339 c = fnOf PP rfs0 hk0 339 c := by kernel_rfl
theorem e340 (c : C3) : s340 c = fnOf PP rfs0 hk0 340 c := by kernel_rfl
theorem e347 (c : C3) : s347 c = fnOf PP rfs0 hk0 347 c := by kernel_rfl
theorem e348 (c : C3) : s348 c = fnOf PP rfs0 hk0 348 c := by kernel_rfl
theorem e409 (c : C3) : s409 c = fnOf PP rfs0 hk0 409 c := by kernel_rfl
theorem e410 (c : C3) : s410 c = fnOf PP rfs0 hk0 410 c := by kernel_rfl
theorem e436 (c : C3) : s436 c = fnOf PP rfs0 hk0 436 c := by kernel_rfl
theorem e444 (c : C3) : s444 c = fnOf PP rfs0 hk0 444 c := by kernel_rfl
theorem e445 (c : C3) : s445 c = fnOf PP rfs0 hk0 445 c := by kernel_rfl
theorem e455 (c : C3) : s455 c = fnOf PP rfs0 hk0 455 c := by kernel_rfl
theorem e464 (c : C3) : s464 c = fnOf PP rfs0 hk0 464 c := by kernel_rfl
theorem e471 (c : C3) : s471 c = fnOf PP rfs0 hk0 471 c := by kernel_rfl
theorem e501 (c : C3) : s501 c = fnOf PP rfs0 hk0 501 c := by kernel_rfl
theorem e572 (c : C3) : s572 c = fnOf PP rfs0 hk0 572 c := by kernel_rfl
end Go.Ev
