/- The functions of the program as plain terms, and that they are what the evaluator makes of the code. Conditions: none. -/
import Derived.Test.YtdgcjepbgamedaaGreatDoorEvT1
import Derived.KernelRfl
namespace Go.Ev
open Go
set_option linter.unusedVariables false
set_option maxRecDepth 100000

theorem e11 (c : C3) : s11 c = fnOf PP rfs0 hk0 11 c := by kernel_rfl
theorem e22 (c : C3) : s22 c = fnOf PP rfs0 hk0 22 c := by kernel_rfl
theorem e29 (c : C3) : s29 c = fnOf PP rfs0 hk0 29 c := by kernel_rfl
theorem e32 (c : C3) : s32 c = fnOf PP rfs0 hk0 32 c := by kernel_rfl
theorem e51 (c : C3) : s51 c = fnOf PP rfs0 hk0 51 c := by kernel_rfl
theorem e55 (c : C3) : s55 c = fnOf PP rfs0 hk0 55 c := by kernel_rfl
theorem e56 (c : C3) : s56 c = fnOf PP rfs0 hk0 56 c := by kernel_rfl
theorem e61 (c : C3) : s61 c = fnOf PP rfs0 hk0 61 c := by kernel_rfl
theorem e73 (c : C3) : s73 c = fnOf PP rfs0 hk0 73 c := by kernel_rfl
theorem e90 (c : C3) : s90 c = fnOf PP rfs0 hk0 90 c := by kernel_rfl
theorem e92 (c : C3) : s92 c = fnOf PP rfs0 hk0 92 c := by kernel_rfl
theorem e93 (c : C3) : s93 c = fnOf PP rfs0 hk0 93 c := by kernel_rfl
theorem e99 (c : C3) : s99 c = fnOf PP rfs0 hk0 99 c := by kernel_rfl
theorem e100 (c : C3) : s100 c = fnOf PP rfs0 hk0 100 c := by kernel_rfl
theorem e108 (c : C3) : s108 c = fnOf PP rfs0 hk0 108 c := by kernel_rfl
theorem e109 (c : C3) : s109 c = fnOf PP rfs0 hk0 109 c := by kernel_rfl
theorem e122 (c : C3) : s122 c = fnOf PP rfs0 hk0 122 c := by kernel_rfl
theorem e127 (c : C3) : s127 c = fnOf PP rfs0 hk0 127 c := by kernel_rfl
theorem e133 (c : C3) : s133 c = fnOf PP rfs0 hk0 133 c := by kernel_rfl
theorem e138 (c : C3) : s138 c = fnOf PP rfs0 hk0 138 c := by kernel_rfl
theorem e140 (c : C3) : s140 c = fnOf PP rfs0 hk0 140 c := by kernel_rfl
theorem e141 (c : C3) : s141 c = fnOf PP rfs0 hk0 141 c := by kernel_rfl
theorem e154 (c : C3) : s154 c = fnOf PP rfs0 hk0 154 c := by kernel_rfl
theorem e155 (c : C3) : s155 c = fnOf PP rfs0 hk0 155 c := by kernel_rfl
theorem e156 (c : C3) : s156 c = fnOf PP rfs0 hk0 156 c := by kernel_rfl
theorem e160 (c : C3) : s160 c = fnOf PP rfs0 hk0 160 c := by kernel_rfl
theorem e162 (c : C3) : s162 c = fnOf PP rfs0 hk0 162 c := by kernel_rfl
theorem e164 (c : C3) : s164 c = fnOf PP rfs0 hk0 164 c := by kernel_rfl
theorem e166 (c : C3) : s166 c = fnOf PP rfs0 hk0 166 c := by kernel_rfl
theorem e169 (c : C3) : s169 c = fnOf PP rfs0 hk0 169 c := by kernel_rfl
theorem e170 (c : C3) : s170 c = fnOf PP rfs0 hk0 170 c := by kernel_rfl
theorem e187 (c : C3) : s187 c = fnOf PP rfs0 hk0 187 c := by kernel_rfl
theorem e191 (c : C3) : s191 c = fnOf PP rfs0 hk0 191 c := by kernel_rfl
theorem e196 (c : C3) : s196 c = fnOf PP rfs0 hk0 196 c := by kernel_rfl
theorem e206 (c : C3) : s206 c = fnOf PP rfs0 hk0 206 c := by kernel_rfl
theorem e212 (c : C3) : s212 c = fnOf PP rfs0 hk0 212 c := by kernel_rfl
theorem e224 (c : C3) : s224 c = fnOf PP rfs0 hk0 224 c := by kernel_rfl
theorem e229 (c : C3) : s229 c = fnOf PP rfs0 hk0 229 c := by kernel_rfl
theorem e281 (c : C3) : s281 c = fnOf PP rfs0 hk0 281 c := by kernel_rfl
theorem e294 (c : C3) : s294 c = fnOf PP rfs0 hk0 294 c := by kernel_rfl
theorem e302 (c : C3) : s302 c = fnOf PP rfs0 hk0 302 c := by kernel_rfl
theorem e303 (c : C3) : s303 c = fnOf PP rfs0 hk0 303 c := by kernel_rfl
theorem e318 (c : C3) : s318 c = fnOf PP rfs0 hk0 318 c := by kernel_rfl
theorem e335 (c : C3) : s335 c = fnOf PP rfs0 hk0 335 c := by kernel_rfl
theorem e338 (c : C3) : s338 c = fnOf PP rfs0 hk0 338 c := by kernel_rfl
theorem e345 (c : C3) : s345 c = fnOf PP rfs0 hk0 345 c := by kernel_rfl
theorem e363 (c : C3) : s363 c = fnOf PP rfs0 hk0 363 c := by kernel_rfl
theorem e368 (c : C3) : s368 c = fnOf PP rfs0 hk0 368 c := by kernel_rfl
theorem e373 (c : C3) : s373 c = fnOf PP rfs0 hk0 373 c := by kernel_rfl
theorem e378 (c : C3) : s378 c = fnOf PP rfs0 hk0 378 c := by kernel_rfl
theorem e380 (c : C3) : s380 c = fnOf PP rfs0 hk0 380 c := by kernel_rfl
theorem e382 (c : C3) : s382 c = fnOf PP rfs0 hk0 382 c := by kernel_rfl
theorem e384 (c : C3) : s384 c = fnOf PP rfs0 hk0 384 c := by kernel_rfl
theorem e389 (c : C3) : s389 c = fnOf PP rfs0 hk0 389 c := by kernel_rfl
theorem e393 (c : C3) : s393 c = fnOf PP rfs0 hk0 393 c := by kernel_rfl
theorem e394 (c : C3) : s394 c = fnOf PP rfs0 hk0 394 c := by kernel_rfl
theorem e439 (c : C3) : s439 c = fnOf PP rfs0 hk0 439 c := by kernel_rfl
theorem e452 (c : C3) : s452 c = fnOf PP rfs0 hk0 452 c := by kernel_rfl
theorem e454 (c : C3) : s454 c = fnOf PP rfs0 hk0 454 c := by kernel_rfl
theorem e493 (c : C3) : s493 c = fnOf PP rfs0 hk0 493 c := by kernel_rfl
theorem e498 (c : C3) : s498 c = fnOf PP rfs0 hk0 498 c := by kernel_rfl
theorem e502 (c : C3) : s502 c = fnOf PP rfs0 hk0 502 c := by kernel_rfl
theorem e505 (c : C3) : s505 c = fnOf PP rfs0 hk0 505 c := by kernel_rfl
theorem e526 (c : C3) : s526 c = fnOf PP rfs0 hk0 526 c := by kernel_rfl
end Go.Ev
