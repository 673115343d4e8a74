/- The functions of the program as plain terms, and that they are what the evaluator makes of the code. Conditions: none. -/
import Derived.Test.YtdgcjepbgamedaaGreatDoorEvT1
import Derived.KernelRfl
namespace Go.Ev
open Go
set_option linter.unusedVariables false
set_option maxRecDepth 100000

theorem e15 (c : C3) : s15 c = fnOf PP rfs0 hk0 15 c := by kernel_rfl
theorem e19 (c : C3) : s19 c = fnOf PP rfs0 hk0 19 c := by kernel_rfl
theorem e43 (c : C3) : s43 c = fnOf PP rfs0 hk0 43 c := by kernel_rfl
theorem e46 (c : C3) : s46 c = fnOf PP rfs0 hk0 46 c := by kernel_rfl
theorem e50 (c : C3) : s50 c = fnOf PP rfs0 hk0 50 c := by kernel_rfl
theorem e58 (c : C3) : s58 c = fnOf PP rfs0 hk0 58 c := by kernel_rfl
theorem e59 (c : C3) : s59 c = fnOf PP rfs0 hk0 59 c := by kernel_rfl
theorem e60 (c : C3) : s60 c = fnOf PP rfs0 hk0 60 c := by kernel_rfl
theorem e75 (c : C3) : s75 c = fnOf PP rfs0 hk0 75 c := by kernel_rfl
theorem e78 (c : C3) : s78 c = fnOf PP rfs0 hk0 78 c := by kernel_rfl
theorem e80 (c : C3) : s80 c = fnOf PP rfs0 hk0 80 c := by kernel_rfl
theorem e84 (c : C3) : s84 c = fnOf PP rfs0 hk0 84 c := by kernel_rfl
theorem e85 (c : C3) : s85 c = fnOf PP rfs0 hk0 85 c := by kernel_rfl
theorem e95 (c : C3) : s95 c = fnOf PP rfs0 hk0 95 c := by kernel_rfl
theorem e107 (c : C3) : s107 c = fnOf PP rfs0 hk0 107 c := by kernel_rfl
theorem e111 (c : C3) : s111 c = fnOf PP rfs0 hk0 111 c := by kernel_rfl
theorem e118 (c : C3) : s118 c = fnOf PP rfs0 hk0 118 c := by kernel_rfl
theorem e120 (c : C3) : s120 c = fnOf PP rfs0 hk0 120 c := by kernel_rfl
theorem e126 (c : C3) : s126 c = fnOf PP rfs0 hk0 126 c := by kernel_rfl
theorem e130 (c : C3) : s130 c = fnOf PP rfs0 hk0 130 c := by kernel_rfl
theorem e136 (c : C3) : s136 c = fnOf PP rfs0 hk0 136 c := by kernel_rfl
theorem e139 (c : C3) : s139 c = fnOf PP rfs0 hk0 139 c := by kernel_rfl
theorem e149 (c : C3) : s149 c = fnOf PP rfs0 hk0 149 c := by kernel_rfl
theorem e157 (c : C3) : s157 c = fnOf PP rfs0 hk0 157 c := by kernel_rfl
theorem e165 (c : C3) : s165 c = fnOf PP rfs0 hk0 165 c := by kernel_rfl
theorem e174 (c : C3) : s174 c = fnOf PP rfs0 hk0 174 c := by kernel_rfl
theorem e179 (c : C3) : s179 c = fnOf PP rfs0 hk0 179 c := by kernel_rfl
theorem e192 (c : C3) : s192 c = fnOf PP rfs0 hk0 192 c := by kernel_rfl
theorem e194 (c : C3) : s194 c = fnOf PP rfs0 hk0 194 c := by kernel_rfl
theorem e195 (c : C3) : s195 c = fnOf PP rfs0 hk0 195 c := by kernel_rfl
theorem e210 (c : C3) : s210 c = fnOf PP rfs0 hk0 210 c := by kernel_rfl
theorem e214 (c : C3) : s214 c = fnOf PP rfs0 hk0 214 c := by kernel_rfl
theorem e220 (c : C3) : s220 c = fnOf PP rfs0 hk0 220 c := by kernel_rfl
theorem e231 (c : C3) : s231 c = fnOf PP rfs0 hk0 231 c := by kernel_rfl
theorem e233 (c : C3) : s233 c = fnOf PP rfs0 hk0 233 c := by kernel_rfl
theorem e261 (c : C3) : s261 c = fnOf PP rfs0 hk0 261 c := by kernel_rfl
theorem e264 (c : C3) : s264 c = fnOf PP rfs0 hk0 264 c := by kernel_rfl
theorem e267 (c : C3) : s267 c = fnOf PP rfs0 hk0 267 c := by kernel_rfl
theorem e270 (c : C3) : s270 c = fnOf PP rfs0 hk0 270 c := by kernel_rfl
theorem e296 (c : C3) : s296 c = fnOf PP rfs0 hk0 296 c := by kernel_rfl
theorem e298 (c : C3) : s298 c = fnOf PP rfs0 hk0 298 c := by kernel_rfl
theorem e299 (c : C3) : s299 c = fnOf PP rfs0 hk0 299 c := by kernel_rfl
theorem e300 (c : C3) : s300 c = fnOf PP rfs0 hk0 300 c := by kernel_rfl
theorem e305 (c : C3) : s305 c = fnOf PP rfs0 hk0 305 c := by kernel_rfl
theorem e320 (c : C3) : s320 c = fnOf PP rfs0 hk0 320 c := by kernel_rfl
theorem e337 (c : C3) : s337 c = fnOf PP rfs0 hk0 337 c := by kernel_rfl
theorem e367 (c : C3) : s367 c = fnOf PP rfs0 hk0 367 c := by kernel_rfl
theorem e369 (c : C3) : s369 c = fnOf PP rfs0 hk0 369 c := by kernel_rfl
theorem e370 (c : C3) : s370 c = fnOf PP rfs0 hk0 370 c := by kernel_rfl
theorem e371 (c : C3) : s371 c = fnOf PP rfs0 hk0 371 c := by kernel_rfl
theorem e372 (c : C3) : s372 c = fnOf PP rfs0 hk0 372 c := by kernel_rfl
theorem e386 (c : C3) : s386 c = fnOf PP rfs0 hk0 386 c := by kernel_rfl
theorem e396 (c : C3) : s396 c = fnOf PP rfs0 hk0 396 c := by kernel_rfl
theorem e404 (c : C3) : s404 c = fnOf PP rfs0 hk0 404 c := by kernel_rfl
theorem e411 (c : C3) : s411 c = fnOf PP rfs0 hk0 411 c := by kernel_rfl
theorem e415 (c : C3) : s415 c = fnOf PP rfs0 hk0 415 c := by kernel_rfl
theorem e417 (c : C3) : s417 c = fnOf PP rfs0 hk0 417 c := by kernel_rfl
theorem e419 (c : C3) : s419 c = fnOf PP rfs0 hk0 419 c := by kernel_rfl
theorem e447 (c : C3) : s447 c = fnOf PP rfs0 hk0 447 c := by kernel_rfl
theorem e453 (c : C3) : s453 c = fnOf PP rfs0 hk0 453 c := by kernel_rfl
theorem e462 (c : C3) : s462 c = fnOf PP rfs0 hk0 462 c := by kernel_rfl
theorem e494 (c : C3) : s494 c = fnOf PP rfs0 hk0 494 c := by kernel_rfl
theorem e499 (c : C3) : s499 c = fnOf PP rfs0 hk0 499 c := by kernel_rfl
end Go.Ev
