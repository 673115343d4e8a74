/- The functions of the program as plain terms, and that they are what the evaluator makes of the code. Conditions: none. -/
import Derived.Test.YtdgcjepbgamedaaGreatDoorEvT1
import Derived.KernelRfl
namespace Go.Ev
open Go
set_option linter.unusedVariables false
set_option maxRecDepth 100000

theorem e18 (c : C3) : s18 c = fnOf PP rfs0 hk0 18 c := by kernel_rfl
theorem e26 (c : C3) : s26 c = fnOf PP rfs0 hk0 26 c := by kernel_rfl
theorem e27 (c : C3) : s27 c = fnOf PP rfs0 hk0 27 c := by kernel_rfl
theorem e35 (c : C3) : s35 c = fnOf PP rfs0 hk0 35 c := by kernel_rfl
theorem e44 (c : C3) : s44 c = fnOf PP rfs0 hk0 44 c := by kernel_rfl
theorem e47 (c : C3) : s47 c = fnOf PP rfs0 hk0 47 c := by kernel_rfl
theorem e53 (c : C3) : s53 c = fnOf PP rfs0 hk0 53 c := by kernel_rfl
theorem e54 (c : C3) : s54 c = fnOf PP rfs0 hk0 54 c := by kernel_rfl
theorem e65 (c : C3) : s65 c = fnOf PP rfs0 hk0 65 c := by kernel_rfl
theorem e74 (c : C3) : s74 c = fnOf PP rfs0 hk0 74 c := by kernel_rfl
theorem e81 (c : C3) : s81 c = fnOf PP rfs0 hk0 81 c := by kernel_rfl
theorem e83 (c : C3) : s83 c = fnOf PP rfs0 hk0 83 c := by kernel_rfl
theorem e86 (c : C3) : s86 c = fnOf PP rfs0 hk0 86 c := by kernel_rfl
theorem e87 (c : C3) : s87 c = fnOf PP rfs0 hk0 87 c := by kernel_rfl
theorem e88 (c : C3) : s88 c = fnOf PP rfs0 hk0 88 c := by kernel_rfl
theorem e96 (c : C3) : s96 c = fnOf PP rfs0 hk0 96 c := by kernel_rfl
theorem e97 (c : C3) : s97 c = fnOf PP rfs0 hk0 97 c := by kernel_rfl
theorem e98 (c : C3) : s98 c = fnOf PP rfs0 hk0 98 c := by kernel_rfl
theorem e101 (c : C3) : s101 c = fnOf PP rfs0 hk0 101 c := by kernel_rfl
theorem e103 (c : C3) : s103 c = fnOf PP rfs0 hk0 103 c := by kernel_rfl
theorem e104 (c : C3) : s104 c = fnOf PP rfs0 hk0 104 c := by kernel_rfl
theorem e119 (c : C3) : s119 c = fnOf PP rfs0 hk0 119 c := by kernel_rfl
theorem e123 (c : C3) : s123 c = fnOf PP rfs0 hk0 123 c := by kernel_rfl
theorem e125 (c : C3) : s125 c = fnOf PP rfs0 hk0 125 c := by kernel_rfl
theorem e128 (c : C3) : s128 c = fnOf PP rfs0 hk0 128 c := by kernel_rfl
theorem e144 (c : C3) : s144 c = fnOf PP rfs0 hk0 144 c := by kernel_rfl
theorem e147 (c : C3) : s147 c = fnOf PP rfs0 hk0 147 c := by kernel_rfl
theorem e159 (c : C3) : s159 c = fnOf PP rfs0 hk0 159 c := by kernel_rfl
theorem e163 (c : C3) : s163 c = fnOf PP rfs0 hk0 163 c := by kernel_rfl
theorem e167 (c : C3) : s167 c = fnOf PP rfs0 hk0 167 c := by kernel_rfl
theorem e184 (c : C3) : s184 c = fnOf PP rfs0 hk0 184 c := by kernel_rfl
theorem e185 (c : C3) : s185 c = fnOf PP rfs0 hk0 185 c := by kernel_rfl
theorem e188 (c : C3) : s188 c = fnOf PP rfs0 hk0 188 c := by kernel_rfl
theorem e189 (c : C3) : s189 c = fnOf PP rfs0 hk0 189 c := by kernel_rfl
theorem e207 (c : C3) : s207 c = fnOf PP rfs0 hk0 207 c := by kernel_rfl
theorem e209 (c : C3) : s209 c = fnOf PP rfs0 hk0 209 c := by kernel_rfl
theorem e211 (c : C3) : s211 c = fnOf PP rfs0 hk0 211 c := by kernel_rfl
theorem e215 (c : C3) : s215 c = fnOf PP rfs0 hk0 215 c := by kernel_rfl
theorem e228 (c : C3) : s228 c = fnOf PP rfs0 hk0 228 c := by kernel_rfl
theorem e262 (c : C3) : s262 c = fnOf PP rfs0 hk0 262 c := by kernel_rfl
theorem e269 (c : C3) : s269 c = fnOf PP rfs0 hk0 269 c := by kernel_rfl
theorem e272 (c : C3) : s272 c = fnOf PP rfs0 hk0 272 c := by kernel_rfl
theorem e284 (c : C3) : s284 c = fnOf PP rfs0 hk0 284 c := by kernel_rfl
theorem e288 (c : C3) : s288 c = fnOf PP rfs0 hk0 288 c := by kernel_rfl
theorem e291 (c : C3) : s291 c = fnOf PP rfs0 hk0 291 c := by kernel_rfl
theorem e315 (c : C3) : s315 c = fnOf PP rfs0 hk0 315 c := by kernel_rfl
theorem e325 (c : C3) : s325 c = fnOf PP rfs0 hk0 325 c := by kernel_rfl
theorem e326 (c : C3) : s326 c = fnOf PP rfs0 hk0 326 c := by kernel_rfl
theorem e374 (c : C3) : s374 c = fnOf PP rfs0 hk0 374 c := by kernel_rfl
theorem e377 (c : C3) : mergeK (s377 c) = fnOf PP rfs0 hk0 377 c := by kernel_rfl
theorem e379 (c : C3) : s379 c = fnOf PP rfs0 hk0 379 c := by kernel_rfl
theorem e392 (c : C3) : s392 c = fnOf PP rfs0 hk0 392 c := by kernel_rfl
theorem e412 (c : C3) : s412 c = fnOf PP rfs0 hk0 412 c := by kernel_rfl
theorem e418 (c : C3) : s418 c = fnOf PP rfs0 hk0 418 c := by kernel_rfl
theorem e437 (c : C3) : s437 c = fnOf PP rfs0 hk0 437 c := by kernel_rfl
theorem e440 (c : C3) : s440 c = fnOf PP rfs0 hk0 440 c := by kernel_rfl
theorem e442 (c : C3) : s442 c = fnOf PP rfs0 hk0 442 c := by kernel_rfl
theorem e457 (c : C3) : s457 c = fnOf PP rfs0 hk0 457 c := by kernel_rfl
theorem e475 (c : C3) : s475 c = fnOf PP rfs0 hk0 475 c := by kernel_rfl
theorem e503 (c : C3) : s503 c = fnOf PP rfs0 hk0 503 c := by kernel_rfl
theorem e530 (c : C3) : s530 c = fnOf PP rfs0 hk0 530 c := by kernel_rfl
theorem e574 (c : C3) : s574 c = fnOf PP rfs0 hk0 574 c := by kernel_rfl
theorem e575 (c : C3) : s575 c = fnOf PP rfs0 hk0 575 c := by kernel_rfl
end Go.Ev
