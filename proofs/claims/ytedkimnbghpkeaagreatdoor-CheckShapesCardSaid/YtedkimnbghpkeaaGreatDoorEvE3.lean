/- The functions of the program as plain terms, and that they are what the evaluator makes of the code. Conditions: none. -/
import Derived.Test.YtedkimnbghpkeaaGreatDoorEvH
import Derived.KernelRfl
namespace Go.Ev
open Go
set_option linter.unusedVariables false
set_option maxRecDepth 100000

noncomputable def t3 (c : C3) : N16 Fun := ⟨s48 c, s49 c, s50 c, s51 c, s52 c, s53 c, s54 c, G 55 c, s56 c, s57 c, s58 c, s59 c, s60 c, s61 c, s62 c, s63 c⟩
theorem l3 (c : C3) (d : D) : (t3 c).get d = Gv .d0 .d3 d c := by cases d <;> kernel_rfl
noncomputable def t6 (c : C3) : N16 Fun := ⟨s96 c, s97 c, s98 c, s99 c, G 100 c, G 101 c, G 102 c, G 103 c, G 104 c, G 105 c, G 106 c, G 107 c, G 108 c, s109 c, s110 c, s111 c⟩
theorem l6 (c : C3) (d : D) : (t6 c).get d = Gv .d0 .d6 d c := by cases d <;> kernel_rfl
noncomputable def t11 (c : C3) : N16 Fun := ⟨s176 c, s177 c, s178 c, s179 c, s180 c, s181 c, s182 c, s183 c, s184 c, s185 c, s186 c, G 187 c, s188 c, s189 c, G 190 c, s191 c⟩
theorem l11 (c : C3) (d : D) : (t11 c).get d = Gv .d0 .d11 d c := by cases d <;> kernel_rfl
noncomputable def t23 (c : C3) : N16 Fun := ⟨s368 c, s369 c, s370 c, s371 c, G 372 c, s373 c, G 374 c, G 375 c, G 376 c, G 377 c, G 378 c, G 379 c, s380 c, G 381 c, s382 c, G 383 c⟩
theorem l23 (c : C3) (d : D) : (t23 c).get d = Gv .d1 .d7 d c := by cases d <;> kernel_rfl
noncomputable def t25 (c : C3) : N16 Fun := ⟨G 400 c, G 401 c, s402 c, s403 c, G 404 c, G 405 c, G 406 c, G 407 c, G 408 c, s409 c, G 410 c, G 411 c, s412 c, G 413 c, G 414 c, s415 c⟩
theorem l25 (c : C3) (d : D) : (t25 c).get d = Gv .d1 .d9 d c := by cases d <;> kernel_rfl
end Go.Ev
