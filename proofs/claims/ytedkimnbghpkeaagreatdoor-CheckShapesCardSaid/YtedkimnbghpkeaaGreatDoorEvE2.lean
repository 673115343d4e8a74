/- The functions of the program as plain terms, and that they are what the evaluator makes of the code. Conditions: none. -/
import Derived.Test.YtedkimnbghpkeaaGreatDoorEvH
import Derived.KernelRfl
namespace Go.Ev
open Go
set_option linter.unusedVariables false
set_option maxRecDepth 100000

noncomputable def t0 (c : C3) : N16 Fun := ⟨G 0 c, G 1 c, G 2 c, s3 c, s4 c, s5 c, s6 c, s7 c, s8 c, s9 c, s10 c, s11 c, s12 c, s13 c, s14 c, s15 c⟩
theorem l0 (c : C3) (d : D) : (t0 c).get d = Gv .d0 .d0 d c := by cases d <;> kernel_rfl
noncomputable def t2 (c : C3) : N16 Fun := ⟨s32 c, s33 c, s34 c, s35 c, s36 c, s37 c, s38 c, s39 c, s40 c, s41 c, s42 c, s43 c, G 44 c, s45 c, s46 c, s47 c⟩
theorem l2 (c : C3) (d : D) : (t2 c).get d = Gv .d0 .d2 d c := by cases d <;> kernel_rfl
noncomputable def t15 (c : C3) : N16 Fun := ⟨s240 c, G 241 c, G 242 c, G 243 c, G 244 c, G 245 c, G 246 c, s247 c, s248 c, s249 c, G 250 c, s251 c, s252 c, s253 c, s254 c, s255 c⟩
theorem l15 (c : C3) (d : D) : (t15 c).get d = Gv .d0 .d15 d c := by cases d <;> kernel_rfl
noncomputable def t21 (c : C3) : N16 Fun := ⟨G 336 c, G 337 c, G 338 c, G 339 c, s340 c, G 341 c, G 342 c, s343 c, s344 c, s345 c, s346 c, s347 c, s348 c, s349 c, s350 c, s351 c⟩
theorem l21 (c : C3) (d : D) : (t21 c).get d = Gv .d1 .d5 d c := by cases d <;> kernel_rfl
noncomputable def t28 (c : C3) : N16 Fun := ⟨G 448 c, s449 c, s450 c, s451 c, s452 c, G 453 c, G 454 c, G 455 c, G 456 c, G 457 c, G 458 c, G 459 c, G 460 c, G 461 c, G 462 c, G 463 c⟩
theorem l28 (c : C3) (d : D) : (t28 c).get d = Gv .d1 .d12 d c := by cases d <;> kernel_rfl
end Go.Ev
