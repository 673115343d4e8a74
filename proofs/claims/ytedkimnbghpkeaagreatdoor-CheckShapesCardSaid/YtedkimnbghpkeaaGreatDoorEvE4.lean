/- The functions of the program as plain terms, and that they are what the evaluator makes of the code. Conditions: none. -/
import Derived.Test.YtedkimnbghpkeaaGreatDoorEvH
import Derived.KernelRfl
namespace Go.Ev
open Go
set_option linter.unusedVariables false
set_option maxRecDepth 100000

noncomputable def t1 (c : C3) : N16 Fun := ⟨s16 c, s17 c, s18 c, s19 c, G 20 c, s21 c, s22 c, s23 c, s24 c, s25 c, s26 c, s27 c, s28 c, s29 c, s30 c, s31 c⟩
theorem l1 (c : C3) (d : D) : (t1 c).get d = Gv .d0 .d1 d c := by cases d <;> kernel_rfl
noncomputable def t5 (c : C3) : N16 Fun := ⟨s80 c, s81 c, s82 c, s83 c, s84 c, G 85 c, s86 c, s87 c, s88 c, s89 c, s90 c, s91 c, s92 c, s93 c, s94 c, s95 c⟩
theorem l5 (c : C3) (d : D) : (t5 c).get d = Gv .d0 .d5 d c := by cases d <;> kernel_rfl
noncomputable def t17 (c : C3) : N16 Fun := ⟨s272 c, G 273 c, s274 c, s275 c, G 276 c, G 277 c, G 278 c, G 279 c, G 280 c, s281 c, G 282 c, G 283 c, s284 c, s285 c, s286 c, s287 c⟩
theorem l17 (c : C3) (d : D) : (t17 c).get d = Gv .d1 .d1 d c := by cases d <;> kernel_rfl
noncomputable def t18 (c : C3) : N16 Fun := ⟨s288 c, s289 c, s290 c, s291 c, s292 c, s293 c, s294 c, s295 c, s296 c, s297 c, s298 c, s299 c, s300 c, s301 c, s302 c, s303 c⟩
theorem l18 (c : C3) (d : D) : (t18 c).get d = Gv .d1 .d2 d c := by cases d <;> kernel_rfl
noncomputable def t26 (c : C3) : N16 Fun := ⟨s416 c, s417 c, G 418 c, G 419 c, G 420 c, G 421 c, G 422 c, G 423 c, G 424 c, G 425 c, G 426 c, G 427 c, G 428 c, G 429 c, G 430 c, G 431 c⟩
theorem l26 (c : C3) (d : D) : (t26 c).get d = Gv .d1 .d10 d c := by cases d <;> kernel_rfl
end Go.Ev
