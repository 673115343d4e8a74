/- The functions of the program as plain terms, and that they are what the evaluator makes of the code. Conditions: none. -/
import Derived.Test.YtedkimnbghpkeaaGreatDoorEvH
import Derived.KernelRfl
namespace Go.Ev
open Go
set_option linter.unusedVariables false
set_option maxRecDepth 100000

noncomputable def t13 (c : C3) : N16 Fun := ⟨s208 c, s209 c, s210 c, s211 c, s212 c, s213 c, s214 c, s215 c, s216 c, s217 c, s218 c, s219 c, s220 c, s221 c, s222 c, s223 c⟩
theorem l13 (c : C3) (d : D) : (t13 c).get d = Gv .d0 .d13 d c := by cases d <;> kernel_rfl
noncomputable def t19 (c : C3) : N16 Fun := ⟨G 304 c, s305 c, s306 c, s307 c, mergeK (s308 c), G 309 c, G 310 c, s311 c, s312 c, G 313 c, G 314 c, G 315 c, G 316 c, s317 c, s318 c, s319 c⟩
theorem l19 (c : C3) (d : D) : (t19 c).get d = Gv .d1 .d3 d c := by cases d <;> kernel_rfl
noncomputable def t22 (c : C3) : N16 Fun := ⟨s352 c, s353 c, G 354 c, G 355 c, s356 c, s357 c, s358 c, s359 c, G 360 c, s361 c, s362 c, s363 c, s364 c, s365 c, s366 c, G 367 c⟩
theorem l22 (c : C3) (d : D) : (t22 c).get d = Gv .d1 .d6 d c := by cases d <;> kernel_rfl
noncomputable def t24 (c : C3) : N16 Fun := ⟨G 384 c, s385 c, s386 c, G 387 c, G 388 c, G 389 c, G 390 c, s391 c, s392 c, s393 c, s394 c, s395 c, G 396 c, G 397 c, s398 c, s399 c⟩
theorem l24 (c : C3) (d : D) : (t24 c).get d = Gv .d1 .d8 d c := by cases d <;> kernel_rfl
end Go.Ev
