/- The functions of the program as plain terms, and that they are what the evaluator makes of the code. Conditions: none. -/
import Derived.Test.YtedkimnbghpkeaaGreatDoorEvH
import Derived.KernelRfl
namespace Go.Ev
open Go
set_option linter.unusedVariables false
set_option maxRecDepth 100000

noncomputable def t4 (c : C3) : N16 Fun := ⟨s64 c, s65 c, s66 c, s67 c, s68 c, s69 c, s70 c, s71 c, s72 c, s73 c, s74 c, s75 c, s76 c, s77 c, s78 c, s79 c⟩
theorem l4 (c : C3) (d : D) : (t4 c).get d = Gv .d0 .d4 d c := by cases d <;> kernel_rfl
noncomputable def t7 (c : C3) : N16 Fun := ⟨s112 c, s113 c, s114 c, s115 c, s116 c, s117 c, s118 c, s119 c, s120 c, s121 c, s122 c, s123 c, s124 c, s125 c, s126 c, s127 c⟩
theorem l7 (c : C3) (d : D) : (t7 c).get d = Gv .d0 .d7 d c := by cases d <;> kernel_rfl
noncomputable def t12 (c : C3) : N16 Fun := ⟨s192 c, s193 c, s194 c, s195 c, s196 c, s197 c, s198 c, G 199 c, G 200 c, G 201 c, G 202 c, G 203 c, s204 c, s205 c, s206 c, s207 c⟩
theorem l12 (c : C3) (d : D) : (t12 c).get d = Gv .d0 .d12 d c := by cases d <;> kernel_rfl
noncomputable def t20 (c : C3) : N16 Fun := ⟨G 320 c, s321 c, s322 c, s323 c, s324 c, s325 c, s326 c, G 327 c, G 328 c, G 329 c, s330 c, s331 c, G 332 c, s333 c, s334 c, G 335 c⟩
theorem l20 (c : C3) (d : D) : (t20 c).get d = Gv .d1 .d4 d c := by cases d <;> kernel_rfl
end Go.Ev
