/- The functions of the program as plain terms, and that they are what the evaluator makes of the code. Conditions: none. -/
import Derived.Test.YtedkimnbghpkeaaGreatDoorEvH
import Derived.KernelRfl
namespace Go.Ev
open Go
set_option linter.unusedVariables false
set_option maxRecDepth 100000

noncomputable def t8 (c : C3) : N16 Fun := ⟨s128 c, s129 c, s130 c, s131 c, s132 c, s133 c, s134 c, s135 c, s136 c, s137 c, s138 c, s139 c, s140 c, s141 c, s142 c, s143 c⟩
theorem l8 (c : C3) (d : D) : (t8 c).get d = Gv .d0 .d8 d c := by cases d <;> kernel_rfl
noncomputable def t9 (c : C3) : N16 Fun := ⟨s144 c, G 145 c, s146 c, G 147 c, s148 c, s149 c, G 150 c, G 151 c, G 152 c, G 153 c, G 154 c, G 155 c, G 156 c, s157 c, G 158 c, G 159 c⟩
theorem l9 (c : C3) (d : D) : (t9 c).get d = Gv .d0 .d9 d c := by cases d <;> kernel_rfl
noncomputable def t10 (c : C3) : N16 Fun := ⟨G 160 c, G 161 c, G 162 c, G 163 c, G 164 c, s165 c, s166 c, s167 c, s168 c, s169 c, G 170 c, s171 c, s172 c, s173 c, G 174 c, s175 c⟩
theorem l10 (c : C3) (d : D) : (t10 c).get d = Gv .d0 .d10 d c := by cases d <;> kernel_rfl
noncomputable def t14 (c : C3) : N16 Fun := ⟨s224 c, s225 c, s226 c, s227 c, s228 c, s229 c, s230 c, s231 c, s232 c, s233 c, s234 c, s235 c, s236 c, s237 c, s238 c, s239 c⟩
theorem l14 (c : C3) (d : D) : (t14 c).get d = Gv .d0 .d14 d c := by cases d <;> kernel_rfl
noncomputable def t16 (c : C3) : N16 Fun := ⟨G 256 c, s257 c, s258 c, s259 c, s260 c, s261 c, s262 c, s263 c, s264 c, s265 c, s266 c, s267 c, G 268 c, s269 c, G 270 c, s271 c⟩
theorem l16 (c : C3) (d : D) : (t16 c).get d = Gv .d1 .d0 d c := by cases d <;> kernel_rfl
end Go.Ev
