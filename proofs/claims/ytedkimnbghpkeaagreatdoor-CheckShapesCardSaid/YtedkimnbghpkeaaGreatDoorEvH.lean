/- The functions of the program as plain terms, and that they are what the evaluator makes of the code. Conditions: none. -/
import Derived.Test.YtedkimnbghpkeaaGreatDoorEvT0
namespace Go.Ev
open Go
set_option linter.unusedVariables false
set_option maxRecDepth 100000

noncomputable abbrev G (i : Nat) (c : C3) : Fun := fnOf PP rfs0 hk0 i c
noncomputable abbrev Gv (a b d : D) (c : C3) : Fun := G ((a.val * 16 + b.val) * 16 + d.val) c
end Go.Ev
