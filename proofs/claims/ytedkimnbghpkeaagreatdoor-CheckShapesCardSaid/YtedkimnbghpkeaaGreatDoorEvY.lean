/- The functions of the program as plain terms, and that they are what the evaluator makes of the code. Conditions: none. -/
import Derived.Test.YtedkimnbghpkeaaGreatDoorEvX
import Derived.Test.YtedkimnbghpkeaaGreatDoorEvG0
import Derived.Test.YtedkimnbghpkeaaGreatDoorEv5
import Derived.KernelRfl
namespace Go.Ev
open Go
set_option linter.unusedVariables false
set_option maxRecDepth 100000
set_option linter.unusedSectionVars false
open Go.Proofs.YtedkimnbghpkeaaGreatDoor
noncomputable abbrev hk1 : Nat → Option (C3 → Fun) := hookW gl0 5 hk0
noncomputable def tabY (c : C3) : C3 := putF ⟨.d0, .d0, .d5⟩ (worksK gl0 c) (tabX c)
noncomputable def evY : Nat → C3 := @Nat.rec (fun _ => C3) badC (fun _ ih => tabY ih)
section
variable [Sym]
theorem gY (c : C3) (g : G3) : disp (tabY c) g = fnOf PP rfs0 hk1 g.val c :=
  putF_ok (hk := hk0) (gX c) (fnOf_works (by kernel_rfl)).symm (fun i h => hookW_ne h) g
end
end Go.Ev
