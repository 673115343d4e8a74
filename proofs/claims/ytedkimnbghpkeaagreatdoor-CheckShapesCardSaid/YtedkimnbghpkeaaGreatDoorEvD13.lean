/- Some of the law's runs. Conditions: none. -/
import Derived.Test.YtedkimnbghpkeaaGreatDoorEvC
import Derived.KernelRfl
namespace Go.Proofs.YtedkimnbghpkeaaGreatDoor
open Go Go.Ev
set_option linter.unusedSectionVars false
set_option maxRecDepth 1000000
theorem r52_0 : runC 52 0 = .good := by kernel_rfl
theorem r52_1 : runC 52 1 = .good := by kernel_rfl
theorem r52_2 : runC 52 2 = .good := by kernel_rfl
theorem r52_3 : runC 52 3 = .good := by kernel_rfl
theorem r52_4 : runC 52 4 = .good := by kernel_rfl
theorem r52_5 : runC 52 5 = .good := by kernel_rfl
theorem a52 : ∀ k : Nat, k < 6 → runC 52 k = .good
  | 0, _ => r52_0
  | 1, _ => r52_1
  | 2, _ => r52_2
  | 3, _ => r52_3
  | 4, _ => r52_4
  | 5, _ => r52_5
  | k + 6, h => absurd h (by omega)
theorem r53_0 : runC 53 0 = .good := by kernel_rfl
theorem r53_1 : runC 53 1 = .good := by kernel_rfl
theorem r53_2 : runC 53 2 = .good := by kernel_rfl
theorem r53_3 : runC 53 3 = .good := by kernel_rfl
theorem r53_4 : runC 53 4 = .good := by kernel_rfl
theorem r53_5 : runC 53 5 = .good := by kernel_rfl
theorem a53 : ∀ k : Nat, k < 6 → runC 53 k = .good
  | 0, _ => r53_0
  | 1, _ => r53_1
  | 2, _ => r53_2
  | 3, _ => r53_3
  | 4, _ => r53_4
  | 5, _ => r53_5
  | k + 6, h => absurd h (by omega)
theorem r54_0 : runC 54 0 = .good := by kernel_rfl
theorem r54_1 : runC 54 1 = .good := by kernel_rfl
theorem r54_2 : runC 54 2 = .good := by kernel_rfl
theorem r54_3 : runC 54 3 = .good := by kernel_rfl
theorem r54_4 : runC 54 4 = .good := by kernel_rfl
theorem r54_5 : runC 54 5 = .good := by kernel_rfl
theorem a54 : ∀ k : Nat, k < 6 → runC 54 k = .good
  | 0, _ => r54_0
  | 1, _ => r54_1
  | 2, _ => r54_2
  | 3, _ => r54_3
  | 4, _ => r54_4
  | 5, _ => r54_5
  | k + 6, h => absurd h (by omega)
theorem r55_0 : runC 55 0 = .good := by kernel_rfl
theorem r55_1 : runC 55 1 = .good := by kernel_rfl
theorem r55_2 : runC 55 2 = .good := by kernel_rfl
theorem r55_3 : runC 55 3 = .good := by kernel_rfl
theorem r55_4 : runC 55 4 = .good := by kernel_rfl
theorem r55_5 : runC 55 5 = .good := by kernel_rfl
theorem a55 : ∀ k : Nat, k < 6 → runC 55 k = .good
  | 0, _ => r55_0
  | 1, _ => r55_1
  | 2, _ => r55_2
  | 3, _ => r55_3
  | 4, _ => r55_4
  | 5, _ => r55_5
  | k + 6, h => absurd h (by omega)
end Go.Proofs.YtedkimnbghpkeaaGreatDoor
