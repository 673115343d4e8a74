/- Some of the law's runs. Conditions: none. -/
import Derived.Test.YtedkimnbghpkeaaGreatDoorEvC
import Derived.KernelRfl
namespace Go.Proofs.YtedkimnbghpkeaaGreatDoor
open Go Go.Ev
set_option linter.unusedSectionVars false
set_option maxRecDepth 1000000
theorem r36_0 : runC 36 0 = .good := by kernel_rfl
theorem r36_1 : runC 36 1 = .good := by kernel_rfl
theorem r36_2 : runC 36 2 = .good := by kernel_rfl
theorem r36_3 : runC 36 3 = .good := by kernel_rfl
theorem r36_4 : runC 36 4 = .good := by kernel_rfl
theorem r36_5 : runC 36 5 = .good := by kernel_rfl
theorem a36 : ∀ k : Nat, k < 6 → runC 36 k = .good
  | 0, _ => r36_0
  | 1, _ => r36_1
  | 2, _ => r36_2
  | 3, _ => r36_3
  | 4, _ => r36_4
  | 5, _ => r36_5
  | k + 6, h => absurd h (by omega)
theorem r37_0 : runC 37 0 = .good := by kernel_rfl
theorem r37_1 : runC 37 1 = .good := by kernel_rfl
theorem r37_2 : runC 37 2 = .good := by kernel_rfl
theorem r37_3 : runC 37 3 = .good := by kernel_rfl
theorem r37_4 : runC 37 4 = .good := by kernel_rfl
theorem r37_5 : runC 37 5 = .good := by kernel_rfl
theorem a37 : ∀ k : Nat, k < 6 → runC 37 k = .good
  | 0, _ => r37_0
  | 1, _ => r37_1
  | 2, _ => r37_2
  | 3, _ => r37_3
  | 4, _ => r37_4
  | 5, _ => r37_5
  | k + 6, h => absurd h (by omega)
theorem r38_0 : runC 38 0 = .good := by kernel_rfl
theorem r38_1 : runC 38 1 = .good := by kernel_rfl
theorem r38_2 : runC 38 2 = .good := by kernel_rfl
theorem r38_3 : runC 38 3 = .good := by kernel_rfl
theorem r38_4 : runC 38 4 = .good := by kernel_rfl
theorem r38_5 : runC 38 5 = .good := by kernel_rfl
theorem a38 : ∀ k : Nat, k < 6 → runC 38 k = .good
  | 0, _ => r38_0
  | 1, _ => r38_1
  | 2, _ => r38_2
  | 3, _ => r38_3
  | 4, _ => r38_4
  | 5, _ => r38_5
  | k + 6, h => absurd h (by omega)
theorem r39_0 : runC 39 0 = .good := by kernel_rfl
theorem r39_1 : runC 39 1 = .good := by kernel_rfl
theorem r39_2 : runC 39 2 = .good := by kernel_rfl
theorem r39_3 : runC 39 3 = .good := by kernel_rfl
theorem r39_4 : runC 39 4 = .good := by kernel_rfl
theorem r39_5 : runC 39 5 = .good := by kernel_rfl
theorem a39 : ∀ k : Nat, k < 6 → runC 39 k = .good
  | 0, _ => r39_0
  | 1, _ => r39_1
  | 2, _ => r39_2
  | 3, _ => r39_3
  | 4, _ => r39_4
  | 5, _ => r39_5
  | k + 6, h => absurd h (by omega)
end Go.Proofs.YtedkimnbghpkeaaGreatDoor
