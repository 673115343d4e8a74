/- Some of the law's runs. Conditions: none. -/
import Derived.Test.YtedkimnbghpkeaaGreatDoorEvC
import Derived.KernelRfl
namespace Go.Proofs.YtedkimnbghpkeaaGreatDoor
open Go Go.Ev
set_option linter.unusedSectionVars false
set_option maxRecDepth 1000000
theorem r56_0 : runC 56 0 = .good := by kernel_rfl
theorem r56_1 : runC 56 1 = .good := by kernel_rfl
theorem r56_2 : runC 56 2 = .good := by kernel_rfl
theorem r56_3 : runC 56 3 = .good := by kernel_rfl
theorem r56_4 : runC 56 4 = .good := by kernel_rfl
theorem r56_5 : runC 56 5 = .good := by kernel_rfl
theorem a56 : ∀ k : Nat, k < 6 → runC 56 k = .good
  | 0, _ => r56_0
  | 1, _ => r56_1
  | 2, _ => r56_2
  | 3, _ => r56_3
  | 4, _ => r56_4
  | 5, _ => r56_5
  | k + 6, h => absurd h (by omega)
theorem r57_0 : runC 57 0 = .good := by kernel_rfl
theorem r57_1 : runC 57 1 = .good := by kernel_rfl
theorem r57_2 : runC 57 2 = .good := by kernel_rfl
theorem r57_3 : runC 57 3 = .good := by kernel_rfl
theorem r57_4 : runC 57 4 = .good := by kernel_rfl
theorem r57_5 : runC 57 5 = .good := by kernel_rfl
theorem a57 : ∀ k : Nat, k < 6 → runC 57 k = .good
  | 0, _ => r57_0
  | 1, _ => r57_1
  | 2, _ => r57_2
  | 3, _ => r57_3
  | 4, _ => r57_4
  | 5, _ => r57_5
  | k + 6, h => absurd h (by omega)
theorem r58_0 : runC 58 0 = .good := by kernel_rfl
theorem r58_1 : runC 58 1 = .good := by kernel_rfl
theorem r58_2 : runC 58 2 = .good := by kernel_rfl
theorem r58_3 : runC 58 3 = .good := by kernel_rfl
theorem r58_4 : runC 58 4 = .good := by kernel_rfl
theorem r58_5 : runC 58 5 = .good := by kernel_rfl
theorem a58 : ∀ k : Nat, k < 6 → runC 58 k = .good
  | 0, _ => r58_0
  | 1, _ => r58_1
  | 2, _ => r58_2
  | 3, _ => r58_3
  | 4, _ => r58_4
  | 5, _ => r58_5
  | k + 6, h => absurd h (by omega)
theorem r59_0 : runC 59 0 = .good := by kernel_rfl
theorem r59_1 : runC 59 1 = .good := by kernel_rfl
theorem r59_2 : runC 59 2 = .good := by kernel_rfl
theorem r59_3 : runC 59 3 = .good := by kernel_rfl
theorem r59_4 : runC 59 4 = .good := by kernel_rfl
theorem r59_5 : runC 59 5 = .good := by kernel_rfl
theorem a59 : ∀ k : Nat, k < 6 → runC 59 k = .good
  | 0, _ => r59_0
  | 1, _ => r59_1
  | 2, _ => r59_2
  | 3, _ => r59_3
  | 4, _ => r59_4
  | 5, _ => r59_5
  | k + 6, h => absurd h (by omega)
end Go.Proofs.YtedkimnbghpkeaaGreatDoor
