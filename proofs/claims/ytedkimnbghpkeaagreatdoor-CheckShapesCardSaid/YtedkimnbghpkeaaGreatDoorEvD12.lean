/- Some of the law's runs. Conditions: none. -/
import Derived.Test.YtedkimnbghpkeaaGreatDoorEvC
import Derived.KernelRfl
namespace Go.Proofs.YtedkimnbghpkeaaGreatDoor
open Go Go.Ev
set_option linter.unusedSectionVars false
set_option maxRecDepth 1000000
theorem r48_0 : runC 48 0 = .good := by kernel_rfl
theorem r48_1 : runC 48 1 = .good := by kernel_rfl
theorem r48_2 : runC 48 2 = .good := by kernel_rfl
theorem r48_3 : runC 48 3 = .good := by kernel_rfl
theorem r48_4 : runC 48 4 = .good := by kernel_rfl
theorem r48_5 : runC 48 5 = .good := by kernel_rfl
theorem a48 : ∀ k : Nat, k < 6 → runC 48 k = .good
  | 0, _ => r48_0
  | 1, _ => r48_1
  | 2, _ => r48_2
  | 3, _ => r48_3
  | 4, _ => r48_4
  | 5, _ => r48_5
  | k + 6, h => absurd h (by omega)
theorem r49_0 : runC 49 0 = .good := by kernel_rfl
theorem r49_1 : runC 49 1 = .good := by kernel_rfl
theorem r49_2 : runC 49 2 = .good := by kernel_rfl
theorem r49_3 : runC 49 3 = .good := by kernel_rfl
theorem r49_4 : runC 49 4 = .good := by kernel_rfl
theorem r49_5 : runC 49 5 = .good := by kernel_rfl
theorem a49 : ∀ k : Nat, k < 6 → runC 49 k = .good
  | 0, _ => r49_0
  | 1, _ => r49_1
  | 2, _ => r49_2
  | 3, _ => r49_3
  | 4, _ => r49_4
  | 5, _ => r49_5
  | k + 6, h => absurd h (by omega)
theorem r50_0 : runC 50 0 = .good := by kernel_rfl
theorem r50_1 : runC 50 1 = .good := by kernel_rfl
theorem r50_2 : runC 50 2 = .good := by kernel_rfl
theorem r50_3 : runC 50 3 = .good := by kernel_rfl
theorem r50_4 : runC 50 4 = .good := by kernel_rfl
theorem r50_5 : runC 50 5 = .good := by kernel_rfl
theorem a50 : ∀ k : Nat, k < 6 → runC 50 k = .good
  | 0, _ => r50_0
  | 1, _ => r50_1
  | 2, _ => r50_2
  | 3, _ => r50_3
  | 4, _ => r50_4
  | 5, _ => r50_5
  | k + 6, h => absurd h (by omega)
theorem r51_0 : runC 51 0 = .good := by kernel_rfl
theorem r51_1 : runC 51 1 = .good := by kernel_rfl
theorem r51_2 : runC 51 2 = .good := by kernel_rfl
theorem r51_3 : runC 51 3 = .good := by kernel_rfl
theorem r51_4 : runC 51 4 = .good := by kernel_rfl
theorem r51_5 : runC 51 5 = .good := by kernel_rfl
theorem a51 : ∀ k : Nat, k < 6 → runC 51 k = .good
  | 0, _ => r51_0
  | 1, _ => r51_1
  | 2, _ => r51_2
  | 3, _ => r51_3
  | 4, _ => r51_4
  | 5, _ => r51_5
  | k + 6, h => absurd h (by omega)
end Go.Proofs.YtedkimnbghpkeaaGreatDoor
