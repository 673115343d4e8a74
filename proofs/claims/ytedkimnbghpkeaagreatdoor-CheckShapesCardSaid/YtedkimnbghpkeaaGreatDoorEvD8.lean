/- Some of the law's runs. Conditions: none. -/
import Derived.Test.YtedkimnbghpkeaaGreatDoorEvC
import Derived.KernelRfl
namespace Go.Proofs.YtedkimnbghpkeaaGreatDoor
open Go Go.Ev
set_option linter.unusedSectionVars false
set_option maxRecDepth 1000000
theorem r32_0 : runC 32 0 = .good := by kernel_rfl
theorem r32_1 : runC 32 1 = .good := by kernel_rfl
theorem r32_2 : runC 32 2 = .good := by kernel_rfl
theorem r32_3 : runC 32 3 = .good := by kernel_rfl
theorem r32_4 : runC 32 4 = .good := by kernel_rfl
theorem r32_5 : runC 32 5 = .good := by kernel_rfl
theorem a32 : ∀ k : Nat, k < 6 → runC 32 k = .good
  | 0, _ => r32_0
  | 1, _ => r32_1
  | 2, _ => r32_2
  | 3, _ => r32_3
  | 4, _ => r32_4
  | 5, _ => r32_5
  | k + 6, h => absurd h (by omega)
theorem r33_0 : runC 33 0 = .good := by kernel_rfl
theorem r33_1 : runC 33 1 = .good := by kernel_rfl
theorem r33_2 : runC 33 2 = .good := by kernel_rfl
theorem r33_3 : runC 33 3 = .good := by kernel_rfl
theorem r33_4 : runC 33 4 = .good := by kernel_rfl
theorem r33_5 : runC 33 5 = .good := by kernel_rfl
theorem a33 : ∀ k : Nat, k < 6 → runC 33 k = .good
  | 0, _ => r33_0
  | 1, _ => r33_1
  | 2, _ => r33_2
  | 3, _ => r33_3
  | 4, _ => r33_4
  | 5, _ => r33_5
  | k + 6, h => absurd h (by omega)
theorem r34_0 : runC 34 0 = .good := by kernel_rfl
theorem r34_1 : runC 34 1 = .good := by kernel_rfl
theorem r34_2 : runC 34 2 = .good := by kernel_rfl
theorem r34_3 : runC 34 3 = .good := by kernel_rfl
theorem r34_4 : runC 34 4 = .good := by kernel_rfl
theorem r34_5 : runC 34 5 = .good := by kernel_rfl
theorem a34 : ∀ k : Nat, k < 6 → runC 34 k = .good
  | 0, _ => r34_0
  | 1, _ => r34_1
  | 2, _ => r34_2
  | 3, _ => r34_3
  | 4, _ => r34_4
  | 5, _ => r34_5
  | k + 6, h => absurd h (by omega)
theorem r35_0 : runC 35 0 = .good := by kernel_rfl
theorem r35_1 : runC 35 1 = .good := by kernel_rfl
theorem r35_2 : runC 35 2 = .good := by kernel_rfl
theorem r35_3 : runC 35 3 = .good := by kernel_rfl
theorem r35_4 : runC 35 4 = .good := by kernel_rfl
theorem r35_5 : runC 35 5 = .good := by kernel_rfl
theorem a35 : ∀ k : Nat, k < 6 → runC 35 k = .good
  | 0, _ => r35_0
  | 1, _ => r35_1
  | 2, _ => r35_2
  | 3, _ => r35_3
  | 4, _ => r35_4
  | 5, _ => r35_5
  | k + 6, h => absurd h (by omega)
end Go.Proofs.YtedkimnbghpkeaaGreatDoor
