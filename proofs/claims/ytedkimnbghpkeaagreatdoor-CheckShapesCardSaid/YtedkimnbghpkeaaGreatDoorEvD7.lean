/- Some of the law's runs. Conditions: none. -/
import Derived.Test.YtedkimnbghpkeaaGreatDoorEvC
import Derived.KernelRfl
namespace Go.Proofs.YtedkimnbghpkeaaGreatDoor
open Go Go.Ev
set_option linter.unusedSectionVars false
set_option maxRecDepth 1000000
theorem r28_0 : runC 28 0 = .good := by kernel_rfl
theorem r28_1 : runC 28 1 = .good := by kernel_rfl
theorem r28_2 : runC 28 2 = .good := by kernel_rfl
theorem r28_3 : runC 28 3 = .good := by kernel_rfl
theorem r28_4 : runC 28 4 = .good := by kernel_rfl
theorem r28_5 : runC 28 5 = .good := by kernel_rfl
theorem a28 : ∀ k : Nat, k < 6 → runC 28 k = .good
  | 0, _ => r28_0
  | 1, _ => r28_1
  | 2, _ => r28_2
  | 3, _ => r28_3
  | 4, _ => r28_4
  | 5, _ => r28_5
  | k + 6, h => absurd h (by omega)
theorem r29_0 : runC 29 0 = .good := by kernel_rfl
theorem r29_1 : runC 29 1 = .good := by kernel_rfl
theorem r29_2 : runC 29 2 = .good := by kernel_rfl
theorem r29_3 : runC 29 3 = .good := by kernel_rfl
theorem r29_4 : runC 29 4 = .good := by kernel_rfl
theorem r29_5 : runC 29 5 = .good := by kernel_rfl
theorem a29 : ∀ k : Nat, k < 6 → runC 29 k = .good
  | 0, _ => r29_0
  | 1, _ => r29_1
  | 2, _ => r29_2
  | 3, _ => r29_3
  | 4, _ => r29_4
  | 5, _ => r29_5
  | k + 6, h => absurd h (by omega)
theorem r30_0 : runC 30 0 = .good := by kernel_rfl
theorem r30_1 : runC 30 1 = .good := by kernel_rfl
theorem r30_2 : runC 30 2 = .good := by kernel_rfl
theorem r30_3 : runC 30 3 = .good := by kernel_rfl
theorem r30_4 : runC 30 4 = .good := by kernel_rfl
theorem r30_5 : runC 30 5 = .good := by kernel_rfl
theorem a30 : ∀ k : Nat, k < 6 → runC 30 k = .good
  | 0, _ => r30_0
  | 1, _ => r30_1
  | 2, _ => r30_2
  | 3, _ => r30_3
  | 4, _ => r30_4
  | 5, _ => r30_5
  | k + 6, h => absurd h (by omega)
theorem r31_0 : runC 31 0 = .good := by kernel_rfl
theorem r31_1 : runC 31 1 = .good := by kernel_rfl
theorem r31_2 : runC 31 2 = .good := by kernel_rfl
theorem r31_3 : runC 31 3 = .good := by kernel_rfl
theorem r31_4 : runC 31 4 = .good := by kernel_rfl
theorem r31_5 : runC 31 5 = .good := by kernel_rfl
theorem a31 : ∀ k : Nat, k < 6 → runC 31 k = .good
  | 0, _ => r31_0
  | 1, _ => r31_1
  | 2, _ => r31_2
  | 3, _ => r31_3
  | 4, _ => r31_4
  | 5, _ => r31_5
  | k + 6, h => absurd h (by omega)
end Go.Proofs.YtedkimnbghpkeaaGreatDoor
