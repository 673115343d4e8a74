/- Some of the law's runs. Conditions: none. -/
import Derived.Test.YtedkimnbghpkeaaGreatDoorEvC
import Derived.KernelRfl
namespace Go.Proofs.YtedkimnbghpkeaaGreatDoor
open Go Go.Ev
set_option linter.unusedSectionVars false
set_option maxRecDepth 1000000
theorem r4_0 : runC 4 0 = .good := by kernel_rfl
theorem r4_1 : runC 4 1 = .good := by kernel_rfl
theorem r4_2 : runC 4 2 = .good := by kernel_rfl
theorem r4_3 : runC 4 3 = .good := by kernel_rfl
theorem r4_4 : runC 4 4 = .good := by kernel_rfl
theorem r4_5 : runC 4 5 = .good := by kernel_rfl
theorem a4 : ∀ k : Nat, k < 6 → runC 4 k = .good
  | 0, _ => r4_0
  | 1, _ => r4_1
  | 2, _ => r4_2
  | 3, _ => r4_3
  | 4, _ => r4_4
  | 5, _ => r4_5
  | k + 6, h => absurd h (by omega)
theorem r5_0 : runC 5 0 = .good := by kernel_rfl
theorem r5_1 : runC 5 1 = .good := by kernel_rfl
theorem r5_2 : runC 5 2 = .good := by kernel_rfl
theorem r5_3 : runC 5 3 = .good := by kernel_rfl
theorem r5_4 : runC 5 4 = .good := by kernel_rfl
theorem r5_5 : runC 5 5 = .good := by kernel_rfl
theorem a5 : ∀ k : Nat, k < 6 → runC 5 k = .good
  | 0, _ => r5_0
  | 1, _ => r5_1
  | 2, _ => r5_2
  | 3, _ => r5_3
  | 4, _ => r5_4
  | 5, _ => r5_5
  | k + 6, h => absurd h (by omega)
theorem r6_0 : runC 6 0 = .good := by kernel_rfl
theorem r6_1 : runC 6 1 = .good := by kernel_rfl
theorem r6_2 : runC 6 2 = .good := by kernel_rfl
theorem r6_3 : runC 6 3 = .good := by kernel_rfl
theorem r6_4 : runC 6 4 = .good := by kernel_rfl
theorem r6_5 : runC 6 5 = .good := by kernel_rfl
theorem a6 : ∀ k : Nat, k < 6 → runC 6 k = .good
  | 0, _ => r6_0
  | 1, _ => r6_1
  | 2, _ => r6_2
  | 3, _ => r6_3
  | 4, _ => r6_4
  | 5, _ => r6_5
  | k + 6, h => absurd h (by omega)
theorem r7_0 : runC 7 0 = .good := by kernel_rfl
theorem r7_1 : runC 7 1 = .good := by kernel_rfl
theorem r7_2 : runC 7 2 = .good := by kernel_rfl
theorem r7_3 : runC 7 3 = .good := by kernel_rfl
theorem r7_4 : runC 7 4 = .good := by kernel_rfl
theorem r7_5 : runC 7 5 = .good := by kernel_rfl
theorem a7 : ∀ k : Nat, k < 6 → runC 7 k = .good
  | 0, _ => r7_0
  | 1, _ => r7_1
  | 2, _ => r7_2
  | 3, _ => r7_3
  | 4, _ => r7_4
  | 5, _ => r7_5
  | k + 6, h => absurd h (by omega)
end Go.Proofs.YtedkimnbghpkeaaGreatDoor
