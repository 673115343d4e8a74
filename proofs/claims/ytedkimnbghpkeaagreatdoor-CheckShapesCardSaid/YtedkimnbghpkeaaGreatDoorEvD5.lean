/- Some of the law's runs. Conditions: none. -/
import Derived.Test.YtedkimnbghpkeaaGreatDoorEvC
import Derived.KernelRfl
namespace Go.Proofs.YtedkimnbghpkeaaGreatDoor
open Go Go.Ev
set_option linter.unusedSectionVars false
set_option maxRecDepth 1000000
theorem r20_0 : runC 20 0 = .good := by kernel_rfl
theorem r20_1 : runC 20 1 = .good := by kernel_rfl
theorem r20_2 : runC 20 2 = .good := by kernel_rfl
theorem r20_3 : runC 20 3 = .good := by kernel_rfl
theorem r20_4 : runC 20 4 = .good := by kernel_rfl
theorem r20_5 : runC 20 5 = .good := by kernel_rfl
theorem a20 : ∀ k : Nat, k < 6 → runC 20 k = .good
  | 0, _ => r20_0
  | 1, _ => r20_1
  | 2, _ => r20_2
  | 3, _ => r20_3
  | 4, _ => r20_4
  | 5, _ => r20_5
  | k + 6, h => absurd h (by omega)
theorem r21_0 : runC 21 0 = .good := by kernel_rfl
theorem r21_1 : runC 21 1 = .good := by kernel_rfl
theorem r21_2 : runC 21 2 = .good := by kernel_rfl
theorem r21_3 : runC 21 3 = .good := by kernel_rfl
theorem r21_4 : runC 21 4 = .good := by kernel_rfl
theorem r21_5 : runC 21 5 = .good := by kernel_rfl
theorem a21 : ∀ k : Nat, k < 6 → runC 21 k = .good
  | 0, _ => r21_0
  | 1, _ => r21_1
  | 2, _ => r21_2
  | 3, _ => r21_3
  | 4, _ => r21_4
  | 5, _ => r21_5
  | k + 6, h => absurd h (by omega)
theorem r22_0 : runC 22 0 = .good := by kernel_rfl
theorem r22_1 : runC 22 1 = .good := by kernel_rfl
theorem r22_2 : runC 22 2 = .good := by kernel_rfl
theorem r22_3 : runC 22 3 = .good := by kernel_rfl
theorem r22_4 : runC 22 4 = .good := by kernel_rfl
theorem r22_5 : runC 22 5 = .good := by kernel_rfl
theorem a22 : ∀ k : Nat, k < 6 → runC 22 k = .good
  | 0, _ => r22_0
  | 1, _ => r22_1
  | 2, _ => r22_2
  | 3, _ => r22_3
  | 4, _ => r22_4
  | 5, _ => r22_5
  | k + 6, h => absurd h (by omega)
theorem r23_0 : runC 23 0 = .good := by kernel_rfl
theorem r23_1 : runC 23 1 = .good := by kernel_rfl
theorem r23_2 : runC 23 2 = .good := by kernel_rfl
theorem r23_3 : runC 23 3 = .good := by kernel_rfl
theorem r23_4 : runC 23 4 = .good := by kernel_rfl
theorem r23_5 : runC 23 5 = .good := by kernel_rfl
theorem a23 : ∀ k : Nat, k < 6 → runC 23 k = .good
  | 0, _ => r23_0
  | 1, _ => r23_1
  | 2, _ => r23_2
  | 3, _ => r23_3
  | 4, _ => r23_4
  | 5, _ => r23_5
  | k + 6, h => absurd h (by omega)
end Go.Proofs.YtedkimnbghpkeaaGreatDoor
