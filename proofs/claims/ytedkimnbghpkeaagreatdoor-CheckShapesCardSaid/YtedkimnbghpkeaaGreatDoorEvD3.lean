/- Some of the law's runs. Conditions: none. -/
import Derived.Test.YtedkimnbghpkeaaGreatDoorEvC
import Derived.KernelRfl
namespace Go.Proofs.YtedkimnbghpkeaaGreatDoor
open Go Go.Ev
set_option linter.unusedSectionVars false
set_option maxRecDepth 1000000
theorem r12_0 : runC 12 0 = .good := by kernel_rfl
theorem r12_1 : runC 12 1 = .good := by kernel_rfl
theorem r12_2 : runC 12 2 = .good := by kernel_rfl
theorem r12_3 : runC 12 3 = .good := by kernel_rfl
theorem r12_4 : runC 12 4 = .good := by kernel_rfl
theorem r12_5 : runC 12 5 = .good := by kernel_rfl
theorem a12 : ∀ k : Nat, k < 6 → runC 12 k = .good
  | 0, _ => r12_0
  | 1, _ => r12_1
  | 2, _ => r12_2
  | 3, _ => r12_3
  | 4, _ => r12_4
  | 5, _ => r12_5
  | k + 6, h => absurd h (by omega)
theorem r13_0 : runC 13 0 = .good := by kernel_rfl
theorem r13_1 : runC 13 1 = .good := by kernel_rfl
theorem r13_2 : runC 13 2 = .good := by kernel_rfl
theorem r13_3 : runC 13 3 = .good := by kernel_rfl
theorem r13_4 : runC 13 4 = .good := by kernel_rfl
theorem r13_5 : runC 13 5 = .good := by kernel_rfl
theorem a13 : ∀ k : Nat, k < 6 → runC 13 k = .good
  | 0, _ => r13_0
  | 1, _ => r13_1
  | 2, _ => r13_2
  | 3, _ => r13_3
  | 4, _ => r13_4
  | 5, _ => r13_5
  | k + 6, h => absurd h (by omega)
theorem r14_0 : runC 14 0 = .good := by kernel_rfl
theorem r14_1 : runC 14 1 = .good := by kernel_rfl
theorem r14_2 : runC 14 2 = .good := by kernel_rfl
theorem r14_3 : runC 14 3 = .good := by kernel_rfl
theorem r14_4 : runC 14 4 = .good := by kernel_rfl
theorem r14_5 : runC 14 5 = .good := by kernel_rfl
theorem a14 : ∀ k : Nat, k < 6 → runC 14 k = .good
  | 0, _ => r14_0
  | 1, _ => r14_1
  | 2, _ => r14_2
  | 3, _ => r14_3
  | 4, _ => r14_4
  | 5, _ => r14_5
  | k + 6, h => absurd h (by omega)
theorem r15_0 : runC 15 0 = .good := by kernel_rfl
theorem r15_1 : runC 15 1 = .good := by kernel_rfl
theorem r15_2 : runC 15 2 = .good := by kernel_rfl
theorem r15_3 : runC 15 3 = .good := by kernel_rfl
theorem r15_4 : runC 15 4 = .good := by kernel_rfl
theorem r15_5 : runC 15 5 = .good := by kernel_rfl
theorem a15 : ∀ k : Nat, k < 6 → runC 15 k = .good
  | 0, _ => r15_0
  | 1, _ => r15_1
  | 2, _ => r15_2
  | 3, _ => r15_3
  | 4, _ => r15_4
  | 5, _ => r15_5
  | k + 6, h => absurd h (by omega)
end Go.Proofs.YtedkimnbghpkeaaGreatDoor
