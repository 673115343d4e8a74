/- Some of the law's runs. Conditions: none. -/
import Derived.Test.YtedkimnbghpkeaaGreatDoorEvC
import Derived.KernelRfl
namespace Go.Proofs.YtedkimnbghpkeaaGreatDoor
open Go Go.Ev
set_option linter.unusedSectionVars false
set_option maxRecDepth 1000000
theorem r0_0 : runC 0 0 = .good := by kernel_rfl
theorem r0_1 : runC 0 1 = .good := by kernel_rfl
theorem r0_2 : runC 0 2 = .good := by kernel_rfl
theorem r0_3 : runC 0 3 = .good := by kernel_rfl
theorem r0_4 : runC 0 4 = .good := by kernel_rfl
theorem r0_5 : runC 0 5 = .good := by kernel_rfl
theorem a0 : ∀ k : Nat, k < 6 → runC 0 k = .good
  | 0, _ => r0_0
  | 1, _ => r0_1
  | 2, _ => r0_2
  | 3, _ => r0_3
  | 4, _ => r0_4
  | 5, _ => r0_5
  | k + 6, h => absurd h (by omega)
theorem r1_0 : runC 1 0 = .good := by kernel_rfl
theorem r1_1 : runC 1 1 = .good := by kernel_rfl
theorem r1_2 : runC 1 2 = .good := by kernel_rfl
theorem r1_3 : runC 1 3 = .good := by kernel_rfl
theorem r1_4 : runC 1 4 = .good := by kernel_rfl
theorem r1_5 : runC 1 5 = .good := by kernel_rfl
theorem a1 : ∀ k : Nat, k < 6 → runC 1 k = .good
  | 0, _ => r1_0
  | 1, _ => r1_1
  | 2, _ => r1_2
  | 3, _ => r1_3
  | 4, _ => r1_4
  | 5, _ => r1_5
  | k + 6, h => absurd h (by omega)
theorem r2_0 : runC 2 0 = .good := by kernel_rfl
theorem r2_1 : runC 2 1 = .good := by kernel_rfl
theorem r2_2 : runC 2 2 = .good := by kernel_rfl
theorem r2_3 : runC 2 3 = .good := by kernel_rfl
theorem r2_4 : runC 2 4 = .good := by kernel_rfl
theorem r2_5 : runC 2 5 = .good := by kernel_rfl
theorem a2 : ∀ k : Nat, k < 6 → runC 2 k = .good
  | 0, _ => r2_0
  | 1, _ => r2_1
  | 2, _ => r2_2
  | 3, _ => r2_3
  | 4, _ => r2_4
  | 5, _ => r2_5
  | k + 6, h => absurd h (by omega)
theorem r3_0 : runC 3 0 = .good := by kernel_rfl
theorem r3_1 : runC 3 1 = .good := by kernel_rfl
theorem r3_2 : runC 3 2 = .good := by kernel_rfl
theorem r3_3 : runC 3 3 = .good := by kernel_rfl
theorem r3_4 : runC 3 4 = .good := by kernel_rfl
theorem r3_5 : runC 3 5 = .good := by kernel_rfl
theorem a3 : ∀ k : Nat, k < 6 → runC 3 k = .good
  | 0, _ => r3_0
  | 1, _ => r3_1
  | 2, _ => r3_2
  | 3, _ => r3_3
  | 4, _ => r3_4
  | 5, _ => r3_5
  | k + 6, h => absurd h (by omega)
end Go.Proofs.YtedkimnbghpkeaaGreatDoor
