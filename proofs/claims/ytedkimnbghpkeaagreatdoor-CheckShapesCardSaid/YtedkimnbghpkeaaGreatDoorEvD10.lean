/- Some of the law's runs. Conditions: none. -/
import Derived.Test.YtedkimnbghpkeaaGreatDoorEvC
import Derived.KernelRfl
namespace Go.Proofs.YtedkimnbghpkeaaGreatDoor
open Go Go.Ev
set_option linter.unusedSectionVars false
set_option maxRecDepth 1000000
theorem r40_0 : runC 40 0 = .good := by kernel_rfl
theorem r40_1 : runC 40 1 = .good := by kernel_rfl
theorem r40_2 : runC 40 2 = .good := by kernel_rfl
theorem r40_3 : runC 40 3 = .good := by kernel_rfl
theorem r40_4 : runC 40 4 = .good := by kernel_rfl
theorem r40_5 : runC 40 5 = .good := by kernel_rfl
theorem a40 : ∀ k : Nat, k < 6 → runC 40 k = .good
  | 0, _ => r40_0
  | 1, _ => r40_1
  | 2, _ => r40_2
  | 3, _ => r40_3
  | 4, _ => r40_4
  | 5, _ => r40_5
  | k + 6, h => absurd h (by omega)
theorem r41_0 : runC 41 0 = .good := by kernel_rfl
theorem r41_1 : runC 41 1 = .good := by kernel_rfl
theorem r41_2 : runC 41 2 = .good := by kernel_rfl
theorem r41_3 : runC 41 3 = .good := by kernel_rfl
theorem r41_4 : runC 41 4 = .good := by kernel_rfl
theorem r41_5 : runC 41 5 = .good := by kernel_rfl
theorem a41 : ∀ k : Nat, k < 6 → runC 41 k = .good
  | 0, _ => r41_0
  | 1, _ => r41_1
  | 2, _ => r41_2
  | 3, _ => r41_3
  | 4, _ => r41_4
  | 5, _ => r41_5
  | k + 6, h => absurd h (by omega)
theorem r42_0 : runC 42 0 = .good := by kernel_rfl
theorem r42_1 : runC 42 1 = .good := by kernel_rfl
theorem r42_2 : runC 42 2 = .good := by kernel_rfl
theorem r42_3 : runC 42 3 = .good := by kernel_rfl
theorem r42_4 : runC 42 4 = .good := by kernel_rfl
theorem r42_5 : runC 42 5 = .good := by kernel_rfl
theorem a42 : ∀ k : Nat, k < 6 → runC 42 k = .good
  | 0, _ => r42_0
  | 1, _ => r42_1
  | 2, _ => r42_2
  | 3, _ => r42_3
  | 4, _ => r42_4
  | 5, _ => r42_5
  | k + 6, h => absurd h (by omega)
theorem r43_0 : runC 43 0 = .good := by kernel_rfl
theorem r43_1 : runC 43 1 = .good := by kernel_rfl
theorem r43_2 : runC 43 2 = .good := by kernel_rfl
theorem r43_3 : runC 43 3 = .good := by kernel_rfl
theorem r43_4 : runC 43 4 = .good := by kernel_rfl
theorem r43_5 : runC 43 5 = .good := by kernel_rfl
theorem a43 : ∀ k : Nat, k < 6 → runC 43 k = .good
  | 0, _ => r43_0
  | 1, _ => r43_1
  | 2, _ => r43_2
  | 3, _ => r43_3
  | 4, _ => r43_4
  | 5, _ => r43_5
  | k + 6, h => absurd h (by omega)
end Go.Proofs.YtedkimnbghpkeaaGreatDoor
