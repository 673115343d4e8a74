/- Some of the law's runs. Conditions: none. -/
import Derived.Test.YtedkimnbghpkeaaGreatDoorEvC
import Derived.KernelRfl
namespace Go.Proofs.YtedkimnbghpkeaaGreatDoor
open Go Go.Ev
set_option linter.unusedSectionVars false
set_option maxRecDepth 1000000
theorem r44_0 : runC 44 0 = .good := by kernel_rfl
theorem r44_1 : runC 44 1 = .good := by kernel_rfl
theorem r44_2 : runC 44 2 = .good := by kernel_rfl
theorem r44_3 : runC 44 3 = .good := by kernel_rfl
theorem r44_4 : runC 44 4 = .good := by kernel_rfl
theorem r44_5 : runC 44 5 = .good := by kernel_rfl
theorem a44 : ∀ k : Nat, k < 6 → runC 44 k = .good
  | 0, _ => r44_0
  | 1, _ => r44_1
  | 2, _ => r44_2
  | 3, _ => r44_3
  | 4, _ => r44_4
  | 5, _ => r44_5
  | k + 6, h => absurd h (by omega)
theorem r45_0 : runC 45 0 = .good := by kernel_rfl
theorem r45_1 : runC 45 1 = .good := by kernel_rfl
theorem r45_2 : runC 45 2 = .good := by kernel_rfl
theorem r45_3 : runC 45 3 = .good := by kernel_rfl
theorem r45_4 : runC 45 4 = .good := by kernel_rfl
theorem r45_5 : runC 45 5 = .good := by kernel_rfl
theorem a45 : ∀ k : Nat, k < 6 → runC 45 k = .good
  | 0, _ => r45_0
  | 1, _ => r45_1
  | 2, _ => r45_2
  | 3, _ => r45_3
  | 4, _ => r45_4
  | 5, _ => r45_5
  | k + 6, h => absurd h (by omega)
theorem r46_0 : runC 46 0 = .good := by kernel_rfl
theorem r46_1 : runC 46 1 = .good := by kernel_rfl
theorem r46_2 : runC 46 2 = .good := by kernel_rfl
theorem r46_3 : runC 46 3 = .good := by kernel_rfl
theorem r46_4 : runC 46 4 = .good := by kernel_rfl
theorem r46_5 : runC 46 5 = .good := by kernel_rfl
theorem a46 : ∀ k : Nat, k < 6 → runC 46 k = .good
  | 0, _ => r46_0
  | 1, _ => r46_1
  | 2, _ => r46_2
  | 3, _ => r46_3
  | 4, _ => r46_4
  | 5, _ => r46_5
  | k + 6, h => absurd h (by omega)
theorem r47_0 : runC 47 0 = .good := by kernel_rfl
theorem r47_1 : runC 47 1 = .good := by kernel_rfl
theorem r47_2 : runC 47 2 = .good := by kernel_rfl
theorem r47_3 : runC 47 3 = .good := by kernel_rfl
theorem r47_4 : runC 47 4 = .good := by kernel_rfl
theorem r47_5 : runC 47 5 = .good := by kernel_rfl
theorem a47 : ∀ k : Nat, k < 6 → runC 47 k = .good
  | 0, _ => r47_0
  | 1, _ => r47_1
  | 2, _ => r47_2
  | 3, _ => r47_3
  | 4, _ => r47_4
  | 5, _ => r47_5
  | k + 6, h => absurd h (by omega)
end Go.Proofs.YtedkimnbghpkeaaGreatDoor
