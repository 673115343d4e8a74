/- Some of the law's runs. Conditions: none. -/
import Derived.Test.YtedkimnbghpkeaaGreatDoorEvC
import Derived.KernelRfl
namespace Go.Proofs.YtedkimnbghpkeaaGreatDoor
open Go Go.Ev
set_option linter.unusedSectionVars false
set_option maxRecDepth 1000000
theorem r16_0 : runC 16 0 = .good := by kernel_rfl
theorem r16_1 : runC 16 1 = .good := by kernel_rfl
theorem r16_2 : runC 16 2 = .good := by kernel_rfl
theorem r16_3 : runC 16 3 = .good := by kernel_rfl
theorem r16_4 : runC 16 4 = .good := by kernel_rfl
theorem r16_5 : runC 16 5 = .good := by kernel_rfl
theorem a16 : ∀ k : Nat, k < 6 → runC 16 k = .good
  | 0, _ => r16_0
  | 1, _ => r16_1
  | 2, _ => r16_2
  | 3, _ => r16_3
  | 4, _ => r16_4
  | 5, _ => r16_5
  | k + 6, h => absurd h (by omega)
theorem r17_0 : runC 17 0 = .good := by kernel_rfl
theorem r17_1 : runC 17 1 = .good := by kernel_rfl
theorem r17_2 : runC 17 2 = .good := by kernel_rfl
theorem r17_3 : runC 17 3 = .good := by kernel_rfl
theorem r17_4 : runC 17 4 = .good := by kernel_rfl
theorem r17_5 : runC 17 5 = .good := by kernel_rfl
theorem a17 : ∀ k : Nat, k < 6 → runC 17 k = .good
  | 0, _ => r17_0
  | 1, _ => r17_1
  | 2, _ => r17_2
  | 3, _ => r17_3
  | 4, _ => r17_4
  | 5, _ => r17_5
  | k + 6, h => absurd h (by omega)
theorem r18_0 : runC 18 0 = .good := by kernel_rfl
theorem r18_1 : runC 18 1 = .good := by kernel_rfl
theorem r18_2 : runC 18 2 = .good := by kernel_rfl
theorem r18_3 : runC 18 3 = .good := by kernel_rfl
theorem r18_4 : runC 18 4 = .good := by kernel_rfl
theorem r18_5 : runC 18 5 = .good := by kernel_rfl
theorem a18 : ∀ k : Nat, k < 6 → runC 18 k = .good
  | 0, _ => r18_0
  | 1, _ => r18_1
  | 2, _ => r18_2
  | 3, _ => r18_3
  | 4, _ => r18_4
  | 5, _ => r18_5
  | k + 6, h => absurd h (by omega)
theorem r19_0 : runC 19 0 = .good := by kernel_rfl
theorem r19_1 : runC 19 1 = .good := by kernel_rfl
theorem r19_2 : runC 19 2 = .good := by kernel_rfl
theorem r19_3 : runC 19 3 = .good := by kernel_rfl
theorem r19_4 : runC 19 4 = .good := by kernel_rfl
theorem r19_5 : runC 19 5 = .good := by kernel_rfl
theorem a19 : ∀ k : Nat, k < 6 → runC 19 k = .good
  | 0, _ => r19_0
  | 1, _ => r19_1
  | 2, _ => r19_2
  | 3, _ => r19_3
  | 4, _ => r19_4
  | 5, _ => r19_5
  | k + 6, h => absurd h (by omega)
end Go.Proofs.YtedkimnbghpkeaaGreatDoor
