/- Some of the law's runs. Conditions: none. -/
import Derived.Test.YtedkimnbghpkeaaGreatDoorEvC
import Derived.KernelRfl
namespace Go.Proofs.YtedkimnbghpkeaaGreatDoor
open Go Go.Ev
set_option linter.unusedSectionVars false
set_option maxRecDepth 1000000
theorem r8_0 : runC 8 0 = .good := by kernel_rfl
theorem r8_1 : runC 8 1 = .good := by kernel_rfl
theorem r8_2 : runC 8 2 = .good := by kernel_rfl
theorem r8_3 : runC 8 3 = .good := by kernel_rfl
theorem r8_4 : runC 8 4 = .good := by kernel_rfl
theorem r8_5 : runC 8 5 = .good := by kernel_rfl
theorem a8 : ∀ k : Nat, k < 6 → runC 8 k = .good
  | 0, _ => r8_0
  | 1, _ => r8_1
  | 2, _ => r8_2
  | 3, _ => r8_3
  | 4, _ => r8_4
  | 5, _ => r8_5
  | k + 6, h => absurd h (by omega)
theorem r9_0 : runC 9 0 = .good := by kernel_rfl
theorem r9_1 : runC 9 1 = .good := by kernel_rfl
theorem r9_2 : runC 9 2 = .good := by kernel_rfl
theorem r9_3 : runC 9 3 = .good := by kernel_rfl
theorem r9_4 : runC 9 4 = .good := by kernel_rfl
theorem r9_5 : runC 9 5 = .good := by kernel_rfl
theorem a9 : ∀ k : Nat, k < 6 → runC 9 k = .good
  | 0, _ => r9_0
  | 1, _ => r9_1
  | 2, _ => r9_2
  | 3, _ => r9_3
  | 4, _ => r9_4
  | 5, _ => r9_5
  | k + 6, h => absurd h (by omega)
theorem r10_0 : runC 10 0 = .good := by kernel_rfl
theorem r10_1 : runC 10 1 = .good := by kernel_rfl
theorem r10_2 : runC 10 2 = .good := by kernel_rfl
theorem r10_3 : runC 10 3 = .good := by kernel_rfl
theorem r10_4 : runC 10 4 = .good := by kernel_rfl
theorem r10_5 : runC 10 5 = .good := by kernel_rfl
theorem a10 : ∀ k : Nat, k < 6 → runC 10 k = .good
  | 0, _ => r10_0
  | 1, _ => r10_1
  | 2, _ => r10_2
  | 3, _ => r10_3
  | 4, _ => r10_4
  | 5, _ => r10_5
  | k + 6, h => absurd h (by omega)
theorem r11_0 : runC 11 0 = .good := by kernel_rfl
theorem r11_1 : runC 11 1 = .good := by kernel_rfl
theorem r11_2 : runC 11 2 = .good := by kernel_rfl
theorem r11_3 : runC 11 3 = .good := by kernel_rfl
theorem r11_4 : runC 11 4 = .good := by kernel_rfl
theorem r11_5 : runC 11 5 = .good := by kernel_rfl
theorem a11 : ∀ k : Nat, k < 6 → runC 11 k = .good
  | 0, _ => r11_0
  | 1, _ => r11_1
  | 2, _ => r11_2
  | 3, _ => r11_3
  | 4, _ => r11_4
  | 5, _ => r11_5
  | k + 6, h => absurd h (by omega)
end Go.Proofs.YtedkimnbghpkeaaGreatDoor
