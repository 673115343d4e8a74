/- Some of the law's runs. Conditions: none. -/
import Derived.Test.YtedkimnbghpkeaaGreatDoorEvC
import Derived.KernelRfl
namespace Go.Proofs.YtedkimnbghpkeaaGreatDoor
open Go Go.Ev
set_option linter.unusedSectionVars false
set_option maxRecDepth 1000000
theorem r24_0 : runC 24 0 = .good := by kernel_rfl
theorem r24_1 : runC 24 1 = .good := by kernel_rfl
theorem r24_2 : runC 24 2 = .good := by kernel_rfl
theorem r24_3 : runC 24 3 = .good := by kernel_rfl
theorem r24_4 : runC 24 4 = .good := by kernel_rfl
theorem r24_5 : runC 24 5 = .good := by kernel_rfl
theorem a24 : ∀ k : Nat, k < 6 → runC 24 k = .good
  | 0, _ => r24_0
  | 1, _ => r24_1
  | 2, _ => r24_2
  | 3, _ => r24_3
  | 4, _ => r24_4
  | 5, _ => r24_5
  | k + 6, h => absurd h (by omega)
theorem r25_0 : runC 25 0 = .good := by kernel_rfl
theorem r25_1 : runC 25 1 = .good := by kernel_rfl
theorem r25_2 : runC 25 2 = .good := by kernel_rfl
theorem r25_3 : runC 25 3 = .good := by kernel_rfl
theorem r25_4 : runC 25 4 = .good := by kernel_rfl
theorem r25_5 : runC 25 5 = .good := by kernel_rfl
theorem a25 : ∀ k : Nat, k < 6 → runC 25 k = .good
  | 0, _ => r25_0
  | 1, _ => r25_1
  | 2, _ => r25_2
  | 3, _ => r25_3
  | 4, _ => r25_4
  | 5, _ => r25_5
  | k + 6, h => absurd h (by omega)
theorem r26_0 : runC 26 0 = .good := by kernel_rfl
theorem r26_1 : runC 26 1 = .good := by kernel_rfl
theorem r26_2 : runC 26 2 = .good := by kernel_rfl
theorem r26_3 : runC 26 3 = .good := by kernel_rfl
theorem r26_4 : runC 26 4 = .good := by kernel_rfl
theorem r26_5 : runC 26 5 = .good := by kernel_rfl
theorem a26 : ∀ k : Nat, k < 6 → runC 26 k = .good
  | 0, _ => r26_0
  | 1, _ => r26_1
  | 2, _ => r26_2
  | 3, _ => r26_3
  | 4, _ => r26_4
  | 5, _ => r26_5
  | k + 6, h => absurd h (by omega)
theorem r27_0 : runC 27 0 = .good := by kernel_rfl
theorem r27_1 : runC 27 1 = .good := by kernel_rfl
theorem r27_2 : runC 27 2 = .good := by kernel_rfl
theorem r27_3 : runC 27 3 = .good := by kernel_rfl
theorem r27_4 : runC 27 4 = .good := by kernel_rfl
theorem r27_5 : runC 27 5 = .good := by kernel_rfl
theorem a27 : ∀ k : Nat, k < 6 → runC 27 k = .good
  | 0, _ => r27_0
  | 1, _ => r27_1
  | 2, _ => r27_2
  | 3, _ => r27_3
  | 4, _ => r27_4
  | 5, _ => r27_5
  | k + 6, h => absurd h (by omega)
end Go.Proofs.YtedkimnbghpkeaaGreatDoor
