/- Some of the law's runs. Conditions: none. -/
import Derived.Test.YtedkimnbghpkeaaGreatDoorEvC
import Derived.KernelRfl
namespace Go.Proofs.YtedkimnbghpkeaaGreatDoor
open Go Go.Ev
set_option linter.unusedSectionVars false
set_option maxRecDepth 1000000
theorem r60_0 : runC 60 0 = .good := by kernel_rfl
theorem r60_1 : runC 60 1 = .good := by kernel_rfl
theorem r60_2 : runC 60 2 = .good := by kernel_rfl
theorem r60_3 : runC 60 3 = .good := by kernel_rfl
theorem r60_4 : runC 60 4 = .good := by kernel_rfl
theorem r60_5 : runC 60 5 = .good := by kernel_rfl
theorem a60 : ∀ k : Nat, k < 6 → runC 60 k = .good
  | 0, _ => r60_0
  | 1, _ => r60_1
  | 2, _ => r60_2
  | 3, _ => r60_3
  | 4, _ => r60_4
  | 5, _ => r60_5
  | k + 6, h => absurd h (by omega)
theorem r61_0 : runC 61 0 = .good := by kernel_rfl
theorem r61_1 : runC 61 1 = .good := by kernel_rfl
theorem r61_2 : runC 61 2 = .good := by kernel_rfl
theorem r61_3 : runC 61 3 = .good := by kernel_rfl
theorem r61_4 : runC 61 4 = .good := by kernel_rfl
theorem r61_5 : runC 61 5 = .good := by kernel_rfl
theorem a61 : ∀ k : Nat, k < 6 → runC 61 k = .good
  | 0, _ => r61_0
  | 1, _ => r61_1
  | 2, _ => r61_2
  | 3, _ => r61_3
  | 4, _ => r61_4
  | 5, _ => r61_5
  | k + 6, h => absurd h (by omega)
theorem r62_0 : runC 62 0 = .good := by kernel_rfl
theorem r62_1 : runC 62 1 = .good := by kernel_rfl
theorem r62_2 : runC 62 2 = .good := by kernel_rfl
theorem r62_3 : runC 62 3 = .good := by kernel_rfl
theorem r62_4 : runC 62 4 = .good := by kernel_rfl
theorem r62_5 : runC 62 5 = .good := by kernel_rfl
theorem a62 : ∀ k : Nat, k < 6 → runC 62 k = .good
  | 0, _ => r62_0
  | 1, _ => r62_1
  | 2, _ => r62_2
  | 3, _ => r62_3
  | 4, _ => r62_4
  | 5, _ => r62_5
  | k + 6, h => absurd h (by omega)
theorem r63_0 : runC 63 0 = .good := by kernel_rfl
theorem r63_1 : runC 63 1 = .good := by kernel_rfl
theorem r63_2 : runC 63 2 = .good := by kernel_rfl
theorem r63_3 : runC 63 3 = .good := by kernel_rfl
theorem r63_4 : runC 63 4 = .good := by kernel_rfl
theorem r63_5 : runC 63 5 = .good := by kernel_rfl
theorem a63 : ∀ k : Nat, k < 6 → runC 63 k = .good
  | 0, _ => r63_0
  | 1, _ => r63_1
  | 2, _ => r63_2
  | 3, _ => r63_3
  | 4, _ => r63_4
  | 5, _ => r63_5
  | k + 6, h => absurd h (by omega)
end Go.Proofs.YtedkimnbghpkeaaGreatDoor
