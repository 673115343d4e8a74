/- What a number is that is brought below another one. Conditions: what the theorems say of the numbers. -/
import Derived.Test.YtedkimnbghpkeaaGreatDoorProg
import Derived.Test.YtedkimnbghpkeaaGreatDoorEv5
import Derived.WalkKit
namespace Go.Proofs.YtedkimnbghpkeaaGreatDoor
open Go Go.RowKit Go.Ev
set_option linter.unusedVariables false
theorem bringZ_mem {a : Int} {n : Nat} (h0 : 0 < n) : ∃ m : Nat, m < n ∧ bringZ a n = m := by
  have h1 := Int.tmod_lt_of_pos a (show (0 : Int) < n by omega)
  have h2 : -(n : Int) < a.tmod n := by
    have := Int.tmod_lt_of_pos (-a) (show (0 : Int) < n by omega)
    rw [Int.neg_tmod] at this
    omega
  have h3 : 0 ≤ bringZ a n ∧ bringZ a n < n := by
    unfold bringZ
    split <;> omega
  exact ⟨(bringZ a n).toNat, by omega, by omega⟩
set_option maxHeartbeats 1000000 in
theorem bringT (a n : Int) (w : World) (ha : -9223372036854775808 ≤ a) (hb : a ≤ 9223372036854775807) (h0 : 0 < n) (h1 : n ≤ 1073741824) :
    Calls Tryz.prog 4 #[.int .i64 a, .int .i64 n] w fun e w' => e = .returned (.int .i64 (bringZ a n)) ∧ w' = w := by
  have h2 := Int.tmod_lt_of_pos a h0
  have h3 : -n < a.tmod n := by
    have := Int.tmod_lt_of_pos (-a) h0
    rw [Int.neg_tmod] at this
    omega
  go_enter Tryz.func4, Tryz.ntmps4
  by_cases h : a.tmod n < 0
  · have e : bringZ a n = a.tmod n + n := if_pos h
    rw [e]
    go_wp2
    go_ret
    exact ⟨rfl, rfl⟩
  · have e : bringZ a n = a.tmod n := if_neg h
    rw [e]
    go_wp2
    go_ret
    exact ⟨rfl, rfl⟩
end Go.Proofs.YtedkimnbghpkeaaGreatDoor
