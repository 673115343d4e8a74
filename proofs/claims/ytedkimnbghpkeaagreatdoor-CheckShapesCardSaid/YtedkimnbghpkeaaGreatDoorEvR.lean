/- works() of the law's package: true, whatever the memory, if the package-level variables hold what they hold; nothing that was there turns. Conditions: the variables. -/
import Derived.Test.YtedkimnbghpkeaaGreatDoorEvX
import Derived.Test.YtedkimnbghpkeaaGreatDoorEvG0
import Derived.Test.YtedkimnbghpkeaaGreatDoorEv5
import Derived.KernelRfl
namespace Go.Proofs.YtedkimnbghpkeaaGreatDoor
open Go Go.Ev
set_option linter.unusedSectionVars false
variable [Sym]
theorem follows_mixed : PP.follows .mixedOrders = true := by kernel_rfl
theorem drawn : ∀ call, CallOk PP (rtOf PP rfs0) call → DrawOk PP (rtOf PP rfs0) call := fun _ C => draw_ok follows_mixed C
theorem hooked : HookOk PP (rtOf PP rfs0) hk0 := by
  obtain ⟨body, hb⟩ := Option.isSome_iff_exists.1 (show Tryz.f308.body.isSome = true by kernel_rfl)
  exact merge_hook Tryz.func308 hb drawn
theorem runs (n : Nat) : CallOk PP (rtOf PP rfs0) (evX n) := ev_ok drawn hooked (T := evX) rfl (fun n g => gX (evX n) g) n
set_option maxRecDepth 1000000 in
theorem runW : globK gl0 (fun os => newAllK os H00 fun h => disp (evX 1000) ⟨.d0, .d0, .d5⟩ E0 .nil (.num 0) h (fun v _ => isTrueK v) fun _ _ => .bad) = .good := by kernel_rfl
theorem worksT (w : World) (hw : ∀ (g et n : Nat) (vs : AV), gl0[g]? = some (some (et, n, vs)) → ∃ (xs : List Value) (lo hi : Nat), VRL (iota8 (zsOf gl0)) vs xs ∧ w.heap[g]? = some (Obj.cells xs.toArray et (lo, hi))) (hs : 8 ≤ w.heap.size) :
    Calls Tryz.prog 5 #[] w fun (e : Ending) (w' : World) => e = .returned (.bool true) ∧ Go.RowKit.Below w.heap.size w w' := by
  obtain ⟨body, hb⟩ := Option.isSome_iff_exists.1 (show Tryz.f5.body.isSome = true by kernel_rfl)
  exact works_glob (runs 1000) Tryz.func5 hb (by decide +kernel) (by kernel_rfl) runW rfl hs hw
end Go.Proofs.YtedkimnbghpkeaaGreatDoor
