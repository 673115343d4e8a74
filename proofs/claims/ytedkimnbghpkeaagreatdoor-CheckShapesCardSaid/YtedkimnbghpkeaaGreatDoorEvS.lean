/- works() met by its theorem. Conditions: none. -/
import Derived.Test.YtedkimnbghpkeaaGreatDoorEvY
import Derived.Test.YtedkimnbghpkeaaGreatDoorEvR
namespace Go.Proofs.YtedkimnbghpkeaaGreatDoor
open Go Go.Ev
set_option linter.unusedSectionVars false
variable [Sym]
theorem hooked1 : HookOk PP (rtOf PP rfs0) hk1 := by
  obtain ⟨body, hb⟩ := Option.isSome_iff_exists.1 (show Tryz.f5.body.isSome = true by kernel_rfl)
  exact works_hook hooked Tryz.func5 hb (by decide +kernel) rfl (fun w hw hs => worksT w hw hs)
end Go.Proofs.YtedkimnbghpkeaaGreatDoor
