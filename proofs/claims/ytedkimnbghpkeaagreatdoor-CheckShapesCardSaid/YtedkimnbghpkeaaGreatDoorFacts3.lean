/- The closed facts of the row, together. Conditions: none. -/
import Derived.Test.YtedkimnbghpkeaaGreatDoorFacts1
import Derived.Test.YtedkimnbghpkeaaGreatDoorFacts2
namespace Go.Proofs.YtedkimnbghpkeaaGreatDoor
set_option maxRecDepth 100000
theorem jfAll : joinedFacts Tryz.prog 3 Tryz.f3 Rows.checkShapesSpec Rows.checkShapesRow = true := by
  unfold joinedFacts
  simp only [Bool.and_eq_true]
  exact ⟨⟨⟨⟨⟨⟨⟨⟨⟨⟨⟨⟨⟨⟨⟨⟨⟨⟨⟨⟨⟨⟨⟨⟨⟨⟨⟨⟨⟨⟨⟨jf0, jf1⟩, jf2⟩, jf3⟩, jf4⟩, jf5⟩, jf6⟩, jf7⟩, jf8⟩, jf9⟩, jf10⟩, jf11⟩, jf12⟩, jf13⟩, jf14⟩, jf15⟩, jf16⟩, jf17⟩, jf18⟩, jf19⟩, jf20⟩, jf21⟩, jf22⟩, jf23⟩, jf24⟩, jf25⟩, jf26⟩, jf27⟩, jf28⟩, jf29⟩, jf30⟩, jf31⟩
end Go.Proofs.YtedkimnbghpkeaaGreatDoor
