/- The closed facts of the row, each by itself. Conditions: none. -/
import Derived.Test.YtedkimnbghpkeaaGreatDoorRows
import Derived.ProofKit
import Derived.JoinedOf
import Derived.SevenTiedAt
import Derived.KernelRfl
namespace Go.Proofs.YtedkimnbghpkeaaGreatDoor
set_option maxRecDepth 100000
theorem jf12 : ((Rows.checkShapesRow.named == Tryz.prog.varsNamed 3)) = true := by kernel_rfl
theorem jf13 : ((Rows.checkShapesRow.maps == (Tryz.f3.params.toList ++ Rows.checkShapesSpec.plain.varTypes Tryz.prog).any (Tryz.prog.mapsRec ·))) = true := by kernel_rfl
theorem jf14 : ((Rows.checkShapesRow.ifaces == (Tryz.f3.params.toList ++ Rows.checkShapesSpec.plain.varTypes Tryz.prog).any (Tryz.prog.ifacesRec ·))) = true := by kernel_rfl
theorem jf15 : ((Rows.checkShapesRow.mapsOut == Tryz.prog.mapsAmong Tryz.f3.resultTypes.toList)) = true := by kernel_rfl
theorem jf16 : ((Rows.checkShapesRow.loops == (Tryz.f3.params.toList ++ Rows.checkShapesSpec.plain.varTypes Tryz.prog).any (Tryz.prog.loopsFrom ·))) = true := by kernel_rfl
theorem jf17 : ((Rows.checkShapesRow.wideKeys == (Tryz.f3.params.toList ++ Rows.checkShapesSpec.plain.varTypes Tryz.prog ++ Tryz.f3.resultTypes.toList).any (Tryz.prog.wideKeysFrom ·))) = true := by kernel_rfl
theorem jf18 : (Rows.checkShapesSpec.vars.all (Tryz.prog.varReadable ·)) = true := by kernel_rfl
theorem jf19 : (Tryz.f3.resultTypes.all (fun t => Tryz.prog.readableRec t && decide (t < Tryz.prog.types.size))) = true := by kernel_rfl
theorem jf20 : ((Rows.checkShapesRow.ifacesOut == Tryz.f3.resultTypes.toList.any (Tryz.prog.ifacesRec ·))) = true := by kernel_rfl
theorem jf21 : ((Rows.checkShapesRow.loopsOut == Tryz.f3.resultTypes.toList.any (Tryz.prog.loopsFrom ·))) = true := by kernel_rfl
theorem jf22 : ((Rows.checkShapesRow.plainKeys == Tryz.prog.plainKeys)) = true := by kernel_rfl
theorem jf23 : (Rows.checkShapesRow.shortTexts.isNone) = true := by kernel_rfl
theorem jf24 : (Tryz.prog.stopsHeard) = true := by kernel_rfl
theorem jf25 : (Tryz.prog.mayEnter) = true := by kernel_rfl
theorem jf26 : ((Rows.checkShapesRow.lifted == Tryz.prog.liftsFinal)) = true := by kernel_rfl
theorem jf27 : ((Tryz.prog.make == some Rows.checkShapesRow.make)) = true := by kernel_rfl
theorem jf28 : ((Rows.checkShapesRow.kinds == (if Rows.checkShapesRow.domain.isEmpty then [] else Tryz.f3.params.toList.map fun t => match Tryz.prog.underlying t with | some (.int k) => some k | _ => none))) = true := by kernel_rfl
theorem jf29 : ((Rows.checkShapesRow.pinned == Rows.checkShapesRow.pinnedBy)) = true := by kernel_rfl
theorem jf30 : ((Rows.checkShapesRow.veiled == (Tryz.f3.params.toList ++ Rows.checkShapesSpec.plain.varTypes Tryz.prog ++ Tryz.f3.resultTypes.toList).any (Tryz.prog.veiledRec ·))) = true := by kernel_rfl
theorem jf31 : (Rows.checkShapesRow.veiledFits Tryz.prog Tryz.f3.params.toList (Tryz.f3.params.toList ++ Rows.checkShapesSpec.plain.varTypes Tryz.prog ++ Tryz.f3.resultTypes.toList)) = true := by kernel_rfl
theorem fnNamed : Tryz.prog.funcNamed "armillary/armillarylaw16.CheckShapes" = some 3 := by kernel_rfl
theorem fnInst : Tryz.f3.isInstance Tryz.prog Rows.checkShapesRow.origin Rows.checkShapesRow.targs := of_decide_eq_true (by kernel_rfl)
theorem fnWrap : Tryz.f3.isWrapper Tryz.prog Rows.checkShapesRow.wrapper Rows.checkShapesRow.mainSum := by unfold Func.isWrapper; first | (rw [if_pos (by decide +kernel)]; kernel_rfl) | (rw [if_neg (by decide +kernel)]; exact ⟨rfl, rfl⟩)
theorem rowWf : Rows.checkShapesRow.wfByText (OpenSpec.ofChange Rows.checkShapesSpec) = true := by kernel_rfl
theorem rowMain : Tryz.prog.mainIs = some (true, ("ef41a6467278d12937d1b89db2b9cc5b44e92d8e82d88706d916785e8c99b04c" : String).toList) := by kernel_rfl
theorem rowLooks : true = Tryz.prog.looks [] := by kernel_rfl
end Go.Proofs.YtedkimnbghpkeaaGreatDoor
