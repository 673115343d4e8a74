/- The closed facts of the row, each by itself. Conditions: none. -/
import Derived.Test.YtdgcjepbgamedaaGreatDoorRows
import Derived.ProofKit
import Derived.JoinedOf
import Derived.SevenTiedAt
import Derived.KernelRfl
namespace Go.Proofs.YtdgcjepbgamedaaGreatDoor
set_option maxRecDepth 100000
theorem jf12 : ((Rows.moduleSameRow.named == Tryz.prog.varsNamed 3)) = true := by kernel_rfl
theorem jf13 : ((Rows.moduleSameRow.maps == (Tryz.f3.params.toList ++ Rows.moduleSameSpec.plain.varTypes Tryz.prog).any (Tryz.prog.mapsRec ·))) = true := by kernel_rfl
theorem jf14 : ((Rows.moduleSameRow.ifaces == (Tryz.f3.params.toList ++ Rows.moduleSameSpec.plain.varTypes Tryz.prog).any (Tryz.prog.ifacesRec ·))) = true := by kernel_rfl
theorem jf15 : ((Rows.moduleSameRow.mapsOut == Tryz.prog.mapsAmong Tryz.f3.resultTypes.toList)) = true := by kernel_rfl
theorem jf16 : ((Rows.moduleSameRow.loops == (Tryz.f3.params.toList ++ Rows.moduleSameSpec.plain.varTypes Tryz.prog).any (Tryz.prog.loopsFrom ·))) = true := by kernel_rfl
theorem jf17 : ((Rows.moduleSameRow.wideKeys == (Tryz.f3.params.toList ++ Rows.moduleSameSpec.plain.varTypes Tryz.prog ++ Tryz.f3.resultTypes.toList).any (Tryz.prog.wideKeysFrom ·))) = true := by kernel_rfl
theorem jf18 : (Rows.moduleSameSpec.vars.all (Tryz.prog.varReadable ·)) = true := by kernel_rfl
theorem jf19 : (Tryz.f3.resultTypes.all (fun t => Tryz.prog.readableRec t && decide (t < Tryz.prog.types.size))) = true := by kernel_rfl
theorem jf20 : ((Rows.moduleSameRow.ifacesOut == Tryz.f3.resultTypes.toList.any (Tryz.prog.ifacesRec ·))) = true := by kernel_rfl
theorem jf21 : ((Rows.moduleSameRow.loopsOut == Tryz.f3.resultTypes.toList.any (Tryz.prog.loopsFrom ·))) = true := by kernel_rfl
theorem jf22 : ((Rows.moduleSameRow.plainKeys == Tryz.prog.plainKeys)) = true := by kernel_rfl
theorem jf23 : (Rows.moduleSameRow.shortTexts.isNone) = true := by kernel_rfl
theorem jf24 : (Tryz.prog.stopsHeard) = true := by kernel_rfl
theorem jf25 : (Tryz.prog.mayEnter) = true := by kernel_rfl
theorem jf26 : ((Rows.moduleSameRow.lifted == Tryz.prog.liftsFinal)) = true := by kernel_rfl
theorem jf27 : ((Tryz.prog.make == some Rows.moduleSameRow.make)) = true := by kernel_rfl
theorem jf28 : ((Rows.moduleSameRow.kinds == (if Rows.moduleSameRow.domain.isEmpty then [] else Tryz.f3.params.toList.map fun t => match Tryz.prog.underlying t with | some (.int k) => some k | _ => none))) = true := by kernel_rfl
theorem jf29 : ((Rows.moduleSameRow.pinned == Rows.moduleSameRow.pinnedBy)) = true := by kernel_rfl
theorem jf30 : ((Rows.moduleSameRow.veiled == (Tryz.f3.params.toList ++ Rows.moduleSameSpec.plain.varTypes Tryz.prog ++ Tryz.f3.resultTypes.toList).any (Tryz.prog.veiledRec ·))) = true := by kernel_rfl
theorem jf31 : (Rows.moduleSameRow.veiledFits Tryz.prog Tryz.f3.params.toList (Tryz.f3.params.toList ++ Rows.moduleSameSpec.plain.varTypes Tryz.prog ++ Tryz.f3.resultTypes.toList)) = true := by kernel_rfl
theorem fnNamed : Tryz.prog.funcNamed "armillary/armillarylaw17.ModuleSame" = some 3 := by kernel_rfl
theorem fnInst : Tryz.f3.isInstance Tryz.prog Rows.moduleSameRow.origin Rows.moduleSameRow.targs := of_decide_eq_true (by kernel_rfl)
theorem fnWrap : Tryz.f3.isWrapper Tryz.prog Rows.moduleSameRow.wrapper Rows.moduleSameRow.mainSum := by unfold Func.isWrapper; first | (rw [if_pos (by decide +kernel)]; kernel_rfl) | (rw [if_neg (by decide +kernel)]; exact ⟨rfl, rfl⟩)
theorem rowWf : Rows.moduleSameRow.wfByText (OpenSpec.ofChange Rows.moduleSameSpec) = true := by kernel_rfl
theorem rowMain : Tryz.prog.mainIs = some (true, ("1b9a7ea7e9e0f5dca0937484c99634f9da6f501b54558e3123a9be663accec3a" : String).toList) := by kernel_rfl
theorem rowLooks : true = Tryz.prog.looks [] := by kernel_rfl
theorem noStand : ([25, 25].all fun u => !Tryz.prog.wantsStandIn u) = true := by kernel_rfl
end Go.Proofs.YtdgcjepbgamedaaGreatDoor
