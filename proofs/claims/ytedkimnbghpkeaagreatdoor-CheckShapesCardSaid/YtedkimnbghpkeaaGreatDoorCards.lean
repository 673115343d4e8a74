/-
  DERIVED. GIVEN WITH THE SEED: THE CARDS: each row of YtedkimnbghpkeaaGreatDoorRows.lean that lists a variable, with what it lists TIED to the program's text (the seventh form; the later family's looks); each row that meets fmt, with fmt's text TOLD by the authors' own Lean function (tested against real Go, not proved from fmt's source: count such statements apart). THE CARD IS WHAT COUNTS. Prove the row's statement (the work); the ties are given (YtedkimnbghpkeaaGreatDoorTie.lean); close each card by the builder's one call (the guide's Derived/Test/ToyasCard.lean, 'card_holds'). Laid BY PROGRAM, IN A SANDBOX (cutbox-door.mjs). By AI agents, Wed Nov 11 2026. No macro, syntax, notation, axiom, sorry.
-/
import Derived.Test.YtedkimnbghpkeaaGreatDoorRows
import GoSem.ClaimSeven
namespace Go.Proofs.YtedkimnbghpkeaaGreatDoor
namespace Rows

/-- THE TIED CARD OF 'armillarylaw16.CheckShapes'. -/
def checkShapesCard : Claim7 := { stood := { row := checkShapesRow, standIns := [], harness := (true, "ef41a6467278d12937d1b89db2b9cc5b44e92d8e82d88706d916785e8c99b04c"), looks := true }, kinds := [], alts := [], laidByText := true, laidKinds := [.data, .data, .data, .sentinel, .sentinel, .data, .data], laidTests := true, laidLooks := .later }
def CheckShapesCardSaid : Prop := Claim7.holds Tryz.pinned (.plain (OpenSpec.ofChange checkShapesSpec)) checkShapesCard

/-- THE SECOND FORM's CARD OF 'armillarylaw16.CheckShapes'. -/
def checkShapesUptoCard : Claim7 := { stood := { row := checkShapesUptoRow, standIns := [], harness := (true, "ef41a6467278d12937d1b89db2b9cc5b44e92d8e82d88706d916785e8c99b04c"), looks := true }, kinds := [], alts := [], laidByText := true, laidKinds := [.data, .data, .data, .sentinel, .sentinel, .data, .data], laidTests := true, laidLooks := .later }
def CheckShapesUptoCardSaid : Prop := Claim7.holds Tryz.pinned (.plain (OpenSpec.upto checkShapesSpec)) checkShapesUptoCard
end Rows
end Go.Proofs.YtedkimnbghpkeaaGreatDoor
