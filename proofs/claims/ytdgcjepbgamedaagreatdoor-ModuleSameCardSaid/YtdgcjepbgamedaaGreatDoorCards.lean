/-
  DERIVED. GIVEN WITH THE SEED: THE CARDS: each row of YtdgcjepbgamedaaGreatDoorRows.lean that lists a variable, with what it lists TIED to the program's text (the seventh form; the later family's looks); each row that meets fmt, with fmt's text TOLD by the authors' own Lean function (tested against real Go, not proved from fmt's source: count such statements apart). THE CARD IS WHAT COUNTS. Prove the row's statement (the work); the ties are given (YtdgcjepbgamedaaGreatDoorTie.lean); close each card by the builder's one call (the guide's Derived/Test/ToyasCard.lean, 'card_holds'). Laid BY PROGRAM, IN A SANDBOX (cutbox-door.mjs). By AI agents, Wed Nov 11 2026. No macro, syntax, notation, axiom, sorry.
-/
import Derived.Test.YtdgcjepbgamedaaGreatDoorRows
import GoSem.ClaimSeven
namespace Go.Proofs.YtdgcjepbgamedaaGreatDoor
namespace Rows

/-- THE TIED CARD OF 'armillarylaw17.ModuleSame'. -/
def moduleSameCard : Claim7 := { stood := { row := moduleSameRow, standIns := [], harness := (true, "1b9a7ea7e9e0f5dca0937484c99634f9da6f501b54558e3123a9be663accec3a"), looks := true }, kinds := [], alts := [], laidByText := true, laidKinds := [.data, .data, .sentinel, .sentinel, .data, .data, .data], laidTests := true, laidLooks := .later }
def ModuleSameCardSaid : Prop := Claim7.holds Tryz.pinned (.plain (OpenSpec.ofChange moduleSameSpec)) moduleSameCard

/-- THE SECOND FORM's CARD OF 'armillarylaw17.ModuleSame'. -/
def moduleSameUptoCard : Claim7 := { stood := { row := moduleSameUptoRow, standIns := [], harness := (true, "1b9a7ea7e9e0f5dca0937484c99634f9da6f501b54558e3123a9be663accec3a"), looks := true }, kinds := [], alts := [], laidByText := true, laidKinds := [.data, .data, .sentinel, .sentinel, .data, .data, .data], laidTests := true, laidLooks := .later }
def ModuleSameUptoCardSaid : Prop := Claim7.holds Tryz.pinned (.plain (OpenSpec.upto moduleSameSpec)) moduleSameUptoCard
end Rows
end Go.Proofs.YtdgcjepbgamedaaGreatDoor
