/- The table in which works() and Bring are met by their theorems, and a run of the law with two numbers that are not known, of which is told what they are when they are brought below 64 and 6. Conditions: none. -/
import Derived.Test.YtedkimnbghpkeaaGreatDoorEvY
import Derived.Test.YtedkimnbghpkeaaGreatDoorEv5
import Derived.KernelRfl
namespace Go.Proofs.YtedkimnbghpkeaaGreatDoor
open Go Go.Ev
set_option linter.unusedSectionVars false
noncomputable def tabB (tab : List (Nat × Nat × Nat)) (c : C3) : C3 := putF ⟨.d0, .d0, .d4⟩ (bringK tab c) (tabY c)
noncomputable def evB (tab : List (Nat × Nat × Nat)) : Nat → C3 := @Nat.rec (fun _ => C3) badC (fun _ ih => tabB tab ih)
noncomputable def runC (m k : Nat) : Ans := Go.Ev.runN gl0 (evB [(0, 64, m), (1, 6, k)] 1000) ⟨.d0, .d0, .d3⟩ [anyV 0, anyV 1]
theorem runC_eq (m k : Nat) : runC m k = Go.Ev.runN gl0 (evB [(0, 64, m), (1, 6, k)] 1000) ⟨.d0, .d0, .d3⟩ [anyV 0, anyV 1] := by delta runC; rfl
attribute [irreducible] runC
noncomputable abbrev hkB (tab : List (Nat × Nat × Nat)) : Nat → Option (C3 → Fun) := hookB 4 tab hk1
section
variable [Sym]
set_option maxRecDepth 1000000 in
theorem gB (tab : List (Nat × Nat × Nat)) (c : C3) (g : G3) : disp (tabB tab c) g = fnOf PP rfs0 (hkB tab) g.val c := by
  have e : bringK tab c = fnOf PP rfs0 (hkB tab) 4 c := (fnOf_bring (P := PP) (rfs := rfs0) (hk := hk1) (ib := 4) (tab := tab) (by kernel_rfl)).symm
  have v : G3.val ⟨.d0, .d0, .d4⟩ = 4 := rfl
  have e3 : ∀ i, Nat.beq i (G3.val ⟨.d0, .d0, .d4⟩) = false → hkB tab i = hk1 i := fun i h => by rw [v] at h; exact hookB_ne h
  have e2 : bringK tab c = fnOf PP rfs0 (hkB tab) (G3.val ⟨.d0, .d0, .d4⟩) c := by rw [v]; exact e
  have e5 := putF_ok (P := PP) (rfs := rfs0) (hk := hk1) (hk' := hkB tab) (t := tabY c) (g := ⟨.d0, .d0, .d4⟩) (f := bringK tab c) (fun g' => gY c g') e2 e3 g
  unfold tabB
  exact e5
end
end Go.Proofs.YtedkimnbghpkeaaGreatDoor
