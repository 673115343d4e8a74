/- ModuleSame: whatever the input that the row lets in, the law returns true, and the input reads as it did; what the row lists of package-level variables is tied to the program's text. Conditions: the row's own. -/
import Derived.Test.YtdgcjepbgamedaaGreatDoorUD
import Derived.Test.YtdgcjepbgamedaaGreatDoorUC
import Derived.Test.YtdgcjepbgamedaaGreatDoorFacts3
import Derived.Test.YtdgcjepbgamedaaGreatDoorGoes
import Derived.JoinedOf
import Derived.Test.YtdgcjepbgamedaaGreatDoorEvG
import Derived.Test.YtdgcjepbgamedaaGreatDoorEvR
import Derived.Test.YtdgcjepbgamedaaGreatDoorTieB
import Derived.Test.YtdgcjepbgamedaaGreatDoorCards
import Derived.Test.YtdgcjepbgamedaaGreatDoorEv3
import Derived.ProofKit
import Derived.LaidMore
import Derived.OpenShut
import Derived.Stop.Joined
import Derived.Carry
import Derived.SevenTiedAt
namespace Go.Proofs.YtdgcjepbgamedaaGreatDoor
open Go.ChangeShapes Go.WideShapes Go.ChangeAt Go.WideMaps Go.WideElems Go.RowKit

theorem own : ownKnob Tryz.prog.godebug = none := by kernel_rfl
theorem laidOut : laidOutB Tryz.prog = true := by kernel_rfl
def nilRep : Value := .agg #[.string ByteArray.empty, .int .i64 0, .slice none 0 0, .slice none 0 0]
theorem door_met (os : Os) (args : Array Value) : laidMetH Tryz.prog Rows.moduleSameRow.laid ((World.doorLaid Tryz.prog 72 os).forCall (fun _ _ => 0) ⟨#[], args, []⟩).memory :=
  laidMetH_of_parts3 (fuel := 8) (laidMet_of_run' 8 (by kernel_rfl) (by kernel_rfl)) (by kernel_rfl) (by kernel_rfl)
theorem works_any {W : World} (hs : W.ShapedOpen Tryz.prog) (hl : laidMetH Tryz.prog Rows.moduleSameRow.laid W) (w : World) (hb : Below W.heap.size W w) :
    Calls Tryz.prog 7 #[] w fun (e : Ending) (w' : World) => e = .returned (.bool true) ∧ Below w.heap.size w w' :=
  works17 w (fun g et n vs e => by
    obtain ⟨xs, lo, hi, h1, h2⟩ := gl_holds hs hl g et n vs e
    exact ⟨xs, lo, hi, h1, by rw [hb.block g (Array.getElem?_eq_some_iff.1 h2).1]; exact h2⟩) (by
    obtain ⟨xs, lo, hi, h1, h2⟩ := gl_holds hs hl 7 _ _ _ rfl
    have := (Array.getElem?_eq_some_iff.1 h2).1
    have := hb.size
    omega)

set_option maxRecDepth 100000 in
theorem lifted (os : Os) (started : os.Started) (H : Type) (enc : TypeId × Value → H) :
    ReturnsInHanded {} Tryz.checked os 3 .any (fun w args => (Rows.moduleSameSpec.pre enc Tryz.prog Tryz.f3 [] false w args ∧ laidMetH Tryz.prog Rows.moduleSameRow.laid w) ∧ sizedMet enc Tryz.prog Tryz.f3 (OpenSpec.ofChange Rows.moduleSameSpec) false w args)
      (Rows.moduleSameSpec.post enc Tryz.prog Tryz.f3 false true false false) := by
  refine Go.Ev.returnsInHanded_of_shaped (C := Tryz.checked) (X := fun w _ => laidMetH Tryz.prog Rows.moduleSameRow.laid w) (fun _ _ _ hh h => h.of_heap hh) own started (by kernel_rfl) Tryz.func3
    (ChangeSpec.witness_shaped (enc := enc) (C := Tryz.checked) (os := os) (X := fun w _ => laidMetH Tryz.prog Rows.moduleSameRow.laid w) false (World.doorLaid Tryz.prog 72 os) #[nilRep, nilRep] 8 rfl (World.shaped_of_RefB (by kernel_rfl) (by kernel_rfl)) (by kernel_rfl) (by kernel_rfl) (by kernel_rfl) (door_met os _)) ?_
  intro W base args ds gs before hsh hval0 hW hL
  have hval : ∀ (j : Nat) t v, Tryz.f3.params[j]? = some t → args[j]? = some v → Value.okWide Tryz.prog W .any base t v := hval0
  have hW' := hW
  obtain ⟨p, q, hA0, hV, rfl, hfz, hnd⟩ := hW
  have hA : DataW.TrodAll enc Tryz.prog W 0 (fun _ => true) true Tryz.f3.params.toList args.toList ds p := hA0
  rw [Tryz.params3] at hA hval
  obtain ⟨v0, v1, d0, d1, p0, p1, rfl, rfl, rfl, h0, h1⟩ := trodAll_two hA
  obtain ⟨rfl, rfl⟩ := trodVars_none hV
  have h0k := h0
  have h1k := h1
  have hlt0 : ∀ x ∈ p0, x.block < W.heap.size := fun x hx => by simpa using hW'.lt x (by simp [hx])
  have hlt1 : ∀ x ∈ p1, x.block < W.heap.size := fun x hx => by simpa using hW'.lt x (by simp [hx])
  obtain ⟨r, rfl, hr, hrk⟩ := open_rep (hval 0 25 _ rfl rfl) h0
  obtain ⟨s, rfl, hq, hqk⟩ := open_rep (hval 1 25 _ rfl rfl) h1
  refine (moduleSame r s W hr hq hrk hqk (works_any hsh hL)).mono fun e W' ⟨he, hb⟩ => ?_
  subst he
  refine ⟨_, rfl, _, _, _, [], _, [], hW', trodAll_mk1 (shut_bool Tryz.underlying4 _), trodAll_mk2 (Below.trod laidOut (by kernel_rfl) (of_decide_eq_true (by kernel_rfl)) h0k hb hlt0) (Below.trod laidOut (by kernel_rfl) (of_decide_eq_true (by kernel_rfl)) h1k hb hlt1), rfl, hb.frame _, fun h => by cases h⟩

theorem moduleSame_holds : Rows.ModuleSameSaid :=
  OpenClaim.holds_of_wide 3 Tryz.f3 rfl rfl rfl rfl rfl rfl rfl ⟨rfl, rfl, rfl, rfl, rfl⟩ rfl rfl rfl rfl rfl fnNamed Tryz.func3 jfAll fnInst fnWrap
    (fun os started H enc _ => lifted os started H enc)
theorem card_holds : Rows.ModuleSameCardSaid :=
  Claim7.holds_tied_plain_at .later [] [.data, .data, .sentinel, .sentinel, .data, .data, .data] true (true, "1b9a7ea7e9e0f5dca0937484c99634f9da6f501b54558e3123a9be663accec3a") true
    moduleSame_holds (fun _ h => by cases h) rowWf (fun _ h => by cases h) row_tieB rfl ⟨rfl, rfl⟩ rowMain rfl
    (fun f fn hf hfn => by
      obtain rfl : f = 3 := Option.some.inj (fnNamed.symm.trans hf) |>.symm
      obtain rfl : fn = Tryz.f3 := (Option.some.inj (Tryz.func3.symm.trans hfn)).symm
      exact ⟨rowLooks, fun j t ht => by
        rw [Tryz.params3] at ht
        have hm : t ∈ [25, 25] := by simpa using Array.mem_of_getElem? ht
        exact (show Tryz.prog.wantsStandIn t = false by simpa using List.all_eq_true.1 noStand t hm)⟩)
    rowGoes
#print axioms card_holds
end Go.Proofs.YtdgcjepbgamedaaGreatDoor
