/- CheckShapes: the law returns true, whatever the two numbers and the memory that the row lets in; what the row lists of package-level variables is tied to the program's text. Conditions: the row's own. -/
import Derived.Test.YtedkimnbghpkeaaGreatDoorFacts3
import Derived.Test.YtedkimnbghpkeaaGreatDoorGoes
import Derived.Test.YtedkimnbghpkeaaGreatDoorEvG
import Derived.Test.YtedkimnbghpkeaaGreatDoorEvZ
import Derived.Test.YtedkimnbghpkeaaGreatDoorTie
import Derived.Test.YtedkimnbghpkeaaGreatDoorCards
import Derived.JoinedOf
import Derived.ProofKit
import Derived.LaidMore
import Derived.OpenShut
import Derived.Stop.Joined
import Derived.Carry
import Derived.SevenTiedAt
namespace Go.Proofs.YtedkimnbghpkeaaGreatDoor
open Go.ChangeShapes Go.WideShapes Go.ChangeAt Go.WideMaps Go.WideElems Go.RowKit

theorem own : ownKnob Tryz.prog.godebug = none := by kernel_rfl
theorem door_met (os : Os) (args : Array Value) : laidMetH Tryz.prog Rows.checkShapesRow.laid ((World.doorLaid Tryz.prog 100 os).forCall (fun _ _ => 0) ⟨#[], args, []⟩).memory :=
  laidMetH_of_parts3 (fuel := 8) (laidMet_of_run' 8 (by kernel_rfl) (by kernel_rfl)) (by kernel_rfl) (by kernel_rfl)
theorem int_wf {n : Int} (h : (Lit.int .i64 n).wf = true) : -9223372036854775808 ≤ n ∧ n ≤ 9223372036854775807 := by
  simp [Lit.wf, IntKind.min, IntKind.max, IntKind.signed, IntKind.bits] at h
  omega
theorem shapes {W : World} (hs : W.ShapedOpen Tryz.prog) (hl : laidMetH Tryz.prog Rows.checkShapesRow.laid W) (a b : Int) (ha : (Lit.int .i64 a).wf = true) (hb : (Lit.int .i64 b).wf = true) :
    Calls Tryz.prog 3 #[.int .i64 a, .int .i64 b] W fun (e : Ending) (w' : World) => e = .returned (.bool true) ∧ Below W.heap.size W w' :=
  letI S : Go.Ev.Sym := ⟨fun i => if i = 0 then a else b⟩
  shapesS (fun i => by
    show -9223372036854775808 ≤ (if i = 0 then a else b) ∧ (if i = 0 then a else b) ≤ 9223372036854775807
    split
    · exact int_wf ha
    · exact int_wf hb) W (fun g et n vs e => gl_holds hs hl g et n vs e) (by
    obtain ⟨xs, lo, hi, h1, h2⟩ := gl_holds hs hl 7 _ _ _ rfl
    exact (Array.getElem?_eq_some_iff.1 h2).1)

set_option maxRecDepth 100000 in
theorem lifted (os : Os) (started : os.Started) (H : Type) (enc : TypeId × Value → H) :
    ReturnsInHanded {} Tryz.checked os 3 .any (fun w args => (Rows.checkShapesSpec.pre enc Tryz.prog Tryz.f3 [] false w args ∧ laidMetH Tryz.prog Rows.checkShapesRow.laid w) ∧ sizedMet enc Tryz.prog Tryz.f3 (OpenSpec.ofChange Rows.checkShapesSpec) false w args)
      (Rows.checkShapesSpec.post enc Tryz.prog Tryz.f3 false true false false) := by
  refine Go.Ev.returnsInHanded_of_shaped (C := Tryz.checked) (X := fun w _ => laidMetH Tryz.prog Rows.checkShapesRow.laid w) (fun _ _ _ hh h => h.of_heap hh) own started (by kernel_rfl) Tryz.func3
    (ChangeSpec.witness_shaped (enc := enc) (C := Tryz.checked) (os := os) (X := fun w _ => laidMetH Tryz.prog Rows.checkShapesRow.laid w) false (World.doorLaid Tryz.prog 100 os) #[.int .i64 0, .int .i64 0] 8 rfl (World.shaped_of_RefB (by kernel_rfl) (by kernel_rfl)) (by kernel_rfl) (by kernel_rfl) (by kernel_rfl) (door_met os _)) ?_
  intro W base args ds gs before hsh hval0 hW hL
  have hval : ∀ (j : Nat) t v, Tryz.f3.params[j]? = some t → args[j]? = some v → Value.okWide Tryz.prog W .any base t v := hval0
  have hW' := hW
  obtain ⟨p, q, hA0, hV, rfl, hfz, hnd⟩ := hW
  have hA : DataW.TrodAll enc Tryz.prog W 0 (fun _ => true) true Tryz.f3.params.toList args.toList ds p := hA0
  rw [Tryz.params3] at hA hval
  obtain ⟨v0, v1, d0, d1, p0, p1, rfl, rfl, rfl, h0, h1⟩ := trodAll_two hA
  obtain ⟨rfl, rfl⟩ := trodVars_none hV
  obtain ⟨a, rfl, rfl, rfl, ha⟩ := open_int Tryz.underlying3 (hval 0 3 _ rfl rfl) h0
  obtain ⟨b, rfl, rfl, rfl, hb⟩ := open_int Tryz.underlying3 (hval 1 3 _ rfl rfl) h1
  refine (shapes hsh hL a b ha hb).mono fun e W' ⟨he, hbe⟩ => ?_
  subst he
  refine ⟨_, rfl, _, _, _, [], _, [], hW', trodAll_mk1 (shut_bool Tryz.underlying4 _), trodAll_mk2 (shut_int Tryz.underlying3 ha) (shut_int Tryz.underlying3 hb), rfl, hbe.frame _, fun h => by cases h⟩

theorem said_holds : Rows.CheckShapesSaid :=
  OpenClaim.holds_of_wide 3 Tryz.f3 rfl rfl rfl rfl rfl rfl rfl ⟨rfl, rfl, rfl, rfl, rfl⟩ rfl rfl rfl rfl rfl fnNamed Tryz.func3 jfAll fnInst fnWrap
    (fun os started H enc _ => lifted os started H enc)
theorem noStand : ([3, 3].all fun u => !Tryz.prog.wantsStandIn u) = true := by kernel_rfl
theorem card_holds : Rows.CheckShapesCardSaid :=
  Claim7.holds_tied_plain_at .later [] [.data, .data, .data, .sentinel, .sentinel, .data, .data] true (true, "ef41a6467278d12937d1b89db2b9cc5b44e92d8e82d88706d916785e8c99b04c") true
    said_holds (fun _ h => by cases h) rowWf (fun _ h => by cases h) checkShapes_row_tie rfl ⟨rfl, rfl⟩ rowMain rfl
    (fun f fn hf hfn => by
      obtain rfl : f = 3 := Option.some.inj (fnNamed.symm.trans hf) |>.symm
      obtain rfl : fn = Tryz.f3 := (Option.some.inj (Tryz.func3.symm.trans hfn)).symm
      exact ⟨rowLooks, fun j t ht => by
        rw [Tryz.params3] at ht
        have hm : t ∈ [3, 3] := by simpa using Array.mem_of_getElem? ht
        exact (show Tryz.prog.wantsStandIn t = false by simpa using List.all_eq_true.1 noStand t hm)⟩)
    rowGoes
#print axioms card_holds
end Go.Proofs.YtedkimnbghpkeaaGreatDoor
