/- What lies in the memory of the two reports. Conditions: none. -/
import Derived.Test.YtdgcjepbgamedaaGreatDoorUD0
import Derived.Deep.RegionHeld3
import Derived.Deep.RegionWith
namespace Go.Proofs.YtdgcjepbgamedaaGreatDoor
set_option linter.unusedSimpArgs false
set_option linter.unusedVariables false
open Go.RowKit Go.Lib

/-- a report whose slices are as slices are -/
def Rp.Ok (r : Rp) : Prop := (r.k ≤ r.c ∧ r.c ≤ maxLen ∧ (r.a = none → r.k = 0 ∧ r.c = 0)) ∧ r.l ≤ r.d ∧ r.d ≤ maxLen ∧ (r.b = none → r.l = 0 ∧ r.d = 0)

theorem DgRow.take {w : World} {a : Option Addr} {n m : Nat} {xs : List Dg} (h : DgRow w a n xs) (hm : m ≤ n) : DgRow w a m (xs.take m) := by
  obtain ⟨h1, h2⟩ := h
  refine ⟨by simp; omega, fun h0 => ?_⟩
  obtain ⟨b, o, e, hc⟩ := h2 (by omega)
  refine ⟨b, o, e, fun j hj i v hv => hc j (by omega) i v ?_⟩
  have e2 : (xs.take m)[j]! = xs[j]! := by
    rw [getElem!_pos _ j (by simp; omega), getElem!_pos _ j (by omega)]; simp
  rw [← e2]; exact hv
theorem ByRow.take {w : World} {a : Option Addr} {n m : Nat} {xs : List Int} (h : ByRow w a n xs) (hm : m ≤ n) : ByRow w a m (xs.take m) := by
  obtain ⟨h1, h2⟩ := h
  refine ⟨by simp; omega, fun h0 => ?_⟩
  obtain ⟨b, o, e, hc⟩ := h2 (by omega)
  refine ⟨b, o, e, fun j hj => ?_⟩
  rw [hc j (by omega)]
  simp [List.getD, hj]

/-- what lies in the two reports' memory -/
def Bx (W : World) (N : Nat) (p0 p1 p2 p3 q0 q1 q2 q3 : Value) : Prop :=
  W.cell? ⟨N, 0, none⟩ = some p0 ∧ W.cell? ⟨N, 1, none⟩ = some p1 ∧ W.cell? ⟨N, 2, none⟩ = some p2 ∧ W.cell? ⟨N, 3, none⟩ = some p3 ∧
  W.cell? ⟨N + 1, 0, none⟩ = some q0 ∧ W.cell? ⟨N + 1, 1, none⟩ = some q1 ∧ W.cell? ⟨N + 1, 2, none⟩ = some q2 ∧ W.cell? ⟨N + 1, 3, none⟩ = some q3 ∧
  W.frozen? ⟨N, 3, none⟩ = false ∧ W.frozen? ⟨N + 1, 3, none⟩ = false
theorem Bx.below {W W' : World} {N : Nat} {p0 p1 p2 p3 q0 q1 q2 q3 : Value} (h : Bx W N p0 p1 p2 p3 q0 q1 q2 q3) (hb : Below W.heap.size W W') : Bx W' N p0 p1 p2 p3 q0 q1 q2 q3 := by
  obtain ⟨z0, z1, z2, z3, z4, z5, z6, z7, f1, f2⟩ := h
  have a1 : N < W.heap.size := World.block_lt_of_cell? _ _ z0
  have a2 : N + 1 < W.heap.size := World.block_lt_of_cell? _ _ z4
  have c : ∀ (i : Nat), W'.cell? ⟨N, i, none⟩ = W.cell? ⟨N, i, none⟩ := fun i => hb.cell (p := ⟨N, i, none⟩) a1
  have d : ∀ (i : Nat), W'.cell? ⟨N + 1, i, none⟩ = W.cell? ⟨N + 1, i, none⟩ := fun i => hb.cell (p := ⟨N + 1, i, none⟩) a2
  exact ⟨(c 0).trans z0, (c 1).trans z1, (c 2).trans z2, (c 3).trans z3, (d 0).trans z4, (d 1).trans z5, (d 2).trans z6, (d 3).trans z7, (hb.frozen (p := ⟨N, 3, none⟩) a1).trans f1, (hb.frozen (p := ⟨N + 1, 3, none⟩) a2).trans f2⟩

theorem ByRow.setCell {w : World} {a : Option Addr} {n : Nat} {xs : List Int} {p : Addr} {v : Value} (h : ByRow w a n xs) (hne : ∀ ad, a = some ad → p.block ≠ ad.block) : ByRow (w.setCell p v) a n xs := by
  obtain ⟨h1, h2⟩ := h
  refine ⟨h1, fun h0 => ?_⟩
  obtain ⟨b, o, e, hc⟩ := h2 h0
  refine ⟨b, o, e, fun j hj => ?_⟩
  exact (World.cell?_setCell_far w p ⟨b, o + j, none⟩ v (fun h => hne _ e h)).trans (hc j hj)
theorem bx_set {W : World} {N : Nat} {p0 p1 p2 p3 q0 q1 q2 q3 : Value} (h : Bx W N p0 p1 p2 p3 q0 q1 q2 q3) (u v : Value) : Bx ((W.setCell ⟨N, 3, none⟩ u).setCell ⟨N + 1, 3, none⟩ v) N p0 p1 p2 u q0 q1 q2 v := by
  obtain ⟨z0, z1, z2, z3, z4, z5, z6, z7, f1, f2⟩ := h
  have far : ∀ i, ((W.setCell ⟨N, 3, none⟩ u).setCell ⟨N + 1, 3, none⟩ v).cell? ⟨N, i, none⟩ = (W.setCell ⟨N, 3, none⟩ u).cell? ⟨N, i, none⟩ := fun i => World.cell?_setCell_far _ _ _ _ (by simp)
  have far2 : ∀ i, (W.setCell ⟨N, 3, none⟩ u).cell? ⟨N + 1, i, none⟩ = W.cell? ⟨N + 1, i, none⟩ := fun i => World.cell?_setCell_far _ _ _ _ (by simp)
  have o1 : ∀ i, i ≠ 3 → (W.setCell ⟨N, 3, none⟩ u).cell? ⟨N, i, none⟩ = W.cell? ⟨N, i, none⟩ := fun i hi => by
    apply World.cell?_setCell_other
    intro h; injection h with _ h _; exact hi h.symm
  have o2 : ∀ i, i ≠ 3 → ((W.setCell ⟨N, 3, none⟩ u).setCell ⟨N + 1, 3, none⟩ v).cell? ⟨N + 1, i, none⟩ = (W.setCell ⟨N, 3, none⟩ u).cell? ⟨N + 1, i, none⟩ := fun i hi => by
    apply World.cell?_setCell_other
    intro h; injection h with _ h _; exact hi h.symm
  refine ⟨(far 0).trans ((o1 0 (by decide)).trans z0), (far 1).trans ((o1 1 (by decide)).trans z1), (far 2).trans ((o1 2 (by decide)).trans z2), (far 3).trans ?_, (o2 0 (by decide)).trans ((far2 0).trans z4), (o2 1 (by decide)).trans ((far2 1).trans z5), (o2 2 (by decide)).trans ((far2 2).trans z6), ?_, ?_, ?_⟩
  · apply World.cell?_setCell_same; exact z3
  · apply World.cell?_setCell_same; exact (far2 3).trans z7
  · simp only [World.frozen?_setCell]; exact f1
  · simp only [World.frozen?_setCell]; exact f2

theorem Dg.eq_refl (x : Dg) : Dg.eq x x = true := by simp [Dg.eq]
theorem Rp.eq_refl (r : Rp) : Rp.eq r r = true := by
  unfold Rp.eq
  rw [Lib.allEq_all Dg.eq r.xs r.xs rfl (fun j _ => Dg.eq_refl _)]
  simp
theorem Rp.In.below {w w' : World} {r : Rp} (h : r.In w) (hb : Below w.heap.size w w') : r.In w' := ⟨h.1.below hb, h.2.below hb⟩
/-- the two reports' cells -/
def Cells (N : Nat) (p0 p1 p2 p3 q0 q1 q2 q3 : Value) (W : World) : Prop :=
  (W.cell? ⟨N, 0, none⟩ = some p0 ∧ W.cell? ⟨N, 1, none⟩ = some p1 ∧ W.cell? ⟨N, 2, none⟩ = some p2 ∧ W.cell? ⟨N, 3, none⟩ = some p3) ∧
    W.cell? ⟨N + 1, 0, none⟩ = some q0 ∧ W.cell? ⟨N + 1, 1, none⟩ = some q1 ∧ W.cell? ⟨N + 1, 2, none⟩ = some q2 ∧ W.cell? ⟨N + 1, 3, none⟩ = some q3
theorem Bx.cells {N : Nat} {p0 p1 p2 p3 q0 q1 q2 q3 : Value} {W : World} (h : Bx W N p0 p1 p2 p3 q0 q1 q2 q3) : Cells N p0 p1 p2 p3 q0 q1 q2 q3 W :=
  let ⟨z0, z1, z2, z3, z4, z5, z6, z7, _, _⟩ := h
  ⟨⟨z0, z1, z2, z3⟩, z4, z5, z6, z7⟩
end Go.Proofs.YtdgcjepbgamedaaGreatDoor
