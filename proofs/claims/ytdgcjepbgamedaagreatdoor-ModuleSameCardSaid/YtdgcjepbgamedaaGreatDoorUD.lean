/- The law's own walk. Conditions: the slices' cells are there, works() is true. -/
import Derived.Test.YtdgcjepbgamedaaGreatDoorUDa
import Derived.Deep.RegionHeld3
import Derived.Deep.RegionWith
import Derived.Test.YtdgcjepbgamedaaGreatDoorUL
namespace Go.Proofs.YtdgcjepbgamedaaGreatDoor
set_option linter.unusedSimpArgs false
set_option linter.unusedVariables false
open Go.RowKit Go.Lib

set_option maxHeartbeats 4000000 in
set_option maxRecDepth 100000 in
theorem moduleSame (r q : Rp) (w : World) (hr : r.In w) (hq : q.In w) (hrk : r.Ok) (hqk : q.Ok)
    (hwk : ∀ w', Below w.heap.size w w' → Calls Tryz.prog 7 #[] w' fun (e : Ending) (w'' : World) => e = .returned (.bool true) ∧ Below w'.heap.size w' w'') :
    Calls Tryz.prog 3 #[r.v, q.v] w fun e w' => e = .returned (.bool true) ∧ Below w.heap.size w w' := by
  obtain ⟨s1, n1, a1, k1, c1, xs, b1, l1, d1, us⟩ := r
  obtain ⟨s2, n2, a2, k2, c2, ys, b2, l2, d2, vs⟩ := q
  obtain ⟨hx, hu⟩ := hr
  obtain ⟨hy, hv⟩ := hq
  simp only [Rp.v] at *
  have X := Lib.hid (And.intro (And.intro hx hu) (And.intro hy hv))
  have HW := Lib.hid hwk
  have K := Lib.hid (And.intro hrk hqk)
  have mixed := mixed
  clear hx hu hy hv hwk hrk hqk
  have i1 : (0 : Int) ≤ min (k1 : Int) 20 := by omega
  have i2 : min (k1 : Int) 20 ≤ (c1 : Int) := by have := K.out.1.1.1; simp only at this; omega
  have i3 : (0 : Int) ≤ min (k2 : Int) 20 := by omega
  have i4 : min (k2 : Int) 20 ≤ (c2 : Int) := by have := K.out.2.1.1; simp only at this; omega
  have i5 : (0 : Int) ≤ min (l1 : Int) 300 := by omega
  have i6 : min (l1 : Int) 300 ≤ (d1 : Int) := by have := K.out.1.2.1; simp only at this; omega
  have i7 : (0 : Int) ≤ min (l2 : Int) 300 := by omega
  have i8 : min (l2 : Int) 300 ≤ (d2 : Int) := by have := K.out.2.2.1; simp only at this; omega
  go_enter Tryz.func3, Tryz.ntmps3
  go_wp2
  go_region_o
  go_wp2
  have B1 : Bx ((w.alloc (.cells #[.string s1, .int .i64 n1, .slice a1 (min (k1 : Int) 20).toNat c1, .slice b1 l1 d1] 25)).alloc (.cells #[.string s2, .int .i64 n2, .slice a2 (min (k2 : Int) 20).toNat c2, .slice b2 l2 d2] 25)).drew w.heap.size
      (.string s1) (.int .i64 n1) (.slice a1 (min (k1 : Int) 20).toNat c1) (.slice b1 l1 d1) (.string s2) (.int .i64 n2) (.slice a2 (min (k2 : Int) 20).toNat c2) (.slice b2 l2 d2) := by
    refine ⟨?_, ?_, ?_, ?_, ?_, ?_, ?_, ?_, ?_, ?_⟩ <;> simp [go_sem]
  have hb1 : Below w.heap.size w ((w.alloc (.cells #[.string s1, .int .i64 n1, .slice a1 (min (k1 : Int) 20).toNat c1, .slice b1 l1 d1] 25)).alloc (.cells #[.string s2, .int .i64 n2, .slice a2 (min (k2 : Int) 20).toNat c2, .slice b2 l2 d2] 25)).drew :=
    (((Below.refl _ w).alloc (Nat.le_refl _) _).alloc (by simp) _).drew
  generalize ((w.alloc (.cells #[.string s1, .int .i64 n1, .slice a1 (min (k1 : Int) 20).toNat c1, .slice b1 l1 d1] 25)).alloc (.cells #[.string s2, .int .i64 n2, .slice a2 (min (k2 : Int) 20).toNat c2, .slice b2 l2 d2] 25)).drew = W at B1 hb1 ⊢
  have HB := Lib.hid hb1
  have BX := Lib.hid B1
  obtain ⟨z0, z1, z2, z3, z4, z5, z6, z7, f1, f2⟩ := B1
  clear hb1
  refine region_L (fun w' => w'.cell? ⟨w.heap.size, 3, none⟩ = some (.slice b1 l1 d1) ∧ w'.cell? ⟨w.heap.size + 1, 3, none⟩ = some (.slice b2 l2 d2)) 17 mixed ?_
  have hS0 : W.drew.cell? ⟨w.heap.size, 3, none⟩ = some (.slice b1 l1 d1) ∧ W.drew.cell? ⟨w.heap.size + 1, 3, none⟩ = some (.slice b2 l2 d2) := ⟨z3, z7⟩
  refine AnyL_take (i := 0) (v := .pointer (some ⟨w.heap.size, 3, none⟩)) rfl (by kernel_rfl) (by kernel_rfl) (by kernel_rfl) (by decide) (by kernel_rfl) (by kernel_rfl) rfl (fun _ _ _ h => h) (Or.inl ⟨by rfl, fun W' hS => ?_⟩) hS0 ?_
  · (obtain ⟨hS1, hS2⟩ := hS; go_simp)
  simp only [Act.put, List.setIfInBounds_toArray, List.set_cons_zero, List.set_cons_succ]
  refine AnyL_take (i := 1) (v := .slice b1 l1 d1) rfl (by kernel_rfl) (by kernel_rfl) (by kernel_rfl) (by decide) (by kernel_rfl) (by kernel_rfl) rfl (fun _ _ _ h => h) (Or.inl ⟨by rfl, fun W' hS => ?_⟩) hS0 ?_
  · (obtain ⟨hS1, hS2⟩ := hS; go_simp)
  simp only [Act.put, List.setIfInBounds_toArray, List.set_cons_zero, List.set_cons_succ]
  refine AnyL_take (i := 2) (v := .pointer (some ⟨w.heap.size, 3, none⟩)) rfl (by kernel_rfl) (by kernel_rfl) (by kernel_rfl) (by decide) (by kernel_rfl) (by kernel_rfl) rfl (fun _ _ _ h => h) (Or.inl ⟨by rfl, fun W' hS => ?_⟩) hS0 ?_
  · (obtain ⟨hS1, hS2⟩ := hS; go_simp)
  simp only [Act.put, List.setIfInBounds_toArray, List.set_cons_zero, List.set_cons_succ]
  refine AnyL_take (i := 3) (v := .slice b1 l1 d1) rfl (by kernel_rfl) (by kernel_rfl) (by kernel_rfl) (by decide) (by kernel_rfl) (by kernel_rfl) rfl (fun _ _ _ h => h) (Or.inl ⟨by rfl, fun W' hS => ?_⟩) hS0 ?_
  · (obtain ⟨hS1, hS2⟩ := hS; go_simp)
  simp only [Act.put, List.setIfInBounds_toArray, List.set_cons_zero, List.set_cons_succ]
  refine AnyL_take (i := 4) (v := .int .i64 l1) rfl (by kernel_rfl) (by kernel_rfl) (by kernel_rfl) (by decide) (by kernel_rfl) (by kernel_rfl) rfl (fun _ _ _ h => h) (Or.inl ⟨by rfl, fun W' hS => ?_⟩) hS0 ?_
  · (obtain ⟨hS1, hS2⟩ := hS; go_simp)
  simp only [Act.put, List.setIfInBounds_toArray, List.set_cons_zero, List.set_cons_succ]
  refine AnyL_take (i := 5) (v := .int .i64 (min (l1 : Int) 300)) rfl (by kernel_rfl) (by kernel_rfl) (by kernel_rfl) (by decide) (by kernel_rfl) (by kernel_rfl) rfl (fun _ _ _ h => h) (Or.inl ⟨by rfl, fun W' hS => ?_⟩) hS0 ?_
  · (obtain ⟨hS1, hS2⟩ := hS; go_simp)
  simp only [Act.put, List.setIfInBounds_toArray, List.set_cons_zero, List.set_cons_succ]
  refine AnyL_take (i := 6) (v := .slice b1 (min (l1 : Int) 300).toNat d1) rfl (by kernel_rfl) (by kernel_rfl) (by kernel_rfl) (by decide) (by kernel_rfl) (by kernel_rfl) rfl (fun _ _ _ h => h) (Or.inl ⟨by rfl, fun W' hS => ?_⟩) hS0 ?_
  · (obtain ⟨hS1, hS2⟩ := hS; go_simp)
  simp only [Act.put, List.setIfInBounds_toArray, List.set_cons_zero, List.set_cons_succ]
  refine AnyL_take (i := 8) (v := .pointer (some ⟨w.heap.size + 1, 3, none⟩)) rfl (by kernel_rfl) (by kernel_rfl) (by kernel_rfl) (by decide) (by kernel_rfl) (by kernel_rfl) rfl (fun _ _ _ h => h) (Or.inl ⟨by rfl, fun W' hS => ?_⟩) hS0 ?_
  · (obtain ⟨hS1, hS2⟩ := hS; go_simp)
  simp only [Act.put, List.setIfInBounds_toArray, List.set_cons_zero, List.set_cons_succ]
  refine AnyL_take (i := 9) (v := .slice b2 l2 d2) rfl (by kernel_rfl) (by kernel_rfl) (by kernel_rfl) (by decide) (by kernel_rfl) (by kernel_rfl) rfl (fun _ _ _ h => h) (Or.inl ⟨by rfl, fun W' hS => ?_⟩) hS0 ?_
  · (obtain ⟨hS1, hS2⟩ := hS; go_simp)
  simp only [Act.put, List.setIfInBounds_toArray, List.set_cons_zero, List.set_cons_succ]
  refine AnyL_take (i := 10) (v := .pointer (some ⟨w.heap.size + 1, 3, none⟩)) rfl (by kernel_rfl) (by kernel_rfl) (by kernel_rfl) (by decide) (by kernel_rfl) (by kernel_rfl) rfl (fun _ _ _ h => h) (Or.inl ⟨by rfl, fun W' hS => ?_⟩) hS0 ?_
  · (obtain ⟨hS1, hS2⟩ := hS; go_simp)
  simp only [Act.put, List.setIfInBounds_toArray, List.set_cons_zero, List.set_cons_succ]
  refine AnyL_take (i := 11) (v := .slice b2 l2 d2) rfl (by kernel_rfl) (by kernel_rfl) (by kernel_rfl) (by decide) (by kernel_rfl) (by kernel_rfl) rfl (fun _ _ _ h => h) (Or.inl ⟨by rfl, fun W' hS => ?_⟩) hS0 ?_
  · (obtain ⟨hS1, hS2⟩ := hS; go_simp)
  simp only [Act.put, List.setIfInBounds_toArray, List.set_cons_zero, List.set_cons_succ]
  refine AnyL_take (i := 12) (v := .int .i64 l2) rfl (by kernel_rfl) (by kernel_rfl) (by kernel_rfl) (by decide) (by kernel_rfl) (by kernel_rfl) rfl (fun _ _ _ h => h) (Or.inl ⟨by rfl, fun W' hS => ?_⟩) hS0 ?_
  · (obtain ⟨hS1, hS2⟩ := hS; go_simp)
  simp only [Act.put, List.setIfInBounds_toArray, List.set_cons_zero, List.set_cons_succ]
  refine AnyL_take (i := 13) (v := .int .i64 (min (l2 : Int) 300)) rfl (by kernel_rfl) (by kernel_rfl) (by kernel_rfl) (by decide) (by kernel_rfl) (by kernel_rfl) rfl (fun _ _ _ h => h) (Or.inl ⟨by rfl, fun W' hS => ?_⟩) hS0 ?_
  · (obtain ⟨hS1, hS2⟩ := hS; go_simp)
  simp only [Act.put, List.setIfInBounds_toArray, List.set_cons_zero, List.set_cons_succ]
  refine AnyL_take (i := 14) (v := .slice b2 (min (l2 : Int) 300).toNat d2) rfl (by kernel_rfl) (by kernel_rfl) (by kernel_rfl) (by decide) (by kernel_rfl) (by kernel_rfl) rfl (fun _ _ _ h => h) (Or.inl ⟨by rfl, fun W' hS => ?_⟩) hS0 ?_
  · (obtain ⟨hS1, hS2⟩ := hS; go_simp)
  simp only [Act.put, List.setIfInBounds_toArray, List.set_cons_zero, List.set_cons_succ]
  refine AnyL_one (i := 7) (by kernel_rfl) rfl (fun K1 hK1 => ?_)
  go_simp
  go_wp2_with fail
  refine (copyBytes b1 _ d1 (us.take (min (l1 : Int) 300).toNat) _ ?_ ?_ ?_).mono ?_
  · exact (X.out.1.2.below (HB.out.trans ⟨rfl, rfl, rfl, Nat.le_refl _, fun _ _ => rfl⟩)).take (by omega)
  · omega
  · (intro h; have := K.out.1.2.2.2 h; simp only at this; omega)
  rintro e w1 ⟨x1, y1, rfl, hB, hb, hg1⟩
  have hb' : Below W.heap.size W w1 := ⟨hb.os, hb.tape, hb.output, hb.size, hb.block⟩
  have HB1 := Lib.hid (HB.out.trans (hb'.mono HB.out.size))
  have BX1 := Lib.hid (BX.out.below hb')
  have A1 := Lib.hid hB
  clear hB hb hb'
  obtain ⟨u0, u1, u2, u3, u4, u5, u6, u7, g1, g2⟩ := BX1.out
  dsimp only
  refine hK1.out _ _ (fun _ _ => ⟨u3, u7⟩) ?_
  clear hK1 K1 hS0
  have hS1 : w1.cell? ⟨w.heap.size, 3, none⟩ = some (.slice b1 l1 d1) ∧ w1.cell? ⟨w.heap.size + 1, 3, none⟩ = some (.slice b2 l2 d2) := ⟨u3, u7⟩
  refine AnyL_take (i := 16) (v := .pointer (some ⟨w.heap.size, 3, none⟩)) rfl (by kernel_rfl) (by kernel_rfl) (by kernel_rfl) (by decide) (by kernel_rfl) (by kernel_rfl) rfl (fun _ _ _ h => h) (Or.inl ⟨by rfl, fun W' hS => ?_⟩) hS1 ?_
  · (obtain ⟨hS1, hS2⟩ := hS; go_simp)
  simp only [Act.put, List.setIfInBounds_toArray, List.set_cons_zero, List.set_cons_succ]
  refine AnyL_one (i := 15) (by kernel_rfl) rfl (fun K1 hK1 => ?_)
  go_simp
  go_wp2_with fail
  refine (copyBytes b2 _ d2 (vs.take (min (l2 : Int) 300).toNat) _ ?_ ?_ ?_).mono ?_
  · exact (X.out.2.2.below HB1.out).take (by omega)
  · omega
  · (intro h; have := K.out.2.2.2.2 h; simp only at this; omega)
  rintro e w2 ⟨x2, y2, rfl, hB, hb, hg2⟩
  have hb' : Below w1.heap.size w1 w2 := ⟨hb.os, hb.tape, hb.output, hb.size, hb.block⟩
  have HB2 := Lib.hid (HB1.out.trans (hb'.mono HB1.out.size))
  have BX2 := Lib.hid (BX1.out.below hb')
  have A1b := Lib.hid (A1.out.below hb')
  have A2 := Lib.hid hB
  have HW1 := Lib.hid (And.intro hg1 hg2)
  clear hB hb hb' hg1 hg2 hS1
  obtain ⟨t0, t1, t2, t3, t4, t5, t6, t7, j1, j2⟩ := BX2.out
  dsimp only
  refine hK1.out _ _ (fun _ _ => ⟨t3, t7⟩) ?_
  clear hK1 K1 u0 u1 u2 u3 u4 u5 u6 u7 g1 g2 z0 z1 z2 z3 z4 z5 z6 z7 f1 f2
  try simp only [Act.put, List.setIfInBounds_toArray, List.set_cons_zero, List.set_cons_succ]
  refine AnyL_one (i := 17) (by kernel_rfl) rfl (fun K1 hK1 => ?_)
  go_simp
  refine hK1.out _ _ (fun h => absurd rfl h) ?_
  clear hK1 K1
  refine AnyL_one (i := 18) (by kernel_rfl) rfl (fun K1 hK1 => ?_)
  go_simp
  refine hK1.out _ _ (fun _ h => absurd (h.symm.trans (show _ = true by kernel_rfl)) Bool.false_ne_true) ?_
  clear hK1 K1
  refine AnyL_one (i := 19) (by kernel_rfl) rfl (fun K1 hK1 => ?_)
  go_simp
  refine hK1.out _ _ (fun _ h => absurd (h.symm.trans (show _ = true by kernel_rfl)) Bool.false_ne_true) ?_
  clear hK1 K1
  refine AnyL_done (by kernel_rfl) ?_ _
  go_wp2
  have b3 : Bx ((w2.setCell ⟨w.heap.size, 3, none⟩ (.slice x1 (min (l1 : Int) 300).toNat y1)).setCell ⟨w.heap.size + 1, 3, none⟩ (.slice x2 (min (l2 : Int) 300).toNat y2)) w.heap.size
      (.string s1) (.int .i64 n1) (.slice a1 (min (k1 : Int) 20).toNat c1) (.slice x1 (min (l1 : Int) 300).toNat y1) (.string s2) (.int .i64 n2) (.slice a2 (min (k2 : Int) 20).toNat c2) (.slice x2 (min (l2 : Int) 300).toNat y2) :=
    bx_set BX2.out _ _
  have hb3 : Below w.heap.size w ((w2.setCell ⟨w.heap.size, 3, none⟩ (.slice x1 (min (l1 : Int) 300).toNat y1)).setCell ⟨w.heap.size + 1, 3, none⟩ (.slice x2 (min (l2 : Int) 300).toNat y2)) :=
    (HB2.out.setCell (Nat.le_refl _) _).setCell (Nat.le_succ _) _
  have hlt : w.heap.size + 1 < W.heap.size := World.block_lt_of_cell? _ _ BX.out.2.2.2.2.1
  have hlt1 : w.heap.size + 1 < w1.heap.size := World.block_lt_of_cell? _ _ BX1.out.2.2.2.2.1
  have R1 : ByRow ((w2.setCell ⟨w.heap.size, 3, none⟩ (.slice x1 (min (l1 : Int) 300).toNat y1)).setCell ⟨w.heap.size + 1, 3, none⟩ (.slice x2 (min (l2 : Int) 300).toNat y2)) x1 (min (l1 : Int) 300).toNat (us.take (min (l1 : Int) 300).toNat) :=
    (A1b.out.setCell (fun ad h => by have := HW1.out.1 ad h; have e : W.drew.heap.size = W.heap.size := rfl; simp only; omega)).setCell (fun ad h => by have := HW1.out.1 ad h; have e : W.drew.heap.size = W.heap.size := rfl; simp only; omega)
  have R2 : ByRow ((w2.setCell ⟨w.heap.size, 3, none⟩ (.slice x1 (min (l1 : Int) 300).toNat y1)).setCell ⟨w.heap.size + 1, 3, none⟩ (.slice x2 (min (l2 : Int) 300).toNat y2)) x2 (min (l2 : Int) 300).toNat (vs.take (min (l2 : Int) 300).toNat) :=
    (A2.out.setCell (fun ad h => by have := HW1.out.2 ad h; simp only; omega)).setCell (fun ad h => by have := HW1.out.2 ad h; simp only; omega)
  clear t0 t1 t2 t3 t4 t5 t6 t7 j1 j2 i1 i2 i3 i4 i5 i6 i7 i8 hlt hlt1
  generalize (w2.setCell ⟨w.heap.size, 3, none⟩ (.slice x1 (min (l1 : Int) 300).toNat y1)).setCell ⟨w.heap.size + 1, 3, none⟩ (.slice x2 (min (l2 : Int) 300).toNat y2) = W3 at b3 hb3 R1 R2 ⊢
  have hr : (Rp.mk s1 n1 a1 (min (k1 : Int) 20).toNat c1 (xs.take (min (k1 : Int) 20).toNat) x1 (min (l1 : Int) 300).toNat y1 (us.take (min (l1 : Int) 300).toNat)).In W3 := ⟨(X.out.1.1.below hb3).take (by show (min (k1 : Int) 20).toNat ≤ k1; omega), R1⟩
  have hq : (Rp.mk s2 n2 a2 (min (k2 : Int) 20).toNat c2 (ys.take (min (k2 : Int) 20).toNat) x2 (min (l2 : Int) 300).toNat y2 (vs.take (min (l2 : Int) 300).toNat)).In W3 := ⟨(X.out.2.1.below hb3).take (by show (min (k2 : Int) 20).toNat ≤ k2; omega), R2⟩
  have hk20 : (min (k1 : Int) 20).toNat ≤ 20 := by omega
  clear X K HB BX HB1 BX1 A1 HB2 BX2 A1b A2 HW1 R1 R2
  generalize (min (k1 : Int) 20).toNat = kk1 at b3 hr hq hk20 ⊢
  generalize (min (k2 : Int) 20).toNat = kk2 at b3 hr hq ⊢
  generalize (min (l1 : Int) 300).toNat = ll1 at b3 hr hq ⊢
  generalize (min (l2 : Int) 300).toNat = ll2 at b3 hr hq ⊢
  have HB3 := Lib.hid hb3
  have BX3 := Lib.hid b3
  have RS := Lib.hid (And.intro hr hq)
  have hS0 : Cells w.heap.size (.string s1) (.int .i64 n1) (.slice a1 kk1 c1) (.slice x1 ll1 y1) (.string s2) (.int .i64 n2) (.slice a2 kk2 c2) (.slice x2 ll2 y2) W3.drew := b3.cells
  clear hb3 b3 hr hq
  refine region_L (Cells w.heap.size (.string s1) (.int .i64 n1) (.slice a1 kk1 c1) (.slice x1 ll1 y1) (.string s2) (.int .i64 n2) (.slice a2 kk2 c2) (.slice x2 ll2 y2)) 15 mixed ?_
  refine AnyL_take (i := 0) (v := .agg #[.string s1, .int .i64 n1, .slice a1 kk1 c1, .slice x1 ll1 y1]) rfl (by kernel_rfl) (by kernel_rfl) (by kernel_rfl) (by decide) (by kernel_rfl) (by kernel_rfl) rfl (fun _ _ _ h => h) (Or.inl ⟨by rfl, fun W' hS => ?_⟩) hS0 ?_
  · (obtain ⟨⟨hS1, hS2, hS3, hS4⟩, hS5, hS6, hS7, hS8⟩ := hS; go_simp)
  simp only [Act.put, List.setIfInBounds_toArray, List.set_cons_zero, List.set_cons_succ]
  refine AnyL_take (i := 1) (v := .agg #[.string s2, .int .i64 n2, .slice a2 kk2 c2, .slice x2 ll2 y2]) rfl (by kernel_rfl) (by kernel_rfl) (by kernel_rfl) (by decide) (by kernel_rfl) (by kernel_rfl) rfl (fun _ _ _ h => h) (Or.inl ⟨by rfl, fun W' hS => ?_⟩) hS0 ?_
  · (obtain ⟨⟨hS1, hS2, hS3, hS4⟩, hS5, hS6, hS7, hS8⟩ := hS; go_simp)
  simp only [Act.put, List.setIfInBounds_toArray, List.set_cons_zero, List.set_cons_succ]
  refine AnyL_take (i := 3) (v := .agg #[.string s1, .int .i64 n1, .slice a1 kk1 c1, .slice x1 ll1 y1]) rfl (by kernel_rfl) (by kernel_rfl) (by kernel_rfl) (by decide) (by kernel_rfl) (by kernel_rfl) rfl (fun _ _ _ h => h) (Or.inl ⟨by rfl, fun W' hS => ?_⟩) hS0 ?_
  · (obtain ⟨⟨hS1, hS2, hS3, hS4⟩, hS5, hS6, hS7, hS8⟩ := hS; go_simp)
  simp only [Act.put, List.setIfInBounds_toArray, List.set_cons_zero, List.set_cons_succ]
  refine AnyL_take (i := 4) (v := .agg #[.string s2, .int .i64 n2, .slice a2 kk2 c2, .slice x2 ll2 y2]) rfl (by kernel_rfl) (by kernel_rfl) (by kernel_rfl) (by decide) (by kernel_rfl) (by kernel_rfl) rfl (fun _ _ _ h => h) (Or.inl ⟨by rfl, fun W' hS => ?_⟩) hS0 ?_
  · (obtain ⟨⟨hS1, hS2, hS3, hS4⟩, hS5, hS6, hS7, hS8⟩ := hS; go_simp)
  simp only [Act.put, List.setIfInBounds_toArray, List.set_cons_zero, List.set_cons_succ]
  refine AnyL_one (i := 2) (by kernel_rfl) rfl (fun K1 hK1 => ?_)
  go_simp
  go_wp2_with fail
  refine (same ⟨s1, n1, a1, kk1, c1, xs.take kk1, x1, ll1, y1, us.take ll1⟩ ⟨s2, n2, a2, kk2, c2, ys.take kk2, x2, ll2, y2, vs.take ll2⟩ W3.drew (RS.out.1.below ⟨rfl, rfl, rfl, Nat.le_refl _, fun _ _ => rfl⟩) (RS.out.2.below ⟨rfl, rfl, rfl, Nat.le_refl _, fun _ _ => rfl⟩) hk20).mono ?_
  rintro e w4 ⟨rfl, hb⟩
  have hb' : Below W3.heap.size W3 w4 := ⟨hb.os, hb.tape, hb.output, hb.size, hb.block⟩
  have HB4 := Lib.hid (HB3.out.trans (hb'.mono HB3.out.size))
  have BX4 := Lib.hid (BX3.out.below hb')
  have RS4 := Lib.hid (And.intro (RS.out.1.below hb') (RS.out.2.below hb'))
  clear hb hb'
  dsimp only
  refine hK1.out _ _ (fun _ _ => BX4.out.cells) ?_
  clear hK1 K1
  try simp only [Act.put, List.setIfInBounds_toArray, List.set_cons_zero, List.set_cons_succ]
  refine AnyL_one (i := 5) (by kernel_rfl) rfl (fun K1 hK1 => ?_)
  go_simp
  go_wp2_with fail
  refine (refSame ⟨s1, n1, a1, kk1, c1, xs.take kk1, x1, ll1, y1, us.take ll1⟩ ⟨s2, n2, a2, kk2, c2, ys.take kk2, x2, ll2, y2, vs.take ll2⟩ _ RS4.out.1 RS4.out.2 hk20).mono ?_
  rintro e w5 ⟨rfl, hb⟩
  have hb' : Below w4.heap.size w4 w5 := ⟨hb.os, hb.tape, hb.output, hb.size, hb.block⟩
  have HB5 := Lib.hid (HB4.out.trans (hb'.mono HB4.out.size))
  have BX5 := Lib.hid (BX4.out.below hb')
  have RS5 := Lib.hid (And.intro (RS4.out.1.below hb') (RS4.out.2.below hb'))
  clear hb hb'
  dsimp only
  refine hK1.out _ _ (fun _ _ => BX5.out.cells) ?_
  clear hK1 K1
  try simp only [Act.put, List.setIfInBounds_toArray, List.set_cons_zero, List.set_cons_succ]
  refine AnyL_one (i := 6) (by kernel_rfl) rfl (fun K1 hK1 => ?_)
  go_simp
  refine hK1.out _ _ (fun _ _ => BX5.out.cells) ?_
  clear hK1 K1
  refine AnyL_one (i := 7) (by kernel_rfl) rfl (fun K1 hK1 => ?_)
  go_simp
  refine hK1.out _ _ (fun _ _ => BX5.out.cells) ?_
  clear hK1 K1
  refine AnyL_take (i := 8) (v := .agg #[.string s1, .int .i64 n1, .slice a1 kk1 c1, .slice x1 ll1 y1]) rfl (by kernel_rfl) (by kernel_rfl) (by kernel_rfl) (by decide) (by kernel_rfl) (by kernel_rfl) rfl (fun _ _ _ h => h) (Or.inl ⟨by rfl, fun W' hS => ?_⟩) BX5.out.cells ?_
  · (obtain ⟨⟨hS1, hS2, hS3, hS4⟩, hS5, hS6, hS7, hS8⟩ := hS; go_simp)
  simp only [Act.put, List.setIfInBounds_toArray, List.set_cons_zero, List.set_cons_succ]
  refine AnyL_take (i := 9) (v := .agg #[.string s1, .int .i64 n1, .slice a1 kk1 c1, .slice x1 ll1 y1]) rfl (by kernel_rfl) (by kernel_rfl) (by kernel_rfl) (by decide) (by kernel_rfl) (by kernel_rfl) rfl (fun _ _ _ h => h) (Or.inl ⟨by rfl, fun W' hS => ?_⟩) BX5.out.cells ?_
  · (obtain ⟨⟨hS1, hS2, hS3, hS4⟩, hS5, hS6, hS7, hS8⟩ := hS; go_simp)
  simp only [Act.put, List.setIfInBounds_toArray, List.set_cons_zero, List.set_cons_succ]
  refine AnyL_one (i := 10) (by kernel_rfl) rfl (fun K1 hK1 => ?_)
  go_simp
  go_wp2_with fail
  refine (same ⟨s1, n1, a1, kk1, c1, xs.take kk1, x1, ll1, y1, us.take ll1⟩ ⟨s1, n1, a1, kk1, c1, xs.take kk1, x1, ll1, y1, us.take ll1⟩ _ RS5.out.1 RS5.out.1 hk20).mono ?_
  rintro e w6 ⟨he, hb⟩
  rw [Rp.eq_refl] at he
  subst he
  have hb' : Below w5.heap.size w5 w6 := ⟨hb.os, hb.tape, hb.output, hb.size, hb.block⟩
  have HB6 := Lib.hid (HB5.out.trans (hb'.mono HB5.out.size))
  have BX6 := Lib.hid (BX5.out.below hb')
  have RS6 := Lib.hid (And.intro (RS5.out.1.below hb') (RS5.out.2.below hb'))
  clear hb hb'
  dsimp only
  refine hK1.out _ _ (fun _ _ => BX6.out.cells) ?_
  clear hK1 K1
  try simp only [Act.put, List.setIfInBounds_toArray, List.set_cons_zero, List.set_cons_succ]
  refine AnyL_one (i := 11) (by kernel_rfl) rfl (fun K1 hK1 => ?_)
  go_simp
  refine hK1.out _ _ (fun _ _ => BX6.out.cells) ?_
  clear hK1 K1
  refine AnyL_one (i := 12) (by kernel_rfl) rfl (fun K1 hK1 => ?_)
  go_simp
  refine hK1.out _ _ (fun _ _ => BX6.out.cells) ?_
  clear hK1 K1
  refine AnyL_one (i := 13) (by kernel_rfl) rfl (fun K1 hK1 => ?_)
  go_simp
  go_wp2_with fail
  refine (HW.out _ HB6.out).mono ?_
  rintro e w7 ⟨rfl, hb⟩
  have hb' : Below w6.heap.size w6 w7 := ⟨hb.os, hb.tape, hb.output, hb.size, hb.block⟩
  have HB7 := Lib.hid (HB6.out.trans (hb'.mono HB6.out.size))
  have BX7 := Lib.hid (BX6.out.below hb')
  have RS7 := Lib.hid (And.intro (RS6.out.1.below hb') (RS6.out.2.below hb'))
  clear hb hb'
  dsimp only
  refine hK1.out _ _ (fun _ _ => BX7.out.cells) ?_
  clear hK1 K1
  try simp only [Act.put, List.setIfInBounds_toArray, List.set_cons_zero, List.set_cons_succ]
  refine AnyL_one (i := 14) (by kernel_rfl) rfl (fun K1 hK1 => ?_)
  go_simp
  refine hK1.out _ _ (fun _ _ => BX7.out.cells) ?_
  clear hK1 K1
  refine AnyL_one (i := 15) (by kernel_rfl) rfl (fun K1 hK1 => ?_)
  go_simp
  refine hK1.out _ _ (fun _ _ => BX7.out.cells) ?_
  clear hK1 K1
  refine AnyL_done (by kernel_rfl) ?_ _
  go_wp2
  go_ret
  exact ⟨rfl, HB7.out⟩
end Go.Proofs.YtdgcjepbgamedaaGreatDoor
