/- What the package-level variables hold, as the evaluator knows them. Conditions: none. -/
import Derived.Test.YtedkimnbghpkeaaGreatDoorRows
import Derived.Test.YtedkimnbghpkeaaGreatDoorEvG0
import Derived.KernelRfl
import Derived.LaidMore
import Derived.MakeChecks
namespace Go.Proofs.YtedkimnbghpkeaaGreatDoor
open Go Go.Ev
set_option linter.unusedVariables false
set_option linter.unusedSimpArgs false
set_option linter.unusedSectionVars false
set_option maxRecDepth 100000
section
variable [Sym]
theorem d0 {H : Type} : (Rows.laid_armillary_lex_signs : DataW H) = .agg (ls0.map fun z => .lit (.string z)) := rfl
theorem d2 {H : Type} : (Rows.laid_armillary_lex_keys : DataW H) = .agg (ls2.map fun z => .lit (.string z)) := rfl
theorem d5 {H : Type} : (Rows.laid_internal_strconv_uint64pow10 : DataW H) = .agg (ls5.map fun z => .lit (.int .u64 z)) := rfl
theorem d6 {H : Type} : (Rows.laid_math_bits_deBruijn32tab : DataW H) = .agg (ls6.map fun z => .lit (.int .u8 z)) := rfl
theorem d7 {H : Type} : (Rows.laid_math_bits_deBruijn64tab : DataW H) = .agg (ls7.map fun z => .lit (.int .u8 z)) := rfl
theorem var_heap {P : Program} {w : World} {n : String} {g : Nat} {cs : Array Value} (hg : P.globalNamed n = some g) (hv : w.var? P n = some cs) : ∃ t fr, w.heap[g]? = some (.cells cs t fr) := by
  unfold World.var? at hv
  rw [hg] at hv
  simp only [Option.bind_some] at hv
  split at hv
  · rename_i h; injection hv with hv; subst hv; exact ⟨_, _, h⟩
  · cases hv
theorem shape_at {P : Program} {w : World} (hs : w.ShapedOpen P) {g t : Nat} (hg : g < P.globals.size) (ht : (((begin P (fun _ _ => 0) default).world.heap[g]?).bind Obj.row?).map (·.2) = some t) {cs : Array Value} {t' : Nat} {fr : Nat × Nat}
    (h : w.heap[g]? = some (.cells cs t' fr)) : w.heap[g]? = some (.cells cs t (0, 0)) := by
  obtain ⟨⟨zero, t2⟩, h1, rfl⟩ := Option.map_eq_some_iff.1 ht
  obtain ⟨cs', h2, _⟩ := hs.1 g zero t2 hg h1
  rw [h] at h2
  injection h2 with h2
  injection h2 with h2 h3 h4
  subst h2
  rw [h, h3, h4]
theorem gn0 : Tryz.prog.globalNamed "armillary/lex.signs" = some 0 := by kernel_rfl
theorem gt0 : (Tryz.prog.globals[0]?).map (·.type) = some 166 := by kernel_rfl
theorem gz0 : (((begin Tryz.prog (fun _ _ => 0) default).world.heap[0]?).bind Obj.row?).map (·.2) = some 166 := by kernel_rfl
theorem h0 {W : World} (hs : W.ShapedOpen Tryz.prog) {g t fuel : Nat} {cs : Array Value} {p : List MemPlace} (hg : Tryz.prog.globalNamed "armillary/lex.signs" = some g) (ht : (Tryz.prog.globals[g]?).map (·.type) = some t) (hv : W.var? Tryz.prog "armillary/lex.signs" = some cs)
    (hd : DataW.trod (fun _ => ()) Tryz.prog W 0 (fun _ => true) false fuel t cs.toList = some (Rows.laid_armillary_lex_signs, p)) : W.heap[0]? = some (.cells xs0.toArray 166 (0, 0)) := by
  obtain rfl := Option.some.inj (gn0.symm.trans hg)
  obtain rfl := Option.some.inj (gt0.symm.trans ht)
  rw [d0] at hd
  have e : cs.toList = xs0 := laid_strs Tryz.underlying166 (by kernel_rfl) (by kernel_rfl) Tryz.underlying9 hd
  obtain ⟨t', fr, h1⟩ := var_heap hg hv
  rw [shape_at hs (of_decide_eq_true (by kernel_rfl)) gz0 h1, ← e]
theorem gn2 : Tryz.prog.globalNamed "armillary/lex.keys" = some 2 := by kernel_rfl
theorem gt2 : (Tryz.prog.globals[2]?).map (·.type) = some 247 := by kernel_rfl
theorem gz2 : (((begin Tryz.prog (fun _ _ => 0) default).world.heap[2]?).bind Obj.row?).map (·.2) = some 247 := by kernel_rfl
theorem h2 {W : World} (hs : W.ShapedOpen Tryz.prog) {g t fuel : Nat} {cs : Array Value} {p : List MemPlace} (hg : Tryz.prog.globalNamed "armillary/lex.keys" = some g) (ht : (Tryz.prog.globals[g]?).map (·.type) = some t) (hv : W.var? Tryz.prog "armillary/lex.keys" = some cs)
    (hd : DataW.trod (fun _ => ()) Tryz.prog W 0 (fun _ => true) false fuel t cs.toList = some (Rows.laid_armillary_lex_keys, p)) : W.heap[2]? = some (.cells xs2.toArray 247 (0, 0)) := by
  obtain rfl := Option.some.inj (gn2.symm.trans hg)
  obtain rfl := Option.some.inj (gt2.symm.trans ht)
  rw [d2] at hd
  have e : cs.toList = xs2 := laid_strs Tryz.underlying247 (by kernel_rfl) (by kernel_rfl) Tryz.underlying9 hd
  obtain ⟨t', fr, h1⟩ := var_heap hg hv
  rw [shape_at hs (of_decide_eq_true (by kernel_rfl)) gz2 h1, ← e]
theorem gn5 : Tryz.prog.globalNamed "internal/strconv.uint64pow10" = some 5 := by kernel_rfl
theorem gt5 : (Tryz.prog.globals[5]?).map (·.type) = some 449 := by kernel_rfl
theorem gz5 : (((begin Tryz.prog (fun _ _ => 0) default).world.heap[5]?).bind Obj.row?).map (·.2) = some 449 := by kernel_rfl
theorem h5 {W : World} (hs : W.ShapedOpen Tryz.prog) {g t fuel : Nat} {cs : Array Value} {p : List MemPlace} (hg : Tryz.prog.globalNamed "internal/strconv.uint64pow10" = some g) (ht : (Tryz.prog.globals[g]?).map (·.type) = some t) (hv : W.var? Tryz.prog "internal/strconv.uint64pow10" = some cs)
    (hd : DataW.trod (fun _ => ()) Tryz.prog W 0 (fun _ => true) false fuel t cs.toList = some (Rows.laid_internal_strconv_uint64pow10, p)) : W.heap[5]? = some (.cells xs5.toArray 449 (0, 0)) := by
  obtain rfl := Option.some.inj (gn5.symm.trans hg)
  obtain rfl := Option.some.inj (gt5.symm.trans ht)
  rw [d5] at hd
  have e : cs.toList = xs5 := laid_ints Tryz.underlying449 (by kernel_rfl) (by kernel_rfl) Tryz.underlying199 hd
  obtain ⟨t', fr, h1⟩ := var_heap hg hv
  rw [shape_at hs (of_decide_eq_true (by kernel_rfl)) gz5 h1, ← e]
theorem gn6 : Tryz.prog.globalNamed "math/bits.deBruijn32tab" = some 6 := by kernel_rfl
theorem gt6 : (Tryz.prog.globals[6]?).map (·.type) = some 455 := by kernel_rfl
theorem gz6 : (((begin Tryz.prog (fun _ _ => 0) default).world.heap[6]?).bind Obj.row?).map (·.2) = some 455 := by kernel_rfl
theorem h6 {W : World} (hs : W.ShapedOpen Tryz.prog) {g t fuel : Nat} {cs : Array Value} {p : List MemPlace} (hg : Tryz.prog.globalNamed "math/bits.deBruijn32tab" = some g) (ht : (Tryz.prog.globals[g]?).map (·.type) = some t) (hv : W.var? Tryz.prog "math/bits.deBruijn32tab" = some cs)
    (hd : DataW.trod (fun _ => ()) Tryz.prog W 0 (fun _ => true) false fuel t cs.toList = some (Rows.laid_math_bits_deBruijn32tab, p)) : W.heap[6]? = some (.cells xs6.toArray 455 (0, 0)) := by
  obtain rfl := Option.some.inj (gn6.symm.trans hg)
  obtain rfl := Option.some.inj (gt6.symm.trans ht)
  rw [d6] at hd
  have e : cs.toList = xs6 := laid_ints Tryz.underlying455 (by kernel_rfl) (by kernel_rfl) Tryz.underlying5 hd
  obtain ⟨t', fr, h1⟩ := var_heap hg hv
  rw [shape_at hs (of_decide_eq_true (by kernel_rfl)) gz6 h1, ← e]
theorem gn7 : Tryz.prog.globalNamed "math/bits.deBruijn64tab" = some 7 := by kernel_rfl
theorem gt7 : (Tryz.prog.globals[7]?).map (·.type) = some 456 := by kernel_rfl
theorem gz7 : (((begin Tryz.prog (fun _ _ => 0) default).world.heap[7]?).bind Obj.row?).map (·.2) = some 456 := by kernel_rfl
theorem h7 {W : World} (hs : W.ShapedOpen Tryz.prog) {g t fuel : Nat} {cs : Array Value} {p : List MemPlace} (hg : Tryz.prog.globalNamed "math/bits.deBruijn64tab" = some g) (ht : (Tryz.prog.globals[g]?).map (·.type) = some t) (hv : W.var? Tryz.prog "math/bits.deBruijn64tab" = some cs)
    (hd : DataW.trod (fun _ => ()) Tryz.prog W 0 (fun _ => true) false fuel t cs.toList = some (Rows.laid_math_bits_deBruijn64tab, p)) : W.heap[7]? = some (.cells xs7.toArray 456 (0, 0)) := by
  obtain rfl := Option.some.inj (gn7.symm.trans hg)
  obtain rfl := Option.some.inj (gt7.symm.trans ht)
  rw [d7] at hd
  have e : cs.toList = xs7 := laid_ints Tryz.underlying456 (by kernel_rfl) (by kernel_rfl) Tryz.underlying5 hd
  obtain ⟨t', fr, h1⟩ := var_heap hg hv
  rw [shape_at hs (of_decide_eq_true (by kernel_rfl)) gz7 h1, ← e]
theorem gl_holds {W : World} (hs : W.ShapedOpen Tryz.prog) (hl : laidMetH Tryz.prog Rows.checkShapesRow.laid W) : ∀ (g et n : Nat) (vs : AV), gl0[g]? = some (some (et, n, vs)) → ∃ (xs : List Value) (lo hi : Nat), VRL (iota8 (zsOf gl0)) vs xs ∧ W.heap[g]? = some (Obj.cells xs.toArray et (lo, hi)) := by
  rw [MakeChecks.laidMetH_plain _ _ _ (by kernel_rfl)] at hl
  obtain ⟨ps, ⟨g0, t0, cs0, f0, p0, q0, a0, b0, c0, d0, ⟨g1, t1, cs1, f1, p1, q1, a1, b1, c1, d1, ⟨g2, t2, cs2, f2, p2, q2, a2, b2, c2, d2, ⟨g3, t3, cs3, f3, p3, q3, a3, b3, c3, d3, ⟨g4, t4, cs4, f4, p4, q4, a4, b4, c4, d4, ⟨g5, t5, cs5, f5, p5, q5, a5, b5, c5, d5, ⟨g6, t6, cs6, f6, p6, q6, a6, b6, c6, d6, _, _⟩, _⟩, _⟩, _⟩, _⟩, _⟩, _⟩, _, _⟩ := hl
  intro g et n vs e
  match g, e with
  | 0, e => (simp only [gl0, List.getElem?_cons_zero, List.getElem?_cons_succ, Option.some.injEq, Prod.mk.injEq] at e; obtain ⟨rfl, rfl, rfl⟩ := e; exact ⟨xs0, 0, 0, v0 _, h0 hs a6 b6 c6 d6⟩)
  | 1, e => simp [gl0] at e
  | 2, e => (simp only [gl0, List.getElem?_cons_zero, List.getElem?_cons_succ, Option.some.injEq, Prod.mk.injEq] at e; obtain ⟨rfl, rfl, rfl⟩ := e; exact ⟨xs2, 0, 0, v2 _, h2 hs a5 b5 c5 d5⟩)
  | 3, e => simp [gl0] at e
  | 4, e => simp [gl0] at e
  | 5, e => (simp only [gl0, List.getElem?_cons_zero, List.getElem?_cons_succ, Option.some.injEq, Prod.mk.injEq] at e; obtain ⟨rfl, rfl, rfl⟩ := e; exact ⟨xs5, 0, 0, v5 _, h5 hs a2 b2 c2 d2⟩)
  | 6, e => (simp only [gl0, List.getElem?_cons_zero, List.getElem?_cons_succ, Option.some.injEq, Prod.mk.injEq] at e; obtain ⟨rfl, rfl, rfl⟩ := e; exact ⟨xs6, 0, 0, v6 _, h6 hs a0 b0 c0 d0⟩)
  | 7, e => (simp only [gl0, List.getElem?_cons_zero, List.getElem?_cons_succ, Option.some.injEq, Prod.mk.injEq] at e; obtain ⟨rfl, rfl, rfl⟩ := e; exact ⟨xs7, 0, 0, v7 _, h7 hs a1 b1 c1 d1⟩)
  | g + 8, e => simp [gl0] at e
end
end Go.Proofs.YtedkimnbghpkeaaGreatDoor
