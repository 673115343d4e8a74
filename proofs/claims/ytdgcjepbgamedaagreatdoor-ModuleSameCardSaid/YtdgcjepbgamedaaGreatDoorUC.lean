/- What the arguments of the statement are, opened. Conditions: none. -/
import Derived.Test.YtdgcjepbgamedaaGreatDoorUDa
import Derived.ProofKit
import Derived.Deep.Slices
import Derived.Deep.Strs
import Derived.ChangeSlices
import Derived.ChangeSame
namespace Go.Proofs.YtdgcjepbgamedaaGreatDoor
open Go.ChangeShapes Go.WideShapes Go.ChangeAt Go.RowKit Go.Deep
set_option maxRecDepth 100000
set_option linter.unusedSimpArgs false
set_option linter.unusedVariables false

theorem addr_plain {w : World} {a : Addr} {v : Value} (h : w.cell? a = some v) : a = ⟨a.block, a.off, none⟩ := by
  obtain ⟨b, o, s⟩ := a
  cases s with
  | none => rfl
  | some x => unfold World.cell? at h; split at h <;> simp at h
theorem addr_add (b o n : Nat) : (⟨b, o, none⟩ : Addr).add n = ⟨b, o + n, none⟩ := by
  unfold Addr.add; split <;> simp_all

section
variable {H : Type} {enc : TypeId × Value → H} {W : World} {base : Nat} {spare : Nat → Bool} {held : Bool}

theorem open_dg {n : Nat} {cs : List Value} {x : DataW H × List MemPlace} (h : DataW.trod enc Tryz.prog W base spare held n 32 cs = some x) : ∃ g : Dg, cs = g.v := by
  obtain ⟨xs, m, _, _, hl, hn, hf⟩ := DataW.trod_struct Tryz.underlying32 h
  have hc : Tryz.prog.cellsOf 32 = 3 := by kernel_rfl
  have hc3 : Tryz.prog.cellsOf 3 = 1 := by kernel_rfl
  have hc30 : Tryz.prog.cellsOf 30 = 1 := by kernel_rfl
  rw [hc] at hl
  match cs, hl with
  | [c0, c1, c2], _ =>
  match xs, hn with
  | [y0, y1, y2], _ =>
    have h0 := hf 0 ⟨"Fn", 3, 0, false, "", "", 0⟩ rfl
    have h1 := hf 1 ⟨"Node", 3, 1, false, "", "", 8⟩ rfl
    have h2 := hf 2 ⟨"E", 30, 2, false, "", "", 16⟩ rfl
    simp only [hc3, hc30, List.drop_zero, List.drop_succ_cons, List.take_succ_cons, List.take_zero, List.getElem?_cons_zero, List.getElem?_cons_succ] at h0 h1 h2
    obtain ⟨f, e0, _, _⟩ := DataW.trod_int Tryz.underlying3 h0
    obtain ⟨g, e1, _, _⟩ := DataW.trod_int Tryz.underlying3 h1
    obtain ⟨e, e2, _, _⟩ := DataW.trod_int Tryz.underlying30 h2
    injection e0 with e0; injection e1 with e1; injection e2 with e2
    subst e0; subst e1; subst e2
    exact ⟨⟨f, g, e⟩, rfl⟩

theorem open_diags {fuel : Nat} {cs : List Value} {x : DataW H × List MemPlace} (h : DataW.trod enc Tryz.prog W base spare held fuel 22 cs = some x) :
    ∃ a n c xs, cs = [.slice a n c] ∧ DgRow W a n xs ∧ n ≤ c ∧ c ≤ maxLen ∧ (a = none → n = 0 ∧ c = 0) := by
  rcases open_slice Tryz.underlying22 h with ⟨rfl, _⟩ | ⟨a, len, cap, m, n, D, Pl, rfl, _, hlc, hm, hmm, _, hel⟩
  · exact ⟨none, 0, 0, [], rfl, ⟨rfl, fun h => absurd h (Nat.lt_irrefl _)⟩, Nat.le_refl _, Nat.zero_le _, fun _ => ⟨rfl, rfl⟩⟩
  · have hc : Tryz.prog.cellsOf 32 = 3 := by kernel_rfl
    have hlm : len ≤ m := by rw [hmm]; split <;> omega
    have key : ∀ i, ∃ g : Dg, i < len → ∀ j v, g.v[j]? = some v → W.cell? ((a.add (i * 3)).add j) = some v := fun i => by
      by_cases hi : i < len
      · obtain ⟨cs', h1, h2⟩ := hel i (by omega)
        obtain ⟨g, rfl⟩ := open_dg h2
        rw [hc] at h1
        refine ⟨g, fun _ j v hv => ?_⟩
        unfold World.cells? at h1
        split at h1
        · have hj : j < 3 := by
            have := (List.getElem?_eq_some_iff.1 hv).1
            simpa [Dg.v] using this
          have h3 : (List.range 3).mapM (fun i_1 => W.cell? ((a.add (i * 3)).add i_1)) = some g.v := h1
          rw [show List.range 3 = [0, 1, 2] from rfl] at h3
          simp only [List.mapM_cons, List.mapM_nil, Option.bind_eq_bind, Option.pure_def, Option.bind_eq_some_iff, Option.some.injEq] at h3
          obtain ⟨x0, q0, l1, ⟨x1, q1, l2, ⟨x2, q2, l3, rfl, rfl⟩, rfl⟩, h4⟩ := h3
          rw [← h4] at hv
          match j, hj with
          | 0, _ => simpa using hv ▸ q0
          | 1, _ => simpa using hv ▸ q1
          | 2, _ => simpa using hv ▸ q2
        · cases h1
      · exact ⟨default, fun h => absurd h hi⟩
    obtain ⟨f, hf⟩ := Classical.axiomOfChoice key
    refine ⟨some a, len, cap, (List.range len).map f, rfl, ⟨by simp, fun h0 => ?_⟩, hlc, hm, fun e => by cases e⟩
    have hp : a = ⟨a.block, a.off, none⟩ := by
      have := hf 0 h0 0 _ rfl
      simp only [Nat.zero_mul] at this
      have e : (a.add 0).add 0 = a := rfl
      rw [e] at this
      exact addr_plain this
    refine ⟨a.block, a.off, by rw [← hp], fun j hj i v hv => ?_⟩
    have e : ((List.range len).map f)[j]! = f j := by
      rw [getElem!_pos _ j (by simpa using hj)]; simp
    rw [e] at hv
    have := hf j hj i v hv
    rw [hp, addr_add, addr_add] at this
    exact this

theorem open_bys {fuel : Nat} {cs : List Value} {x : DataW H × List MemPlace} (h : DataW.trod enc Tryz.prog W base spare held fuel 23 cs = some x) :
    ∃ a n c xs, cs = [.slice a n c] ∧ ByRow W a n xs ∧ n ≤ c ∧ c ≤ maxLen ∧ (a = none → n = 0 ∧ c = 0) := by
  rcases open_ints Tryz.underlying23 Tryz.underlying5 (by kernel_rfl) h with ⟨rfl, _⟩ | ⟨a, len, cap, zs, rfl, _, hlc, hm, hz, _, hel, _⟩
  · exact ⟨none, 0, 0, [], rfl, ⟨rfl, fun h => absurd h (Nat.lt_irrefl _)⟩, Nat.le_refl _, Nat.zero_le _, fun _ => ⟨rfl, rfl⟩⟩
  · have hlz : len ≤ zs.length := by rw [hz]; split <;> omega
    refine ⟨some a, len, cap, zs.take len, rfl, ⟨by simp; omega, fun h0 => ?_⟩, hlc, hm, fun e => by cases e⟩
    have hp : a = ⟨a.block, a.off, none⟩ := addr_plain (a := a) (v := .int .u8 (zs.getD 0 0)) (hel 0 (by omega))
    refine ⟨a.block, a.off, by rw [← hp], fun j hj => ?_⟩
    have := hel j (by omega)
    rw [hp, addr_add] at this
    rw [this]
    simp [List.getD, hj]
end

theorem open_rep {H : Type} {enc : TypeId × Value → H} {W : World} {base : Nat} {v : Value} {d : DataW H} {p : List MemPlace} (hval : Value.okWide Tryz.prog W .any base 25 v) (h : DataW.Trod enc Tryz.prog W 0 (fun _ => true) true 25 v d p) :
    ∃ r : Rp, v = r.v ∧ r.In W ∧ r.Ok := by
  obtain ⟨cs, rfl, _⟩ := okWide_struct Tryz.underlying25 hval
  obtain ⟨fuel, hf⟩ := h
  obtain ⟨xs, m, _, _, hl, hn, hf⟩ := DataW.trod_struct Tryz.underlying25 hf
  have hc : Tryz.prog.cellsOf 25 = 4 := by kernel_rfl
  have hc9 : Tryz.prog.cellsOf 9 = 1 := by kernel_rfl
  have hc3 : Tryz.prog.cellsOf 3 = 1 := by kernel_rfl
  have hc22 : Tryz.prog.cellsOf 22 = 1 := by kernel_rfl
  have hc23 : Tryz.prog.cellsOf 23 = 1 := by kernel_rfl
  rw [hc] at hl
  obtain ⟨cs⟩ := cs
  have hl : cs.length = 4 := hl
  have hf : ∀ (i : Nat) (f : Field), _ → DataW.trod enc Tryz.prog W 0 (fun _ => true) true m f.type ((cs.drop f.offset).take (Tryz.prog.cellsOf f.type)) = xs[i]? := hf
  match cs, hl with
  | [c0, c1, c2, c3], _ =>
  match xs, hn with
  | [y0, y1, y2, y3], _ =>
    have h0 := hf 0 ⟨"Module", 9, 0, false, "", "", 0⟩ rfl
    have h1 := hf 1 ⟨"Says", 3, 1, false, "", "", 16⟩ rfl
    have h2 := hf 2 ⟨"Diags", 22, 2, false, "", "", 24⟩ rfl
    have h3 := hf 3 ⟨"Cert", 23, 3, false, "", "", 48⟩ rfl
    simp only [hc3, hc9, hc22, hc23, List.drop_zero, List.drop_succ_cons, List.take_succ_cons, List.take_zero, List.getElem?_cons_zero, List.getElem?_cons_succ] at h0 h1 h2 h3
    obtain ⟨s, e0, _, _⟩ := DataW.trod_string Tryz.underlying9 h0
    obtain ⟨n, e1, _, _⟩ := DataW.trod_int Tryz.underlying3 h1
    obtain ⟨a, k, c, ds, e2, g1, g2, g3, g4⟩ := open_diags h2
    obtain ⟨b, l, dd, us, e3, g5, g6, g7, g8⟩ := open_bys h3
    injection e0 with e0; injection e1 with e1; injection e2 with e2; injection e3 with e3
    subst e0; subst e1; subst e2; subst e3
    exact ⟨⟨s, n, a, k, c, ds, b, l, dd, us⟩, rfl, ⟨g1, g5⟩, ⟨g2, g3, g4⟩, g6, g7, g8⟩
end Go.Proofs.YtdgcjepbgamedaaGreatDoor
