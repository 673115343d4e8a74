/- Contracts: CopyBytes, Same, the reference's Same. Conditions: the slices' cells are there. -/
import Derived.Test.YtdgcjepbgamedaaGreatDoorUA
import Derived.Laws.Append
import Derived.Laws.BytesArg
import Derived.Below
namespace Go.Proofs.YtdgcjepbgamedaaGreatDoor
open Go.RowKit Go.Lib

/-- the bytes of a slice -/
def ByRow (w : World) (a : Option Addr) (n : Nat) (xs : List Int) : Prop :=
  xs.length = n ∧ (0 < n → ∃ b o, a = some ⟨b, o, none⟩ ∧ ∀ j, j < n → w.cell? ⟨b, o + j, none⟩ = some (.int .u8 (xs.getD j 0)))

theorem DgRow.below {w w' : World} {a : Option Addr} {n : Nat} {xs : List Dg} (h : DgRow w a n xs) (hb : Below w.heap.size w w') : DgRow w' a n xs := by
  refine ⟨h.1, fun h0 => ?_⟩
  obtain ⟨b, o, e, hc⟩ := h.2 h0
  refine ⟨b, o, e, fun j hj i v hv => ?_⟩
  have := hc j hj i v hv
  rw [hb.cell (World.block_lt_of_cell? _ _ this)]
  exact this
theorem ByRow.below {w w' : World} {a : Option Addr} {n : Nat} {xs : List Int} (h : ByRow w a n xs) (hb : Below w.heap.size w w') : ByRow w' a n xs := by
  refine ⟨h.1, fun h0 => ?_⟩
  obtain ⟨b, o, e, hc⟩ := h.2 h0
  refine ⟨b, o, e, fun j hj => ?_⟩
  have := hc j hj
  rw [hb.cell (World.block_lt_of_cell? _ _ this)]
  exact this
theorem ByRow.conv {w : World} {a : Option Addr} {n c : Nat} {xs : List Int} (h : ByRow w a n xs) : (convert 23 9 (.slice a n c)).run Tryz.prog w = .ok (.string (strOfNums xs)) w := by
  rcases Nat.eq_zero_or_pos n with h0 | h0
  · subst h0
    have : xs = [] := List.length_eq_zero_iff.1 h.1
    subst this
    rw [run_convert_bytes_string w 23 9 5 a 0 c Tryz.underlying23 Tryz.underlying5 Tryz.underlying9]
    cases a with
    | none => rfl
    | some a => exact run_bytesToString (P := Tryz.prog) w a 0 c [] rfl
  · obtain ⟨b, o, rfl, hc⟩ := h.2 h0
    exact run_convert_bytes_arg w 23 5 Tryz.underlying23 Tryz.underlying5 b o n c xs h.1 hc 9 Tryz.underlying9

structure Rp where
  s : ByteArray
  n : Int
  a : Option Addr
  k : Nat
  c : Nat
  xs : List Dg
  b : Option Addr
  l : Nat
  d : Nat
  us : List Int
def Rp.v (r : Rp) : Value := .agg #[.string r.s, .int .i64 r.n, .slice r.a r.k r.c, .slice r.b r.l r.d]
def Rp.In (w : World) (r : Rp) : Prop := DgRow w r.a r.k r.xs ∧ ByRow w r.b r.l r.us
noncomputable def Rp.eq (r q : Rp) : Bool := (decide (r.s = q.s)) && (decide (r.n = q.n) && (Lib.allEq Dg.eq r.xs q.xs && (Lib.bytesOf r.us == Lib.bytesOf q.us)))

set_option maxHeartbeats 2000000 in
set_option maxRecDepth 100000 in
theorem same (r q : Rp) (w : World) (hr : r.In w) (hq : q.In w) (hk : r.k ≤ 20) : Calls Tryz.prog 5 #[r.v, q.v] w fun e w' => e = .returned (.bool (Rp.eq r q)) ∧ Below w.heap.size w w' := by
  obtain ⟨s1, n1, a1, k1, c1, xs, b1, l1, d1, us⟩ := r
  obtain ⟨s2, n2, a2, k2, c2, ys, b2, l2, d2, vs⟩ := q
  obtain ⟨hx, hu⟩ := hr
  obtain ⟨hy, hv⟩ := hq
  simp only [Rp.v, Rp.eq] at *
  by_cases hs : s1 = s2
  · subst hs
    by_cases hn : n1 = n2
    · subst hn
      have X := Lib.hid (And.intro (And.intro hx hu) (And.intro hy hv))
      clear hx hu hy hv
      go_enter Tryz.func5, Tryz.ntmps5
      go_wp2_with fail
      have hb : Below w.heap.size w ((w.alloc (.cells #[.string s1, .int .i64 n1, .slice a1 k1 c1, .slice b1 l1 d1] 25)).alloc (.cells #[.string s1, .int .i64 n1, .slice a2 k2 c2, .slice b2 l2 d2] 25)) :=
        ((Below.refl _ w).alloc (Nat.le_refl _) _).alloc (by simp) _
      refine (slices_Equal a1 a2 k1 k2 c1 c2 hk xs ys _ (X.out.1.1.below hb) (X.out.2.1.below hb)).mono ?_
      rintro e w' ⟨rfl, q, rfl⟩
      cases hE : Lib.allEq Dg.eq xs ys with
      | false =>
        go_wp2
        go_ret
        exact ⟨by simp [hE], (hb.trans ⟨rfl, rfl, rfl, Nat.le_refl _, fun _ _ => rfl⟩)⟩
      | true =>
        go_wp2_with fail
        have hb2 : Below w.heap.size w ((((w.alloc (.cells #[.string s1, .int .i64 n1, .slice a1 k1 c1, .slice b1 l1 d1] 25)).alloc (.cells #[.string s1, .int .i64 n1, .slice a2 k2 c2, .slice b2 l2 d2] 25))).drewN q) :=
          hb.trans ⟨rfl, rfl, rfl, Nat.le_refl _, fun _ _ => rfl⟩
        refine (bytes_Equal _ _ us vs _ (X.out.1.2.below hb2).conv (X.out.2.2.below hb2).conv).mono ?_
        rintro e w' ⟨rfl, rfl⟩
        go_wp2
        go_ret
        exact ⟨by simp [hE], hb2⟩
    · have e1 : (n1 == n2) = false := by simpa using hn
      have e2 : decide (n1 = n2) = false := by simpa using hn
      go_enter Tryz.func5, Tryz.ntmps5
      go_wp2
      go_ret
      exact ⟨by simp [hn], ((Below.refl _ w).alloc (Nat.le_refl _) _).alloc (by simp) _⟩
  · have e2 : decide (s1 = s2) = false := by simpa using hs
    have e3 : ¬ s1.toList = s2.toList := fun h => hs (by rw [ByteArray.toList_eq, ByteArray.toList_eq] at h; cases s1; cases s2; simp only [ByteArray.mk.injEq]; exact Array.toList_inj.1 h)
    go_enter Tryz.func5, Tryz.ntmps5
    go_wp2
    go_ret
    exact ⟨by simp [hs], ((Below.refl _ w).alloc (Nat.le_refl _) _).alloc (by simp) _⟩

theorem cell_new (w : World) (xs : List Int) (z : Array Value) (j : Nat) (hj : j < xs.length) : (w.alloc (.cells ((xs.map (Value.int .u8)).toArray ++ z) 5)).cell? ⟨w.heap.size, 0 + j, none⟩ = some (.int .u8 (xs.getD j 0)) := by
  have hh : (w.alloc (.cells ((xs.map (Value.int .u8)).toArray ++ z) 5)).heap[w.heap.size]? = some (.cells ((xs.map (Value.int .u8)).toArray ++ z) 5) := by
    show (w.heap.push _)[w.heap.size]? = _
    rw [Array.getElem?_push, if_pos rfl]
  unfold World.cell?
  dsimp only
  rw [hh]
  simp only [Option.isSome_none, Bool.false_eq_true, if_false, Nat.zero_add]
  rw [Array.getElem?_append_left (by simpa using hj)]
  simp [List.getD, hj]
/-- a copy, in memory of its own -/
def CpPost (w : World) (n : Nat) (xs : List Int) (e : Ending) (w' : World) : Prop := ∃ a' c', e = .returned (.slice a' n c') ∧ ByRow w' a' n xs ∧ Below w.heap.size w w' ∧ ∀ ad, a' = some ad → w.heap.size ≤ ad.block
set_option maxHeartbeats 2000000 in
set_option maxRecDepth 100000 in
theorem copyBytes (a : Option Addr) (n c : Nat) (xs : List Int) (w : World) (hx : ByRow w a n xs) (hn : n ≤ 300) (ha : a = none → n = 0 ∧ c = 0) :
    Calls Tryz.prog 4 #[.slice a n c] w (CpPost w n xs) := by
  rcases Nat.eq_zero_or_pos n with h0 | h0
  · subst h0
    have X := Lib.hid hx
    clear hx
    cases a with
    | none =>
      obtain ⟨_, rfl⟩ := ha rfl
      clear ha
      go_enter Tryz.func4, Tryz.ntmps4
      go_wp2
      go_ret
      exact ⟨none, 0, rfl, X.out, Below.refl _ _, fun _ h => by cases h⟩
    | some a =>
      clear ha
      have x0 : xs = [] := List.length_eq_zero_iff.1 X.out.1
      clear X
      go_enter Tryz.func4, Tryz.ntmps4
      go_wp2
      go_ret
      exact ⟨none, 0, rfl, ⟨by rw [x0]; rfl, fun h => absurd h (Nat.lt_irrefl _)⟩, Below.refl _ _, fun _ h => by cases h⟩
  · obtain ⟨b, o, rfl, hc⟩ := hx.2 h0
    have hl := hx.1
    clear hx ha
    have hld : Sem.run Tryz.prog (loadCellsFrom ⟨b, o, none⟩ 0 n #[]) w.drew = .ok (xs.map (Value.int .u8)).toArray w.drew :=
      run_loadCellsFrom_list Tryz.prog _ _ (xs.map (Value.int .u8)) n (by simp [hl]) (fun i v hi => by
        have hin : i < n := by
          have := (List.getElem?_eq_some_iff.1 hi).1
          simp at this; omega
        rw [Addr.add_lit]
        have := hc i hin
        rw [List.getElem?_map, List.getElem?_eq_getElem (by omega)] at hi
        simp only [Option.map_some, Option.some.injEq] at hi
        subst hi
        rw [List.getD_eq_getElem?_getD, List.getElem?_eq_getElem (by omega)] at this
        exact this)
    have hns : Builtin.nextslicecap n 0 = n := nextslicecap_zero h0
    have hbt : Tryz.t5.bytes = 1 := by kernel_rfl
    have h48 : ¬ 281474976710656 < Builtin.nextslicecap n 0 * Tryz.t5.bytes := by rw [hns, hbt]; omega
    have hn0 : ¬ n = 0 := by omega
    clear hns hbt
    have C := Lib.hid hc
    clear hc
    go_enter Tryz.func4, Tryz.ntmps4
    go_wp2
    go_ret
    refine ⟨_, _, rfl, ⟨hl, fun _ => ⟨w.heap.size, 0, rfl, fun j hj => ?_⟩⟩, ((Below.refl _ w).alloc (Nat.le_refl _) _).drew, fun ad h => by injection h with h; subst h; exact Nat.le_refl _⟩
    generalize hz : Builtin.zeroCells #[Value.int IntKind.u8 0] ((Question.appendCap n 0 5).cut (w.tape w.drawn (Question.appendCap n 0 5)) - n) = z
    rw [World.cell?_drew]
    exact cell_new w xs z j (by omega)
end Go.Proofs.YtdgcjepbgamedaaGreatDoor
