/- Contracts of the small functions that Same and its reference call: slices.Equal at Diag, bytes.Equal, EqBytes. Conditions: none. -/
import Derived.Test.YtdgcjepbgamedaaGreatDoorProg
import Derived.Shelf.RegionOpenPlain
import Derived.WalkKit
import Derived.Deep.LoopGhost
import Derived.Deep.Draws
import Derived.Lib.SlBy2
import Derived.Lib.Strings
import Derived.Lib.Slices
import Derived.Lib.Walk
import Derived.Lib.Bytes
import Derived.Lib.SliceRun
import Derived.Lib.Hide
import Derived.Shelf.SlicesQ.Load
import Derived.Laws.StructEq
namespace Go.Proofs.YtdgcjepbgamedaaGreatDoor
open Go.RowKit Go.Lib

/-- a Diag's three numbers -/
structure Dg where
  f : Int
  n : Int
  e : Int
  deriving Inhabited
def Dg.v (x : Dg) : List Value := [.int .i64 x.f, .int .i64 x.n, .int .i64 x.e]
def Dg.eq (x y : Dg) : Bool := x.f == y.f && (x.n == y.n && x.e == y.e)
theorem dg_neq (x y : Dg) (w : World) : Sem.run Tryz.prog (binOp .neq 32 (.agg x.v.toArray) (.agg y.v.toArray)) w = .ok (.bool (!Dg.eq x y)) w := by
  have hf : (Tryz.prog.fieldsOf 32).toList = [⟨"Fn", 3, 0, false, "", "", 0⟩, ⟨"Node", 3, 1, false, "", "", 8⟩, ⟨"E", 30, 2, false, "", "", 16⟩] := by kernel_rfl
  have a3 : ∀ w, (isAgg 3).run Tryz.prog w = .ok false w := fun _ => by kernel_rfl
  have a30 : ∀ w, (isAgg 30).run Tryz.prog w = .ok false w := fun _ => by kernel_rfl
  have z3 : ∀ w, (Go.sizeOf 3).run Tryz.prog w = .ok 1 w := fun _ => by kernel_rfl
  have z30 : ∀ w, (Go.sizeOf 30).run Tryz.prog w = .ok 1 w := fun _ => by kernel_rfl
  obtain ⟨f, n, e⟩ := x
  obtain ⟨f', n', e'⟩ := y
  rw [run_neq_struct, show (10000 : Nat) = 9999 + 1 from rfl, run_equalIn_agg w 9999 32 _ _ (by kernel_rfl) (by kernel_rfl), hf]
  simp [go_sem, Dg.v, Dg.eq, a3, a30, part]
  by_cases h1 : f = f' <;> by_cases h2 : n = n' <;> by_cases h3 : e = e' <;> simp [h1, h2, h3]
theorem mixed : Tryz.prog.follows .mixedOrders = true := by kernel_rfl
theorem dg_guard (op : BinOp) (a b : Operand) (x y : Dg) (w : World) : Sem.run Tryz.prog (eqGuard op 32 a b (.agg x.v.toArray) (.agg y.v.toArray)) w = .ok () w :=
  run_eqGuard_agg w op 32 a b _ _ (by kernel_rfl)

set_option maxHeartbeats 1000000 in
theorem bytes_Equal (v1 v2 : Value) (xs ys : List Int) (w : World)
    (h1 : (convert 23 9 v1).run Tryz.prog w = .ok (.string (strOfNums xs)) w) (h2 : (convert 23 9 v2).run Tryz.prog w = .ok (.string (strOfNums ys)) w) :
    Calls Tryz.prog 9 #[v1, v2] w fun e w' => e = .returned (.bool (Lib.bytesOf xs == Lib.bytesOf ys)) ∧ w' = w := by
  rw [← Lib.strOfNums_toList, ← Lib.strOfNums_toList]
  go_enter Tryz.func9, Tryz.ntmps9
  go_wp2
  go_ret
  exact ⟨rfl, rfl⟩
set_option maxHeartbeats 1000000 in
theorem eqBytes (v1 v2 : Value) (xs ys : List Int) (w : World)
    (h1 : (convert 23 9 v1).run Tryz.prog w = .ok (.string (strOfNums xs)) w) (h2 : (convert 23 9 v2).run Tryz.prog w = .ok (.string (strOfNums ys)) w) :
    Calls Tryz.prog 10 #[v1, v2] w fun e w' => e = .returned (.bool (Lib.bytesOf xs == Lib.bytesOf ys)) ∧ w' = w := by
  rw [← Lib.strOfNums_toList, ← Lib.strOfNums_toList]
  go_enter Tryz.func10, Tryz.ntmps10
  go_wp2
  go_ret
  exact ⟨rfl, rfl⟩

/-- the rows of a slice of Diags -/
def DgRow (w : World) (a : Option Addr) (n : Nat) (xs : List Dg) : Prop :=
  xs.length = n ∧ (0 < n → ∃ b o, a = some ⟨b, o, none⟩ ∧ ∀ j, j < n → ∀ i v, (xs[j]!.v)[i]? = some v → w.cell? ⟨b, o + j * 3 + i, none⟩ = some v)

set_option maxHeartbeats 2000000 in
set_option maxRecDepth 100000 in
theorem slices_Equal (a1 a2 : Option Addr) (n m c d : Nat) (hn20 : n ≤ 20) (xs ys : List Dg) (w : World) (h1 : DgRow w a1 n xs) (h2 : DgRow w a2 m ys) :
    Calls Tryz.prog 8 #[.slice a1 n c, .slice a2 m d] w fun e w' => e = .returned (.bool (Lib.allEq Dg.eq xs ys)) ∧ ∃ q, w' = w.drewN q := by
  obtain ⟨l1, h1⟩ := h1
  obtain ⟨l2, h2⟩ := h2
  have hne' : ∀ (f n e f' n' e' : Int) (w : World), Sem.run Tryz.prog (binOp .neq 32 (.agg #[.int .i64 f, .int .i64 n, .int .i64 e]) (.agg #[.int .i64 f', .int .i64 n', .int .i64 e'])) w = .ok (.bool (!Dg.eq ⟨f, n, e⟩ ⟨f', n', e'⟩)) w := fun f n e f' n' e' w => dg_neq ⟨f, n, e⟩ ⟨f', n', e'⟩ w
  have mixed := mixed
  have aE : ∀ w, Sem.run Tryz.prog (isAgg 32) w = .ok true w := fun _ => by kernel_rfl
  have zE : ∀ w, Sem.run Tryz.prog (Go.sizeOf 32) w = .ok 3 w := fun _ => by kernel_rfl
  have hgd' : ∀ (op : BinOp) (a b : Operand) (f n e f' n' e' : Int) (w : World), Sem.run Tryz.prog (eqGuard op 32 a b (.agg #[.int .i64 f, .int .i64 n, .int .i64 e]) (.agg #[.int .i64 f', .int .i64 n', .int .i64 e'])) w = .ok () w := fun op a b f n e f' n' e' w => dg_guard op a b ⟨f, n, e⟩ ⟨f', n', e'⟩ w
  by_cases hnm : n = m
  · subst hnm
    by_cases h0 : 0 < n
    · obtain ⟨b1, o1, rfl, hc1⟩ := h1 h0
      obtain ⟨b2, o2, rfl, hc2⟩ := h2 h0
      clear h1 h2
      have C := Lib.hid (And.intro hc1 hc2)
      clear hc1 hc2
      go_enter Tryz.func8, Tryz.ntmps8
      go_wp2
      go_loopg [13] n (fun g s13 wr => ∃ kk q : Nat, kk ≤ n ∧ n - kk ≤ g ∧ s13 = .int .i64 kk ∧ wr = w.drewN q ∧ Aside (∀ j, j < kk → Dg.eq xs[j]! ys[j]! = true))
      case atStart => exact ⟨0, 0, Nat.zero_le _, by omega, rfl, rfl, fun j hj => absurd hj (Nat.not_lt_zero _)⟩
      case round =>
        obtain ⟨kk, q, hkk, hg, rfl, rfl, A⟩ := hrel
        by_cases hlt : kk < n
        · obtain ⟨hc1, hc2⟩ := C.out
          have g10 := hc1 kk hlt 0 _ rfl
          have g11 := hc1 kk hlt 1 _ rfl
          have g12 := hc1 kk hlt 2 _ rfl
          have g20 := hc2 kk hlt 0 _ rfl
          have g21 := hc2 kk hlt 1 _ rfl
          have g22 := hc2 kk hlt 2 _ rfl
          rw [← World.cell?_drewN w q] at g10 g11 g12 g20 g21 g22
          clear hc1 hc2
          generalize hxk : xs[kk]! = x at g10 g11 g12
          generalize hyk : ys[kk]! = y at g20 g21 g22
          generalize hwq : w.drewN q = wq at g10 g11 g12 g20 g21 g22 ⊢
          have B : Aside (xs[kk]! = x ∧ ys[kk]! = y) := ⟨hxk, hyk⟩
          have Wq : Aside (w.drewN q = wq) := hwq
          clear hxk hyk hwq
          obtain ⟨f, n1, e⟩ := x
          obtain ⟨f', n1', e'⟩ := y
          simp only [Nat.add_zero] at g10 g20
          dsimp only at g10 g11 g12 g20 g21 g22
          cases hxy : Dg.eq ⟨f, n1, e⟩ ⟨f', n1', e'⟩ with
          | true =>
            go_wp2_with fail
            go_quiet_o (fail)
            go_wp2
            go_roundg (n - (kk + 1))
            case measure => omega
            case rel =>
              refine ⟨kk + 1, q + nq, by omega, by omega, by go_num, by rw [← Wq.out, World.drewN_drewN], (show Aside _ from fun j hj => ?_)⟩
              by_cases e : j = kk
              · subst e
                rw [B.out.1, B.out.2]; exact hxy
              · exact A.out j (by omega)
          | false =>
            go_wp2_with fail
            go_quiet_o (fail)
            go_wp2
            go_ret
            refine ⟨?_, q + nq, by rw [← Wq.out, World.drewN_drewN]⟩
            rw [Lib.allEq_elem Dg.eq xs ys kk (by omega) (by omega) (by rw [B.out.1, B.out.2]; exact hxy)]
            rfl
        · have : kk = n := by omega
          subst this
          go_wp2
          go_ret
          refine ⟨?_, q, rfl⟩
          rw [Lib.allEq_all Dg.eq xs ys (by omega) (fun j hj => A.out j (by omega))]
          rfl
    · have : n = 0 := by omega
      subst this
      clear h1 h2
      go_enter Tryz.func8, Tryz.ntmps8
      go_wp2
      go_loopg [13] 0 (fun g s13 wr => s13 = .int .i64 (0 : Nat) ∧ wr = w)
      case atStart => exact ⟨rfl, rfl⟩
      case round =>
        obtain ⟨rfl, rfl⟩ := hrel
        go_wp2
        go_ret
        refine ⟨?_, 0, rfl⟩
        rw [Lib.allEq_all Dg.eq xs ys (by omega) (fun j hj => by omega)]
        rfl
  · have hnm' : ¬ (n : Int) = (m : Int) := by omega
    clear h1 h2
    go_enter Tryz.func8, Tryz.ntmps8
    go_wp2
    go_ret
    refine ⟨?_, 0, rfl⟩
    rw [Lib.allEq_len Dg.eq _ _ (by omega)]
    rfl
end Go.Proofs.YtdgcjepbgamedaaGreatDoor
