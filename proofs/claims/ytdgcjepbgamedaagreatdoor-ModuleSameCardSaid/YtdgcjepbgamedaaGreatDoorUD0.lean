/- The reference's Same. Conditions: the slices' cells are there. -/
import Derived.Test.YtdgcjepbgamedaaGreatDoorUB
namespace Go.Proofs.YtdgcjepbgamedaaGreatDoor
open Go.RowKit Go.Lib

set_option maxHeartbeats 4000000 in
set_option maxRecDepth 100000 in
theorem refSame (r q : Rp) (w : World) (hr : r.In w) (hq : q.In w) (hk : r.k ≤ 20) : Calls Tryz.prog 6 #[r.v, q.v] w fun e w' => e = .returned (.bool (Rp.eq r q)) ∧ Below w.heap.size w w' := by
  obtain ⟨s1, n1, a1, k1, c1, xs, b1, l1, d1, us⟩ := r
  obtain ⟨s2, n2, a2, k2, c2, ys, b2, l2, d2, vs⟩ := q
  obtain ⟨hx, hu⟩ := hr
  obtain ⟨hy, hv⟩ := hq
  simp only [Rp.v, Rp.eq] at *
  have hb : Below w.heap.size w ((w.alloc (.cells #[.string s1, .int .i64 n1, .slice a1 k1 c1, .slice b1 l1 d1] 25)).alloc (.cells #[.string s2, .int .i64 n2, .slice a2 k2 c2, .slice b2 l2 d2] 25)) :=
    ((Below.refl _ w).alloc (Nat.le_refl _) _).alloc (by simp) _
  by_cases hs : s1 = s2
  · subst hs
    by_cases hn : n1 = n2
    · subst hn
      by_cases hkk : k1 = k2
      · subst hkk
        have X := Lib.hid (And.intro (And.intro hx hu) (And.intro hy hv))
        clear hx hu hy hv
        go_enter Tryz.func6, Tryz.ntmps6
        go_wp2_with fail
        refine (eqBytes _ _ us vs _ (X.out.1.2.below hb).conv (X.out.2.2.below hb).conv).mono ?_
        rintro e w' ⟨rfl, rfl⟩
        cases hE : (Lib.bytesOf us == Lib.bytesOf vs) with
        | false =>
          go_wp2
          go_ret
          exact ⟨by simp [hE], hb⟩
        | true =>
          go_wp2
          generalize hW : (w.alloc (.cells #[.string s1, .int .i64 n1, .slice a1 k1 c1, .slice b1 l1 d1] 25)).alloc (.cells #[.string s1, .int .i64 n1, .slice a2 k1 c2, .slice b2 l2 d2] 25) = W at hb ⊢
          have m1 : W.cell? ⟨w.heap.size, 2, none⟩ = some (.slice a1 k1 c1) := by rw [← hW]; simp [go_sem]
          have m2 : W.cell? ⟨w.heap.size + 1, 2, none⟩ = some (.slice a2 k1 c2) := by rw [← hW]; simp [go_sem]
          have dx : DgRow W a1 k1 xs := by rw [← hW]; rw [← hW] at hb; exact X.out.1.1.below hb
          have dy : DgRow W a2 k1 ys := by rw [← hW]; rw [← hW] at hb; exact X.out.2.1.below hb
          have M := Lib.hid (And.intro m1 m2)
          have D := Lib.hid (And.intro dx dy)
          have BB := Lib.hid hb
          have HE := Lib.hid hE
          clear hW X m1 m2 dx dy hb hE
          have hne' : ∀ (f n e f' n' e' : Int) (w : World), Sem.run Tryz.prog (binOp .neq 32 (.agg #[.int .i64 f, .int .i64 n, .int .i64 e]) (.agg #[.int .i64 f', .int .i64 n', .int .i64 e'])) w = .ok (.bool (!Dg.eq ⟨f, n, e⟩ ⟨f', n', e'⟩)) w := fun f n e f' n' e' w => dg_neq ⟨f, n, e⟩ ⟨f', n', e'⟩ w
          have hgd' : ∀ (op : BinOp) (a b : Operand) (f n e f' n' e' : Int) (w : World), Sem.run Tryz.prog (eqGuard op 32 a b (.agg #[.int .i64 f, .int .i64 n, .int .i64 e]) (.agg #[.int .i64 f', .int .i64 n', .int .i64 e'])) w = .ok () w := fun op a b f n e f' n' e' w => dg_guard op a b ⟨f, n, e⟩ ⟨f', n', e'⟩ w
          have mixed := mixed
          have aE : ∀ w, Sem.run Tryz.prog (isAgg 32) w = .ok true w := fun _ => by kernel_rfl
          have zE : ∀ w, Sem.run Tryz.prog (Go.sizeOf 32) w = .ok 3 w := fun _ => by kernel_rfl
          go_loopg [5] k1 (fun g s5 wr => ∃ kk q : Nat, kk ≤ k1 ∧ k1 - kk ≤ g ∧ s5 = .int .i64 kk ∧ wr = W.drewN q ∧ Aside (∀ j, j < kk → Dg.eq xs[j]! ys[j]! = true))
          case atStart => exact ⟨0, 0, Nat.zero_le _, by omega, rfl, rfl, fun j hj => absurd hj (Nat.not_lt_zero _)⟩
          case round =>
            obtain ⟨kk, q, hkk, hg, rfl, rfl, A⟩ := hrel
            obtain ⟨m1, m2⟩ := M.out
            rw [← World.cell?_drewN W q] at m1 m2
            by_cases hlt : kk < k1
            · obtain ⟨⟨hl1, dx⟩, ⟨hl2, dy⟩⟩ := D.out
              obtain ⟨bb1, o1, rfl, hc1⟩ := dx (by omega)
              obtain ⟨bb2, o2, rfl, hc2⟩ := dy (by omega)
              have g10 := hc1 kk hlt 0 _ rfl
              have g11 := hc1 kk hlt 1 _ rfl
              have g12 := hc1 kk hlt 2 _ rfl
              have g20 := hc2 kk hlt 0 _ rfl
              have g21 := hc2 kk hlt 1 _ rfl
              have g22 := hc2 kk hlt 2 _ rfl
              rw [← World.cell?_drewN W q] at g10 g11 g12 g20 g21 g22
              have L12 : Aside (xs.length = k1 ∧ ys.length = k1) := ⟨hl1, hl2⟩
              clear hc1 hc2 dx dy hl1 hl2 D M
              generalize hxk : xs[kk]! = x at g10 g11 g12
              generalize hyk : ys[kk]! = y at g20 g21 g22
              generalize hwq : W.drewN q = wq at g10 g11 g12 g20 g21 g22 m1 m2 ⊢
              have B : Aside (xs[kk]! = x ∧ ys[kk]! = y) := ⟨hxk, hyk⟩
              have Wq : Aside (W.drewN q = wq) := hwq
              clear hxk hyk hwq
              obtain ⟨f, n3, e⟩ := x
              obtain ⟨f', n3', e'⟩ := y
              simp only [Nat.add_zero] at g10 g20
              dsimp only at g10 g11 g12 g20 g21 g22
              cases hxy : Dg.eq ⟨f, n3, e⟩ ⟨f', n3', e'⟩ with
              | true =>
                go_wp2_with fail
                go_quiet_o (fail)
                go_wp2
                go_roundg (k1 - (kk + 1))
                case measure => omega
                case rel =>
                  refine ⟨kk + 1, q + nq, by omega, by omega, by go_num, by rw [← Wq.out, World.drewN_drewN], (show Aside _ from fun j hj => ?_)⟩
                  by_cases e : j = kk
                  · subst e
                    rw [B.out.1, B.out.2]; exact hxy
                  · exact A.out j (by omega)
              | false =>
                go_wp2_with fail
                go_quiet_o (fail)
                go_wp2
                go_ret
                have ee : Lib.allEq Dg.eq xs ys = false := Lib.allEq_elem Dg.eq xs ys kk (by have := L12.out.1; omega) (by have := L12.out.2; omega) (by rw [B.out.1, B.out.2]; exact hxy)
                refine ⟨by rw [ee]; simp, ?_⟩
                rw [← Wq.out]
                exact BB.out.trans ⟨rfl, rfl, rfl, Nat.le_refl _, fun _ _ => rfl⟩
            · have : kk = k1 := by omega
              subst this
              clear M
              go_wp2
              go_ret
              have ee : Lib.allEq Dg.eq xs ys = true := Lib.allEq_all Dg.eq xs ys (by have := D.out.1.1; have := D.out.2.1; omega) (fun j hj => A.out j (by have := D.out.1.1; omega))
              refine ⟨by rw [ee, HE.out]; simp, ?_⟩
              exact BB.out.trans ⟨rfl, rfl, rfl, Nat.le_refl _, fun _ _ => rfl⟩
      · have hkk' : ¬ (k1 : Int) = (k2 : Int) := by omega
        have e2 : Lib.allEq Dg.eq xs ys = false := Lib.allEq_len Dg.eq _ _ (by rw [hx.1, hy.1]; exact hkk)
        clear hx hu hy hv
        go_enter Tryz.func6, Tryz.ntmps6
        go_wp2
        go_ret
        exact ⟨by simp [e2], hb⟩
    · have e1 : (n1 == n2) = false := by simpa using hn
      have e2 : decide (n1 = n2) = false := by simpa using hn
      clear hx hu hy hv
      go_enter Tryz.func6, Tryz.ntmps6
      go_wp2
      go_ret
      exact ⟨by simp [hn], hb⟩
  · have e2 : decide (s1 = s2) = false := by simpa using hs
    have e3 : ¬ s1.toList = s2.toList := fun h => hs (by rw [ByteArray.toList_eq, ByteArray.toList_eq] at h; cases s1; cases s2; simp only [ByteArray.mk.injEq]; exact Array.toList_inj.1 h)
    clear hx hu hy hv
    go_enter Tryz.func6, Tryz.ntmps6
    go_wp2
    go_ret
    exact ⟨by simp [hs], hb⟩
end Go.Proofs.YtdgcjepbgamedaaGreatDoor
