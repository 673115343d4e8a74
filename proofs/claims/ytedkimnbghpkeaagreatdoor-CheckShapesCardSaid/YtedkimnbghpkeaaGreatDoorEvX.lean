/- The functions of the program as plain terms, and that they are what the evaluator makes of the code. Conditions: none. -/
import Derived.Test.YtedkimnbghpkeaaGreatDoorEvE0
import Derived.Test.YtedkimnbghpkeaaGreatDoorEvE1
import Derived.Test.YtedkimnbghpkeaaGreatDoorEvE2
import Derived.Test.YtedkimnbghpkeaaGreatDoorEvE3
import Derived.Test.YtedkimnbghpkeaaGreatDoorEvE4
import Derived.Test.YtedkimnbghpkeaaGreatDoorEvE5
namespace Go.Ev
open Go
set_option linter.unusedVariables false
set_option maxRecDepth 100000

noncomputable def tG (a b : D) (c : C3) : N16 Fun := ⟨Gv a b .d0 c, Gv a b .d1 c, Gv a b .d2 c, Gv a b .d3 c, Gv a b .d4 c, Gv a b .d5 c, Gv a b .d6 c, Gv a b .d7 c, Gv a b .d8 c, Gv a b .d9 c, Gv a b .d10 c, Gv a b .d11 c, Gv a b .d12 c, Gv a b .d13 c, Gv a b .d14 c, Gv a b .d15 c⟩
theorem lG (a b : D) (c : C3) (d : D) : (tG a b c).get d = Gv a b d c := by cases d <;> rfl
noncomputable def tH (a : D) (c : C3) : N16 (N16 Fun) := ⟨tG a .d0 c, tG a .d1 c, tG a .d2 c, tG a .d3 c, tG a .d4 c, tG a .d5 c, tG a .d6 c, tG a .d7 c, tG a .d8 c, tG a .d9 c, tG a .d10 c, tG a .d11 c, tG a .d12 c, tG a .d13 c, tG a .d14 c, tG a .d15 c⟩
theorem lH (a : D) (c : C3) (b d : D) : ((tH a c).get b).get d = Gv a b d c := by cases b <;> exact lG _ _ c d
noncomputable def u0 (c : C3) : N16 (N16 Fun) := ⟨t0 c, t1 c, t2 c, t3 c, t4 c, t5 c, t6 c, t7 c, t8 c, t9 c, t10 c, t11 c, t12 c, t13 c, t14 c, t15 c⟩
theorem m0 (c : C3) (b d : D) : ((u0 c).get b).get d = Gv .d0 b d c := @D.rec (fun b => ((u0 c).get b).get d = Gv .d0 b d c) (l0 c d) (l1 c d) (l2 c d) (l3 c d) (l4 c d) (l5 c d) (l6 c d) (l7 c d) (l8 c d) (l9 c d) (l10 c d) (l11 c d) (l12 c d) (l13 c d) (l14 c d) (l15 c d) b
noncomputable def u1 (c : C3) : N16 (N16 Fun) := ⟨t16 c, t17 c, t18 c, t19 c, t20 c, t21 c, t22 c, t23 c, t24 c, t25 c, t26 c, tG .d1 .d11 c, t28 c, tG .d1 .d13 c, tG .d1 .d14 c, tG .d1 .d15 c⟩
theorem m1 (c : C3) (b d : D) : ((u1 c).get b).get d = Gv .d1 b d c := @D.rec (fun b => ((u1 c).get b).get d = Gv .d1 b d c) (l16 c d) (l17 c d) (l18 c d) (l19 c d) (l20 c d) (l21 c d) (l22 c d) (l23 c d) (l24 c d) (l25 c d) (l26 c d) (lG .d1 .d11 c d) (l28 c d) (lG .d1 .d13 c d) (lG .d1 .d14 c d) (lG .d1 .d15 c d) b
noncomputable def tabX (c : C3) : C3 := ⟨u0 c, u1 c, tH .d2 c, tH .d3 c, tH .d4 c, tH .d5 c, tH .d6 c, tH .d7 c, tH .d8 c, tH .d9 c, tH .d10 c, tH .d11 c, tH .d12 c, tH .d13 c, tH .d14 c, tH .d15 c⟩
theorem gX (c : C3) (g : G3) : disp (tabX c) g = fnOf PP rfs0 hk0 g.val c := by
  obtain ⟨a, b, d⟩ := g
  exact @D.rec (fun a => disp (tabX c) ⟨a, b, d⟩ = Gv a b d c) (m0 c b d) (m1 c b d) (lH .d2 c b d) (lH .d3 c b d) (lH .d4 c b d) (lH .d5 c b d) (lH .d6 c b d) (lH .d7 c b d) (lH .d8 c b d) (lH .d9 c b d) (lH .d10 c b d) (lH .d11 c b d) (lH .d12 c b d) (lH .d13 c b d) (lH .d14 c b d) (lH .d15 c b d) a
noncomputable def evX : Nat → C3 := @Nat.rec (fun _ => C3) badC (fun _ ih => tabX ih)
end Go.Ev
