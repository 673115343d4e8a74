/- The law: true, whatever the numbers and the memory, if the package-level variables hold what they hold; nothing that was there turns. Conditions: the variables. -/
import Derived.Test.YtedkimnbghpkeaaGreatDoorEvS
import Derived.Test.YtedkimnbghpkeaaGreatDoorEvB
import Derived.Test.YtedkimnbghpkeaaGreatDoorEvD0
import Derived.Test.YtedkimnbghpkeaaGreatDoorEvD1
import Derived.Test.YtedkimnbghpkeaaGreatDoorEvD2
import Derived.Test.YtedkimnbghpkeaaGreatDoorEvD3
import Derived.Test.YtedkimnbghpkeaaGreatDoorEvD4
import Derived.Test.YtedkimnbghpkeaaGreatDoorEvD5
import Derived.Test.YtedkimnbghpkeaaGreatDoorEvD6
import Derived.Test.YtedkimnbghpkeaaGreatDoorEvD7
import Derived.Test.YtedkimnbghpkeaaGreatDoorEvD8
import Derived.Test.YtedkimnbghpkeaaGreatDoorEvD9
import Derived.Test.YtedkimnbghpkeaaGreatDoorEvD10
import Derived.Test.YtedkimnbghpkeaaGreatDoorEvD11
import Derived.Test.YtedkimnbghpkeaaGreatDoorEvD12
import Derived.Test.YtedkimnbghpkeaaGreatDoorEvD13
import Derived.Test.YtedkimnbghpkeaaGreatDoorEvD14
import Derived.Test.YtedkimnbghpkeaaGreatDoorEvD15
import Derived.KernelRfl
namespace Go.Proofs.YtedkimnbghpkeaaGreatDoor
open Go Go.Ev
set_option linter.unusedSectionVars false
theorem allRuns : ∀ m : Nat, m < 64 → ∀ k : Nat, k < 6 → runC m k = .good
  | 0, _ => a0
  | 1, _ => a1
  | 2, _ => a2
  | 3, _ => a3
  | 4, _ => a4
  | 5, _ => a5
  | 6, _ => a6
  | 7, _ => a7
  | 8, _ => a8
  | 9, _ => a9
  | 10, _ => a10
  | 11, _ => a11
  | 12, _ => a12
  | 13, _ => a13
  | 14, _ => a14
  | 15, _ => a15
  | 16, _ => a16
  | 17, _ => a17
  | 18, _ => a18
  | 19, _ => a19
  | 20, _ => a20
  | 21, _ => a21
  | 22, _ => a22
  | 23, _ => a23
  | 24, _ => a24
  | 25, _ => a25
  | 26, _ => a26
  | 27, _ => a27
  | 28, _ => a28
  | 29, _ => a29
  | 30, _ => a30
  | 31, _ => a31
  | 32, _ => a32
  | 33, _ => a33
  | 34, _ => a34
  | 35, _ => a35
  | 36, _ => a36
  | 37, _ => a37
  | 38, _ => a38
  | 39, _ => a39
  | 40, _ => a40
  | 41, _ => a41
  | 42, _ => a42
  | 43, _ => a43
  | 44, _ => a44
  | 45, _ => a45
  | 46, _ => a46
  | 47, _ => a47
  | 48, _ => a48
  | 49, _ => a49
  | 50, _ => a50
  | 51, _ => a51
  | 52, _ => a52
  | 53, _ => a53
  | 54, _ => a54
  | 55, _ => a55
  | 56, _ => a56
  | 57, _ => a57
  | 58, _ => a58
  | 59, _ => a59
  | 60, _ => a60
  | 61, _ => a61
  | 62, _ => a62
  | 63, _ => a63
  | m + 64, h => absurd h (by omega)
section
variable [Sym]
theorem hookedB (ha : ∀ i, -9223372036854775808 ≤ Sym.z i ∧ Sym.z i ≤ 9223372036854775807) {m k : Nat} (hm : m < 64) (hk : k < 6) (h0 : bringZ (Sym.z 0) 64 = m) (h1 : bringZ (Sym.z 1) 6 = k) : HookOk PP (rtOf PP rfs0) (hkB [(0, 64, m), (1, 6, k)]) := by
  obtain ⟨body, hb⟩ := Option.isSome_iff_exists.1 (show Tryz.f4.body.isSome = true by kernel_rfl)
  refine bring_hook hooked1 Tryz.func4 hb (by decide +kernel) (fun w i n r ht => ?_) (fun t ht => ?_)
  · have key : ∀ n : Nat, 0 < n → n ≤ 1073741824 → bringZ (Sym.z i) n = r → Calls Tryz.prog 4 #[.int .i64 (Sym.z i), .int .i64 n] w fun (e : Ending) (w' : World) => e = .returned (.int .i64 r) ∧ Go.RowKit.Below w.heap.size w w' := fun n hn hn' hr =>
      (bringT (Sym.z i) n w (ha i).1 (ha i).2 (by omega) (by omega)).mono fun e w' hq => by
        obtain ⟨rfl, rfl⟩ := hq
        rw [hr]
        exact ⟨rfl, Go.RowKit.Below.refl _ _⟩
    rcases List.mem_cons.1 ht with e | ht
    · simp only [Prod.mk.injEq] at e
      obtain ⟨rfl, rfl, rfl⟩ := e
      exact key 64 (by decide) (by decide) h0
    · rcases List.mem_cons.1 ht with e | ht
      · simp only [Prod.mk.injEq] at e
        obtain ⟨rfl, rfl, rfl⟩ := e
        exact key 6 (by decide) (by decide) h1
      · cases ht
  · have hi : maxI = 9223372036854775807 := rfl
    rcases List.mem_cons.1 ht with e | ht
    · subst e
      show m ≤ maxI
      omega
    · rcases List.mem_cons.1 ht with e | ht
      · subst e
        show k ≤ maxI
        omega
      · cases ht
theorem shapesS (ha : ∀ i, -9223372036854775808 ≤ Sym.z i ∧ Sym.z i ≤ 9223372036854775807) (w : World) (hw : ∀ (g et n : Nat) (vs : AV), gl0[g]? = some (some (et, n, vs)) → ∃ (xs : List Value) (lo hi : Nat), VRL (iota8 (zsOf gl0)) vs xs ∧ w.heap[g]? = some (Obj.cells xs.toArray et (lo, hi))) (hs : 8 ≤ w.heap.size) :
    Calls Tryz.prog 3 #[.int .i64 (Sym.z 0), .int .i64 (Sym.z 1)] w fun (e : Ending) (w' : World) => e = .returned (.bool true) ∧ Go.RowKit.Below w.heap.size w w' := by
  obtain ⟨m, hm, h0⟩ := bringZ_mem (a := Sym.z 0) (n := 64) (by decide)
  obtain ⟨k, hk, h1⟩ := bringZ_mem (a := Sym.z 1) (n := 6) (by decide)
  obtain ⟨body, hb⟩ := Option.isSome_iff_exists.1 (show Tryz.f3.body.isSome = true by kernel_rfl)
  have C : CallOk PP (rtOf PP rfs0) (evB [(0, 64, m), (1, 6, k)] 1000) := ev_ok drawn (hookedB ha hm hk h0 h1) (T := evB [(0, 64, m), (1, 6, k)]) rfl (fun n g => gB _ (evB _ n) g) 1000
  exact runN_ok C Tryz.func3 hb (by decide +kernel) (by kernel_rfl) ((runC_eq m k).symm.trans (allRuns m hm k hk)) rfl hs (.cons (.any 0) (.cons (.any 1) .nil)) hw
end
end Go.Proofs.YtedkimnbghpkeaaGreatDoor
