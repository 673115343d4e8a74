/- No function of the program starts another goroutine. Conditions: none. -/
import Derived.Test.YtedkimnbghpkeaaGreatDoorRows
import Derived.ProofKit
import Derived.JoinedOf
import Derived.SevenTiedAt
import Derived.KernelRfl
namespace Go.Proofs.YtedkimnbghpkeaaGreatDoor
set_option maxRecDepth 100000
theorem all_chunks {α : Type} {p : α → Bool} {l : List α} {n m : Nat} (hn : 0 < n) (h : ∀ k, k < m → ((l.drop (n * k)).take n).all p = true) (hl : l.length ≤ n * m) : ∀ x ∈ l, p x = true := fun x hx => by
  obtain ⟨i, hi, rfl⟩ := List.getElem_of_mem hx
  have hk : i / n < m := Nat.div_lt_of_lt_mul (by omega)
  have h1 := h (i / n) hk
  rw [List.all_eq_true] at h1
  refine h1 _ ?_
  have e : n * (i / n) + i % n = i := Nat.div_add_mod i n
  have hm : i % n < n := Nat.mod_lt _ hn
  rw [List.mem_iff_getElem?]
  refine ⟨i % n, ?_⟩
  rw [List.getElem?_take_of_lt hm, List.getElem?_drop, e, List.getElem?_eq_getElem hi]
theorem ng0 : (((Tryz.prog.funcs.toList.drop (100 * 0)).take 100).all fun fn => !fn.goes) = true := by kernel_rfl
theorem ng1 : (((Tryz.prog.funcs.toList.drop (100 * 1)).take 100).all fun fn => !fn.goes) = true := by kernel_rfl
theorem ng2 : (((Tryz.prog.funcs.toList.drop (100 * 2)).take 100).all fun fn => !fn.goes) = true := by kernel_rfl
theorem ng3 : (((Tryz.prog.funcs.toList.drop (100 * 3)).take 100).all fun fn => !fn.goes) = true := by kernel_rfl
theorem ng4 : (((Tryz.prog.funcs.toList.drop (100 * 4)).take 100).all fun fn => !fn.goes) = true := by kernel_rfl
theorem ngAll : ∀ fn ∈ Tryz.prog.funcs.toList, (!fn.goes) = true := all_chunks (p := fun fn => !Func.goes fn) (n := 100) (m := 5) (by decide) (fun k hk => by
  match k, hk with
  | 0, _ => exact ng0
  | 1, _ => exact ng1
  | 2, _ => exact ng2
  | 3, _ => exact ng3
  | 4, _ => exact ng4) (of_decide_eq_true (by kernel_rfl))
theorem goes_none (f : FuncId) : Tryz.prog.goes f = false := by
  have h0 : ∀ (g : Nat) (fn : Func), Tryz.prog.funcs[g]? = some fn → fn.goes = false := fun g fn h => by
    have := ngAll fn (Array.mem_toList_iff.2 (Array.mem_of_getElem? h))
    simpa using this
  unfold Program.goes
  have h1 : ((Tryz.prog.closure f).any fun g => (Tryz.prog.funcs[g]?).any Func.goes) = false := by
    rw [List.any_eq_false]
    intro g _
    cases h : Tryz.prog.funcs[g]? with
    | none => simp
    | some fn => simp [h0 g fn h]
  have h2 : Tryz.prog.funcs.any Func.goes = false := by
    rw [Array.any_eq_false]
    intro i hi
    have := h0 i _ (Array.getElem?_eq_getElem hi)
    simp [this]
  rw [h1, h2, Bool.and_false]
  rfl
theorem rowGoes : false = Rows.checkShapesRow.goesBy Tryz.prog := by
  have hs : Rows.checkShapesRow.start = .entering := rfl
  unfold OpenClaim.goesBy Program.goesAt Program.goesFrom
  rw [hs]
  cases Tryz.prog.funcNamed Rows.checkShapesRow.func with
  | none => rfl
  | some f => simp [goes_none f]
end Go.Proofs.YtedkimnbghpkeaaGreatDoor
