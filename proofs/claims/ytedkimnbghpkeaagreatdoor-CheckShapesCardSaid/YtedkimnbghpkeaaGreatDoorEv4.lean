/- The evaluator of Go code (plain Lean), and the proof that what it answers is what the model does: part 4. Conditions: none. -/
import Derived.ChangeArms
import Derived.Handed
import Derived.OpenShut
import Derived.Test.YtedkimnbghpkeaaGreatDoorEv3
namespace Go.Ev
open Go
set_option linter.unusedSectionVars false
variable [Sym]
set_option linter.unusedVariables false
set_option linter.unusedSimpArgs false
variable {P : Program} {rt : Nat → Option RT} {call : C3} {ι : Inj} {h : H} {w : World}
noncomputable def globK : List (Option (Nat × Nat × AV)) → (List AO → Ans) → Ans
  | [], k => k []
  | none :: l, k => globK l fun os => k (.no :: os)
  | some (et, n, vs) :: l, k => wK (Nat.beq vs.len n) (layK vs 0 RowE fun c => globK l fun os => k (.cells et false (n + 1) n true c :: os))

def Known (o : AO) (et n : Nat) (vs : AV) : Prop := ∃ c, o = .cells et false (n + 1) n true c ∧ vs.len = n ∧ Row.Lay vs 0 RowE c

theorem globK_good : ∀ {gl : List (Option (Nat × Nat × AV))} {k : List AO → Ans}, globK gl k = .good →
    ∃ os, k os = .good ∧ os.length = gl.length ∧ (∀ o ∈ os, SealedOrNo o) ∧ ∀ g, os.getD g .no ≠ .no → ∃ et n vs, gl[g]? = some (some (et, n, vs)) ∧ Known (os.getD g .no) et n vs
  | [], k, hk => ⟨[], hk, rfl, fun o ho => (by cases ho), fun g hg => (hg rfl).elim⟩
  | none :: l, k, hk => by
    have hk : globK l (fun os => k (.no :: os)) = .good := hk
    obtain ⟨os, h1, h2, h3, h4⟩ := globK_good hk
    refine ⟨.no :: os, h1, by simp [h2], fun o ho => ?_, fun g hg => ?_⟩
    · rcases List.mem_cons.1 ho with rfl | ho
      · exact .inr rfl
      · exact h3 o ho
    · cases g with
      | zero => exact (hg rfl).elim
      | succ g =>
        obtain ⟨et, n, vs, h5, h6⟩ := h4 g hg
        exact ⟨et, n, vs, h5, h6⟩
  | some (et, n, vs) :: l, k, hk => by
    have hk : wK (Nat.beq vs.len n) (layK vs 0 RowE fun c => globK l fun os => k (.cells et false (n + 1) n true c :: os)) = .good := hk
    obtain ⟨hn, hk⟩ := wK_good hk
    obtain ⟨c, hc, hk⟩ := layK_good vs hk
    obtain ⟨os, h1, h2, h3, h4⟩ := globK_good hk
    refine ⟨_ :: os, h1, by simp [h2], fun o ho => ?_, fun g hg => ?_⟩
    · rcases List.mem_cons.1 ho with rfl | ho
      · exact .inl ⟨_, _, _, _, rfl⟩
      · exact h3 o ho
    · cases g with
      | zero => exact ⟨et, n, vs, rfl, c, rfl, beq_true hn, hc⟩
      | succ g =>
        obtain ⟨et, n, vs, h5, h6⟩ := h4 g hg
        exact ⟨et, n, vs, h5, h6⟩

noncomputable def zsOf (gl : List (Option (Nat × Nat × AV))) : List Nat := gl.map fun | some (_, n, _) => n | none => 0

theorem known_OR {o : AO} {et n lo hi : Nat} {vs : AV} {xs : List Value} (hk : Known o et n vs) (hv : VRL ι vs xs) : OR rt ι n o (.cells xs.toArray et (lo, hi)) := by
  obtain ⟨c, rfl, hn, hl⟩ := hk
  have hx := hv.len
  have f3 := lay_f3 hl hv
  refine .cells (by simp; omega) (Nat.le_refl _) ?_ (fun _ => rfl) (fun i hi => ?_) (.inr (.inr (.inr (Nat.lt_succ_self n))))
  · rcases Nat.eq_zero_or_pos n with h0 | h0
    · omega
    · have := (f3 (n - 1) _ (List.getElem?_eq_getElem (by omega))).1
      omega
  · have := f3 i _ (List.getElem?_eq_getElem (by omega))
    exact ⟨trivial, _, by simp, this.2.2⟩
theorem works_glob (C : CallOk P rt call) {i : Nat} {fn : Func} {body : Code} (hf : P.funcs[i]? = some fn) (hb : fn.body = some body) (hn : fn.name ≠ "runtime.NumGoroutine") {g : G3} (hg : g.val = i) {gl : List (Option (Nat × Nat × AV))}
    (hk : globK gl (fun os => newAllK os H00 fun h => disp call g E0 .nil (.num 0) h (fun v _ => isTrueK v) fun _ _ => .bad) = .good) (hl : gl.length = 8) (hs : 8 ≤ w.heap.size)
    (hw : ∀ (g et n : Nat) (vs : AV), gl[g]? = some (some (et, n, vs)) → ∃ (xs : List Value) (lo hi : Nat), VRL (iota8 (zsOf gl)) vs xs ∧ w.heap[g]? = some (Obj.cells xs.toArray et (lo, hi))) :
    Calls P i #[] w fun (e : Ending) (w' : World) => e = .returned (.bool true) ∧ Go.RowKit.Below w.heap.size w w' := by
  obtain ⟨os, h1, h2, h3, h4⟩ := globK_good hk
  refine works_ok C (zs := zsOf gl) hf hb hn hg h1 (h2.trans hl) h3 hs fun g' hg' hno => ?_
  obtain ⟨et, n, vs, h5, h6⟩ := h4 g' hno
  obtain ⟨xs, lo, hi, h7, h8⟩ := hw g' et n vs h5
  refine ⟨_, h8, ?_⟩
  have hz : (zsOf gl).getD g' 0 = n := by
    unfold zsOf
    rw [List.getD_eq_getElem?_getD, List.getElem?_map, h5]
    rfl
  rw [hz]
  exact known_OR h6 h7

end Go.Ev

namespace Go.Ev
open Go
section
variable {H : Type} {enc : TypeId × Value → H} {P : Program} {w : World} {base : Nat} {spare : Nat → Bool} {held : Bool}

theorem arr_cells {t e n fuel : Nat} {cs : List Value} {x : DataW H × List MemPlace} (ht : P.underlying t = some (.array n e)) (hce : P.cellsOf e = 1) (hct : P.cellsOf t = n) (h : DataW.trod enc P w base spare held fuel t cs = some x) :
    ∃ (ys : List (DataW H × List MemPlace)) (m : Nat), x.1 = .agg (ys.map (·.1)) ∧ ys.length = n ∧ cs.length = n ∧ ∀ (i : Nat) (c : Value), cs[i]? = some c → ∃ y, ys[i]? = some y ∧ DataW.trod enc P w base spare held m e [c] = some y := by
  obtain ⟨xs, m, _, rfl, hl, hn, hf⟩ := DataW.trod_array ht h
  refine ⟨xs, m, rfl, hn, hl.trans hct, fun i c hc => ?_⟩
  have hi : i < cs.length := (List.getElem?_eq_some_iff.1 hc).1
  have h1 := hf i (by omega)
  have h2 : (cs.drop (i * P.cellsOf e)).take (P.cellsOf e) = [c] := by
    rw [hce, Nat.mul_one, List.drop_eq_getElem_cons hi]
    have := (List.getElem?_eq_some_iff.1 hc).2
    simp [this]
  rw [h2] at h1
  exact ⟨xs[i], List.getElem?_eq_getElem (by omega), by rw [h1, List.getElem?_eq_getElem (by omega)]⟩

theorem laid_ints {k : IntKind} {t e n fuel : Nat} {cs : List Value} {ls : List Int} {p : List MemPlace} (ht : P.underlying t = some (.array n e)) (hce : P.cellsOf e = 1) (hct : P.cellsOf t = n) (he : P.underlying e = some (.int k))
    (h : DataW.trod enc P w base spare held fuel t cs = some (.agg (ls.map fun z => .lit (.int k z)), p)) : cs = ls.map (Value.int k) := by
  obtain ⟨ys, m, h1, h2, h3, h4⟩ := arr_cells ht hce hct h
  simp only [DataW.agg.injEq] at h1
  have hlen : ls.length = n := by
    have := congrArg List.length h1
    simp only [List.length_map] at this
    omega
  refine List.ext_getElem? fun i => ?_
  by_cases hi : i < n
  · obtain ⟨y, h5, h6⟩ := h4 i _ (List.getElem?_eq_getElem (by omega))
    obtain ⟨z, e1, e2, _⟩ := DataW.trod_int he h6
    have h7 : (ls.map fun z => DataW.lit (H := H) (.int k z))[i]? = some y.1 := by rw [h1, List.getElem?_map, h5]; rfl
    rw [List.getElem?_map, List.getElem?_eq_getElem (by omega)] at h7
    simp only [Option.map_some, Option.some.injEq] at h7
    rw [e2] at h7
    simp only [DataW.lit.injEq, Lit.int.injEq, true_and] at h7
    injection e1 with e1
    rw [List.getElem?_eq_getElem (by omega), e1, List.getElem?_map, List.getElem?_eq_getElem (by omega), Option.map_some, h7]
  · rw [List.getElem?_eq_none (by omega), List.getElem?_eq_none (by simp; omega)]

theorem laid_strs {t e n fuel : Nat} {cs : List Value} {ls : List (List UInt8)} {p : List MemPlace} (ht : P.underlying t = some (.array n e)) (hce : P.cellsOf e = 1) (hct : P.cellsOf t = n) (he : P.underlying e = some .string)
    (h : DataW.trod enc P w base spare held fuel t cs = some (.agg (ls.map fun z => .lit (.string z)), p)) : cs = ls.map fun z => Value.string ⟨z.toArray⟩ := by
  obtain ⟨ys, m, h1, h2, h3, h4⟩ := arr_cells ht hce hct h
  simp only [DataW.agg.injEq] at h1
  have hlen : ls.length = n := by
    have := congrArg List.length h1
    simp only [List.length_map] at this
    omega
  refine List.ext_getElem? fun i => ?_
  by_cases hi : i < n
  · obtain ⟨y, h5, h6⟩ := h4 i _ (List.getElem?_eq_getElem (by omega))
    obtain ⟨z, e1, e2, _⟩ := DataW.trod_string he h6
    have h7 : (ls.map fun z => DataW.lit (H := H) (.string z))[i]? = some y.1 := by rw [h1, List.getElem?_map, h5]; rfl
    rw [List.getElem?_map, List.getElem?_eq_getElem (by omega)] at h7
    simp only [Option.map_some, Option.some.injEq] at h7
    rw [e2] at h7
    simp only [DataW.lit.injEq, Lit.string.injEq] at h7
    injection e1 with e1
    rw [List.getElem?_eq_getElem (by omega), e1, List.getElem?_map, List.getElem?_eq_getElem (by omega), Option.map_some, h7]
  · rw [List.getElem?_eq_none (by omega), List.getElem?_eq_none (by simp; omega)]
end

section
variable {H : Type} {enc : TypeId × Value → H}
theorem returnsInHanded_of_shaped {a : Assume} {C : Checked} {os : Os} {f : FuncId} {fn : Func} {s : ChangeSpec} {conds : List PathCond} {apart fresh handsOn again : Bool} {X : World → Array Value → Prop}
    (hX : ∀ (w w' : World) (args : Array Value), w.heap = w'.heap → X w args → X w' args)
    (own : ownKnob C.prog.godebug = none) (started : os.Started) (noInit : C.prog.inits.idxOf? f = none) (hfn : C.prog.funcs[f]? = some fn)
    (witness : ∃ (w : World) (tape : Tape) (i : Input), w.os = os ∧ (w.forCall tape i).Shaped C.prog ∧ i.vars = [] ∧ Input.okWide C.prog (w.forCall tape i) .any w.heap.size f i ∧
      ((s.pre enc C.prog fn conds apart (w.forCall tape i).memory i.args ∧ X (w.forCall tape i).memory i.args) ∧ sizedMet enc C.prog fn (OpenSpec.ofChange s) apart (w.forCall tape i).memory i.args) ∧ a.holds C.prog (lone (Frame.enter C.prog f i.args .normal) [] (w.forCall tape i)))
    (contract : ∀ (W : World) (base : Nat) (args : Array Value) (ds gs : List (DataW H)) (before : List MemPlace), W.ShapedOpen C.prog →
      (∀ (j : Nat) t v, fn.params[j]? = some t → args[j]? = some v → Value.okWide C.prog W .any base t v) →
      DataW.Whole enc C.prog fn.params.toList s.vars apart W args.toList ds gs before → X W args →
      Calls C.prog f args W fun e W' => ∃ v, e = .returned v ∧ s.post enc C.prog fn apart fresh handsOn again W args v W') :
    ReturnsInHanded a C os f .any (fun w args => (s.pre enc C.prog fn conds apart w args ∧ X w args) ∧ sizedMet enc C.prog fn (OpenSpec.ofChange s) apart w args) (s.post enc C.prog fn apart fresh handsOn again) := by
  refine returnsInHanded_of_calls own started noInit witness fun w tape i _ hsh _ hok hpre _ => ?_
  obtain ⟨_, _, _, fn', hfn', _, _, _, _, hval⟩ := hok
  obtain rfl := Option.some.inj (hfn'.symm.trans hfn)
  obtain ⟨⟨⟨ds, gs, before, hw, _⟩, hx⟩, _⟩ := hpre
  refine (contract (w.forCall tape i) w.heap.size i.args ds gs before hsh hval (DataW.Whole.of_heap (w' := w.forCall tape i) (by rfl) hw) (hX _ _ _ (by rfl) hx)).mono fun e W' ⟨v, he, hp⟩ => ?_
  subst he
  exact ChangeSpec.post_blind hp
end
end Go.Ev
