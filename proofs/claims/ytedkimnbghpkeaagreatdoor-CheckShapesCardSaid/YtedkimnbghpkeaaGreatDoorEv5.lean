/- The evaluator of Go code (plain Lean), and the proof that what it answers is what the model does: part 5. Conditions: none. -/
import Derived.Test.YtedkimnbghpkeaaGreatDoorEv4
namespace Go.Ev
open Go
set_option linter.unusedSectionVars false
variable [Sym]
set_option linter.unusedVariables false
set_option linter.unusedSimpArgs false
variable {P : Program} {rt : Nat → Option RT} {call : C3} {ι : Inj} {h : H} {w w' : World}
noncomputable def plainL : AV → Bool
  | .nil => true
  | .cons a r => (match a with | .num _ => true | .int _ _ => true | .str _ _ => true | .bool _ => true | _ => false) && plainL r
  | _ => false
theorem plain_VR {ι' : Inj} {a : AV} {v : Value} (h : (match a with | .num _ => true | .int _ _ => true | .str _ _ => true | .bool _ => true | _ => false) = true) (hv : VR ι a v) : VR ι' a v := by
  cases hv with
  | bool b => exact .bool b
  | num n hn => exact .num n hn
  | int k n hn => exact .int k n hn
  | str s hs => exact .str s hs
  | _ => cases h
theorem plainL_VRL {ι' : Inj} : ∀ {vs : AV} {l : List Value}, plainL vs = true → VRL ι vs l → VRL ι' vs l := by
  intro vs
  induction vs with
  | nil => intro l h hv; cases hv with | nil => exact .nil
  | cons a r _ ih =>
    intro l h hv
    have h : (_ && plainL r) = true := h
    obtain ⟨h3, h4⟩ := Bool.and_eq_true_iff.1 h
    cases hv with | cons h1 h2 => exact .cons (plain_VR h3 h1) (ih h4 h2)
  | _ => intro l h hv; cases h
noncomputable def sameGK : List (Option (Nat × Nat × AV)) → Nat → H → Ans → Ans
  | [], _, _, k => k
  | none :: l, g, h, k => sameGK l (g + 1) h k
  | some (et, n, vs) :: l, g, h, k => HgetK h (P4.ofNat g) fun o => AOcellsK o fun et' mk fz n' ex c =>
      wK (Nat.beq et et') (wK (Nat.beq n n') (wK ex (rowK n' c 0 fun us => wK (vs.same us) (wK (plainL vs) (sameGK l (g + 1) h k)))))
noncomputable def worksK (gl : List (Option (Nat × Nat × AV))) : C3 → Fun := fun _ _ cap rv h kr _ => nilK cap (asNum rv fun n => wK (Nat.beq n 0) (sameGK gl 0 h (kr (.bool true) h)))
theorem Post.below (m : MR rt ι h w) (b : Go.RowKit.Below w.heap.size w w') : Post rt ι h w ι h w' :=
  have mr : MR rt ι h w' := ⟨m.inj, fun p c z hp hl => by
    obtain ⟨o, h1, h2⟩ := m.obj p c z hp hl
    exact ⟨o, by rw [b.block c (Array.getElem?_eq_some_iff.1 h1).1]; exact h1, h2⟩, m.low, fun p c z e => Nat.lt_of_lt_of_le (m.old p c z e) b.size, m.free⟩
  ⟨.refl _, fun _ _ _ e => .inl e, fun _ _ _ e => e, mr, ⟨b.os, b.tape, b.output, b.size, fun c o ho _ => by rw [b.block c (Array.getElem?_eq_some_iff.1 ho).1]; exact ho⟩, fun _ _ => rfl, Nat.le_refl _, fun _ e _ => ⟨e, rfl⟩⟩

theorem sameGK_good {ι' : Inj} {k : Ans} (M : MR rt ι h w) (G : Glob ι) : ∀ {gl : List (Option (Nat × Nat × AV))} {g0 : Nat}, sameGK gl g0 h k = .good → g0 + gl.length ≤ 8 →
    k = .good ∧ ∀ (g et n : Nat) (vs : AV), gl[g]? = some (some (et, n, vs)) → ∃ (xs : List Value) (lo hi : Nat), VRL ι' vs xs ∧ w.heap[g0 + g]? = some (Obj.cells xs.toArray et (lo, hi))
  | [], g0, hk, hl => ⟨hk, fun g et n vs e => by simp at e⟩
  | none :: l, g0, hk, hl => by
    have hk : sameGK l (g0 + 1) h k = .good := hk
    rw [List.length_cons] at hl
    obtain ⟨h1, h2⟩ := sameGK_good M G hk (by omega)
    refine ⟨h1, fun g et n vs e => ?_⟩
    cases g with
    | zero => simp at e
    | succ g =>
      obtain ⟨xs, lo, hi, h3, h4⟩ := h2 g et n vs (by simpa using e)
      exact ⟨xs, lo, hi, h3, by rw [show g0 + (g + 1) = g0 + 1 + g by omega]; exact h4⟩
  | some (et, n, vs) :: l, g0, hk, hl => by
    have hk : HgetK h (P4.ofNat g0) (fun o => _) = .good := hk
    rw [HgetK_eq] at hk
    obtain ⟨et', mk, fz, n', ex, c, hg, hk⟩ := AOcellsK_good hk
    obtain ⟨h1, hk⟩ := wK_good hk
    obtain ⟨h2, hk⟩ := wK_good hk
    obtain ⟨h3, hk⟩ := wK_good hk
    rw [rowK_eq] at hk
    obtain ⟨h4, hk⟩ := wK_good hk
    obtain ⟨h5, hk⟩ := wK_good hk
    have h1 := beq_true h1
    have h4 := AV.same_eq h4
    rw [List.length_cons] at hl
    obtain ⟨i1, i2⟩ := sameGK_good M G hk (by omega)
    refine ⟨i1, fun g et2 n2 vs2 e => ?_⟩
    cases g with
    | zero =>
      simp only [List.getElem?_cons_zero, Option.some.injEq, Prod.mk.injEq] at e
      obtain ⟨e1, e2, e3⟩ := e
      obtain ⟨z, hz⟩ := G g0 (by omega)
      obtain ⟨arr, lo, hi, r⟩ := M.row hz hg
      have hr := list_VRL r n' 0 (by omega)
      have hn : n' = arr.toList.length := by rw [Array.length_toList, r.hz]; exact r.hx h3
      rw [List.drop_zero, hn, List.take_length, ← hn, ← h4] at hr
      subst e1; subst e3
      refine ⟨arr.toList, lo, hi, plainL_VRL h5 hr, ?_⟩
      rw [Nat.add_zero, h1]
      exact r.at_
    | succ g =>
      obtain ⟨xs, lo, hi, h6, h7⟩ := i2 g et2 n2 vs2 (by simpa using e)
      exact ⟨xs, lo, hi, h6, by rw [show g0 + (g + 1) = g0 + 1 + g by omega]; exact h7⟩

noncomputable def hookW (gl : List (Option (Nat × Nat × AV))) (iw : Nat) (hk : Nat → Option (C3 → Fun)) : Nat → Option (C3 → Fun) := fun i => match Nat.beq i iw with
  | true => some (worksK gl)
  | false => hk i

theorem works_hook {gl : List (Option (Nat × Nat × AV))} {iw : Nat} {hk : Nat → Option (C3 → Fun)} (H : HookOk P rt hk) {fn : Func} {body : Code} (hf : P.funcs[iw]? = some fn) (hb : fn.body = some body) (hn : fn.name ≠ "runtime.NumGoroutine") (hl : gl.length = 8)
    (hw : ∀ w : World, (∀ (g et n : Nat) (vs : AV), gl[g]? = some (some (et, n, vs)) → ∃ (xs : List Value) (lo hi : Nat), VRL (iota8 (zsOf gl)) vs xs ∧ w.heap[g]? = some (Obj.cells xs.toArray et (lo, hi))) → 8 ≤ w.heap.size →
      Calls P iw #[] w fun (e : Ending) (w' : World) => e = .returned (.bool true) ∧ Go.RowKit.Below w.heap.size w w') : HookOk P rt (hookW gl iw hk) := by
  intro i f hi call C
  unfold hookW at hi
  cases e : Nat.beq i iw with
  | false => rw [e] at hi; exact H i f hi call C
  | true =>
    rw [e] at hi
    have e := beq_true e
    subst e
    injection hi with hi
    subst hi
    refine ⟨fun {ι h w as xs cs cap kr kp} M G ha hc hk => ?_, fun {h as p kr kp} hk => ?_, fun {h cap rv kr kp} hrv hk => ?_⟩
    · unfold worksK at hk
      obtain ⟨e0, hk1⟩ := nilK_good hk
      subst e0
      obtain ⟨n0, en, hk2⟩ := asNum_good hk1
      obtain ⟨h0, hk3⟩ := wK_good hk2
      have h0 := beq_true h0
      obtain ⟨hk4, hG⟩ := sameGK_good (ι' := iota8 (zsOf gl)) M G hk3 (by omega)
      cases ha with
      | cons _ _ => (injection en with en; simp only [List.length_cons] at en; omega)
      | nil =>
      cases hc with | nil =>
      have hs : 8 ≤ w.heap.size := by
        obtain ⟨z, hz⟩ := G 7 (by omega)
        have := M.old _ _ _ hz
        omega
      refine .enter _ _ (callFunc_enter hf hb hn _ w) (callsIn_wide.2 ((hw w (fun g et n vs e => by simpa using hG g et n vs e) hs).mono fun e w' hq => ?_))
      obtain ⟨rfl, hb⟩ := hq
      exact ⟨ι, h, .bool true, Post.below M hb, .bool _, hk4⟩
    · unfold worksK at hk
      cases hk
    · unfold worksK at hk
      obtain ⟨_, hk1⟩ := nilK_good hk
      obtain ⟨n0, en, _⟩ := asNum_good hk1
      exact hrv n0 en

theorem hookW_ne {gl : List (Option (Nat × Nat × AV))} {iw i : Nat} {hk : Nat → Option (C3 → Fun)} (h : Nat.beq i iw = false) : hookW gl iw hk i = hk i := by
  unfold hookW
  rw [h]
theorem fnOf_hook {rfs : List Nat} {hk hk' : Nat → Option (C3 → Fun)} {i : Nat} (h : hk i = hk' i) : fnOf P rfs hk i call = fnOf P rfs hk' i call := by
  unfold fnOf
  rw [h]
theorem fnOf_works {rfs : List Nat} {hk : Nat → Option (C3 → Fun)} {gl : List (Option (Nat × Nat × AV))} {iw : Nat} (hs : Nat.ble P.funcs.size iw = false) : fnOf P rfs (hookW gl iw hk) iw call = worksK gl call := by
  unfold fnOf
  rw [hs]
  have : hookW gl iw hk iw = some (worksK gl) := by
    unfold hookW
    rw [Nat.beq_refl]
  dsimp only
  rw [this]
end Go.Ev

namespace Go.Ev
open Go
set_option linter.unusedSectionVars false
variable [Sym]
set_option linter.unusedVariables false
set_option linter.unusedSimpArgs false
variable {P : Program} {rt : Nat → Option RT} {call : C3} {ι : Inj} {h : H} {w w' : World}
noncomputable def putF (g : G3) (f : Fun) (t : C3) : C3 := t.set g.a ((t.get g.a).set g.b (((t.get g.a).get g.b).set g.c f))
theorem putF_at (g : G3) (f : Fun) (t : C3) : disp (putF g f t) g = f := by
  unfold disp putF
  rw [N16.get_set, if_pos rfl, N16.get_set, if_pos rfl, N16.get_set, if_pos rfl]
theorem putF_ne {g g' : G3} (f : Fun) (t : C3) (h : g' ≠ g) : disp (putF g f t) g' = disp t g' := by
  obtain ⟨a, b, c⟩ := g
  obtain ⟨a', b', c'⟩ := g'
  unfold disp putF
  by_cases ea : a' = a
  · subst ea
    by_cases eb : b' = b
    · subst eb
      have ec : c' ≠ c := fun e => h (by rw [e])
      rw [N16.get_set, if_pos rfl, N16.get_set, if_pos rfl, N16.get_set, if_neg ec]
    · rw [N16.get_set, if_pos rfl, N16.get_set, if_neg eb]
  · rw [N16.get_set, if_neg ea]
theorem putF_ok {rfs : List Nat} {hk hk' : Nat → Option (C3 → Fun)} {t : C3} {g : G3} {f : Fun} (ht : ∀ g', disp t g' = fnOf P rfs hk g'.val call) (hf : f = fnOf P rfs hk' g.val call)
    (hne : ∀ i, Nat.beq i g.val = false → hk' i = hk i) (g' : G3) : disp (putF g f t) g' = fnOf P rfs hk' g'.val call := by
  cases e : Nat.beq g'.val g.val with
  | true =>
    have e := G3.val_inj (beq_true e)
    subst e
    rw [putF_at]
    exact hf
  | false =>
    rw [putF_ne f t fun h => by subst h; rw [Nat.beq_refl] at e; cases e]
    exact (ht g').trans (fnOf_hook (hne _ e).symm)
noncomputable def anyV (i : Nat) : AV := .cons .nil (.num i)
noncomputable def asAny (v : AV) (f : Nat → Ans) : Ans :=
  match v with
  | .cons .nil (.num i) => f i
  | _ => .bad
theorem asAny_good {v : AV} {f : Nat → Ans} (h : asAny v f = .good) : ∃ i, v = .cons .nil (.num i) ∧ f i = .good := by
  unfold asAny at h
  split at h
  · exact ⟨_, rfl, h⟩
  · cases h
noncomputable def findT : List (Nat × Nat × Nat) → Nat → Nat → (Nat → Ans) → Ans
  | [], _, _, _ => .bad
  | (i, m, r) :: l, j, n, k => bK (Nat.beq i j && Nat.beq m n) (k r) (findT l j n k)
theorem findT_good : ∀ {tab : List (Nat × Nat × Nat)} {j n : Nat} {k : Nat → Ans}, findT tab j n k = .good → ∃ r, (j, n, r) ∈ tab ∧ k r = .good
  | [], j, n, k, hk => by cases hk
  | (i, m, r) :: l, j, n, k, hk => by
    have hk : bK (Nat.beq i j && Nat.beq m n) (k r) (findT l j n k) = .good := hk
    rcases bK_good hk with ⟨e, hk2⟩ | ⟨_, hk2⟩
    · obtain ⟨e1, e2⟩ := Bool.and_eq_true_iff.1 e
      have d1 := beq_true e1
      have d2 := beq_true e2
      subst d1; subst d2
      exact ⟨r, by simp, hk2⟩
    · obtain ⟨r', h1, h2⟩ := findT_good hk2
      exact ⟨r', List.mem_cons_of_mem _ h1, h2⟩
noncomputable def bringK (tab : List (Nat × Nat × Nat)) : C3 → Fun := fun _ e cap rv h kr _ =>
  nilK cap (asNum rv fun q => wK (Nat.beq q 2) (U2 e fun a b => asAny a fun i => asNum b fun n => findT tab i n fun r => kr (.num r) h))
def bringZ (a n : Int) : Int := if a.tmod n < 0 then a.tmod n + n else a.tmod n
noncomputable def hookB (ib : Nat) (tab : List (Nat × Nat × Nat)) (hk : Nat → Option (C3 → Fun)) : Nat → Option (C3 → Fun) := fun i => match Nat.beq i ib with
  | true => some (bringK tab)
  | false => hk i
theorem hookB_ne {ib i : Nat} {tab : List (Nat × Nat × Nat)} {hk : Nat → Option (C3 → Fun)} (h : Nat.beq i ib = false) : hookB ib tab hk i = hk i := by
  unfold hookB
  rw [h]
theorem fnOf_bring {rfs : List Nat} {hk : Nat → Option (C3 → Fun)} {ib : Nat} {tab : List (Nat × Nat × Nat)} (hs : Nat.ble P.funcs.size ib = false) : fnOf P rfs (hookB ib tab hk) ib call = bringK tab call := by
  unfold fnOf
  rw [hs]
  have : hookB ib tab hk ib = some (bringK tab) := by
    unfold hookB
    rw [Nat.beq_refl]
  dsimp only
  rw [this]

theorem bring_hook {ib : Nat} {tab : List (Nat × Nat × Nat)} {hk : Nat → Option (C3 → Fun)} (H : HookOk P rt hk) {fn : Func} {body : Code} (hf : P.funcs[ib]? = some fn) (hb : fn.body = some body) (hn : fn.name ≠ "runtime.NumGoroutine")
    (hw : ∀ (w : World) (i n r : Nat), (i, n, r) ∈ tab → Calls P ib #[.int .i64 (Sym.z i), .int .i64 n] w fun (e : Ending) (w' : World) => e = .returned (.int .i64 r) ∧ Go.RowKit.Below w.heap.size w w')
    (ht : ∀ t ∈ tab, t.2.2 ≤ maxI) : HookOk P rt (hookB ib tab hk) := by
  intro i f hi call C
  unfold hookB at hi
  cases e : Nat.beq i ib with
  | false => rw [e] at hi; exact H i f hi call C
  | true =>
    rw [e] at hi
    have e := beq_true e
    subst e
    injection hi with hi
    subst hi
    refine ⟨fun {ι h w as xs cs cap kr kp} M G ha hc hk => ?_, fun {h as p kr kp} hk => ?_, fun {h cap rv kr kp} hrv hk => ?_⟩
    · unfold bringK at hk
      obtain ⟨e0, hk1⟩ := nilK_good hk
      subst e0
      cases hc with | nil =>
      obtain ⟨n0, en, hk2⟩ := asNum_good hk1
      obtain ⟨h2, hk3⟩ := wK_good hk2
      have h2 := beq_true h2
      injection en with en
      have hlen : as.length = 2 := by omega
      obtain ⟨a, b, rfl⟩ : ∃ a b, as = [a, b] := by
        match as, hlen with
        | [a, b], _ => exact ⟨a, b, rfl⟩
      cases ha with | cons h3 h4 =>
      cases h4 with | cons h5 h6 =>
      cases h6 with | nil =>
      have hk4 := U2_pack hk3
      obtain ⟨j, rfl, hk5⟩ := asAny_good hk4
      obtain ⟨m, rfl, hk6⟩ := asNum_good hk5
      obtain ⟨r, hr, hk7⟩ := findT_good hk6
      cases h3 with | any _ =>
      cases h5 with | num _ hm =>
      refine .enter _ _ (callFunc_enter hf hb hn _ w) (callsIn_wide.2 ((hw w j m r hr).mono fun e w' hq => ?_))
      obtain ⟨rfl, hb⟩ := hq
      exact ⟨ι, h, .num r, Post.below M hb, .num r (ht _ hr), hk7⟩
    · unfold bringK at hk
      cases hk
    · unfold bringK at hk
      obtain ⟨_, hk1⟩ := nilK_good hk
      obtain ⟨n0, en, _⟩ := asNum_good hk1
      exact hrv n0 en
theorem works_args (C : CallOk P rt call) {i : Nat} {fn : Func} {body : Code} (hf : P.funcs[i]? = some fn) (hb : fn.body = some body) (hn : fn.name ≠ "runtime.NumGoroutine") {g : G3} (hg : g.val = i) {os : List AO} {zs : List Nat} {as : List AV} {xs : List Value}
    (hk : newAllK os H00 (fun h => disp call g (packE as) .nil (.num as.length) h (fun v _ => isTrueK v) fun _ _ => .bad) = .good) (hl : os.length = 8) (hso : ∀ o ∈ os, SealedOrNo o) (hs : 8 ≤ w.heap.size) (ha : VRs (iota8 zs) as xs)
    (hw : ∀ g, g < 8 → os.getD g .no ≠ .no → ∃ X, w.heap[g]? = some X ∧ OR rt (iota8 zs) (zs.getD g 0) (os.getD g .no) X) :
    Calls P i xs.toArray w fun (e : Ending) (w' : World) => e = .returned (.bool true) ∧ Go.RowKit.Below w.heap.size w w' := by
  obtain ⟨h, hk, h1, h2⟩ := newAll_good hk
  have h0 : (H00).nx.val = 0 := rfl
  rw [h0, hl] at h1
  have h2 : ∀ q : P4, h.get q = if q.val < 8 then os.getD q.val .no else .no := fun q => by
    rw [h2, h0, hl]
    by_cases hq : q.val < 8
    · rw [if_pos (by omega), if_pos hq]; rfl
    · rw [if_neg (by omega), if_neg hq]; exact noB4_get
  have M : MR rt (iota8 zs) h w := init_MR hl hs (by omega) h2 hw
  refine (fn_ok C hf hb hn hg M glob8 ha hk).mono fun e w' hq => ?_
  cases e with
  | returned v =>
    obtain ⟨ι', h', a, p, hv, hk⟩ := hq
    obtain ⟨b, rfl, hk⟩ := asBool_good hk
    obtain ⟨hb, _⟩ := wK_good hk
    subst hb
    cases hv with | bool _ =>
    refine ⟨rfl, p.fr.os, p.fr.tape, p.fr.output, p.fr.size, fun b hb => ?_⟩
    have ho := Array.getElem?_eq_getElem hb
    rw [ho]
    refine p.fr.block b _ ho fun q z hq hlv => ?_
    have hql : q.val < 8 := by
      unfold iota8 at hq
      by_cases hp : q.val < 8
      · exact hp
      · rw [if_neg hp] at hq; cases hq
    rw [h2, if_pos hql] at hlv ⊢
    have hm : os.getD q.val .no ∈ os := by
      rw [List.getD_eq_getElem?_getD, List.getElem?_eq_getElem (by omega)]
      exact List.getElem_mem _
    exact (hso _ hm).resolve_right hlv
  | panicked chain => obtain ⟨_, _, _, _, _, _, _, hk⟩ := hq; cases hk
  | outgrown => exact hq.elim
noncomputable def runN (gl : List (Option (Nat × Nat × AV))) (call : C3) (g : G3) (as : List AV) : Ans :=
  globK gl fun os => newAllK os H00 fun h => disp call g (packE as) .nil (.num as.length) h (fun v _ => isTrueK v) fun _ _ => .bad
theorem runN_ok (C : CallOk P rt call) {i : Nat} {fn : Func} {body : Code} (hf : P.funcs[i]? = some fn) (hb : fn.body = some body) (hn : fn.name ≠ "runtime.NumGoroutine") {g : G3} (hg : g.val = i) {gl : List (Option (Nat × Nat × AV))} {as : List AV} {xs : List Value}
    (hk : runN gl call g as = .good) (hl : gl.length = 8) (hs : 8 ≤ w.heap.size) (ha : VRs (iota8 (zsOf gl)) as xs)
    (hw : ∀ (g et n : Nat) (vs : AV), gl[g]? = some (some (et, n, vs)) → ∃ (xs : List Value) (lo hi : Nat), VRL (iota8 (zsOf gl)) vs xs ∧ w.heap[g]? = some (Obj.cells xs.toArray et (lo, hi))) :
    Calls P i xs.toArray w fun (e : Ending) (w' : World) => e = .returned (.bool true) ∧ Go.RowKit.Below w.heap.size w w' := by
  obtain ⟨os, h1, h2, h3, h4⟩ := globK_good hk
  refine works_args C (zs := zsOf gl) hf hb hn hg h1 (h2.trans hl) h3 hs ha fun g' hg' hno => ?_
  obtain ⟨et, n, vs, h5, h6⟩ := h4 g' hno
  obtain ⟨xs, lo, hi, h7, h8⟩ := hw g' et n vs h5
  refine ⟨_, h8, ?_⟩
  have hz : (zsOf gl).getD g' 0 = n := by
    unfold zsOf
    rw [List.getD_eq_getElem?_getD, List.getElem?_map, h5]
    rfl
  rw [hz]
  exact known_OR h6 h7
end Go.Ev
